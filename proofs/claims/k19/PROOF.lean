import PyProof.Rows.All
import Wide.All
import OpenK.AllK
import Wide.FinOn
import HandS.ForMost
import HandS.ForExc
import HandS.Flow
import HandS.Wide
import HandS.TupAny
import HandS.TupMul
import HandS.Style
import HandS.IsInst
import KE.DataCmp
import KE.DataEq
import KE.SortData
import HandS.Star
import KE.DataMinMax
import HandS.Sort
import KE.GoesMore
import HandS.Zip
import HandS.NoneIn
import HandS.CallSlots
import HandS.Defaults
import HandS.Deep
import HandS.Strs
import HandS.Gcd
import HandS.Conv
import KE.KMathGC
import PyProof.ListRange
import HandS.TupSets
import HandS.Head0
import HandS.Head1
import HandS.Head2
import HandS.HeadEnd
import HandS.HeadHook1
import HandS.HeadHook2
import HandS.EndBits
import HandS.HeadHook3
import HandS.Head3
import PySem.Challenge.RW_loopplaces_k19_loops_beside_one_another
set_option Elab.async false
set_option linter.all false
set_option maxRecDepth 100000
set_option maxHeartbeats 4000000
namespace Pv
open PySem PySem.Spec PyProof.Rows L2

/-! ### data, outcomes -/
inductive D where
  | non | bl (b : Bool) | int (i : Int) | str (x : Str)
  | tup (xs : List D) | lst (xs : List D) | dic (ks vs : List D) | ref (k : Nat) | scr (xs : List Int) | pr (xs : List D)

inductive Sl where
  | no | sh (d : D) | ow (d : D)
inductive Cell where
  | lst (ds : List D)
  | ins (cls : Str) (fs : List (Str × D))
structure Sto where
  ρ : List Sl
  S : List Cell
structure Exn where
  cls : Str
  fs : List (Str × D)
inductive Out (α : Type) where
  | ok (a : α) (s : Sto)
  | err (x : Exn) (s : Sto)
  | stuck
def M (α : Type) : Type := Sto → Out α
abbrev R := D × Bool
def M.pure {α : Type} (a : α) : M α := fun s => .ok a s
def M.bind {α β : Type} (m : M α) (f : α → M β) : M β := fun s => match m s with
  | .ok a s' => f a s'
  | .err x s' => .err x s'
  | .stuck => .stuck
theorem M.bind_ok {α β : Type} {m : M α} {f : α → M β} {s s' : Sto} {a : α} (h : m s = .ok a s') : M.bind m f s = f a s' := by unfold M.bind; rw [h]
theorem M.bind_err {α β : Type} {m : M α} {f : α → M β} {s s' : Sto} {x : Exn} (h : m s = .err x s') : M.bind m f s = .err x s' := by unfold M.bind; rw [h]
theorem M.bind_stuck {α β : Type} {m : M α} {f : α → M β} {s : Sto} (h : m s = .stuck) : M.bind m f s = .stuck := by unfold M.bind; rw [h]
instance : Monad M where
  pure := M.pure
  bind := M.bind
def M.fail {α : Type} : M α := fun _ => .stuck
def M.lift {α : Type} (o : Option α) : M α := fun s => match o with
  | some a => .ok a s
  | none => .stuck
inductive Fl where
  | next | brk | cont | ret (r : R)

/-! ### how data stand in the abstract heap -/
/-- a dict's object with the entries es -/
def DictO (a : Addr) (es : List DictEntry) : HO := .ext fun h => ∃ o arr ep, h.get? a = some o ∧ o.ExactDict ∧ o.data = .dict arr ep ∧ arr.toList = es
structure Cn where
  w : World
  K : PySem.W.Frag
  /-- at the entry: the abstract heap, the cells, what the callers hold -/
  H0 : Hp
  cs0 : List Addr
  av0 : Addr → Prop
  /-- what is known of a dict's entries and its keys -/
  ko : List DictEntry → List D → Prop
  /-- how an exception lies -/
  xr : (List Addr) → (Addr → Prop) → Hp → Exn → Value → Option Addr → Prop

def NdT (K : PySem.W.Frag) (H : Hp) (Av : Addr → Prop) (a : Addr) (xs : List V) : Prop :=
  (¬ Av a ∧ ∃ o, H a = some (.frz o (.tup xs)) ∧ o.dict = none) ∨ ∃ (o : Obj) (its : Array Value) (n : Nat), K.lookup a = some o ∧ o.cls = .type "tuple" ∧ o.dict = none ∧ o.data = .seq its n ∧ its.size ≤ sizeLine ∧ Vals xs its.toList
def NdL (_K : PySem.W.Frag) (H : Hp) (Av : Addr → Prop) (a : Addr) (xs : List V) : Prop := ¬ Av a ∧ H a = some (.lst xs)
def NdS (K : PySem.W.Frag) (H : Hp) (Av : Addr → Prop) (a : Addr) (ns : List Int) : Prop :=
  (¬ Av a ∧ ∃ o, H a = some (.frz o (.lst (ns.map V.int)))) ∨ ∃ (o : Obj) (its : Array Value) (n : Nat), K.lookup a = some o ∧ o.cls = .type "list" ∧ o.dict = none ∧ o.data = .seq its n ∧ its.size ≤ sizeLine ∧ Vals (ns.map V.int) its.toList
theorem NdS.sq {K : PySem.W.Frag} {H : Hp} {Av : Addr → Prop} {a : Addr} {ns : List Int} (h : NdS K H Av a ns) : SqL K H a (ns.map V.int) := by
  rcases h with ⟨_, o, h⟩ | h
  · exact .inl (.inr ⟨o, h⟩)
  · exact .inr h
theorem NdT.sq {K : PySem.W.Frag} {H : Hp} {Av : Addr → Prop} {a : Addr} {xs : List V} (h : NdT K H Av a xs) : SqT K H a xs := by
  rcases h with ⟨_, o, h, _⟩ | ⟨o, its, n, h1, h2, _, h3, h4, h5⟩
  · exact .inl (.inr ⟨o, h⟩)
  · exact .inr ⟨o, its, n, h1, h2, h3, h4, h5⟩
theorem NdL.sq {K : PySem.W.Frag} {H : Hp} {Av : Addr → Prop} {a : Addr} {xs : List V} (h : NdL K H Av a xs) : SqL K H a xs := .of h.2

mutual
inductive Rep (c : Cn) (cs : List Addr) (Av : Addr → Prop) (H : Hp) : V → D → Prop
  | non : Rep c cs Av H .non .non
  | bl (b : Bool) : Rep c cs Av H (.bl b) (.bl b)
  | int (i : Int) : Rep c cs Av H (.int i) (.int i)
  | str (x : Str) : Rep c cs Av H (.str x) (.str x)
  | tup {a : Addr} {xs : List V} {ds : List D} : NdT c.K H Av a xs → Reps c cs Av H xs ds → Rep c cs Av H (.ref a) (.tup ds)
  | lst {a : Addr} {xs : List V} {ds : List D} : NdL c.K H Av a xs → Reps c cs Av H xs ds → Rep c cs Av H (.ref a) (.lst ds)
  | dic {a : Addr} {es : List DictEntry} {kv vv : List V} {ks vs : List D} : ¬ Av a → H a = some (DictO a es) → c.ko es ks → Vals kv (es.map (·.key)) → Vals vv (es.map (·.val)) →
      Reps c cs Av H kv ks → Reps c cs Av H vv vs → Rep c cs Av H (.ref a) (.dic ks vs)
  | ref {a : Addr} {k : Nat} : cs[k]? = some a → Rep c cs Av H (.ref a) (.ref k)
  | scr {a : Addr} {ns : List Int} : NdS c.K H Av a ns → Rep c cs Av H (.ref a) (.scr ns)
  /-- what enumerate, zip hand to the names: a pair that is only taken apart -/
  | pr {a : Addr} {xs : List V} {ds : List D} : ¬ Av a → H a = some (.tup xs) → Reps c cs Av H xs ds → Rep c cs Av H (.ref a) (.pr ds)
inductive Reps (c : Cn) (cs : List Addr) (Av : Addr → Prop) (H : Hp) : List V → List D → Prop
  | nil : Reps c cs Av H [] []
  | cons {v : V} {vs : List V} {d : D} {ds : List D} : Rep c cs Av H v d → Reps c cs Av H vs ds → Reps c cs Av H (v :: vs) (d :: ds)
end

/-- what may change and what may not -/
structure Gr (H H' : Hp) (cs cs' : List Addr) (Av Av' : Addr → Prop) : Prop where
  keep : ∀ a o, H a = some o → ¬ Av a → H' a = some o
  av : ∀ a, Av' a → Av a ∨ H a = none
  cs : cs <+: cs'
theorem Gr.refl (H : Hp) (cs : List Addr) (Av : Addr → Prop) : Gr H H cs cs Av Av := ⟨fun _ _ h _ => h, fun _ h => .inl h, List.prefix_refl _⟩
theorem Gr.trans {H H1 H2 : Hp} {cs cs1 cs2 : List Addr} {Av Av1 Av2 : Addr → Prop} (g : Gr H H1 cs cs1 Av Av1) (g' : Gr H1 H2 cs1 cs2 Av1 Av2) : Gr H H2 cs cs2 Av Av2 where
  keep := fun a o h n => by
    have h1 := g.keep a o h n
    refine g'.keep a o h1 fun h2 => ?_
    rcases g.av a h2 with h3 | h3
    · exact n h3
    · rw [h] at h3; cases h3
  av := fun a h => by
    rcases g'.av a h with h1 | h1
    · exact g.av a h1
    · by_cases q : Av a
      · exact .inl q
      · cases e : H a with
        | none => exact .inr rfl
        | some o =>
          have := g.keep a o e q
          rw [h1] at this; cases this
  cs := g.cs.trans g'.cs
section
variable {c : Cn} {H H' : Hp} {cs cs' : List Addr} {Av Av' : Addr → Prop}
theorem Gr.not (g : Gr H H' cs cs' Av Av') {a : Addr} {o : HO} (n : ¬ Av a) (h : H a = some o) : ¬ Av' a := fun q => by
  rcases g.av a q with z | z
  · exact n z
  · rw [h] at z; cases z
theorem Gr.rd (g : Gr H H' cs cs' Av Av') {a : Addr} {u : HO} (n : ¬ Av a) (h : Rd H a u) : ¬ Av' a ∧ Rd H' a u := by
  rcases h with h | ⟨o, h⟩
  · exact ⟨g.not n h, .inl (g.keep _ _ h n)⟩
  · exact ⟨g.not n h, .inr ⟨o, g.keep _ _ h n⟩⟩
theorem Gr.ndT (g : Gr H H' cs cs' Av Av') {K : PySem.W.Frag} {a : Addr} {xs : List V} (h : NdT K H Av a xs) : NdT K H' Av' a xs := by
  rcases h with ⟨n, o, h, hd⟩ | h
  · exact .inl ⟨g.not n h, o, g.keep _ _ h n, hd⟩
  · exact .inr h
theorem Gr.ndL (g : Gr H H' cs cs' Av Av') {K : PySem.W.Frag} {a : Addr} {xs : List V} (h : NdL K H Av a xs) : NdL K H' Av' a xs := by
  exact ⟨g.not h.1 h.2, g.keep _ _ h.2 h.1⟩
theorem Gr.ndS (g : Gr H H' cs cs' Av Av') {K : PySem.W.Frag} {a : Addr} {ns : List Int} (h : NdS K H Av a ns) : NdS K H' Av' a ns := by
  rcases h with ⟨n, o, h⟩ | h
  · exact .inl ⟨g.not n h, o, g.keep _ _ h n⟩
  · exact .inr h
mutual
theorem Gr.rep (g : Gr H H' cs cs' Av Av') : ∀ {v : V} {d : D}, Rep c cs Av H v d → Rep c cs' Av' H' v d
  | _, _, .non => .non
  | _, _, .bl b => .bl b
  | _, _, .int i => .int i
  | _, _, .str x => .str x
  | _, _, .tup n r => .tup (g.ndT n) (Gr.reps g r)
  | _, _, .lst n r => .lst (g.ndL n) (Gr.reps g r)
  | _, _, .dic n h k a b r s => .dic (g.not n h) (g.keep _ _ h n) k a b (Gr.reps g r) (Gr.reps g s)
  | _, _, .ref (k := k) (a := a) e => .ref (by
      obtain ⟨t, ht⟩ := g.cs
      rw [← ht]
      have hk : k < cs.length := (List.getElem?_eq_some_iff.mp e).1
      rw [List.getElem?_append_left hk]; exact e)
  | _, _, .scr n => .scr (g.ndS n)
  | _, _, .pr n h r => .pr (g.not n h) (g.keep _ _ h n) (Gr.reps g r)
theorem Gr.reps (g : Gr H H' cs cs' Av Av') : ∀ {vs : List V} {ds : List D}, Reps c cs Av H vs ds → Reps c cs' Av' H' vs ds
  | _, _, .nil => .nil
  | _, _, .cons r s => .cons (Gr.rep g r) (Gr.reps g s)
end
/-- a smaller set of what is not to be met -/
theorem Rep.less {v : V} {d : D} (h : Rep c cs Av H v d) (l : ∀ a, Av' a → Av a) : Rep c cs Av' H v d :=
  Gr.rep (⟨fun _ _ h _ => h, fun a h => .inl (l a h), List.prefix_refl _⟩ : Gr H H cs cs Av Av') h
theorem Reps.less {v : List V} {d : List D} (h : Reps c cs Av H v d) (l : ∀ a, Av' a → Av a) : Reps c cs Av' H v d :=
  Gr.reps (⟨fun _ _ h _ => h, fun a h => .inl (l a h), List.prefix_refl _⟩ : Gr H H cs cs Av Av') h
theorem Reps.length {vs : List V} : ∀ {ds : List D}, Reps c cs Av H vs ds → vs.length = ds.length := by
  induction vs with
  | nil => intro ds h; cases h; rfl
  | cons v vs ih => intro ds h; cases h with | cons r s => simp [ih s]
theorem Reps.get {vs : List V} : ∀ {ds : List D} {i : Nat} {d : D}, Reps c cs Av H vs ds → ds[i]? = some d → ∃ v, vs[i]? = some v ∧ Rep c cs Av H v d := by
  induction vs with
  | nil => intro ds i d h e; cases h; simp at e
  | cons v vs ih =>
    intro ds i d h e
    cases h with
    | cons r s =>
      cases i with
      | zero => simp at e; subst e; exact ⟨v, rfl, r⟩
      | succ i =>
        obtain ⟨v', h1, h2⟩ := ih (i := i) s (by simpa using e)
        exact ⟨v', by simpa using h1, h2⟩
theorem Reps.get' {vs : List V} : ∀ {ds : List D} {i : Nat} {v : V}, Reps c cs Av H vs ds → vs[i]? = some v → ∃ d, ds[i]? = some d ∧ Rep c cs Av H v d := by
  induction vs with
  | nil => intro ds i d h e; simp at e
  | cons v vs ih =>
    intro ds i d h e
    cases h with
    | cons r s =>
      cases i with
      | zero => simp at e; subst e; exact ⟨_, rfl, r⟩
      | succ i =>
        obtain ⟨v', h1, h2⟩ := ih (i := i) s (by simpa using e)
        exact ⟨v', by simpa using h1, h2⟩
theorem Reps.append {vs us : List V} : ∀ {ds es : List D}, Reps c cs Av H vs ds → Reps c cs Av H us es → Reps c cs Av H (vs ++ us) (ds ++ es) := by
  induction vs with
  | nil => intro ds es h k; cases h; exact k
  | cons v vs ih => intro ds es h k; cases h with | cons r s => exact .cons r (ih s k)
theorem Reps.drop {vs : List V} : ∀ {ds : List D} (n : Nat), Reps c cs Av H vs ds → Reps c cs Av H (vs.drop n) (ds.drop n) := by
  induction vs with
  | nil => intro ds n h; cases h; simpa using Reps.nil
  | cons v vs ih => intro ds n h; cases h with | cons r s => cases n with
    | zero => exact .cons r s
    | succ n => exact ih n s
theorem Reps.take {vs : List V} : ∀ {ds : List D} (n : Nat), Reps c cs Av H vs ds → Reps c cs Av H (vs.take n) (ds.take n) := by
  induction vs with
  | nil => intro ds n h; cases h; simpa using Reps.nil
  | cons v vs ih => intro ds n h; cases h with | cons r s => cases n with
    | zero => exact .nil
    | succ n => exact .cons r (ih n s)
theorem Reps.set {vs : List V} : ∀ {ds : List D} (n : Nat) {v : V} {d : D}, Reps c cs Av H vs ds → Rep c cs Av H v d → Reps c cs Av H (vs.set n v) (ds.set n d) := by
  induction vs with
  | nil => intro ds n v d h _; cases h; exact .nil
  | cons v vs ih => intro ds n v d h k; cases h with | cons r s => cases n with
    | zero => exact .cons k s
    | succ n => exact .cons r (ih n s k)
theorem Reps.reverse {vs : List V} : ∀ {ds : List D}, Reps c cs Av H vs ds → Reps c cs Av H vs.reverse ds.reverse := by
  induction vs with
  | nil => intro ds h; cases h; exact .nil
  | cons v vs ih => intro ds h; cases h with | cons r s => rw [List.reverse_cons, List.reverse_cons]; exact (ih s).append (.cons r .nil)
theorem Reps.erase {vs : List V} : ∀ {ds : List D} (n : Nat), Reps c cs Av H vs ds → Reps c cs Av H (vs.eraseIdx n) (ds.eraseIdx n) := by
  induction vs with
  | nil => intro ds n h; cases h; exact .nil
  | cons v vs ih => intro ds n h; cases h with | cons r s => cases n with
    | zero => exact s
    | succ n => exact .cons r (ih n s)
end
end Pv
namespace Pv
open PySem PySem.Spec PyProof.Rows L2

/-! ### the state -/
abbrev Sv := L2.St
structure Wt where
  cs : List Addr
  ow : List (Option Addr)
  tm : List Addr
def Wt.av (c : Cn) (w : Wt) (a : Addr) : Prop := c.av0 a ∨ a ∈ w.cs ∨ some a ∈ w.ow ∨ a ∈ w.tm
abbrev RepW (c : Cn) (w : Wt) (H : Hp) : V → D → Prop := Rep c w.cs (w.av c) H
abbrev RepsW (c : Cn) (w : Wt) (H : Hp) : List V → List D → Prop := Reps c w.cs (w.av c) H
inductive Top (c : Cn) (cs : List Addr) (Av : Addr → Prop) (H : Hp) : Addr → D → Prop
  | lst {a : Addr} {xs : List V} {ds : List D} : H a = some (.lst xs) → Reps c cs Av H xs ds → Top c cs Av H a (.lst ds)
  | dic {a : Addr} {es : List DictEntry} {kv vv : List V} {ks vs : List D} : H a = some (DictO a es) → c.ko es ks → Vals kv (es.map (·.key)) → Vals vv (es.map (·.val)) →
      Reps c cs Av H kv ks → Reps c cs Av H vv vs → Top c cs Av H a (.dic ks vs)
def CellR (c : Cn) (cs : List Addr) (Av : Addr → Prop) (H : Hp) (a : Addr) : Cell → Prop
  | .lst ds => ∃ xs, H a = some (.lst xs) ∧ Reps c cs Av H xs ds
  | .ins _ _ => False
def SlR (c : Cn) (w : Wt) (H : Hp) (o : Option Addr) (v : Option V) : Sl → Prop
  | .no => o = none
  | .sh d => o = none ∧ ∃ x, v = some x ∧ RepW c w H x d
  | .ow d => ∃ a, o = some a ∧ v = some (.ref a) ∧ Top c w.cs (w.av c) H a d
structure Rel (c : Cn) (w : Wt) (st : Sto) (σ : Sv) (H : Hp) : Prop where
  a0 : ∀ a, c.av0 a → c.H0 a ≠ none
  fr : ∀ a o, c.H0 a = some o → a ∉ c.cs0 → H a = some o
  pre : c.cs0 <+: w.cs
  nd : (w.cs ++ (w.ow.filterMap id ++ w.tm)).Nodup
  nw : ∀ a, (some a ∈ w.ow ∨ a ∈ w.tm ∨ (a ∈ w.cs ∧ a ∉ c.cs0)) → c.H0 a = none
  ex : ∀ a, w.av c a → H a ≠ none
  len : w.cs.length = st.S.length
  cells : ∀ (k : Nat) (cell : Cell) (a : Addr), st.S[k]? = some cell → w.cs[k]? = some a → CellR c w.cs (w.av c) H a cell
  lo : w.ow.length = st.ρ.length
  ls : σ.length = st.ρ.length
  sl : ∀ (i : Nat) (s : Sl) (o : Option Addr) (v : Option V), st.ρ[i]? = some s → w.ow[i]? = some o → σ[i]? = some v → SlR c w H o v s
structure Ext (c : Cn) (w : Wt) (H : Hp) (w' : Wt) (H' : Hp) : Prop where
  gr : Gr H H' w.cs w'.cs (w.av c) (w'.av c)
  tm : ∀ a ∈ w.tm, H' a = H a
theorem Ext.refl (c : Cn) (w : Wt) (H : Hp) : Ext c w H w H := ⟨Gr.refl _ _ _, fun _ _ => rfl⟩
theorem Ext.trans {c : Cn} {w w1 w2 : Wt} {H H1 H2 : Hp} (a : Ext c w H w1 H1) (b : Ext c w1 H1 w2 H2) (s : ∀ x ∈ w.tm, x ∈ w1.tm) : Ext c w H w2 H2 :=
  ⟨a.gr.trans b.gr, fun x hx => (b.tm x (s x hx)).trans (a.tm x hx)⟩
theorem Ext.rep {c : Cn} {w w' : Wt} {H H' : Hp} (e : Ext c w H w' H') {v : V} {d : D} (r : RepW c w H v d) : RepW c w' H' v d := e.gr.rep r
theorem Ext.reps {c : Cn} {w w' : Wt} {H H' : Hp} (e : Ext c w H w' H') {v : List V} {d : List D} (r : RepsW c w H v d) : RepsW c w' H' v d := e.gr.reps r

/-! ### what is reached -/
abbrev RT (β α : Type) := List Addr → Wt → Hp → β → α → Prop
/-- a value that is not held -/
def rD (c : Cn) : RT V D := fun tm w H v d => w.tm = tm ∧ RepW c w H v d
def rL (c : Cn) : RT (List V) (List D) := fun tm w H v d => w.tm = tm ∧ RepsW c w H v d
def rB : RT Bool Bool := fun tm w _ v b => w.tm = tm ∧ v = b
/-- a value, a new object or not -/
def rR (c : Cn) : RT V R := fun tm w H v r => match r.2 with
  | false => w.tm = tm ∧ RepW c w H v r.1
  | true => ∃ a, v = .ref a ∧ w.tm = a :: tm ∧ Top c w.cs (w.av c) H a r.1
def Pst {α β : Type} (c : Cn) (W : WX) (rr : RT β α) (m : M α) (w : Wt) (st : Sto) (σ : Sv) (H : Hp) (Q : β → Hp → Prop) : Prop :=
  match m st with
  | .ok a st' => ∀ v H' w', Rel c w' st' σ H' → Ext c w H w' H' → rr w.tm w' H' v a → Q v H'
  | .err x st' => ∀ cls d H' w', Rel c w' st' σ H' → Ext c w H w' H' → w'.tm = w.tm → c.xr w'.cs (w'.av c) H' x cls d → W cls d σ H'
  | .stuck => False
/-- the reading of m -/
def tM {α β : Type} (c : Cn) (W : WX) (rr : RT β α) (m : M α) : Sv → Hp → (β → Hp → Prop) → Prop := fun σ H Q => ∃ w st, Rel c w st σ H ∧ Pst c W rr m w st σ H Q
section
variable {α β γ δ : Type} {c : Cn} {W : WX} {w : Wt} {st : Sto} {σ : Sv} {H : Hp}
theorem Pst.ok {rr : RT β α} {m : M α} {Q : β → Hp → Prop} {a : α} {st' : Sto} (e : m st = .ok a st') (h : Pst c W rr m w st σ H Q) :
    ∀ v H' w', Rel c w' st' σ H' → Ext c w H w' H' → rr w.tm w' H' v a → Q v H' := by
  unfold Pst at h; rw [e] at h; exact h
theorem Pst.mono {rr : RT β α} {m : M α} {Q Q' : β → Hp → Prop} (h : Pst c W rr m w st σ H Q) (k : ∀ v H', Q v H' → Q' v H') : Pst c W rr m w st σ H Q' := by
  unfold Pst at h ⊢
  cases e : m st with
  | ok a st' => rw [e] at h; exact fun v H' w' r x q => k _ _ (h v H' w' r x q)
  | err x st' => rw [e] at h; exact h
  | stuck => rw [e] at h; exact h
/-- one thing behind another -/
theorem Pst.bind {rr : RT β α} {rr' : RT δ γ} {m : M α} {f : α → M γ} {Q : δ → Hp → Prop} (h : Pst c W rr' (m >>= f) w st σ H Q) (tk : ∀ tm w H v a, rr tm w H v a → w.tm = tm) :
    Pst c W rr m w st σ H fun v H1 => ∃ a w1 st1, Rel c w1 st1 σ H1 ∧ rr w.tm w1 H1 v a ∧ Ext c w H w1 H1 ∧ w1.tm = w.tm ∧ Pst c W rr' (f a) w1 st1 σ H1 Q := by
  unfold Pst at h ⊢
  have e0 : (m >>= f) st = (match m st with | .ok a s' => f a s' | .err x s' => .err x s' | .stuck => .stuck) := rfl
  rw [e0] at h
  cases e : m st with
  | stuck => rw [e] at h; exact h
  | err x st' => rw [e] at h; exact h
  | ok a st1 =>
    rw [e] at h
    intro v H1 w1 r1 x1 q1
    have t1 := tk _ _ _ _ _ q1
    refine ⟨a, w1, st1, r1, q1, x1, t1, ?_⟩
    have h' : (match f a st1 with
      | .ok a st' => ∀ v H' w', Rel c w' st' σ H' → Ext c w H w' H' → rr' w.tm w' H' v a → Q v H'
      | .err x st' => ∀ cls d H' w', Rel c w' st' σ H' → Ext c w H w' H' → w'.tm = w.tm → c.xr w'.cs (w'.av c) H' x cls d → W cls d σ H'
      | .stuck => False) := h
    have sub : ∀ y ∈ w.tm, y ∈ w1.tm := fun y hy => by rw [t1]; exact hy
    cases e1 : f a st1 with
    | stuck => rw [e1] at h'; exact h'
    | err x st' =>
      rw [e1] at h'
      exact fun cls d H' w' r' x' t' q => h' cls d H' w' r' (x1.trans x' sub) (t'.trans t1) q
    | ok a2 st2 =>
      rw [e1] at h'
      exact fun v H' w' r' x' q => h' v H' w' r' (x1.trans x' sub) (t1 ▸ q)
/-- the end of a way -/
theorem Pst.pure {rr : RT β α} {a : α} {Q : β → Hp → Prop} {v : β} (h : Pst c W rr (M.pure a) w st σ H Q) (r : Rel c w st σ H) (q : rr w.tm w H v a) : Q v H := h v H w r (Ext.refl _ _ _) q
theorem Pst.lift {rr : RT β α} {o : Option α} {Q : β → Hp → Prop} (h : Pst c W rr (M.lift o) w st σ H Q) : ∃ a, o = some a ∧ ∀ v H' w', Rel c w' st σ H' → Ext c w H w' H' → rr w.tm w' H' v a → Q v H' := by
  unfold Pst M.lift at h
  cases o with
  | none => exact h.elim
  | some a => exact ⟨a, rfl, h⟩
end

/-! ### the judgements -/
theorem PE.less {X : Cx} {e : Expr} {t u : TE} (h : PE X e t) (k : ∀ σ H Q, u σ H Q → t σ H Q) : PE X e u := ⟨fun pins s σ H Q I hu => h.run pins s σ H Q I (k _ _ _ hu)⟩
theorem PT.less {X : Cx} {e : Expr} {t u : TT} (h : PT X e t) (k : ∀ σ H Q, u σ H Q → t σ H Q) : PT X e u := ⟨fun pins s σ H Q I hu => h.run pins s σ H Q I (k _ _ _ hu)⟩
theorem PA.less {X : Cx} {e : List Expr} {t u : TA} (h : PA X e t) (k : ∀ σ H Q, u σ H Q → t σ H Q) : PA X e u := ⟨fun pos pins s σ H Q I hu => h.run pos pins s σ H Q I (k _ _ _ hu)⟩
abbrev DE (X : Cx) (c : Cn) (W : WX) (e : Expr) (m : M R) : Prop := PE X e (tM c W (rR c) m)
abbrev DV (X : Cx) (c : Cn) (W : WX) (e : Expr) (m : M D) : Prop := PE X e (tM c W (rD c) m)
abbrev DA (X : Cx) (c : Cn) (W : WX) (e : List Expr) (m : M (List D)) : Prop := PA X e (tM c W (rL c) m)
abbrev DT (X : Cx) (c : Cn) (W : WX) (e : Expr) (m : M Bool) : Prop := PT X e (tM c W rB m)
def M.val (m : M R) : M D := fun s => match m s with
  | .ok a s' => .ok a.1 s'
  | .err x s' => .err x s'
  | .stuck => .stuck
def M.plain (m : M D) : M R := fun s => match m s with
  | .ok a s' => .ok (a, false) s'
  | .err x s' => .err x s'
  | .stuck => .stuck
section
variable {X : Cx} {c : Cn} {W : WX} {w : Wt} {st : Sto} {σ : Sv} {H : Hp}
/-- a new object is let go: it is as all others -/
theorem Rel.let_go {a : Addr} {tm : List Addr} (r : Rel c w st σ H) (e : w.tm = a :: tm) : Rel c { w with tm := tm } st σ H ∧ (∀ b, ({ w with tm := tm } : Wt).av c b → w.av c b) ∧ ¬ ({ w with tm := tm } : Wt).av c a := by
  have l : ∀ b, ({ w with tm := tm } : Wt).av c b → w.av c b := fun b h => by
    rcases h with h | h | h | h
    · exact .inl h
    · exact .inr (.inl h)
    · exact .inr (.inr (.inl h))
    · exact .inr (.inr (.inr (by rw [e]; exact List.mem_cons_of_mem _ h)))
  have nd := r.nd
  rw [e] at nd
  obtain ⟨nd1, nd2, nd3⟩ := List.nodup_append.mp nd
  obtain ⟨nd4, nd5, nd6⟩ := List.nodup_append.mp nd2
  obtain ⟨nd7, nd8⟩ := List.nodup_cons.mp nd5
  refine ⟨⟨r.a0, r.fr, r.pre, ?_, fun b h => r.nw b ?_, fun b h => r.ex b (l b h), r.len, fun k cell b h1 h2 => ?_, r.lo, r.ls, fun i s o v h1 h2 h3 => ?_⟩, l, ?_⟩
  · exact List.nodup_append.mpr ⟨nd1, List.nodup_append.mpr ⟨nd4, nd8, fun x hx y hy => nd6 x hx y (List.mem_cons_of_mem _ hy)⟩, fun x hx y hy => nd3 x hx y (by
      rcases List.mem_append.mp hy with z | z
      · exact List.mem_append_left _ z
      · exact List.mem_append_right _ (List.mem_cons_of_mem _ z))⟩
  · rcases h with h | h | h
    · exact .inl h
    · exact .inr (.inl (by rw [e]; exact List.mem_cons_of_mem _ h))
    · exact .inr (.inr h)
  · have h := r.cells k cell b h1 h2
    cases cell with
    | lst ds => obtain ⟨xs, e1, e2⟩ := h; exact ⟨xs, e1, e2.less l⟩
    | ins _ _ => exact h
  · have h := r.sl i s o v h1 h2 h3
    cases s with
    | no => exact h
    | sh d => obtain ⟨e1, x, e2, e3⟩ := h; exact ⟨e1, x, e2, e3.less l⟩
    | ow d =>
      obtain ⟨b, e1, e2, e3⟩ := h
      refine ⟨b, e1, e2, ?_⟩
      cases e3 with
      | lst h r => exact .lst h (r.less l)
      | dic h k x y r s => exact .dic h k x y (r.less l) (s.less l)
  · intro h
    rcases h with h | h | h | h
    · exact r.a0 a h (r.nw a (.inr (.inl (by rw [e]; exact List.mem_cons_self))))
    · exact nd3 a h a (List.mem_append_right _ List.mem_cons_self) rfl
    · exact nd6 a (List.mem_filterMap.mpr ⟨some a, h, rfl⟩) a List.mem_cons_self rfl
    · exact nd7 h
theorem DE.val {e : Expr} {m : M R} (h : DE X c W e m) : DV X c W e m.val := by
  refine PE.less h fun σ H Q hq => ?_
  obtain ⟨w, st, r, p⟩ := hq
  refine ⟨w, st, r, ?_⟩
  unfold Pst at p ⊢
  have e0 : M.val m st = (match m st with | .ok a s' => .ok a.1 s' | .err x s' => .err x s' | .stuck => .stuck) := rfl
  rw [e0] at p
  cases e : m st with
  | stuck => rw [e] at p; exact p
  | err x st' => rw [e] at p; exact p
  | ok a st' =>
    rw [e] at p
    obtain ⟨d, k⟩ := a
    intro v H' w' r' x' q
    cases k with
    | false => exact p v H' w' r' x' q
    | true =>
      obtain ⟨a, rfl, t, top⟩ := q
      obtain ⟨r2, l, na⟩ := r'.let_go t
      refine p _ H' { w' with tm := w.tm } r2 ⟨⟨x'.gr.keep, fun b h => x'.gr.av b (l b h), x'.gr.cs⟩, x'.tm⟩ ⟨rfl, ?_⟩
      cases top with
      | lst h r => exact .lst ⟨na, h⟩ (r.less l)
      | dic h k x y r s => exact .dic na h k x y (r.less l) (s.less l)
theorem DV.plain {e : Expr} {m : M D} (h : DV X c W e m) : DE X c W e m.plain := by
  refine PE.less h fun σ H Q hq => ?_
  obtain ⟨w, st, r, p⟩ := hq
  refine ⟨w, st, r, ?_⟩
  unfold Pst at p ⊢
  have e0 : M.plain m st = (match m st with | .ok a s' => .ok (a, false) s' | .err x s' => .err x s' | .stuck => .stuck) := rfl
  rw [e0] at p
  cases e : m st with
  | stuck => rw [e] at p; exact p
  | err x st' => rw [e] at p; exact p
  | ok a st' => rw [e] at p; exact p
theorem rD.tk : ∀ tm w H v a, rD c tm w H v a → w.tm = tm := fun _ _ _ _ _ h => h.1
theorem rL.tk : ∀ tm w H v a, rL c tm w H v a → w.tm = tm := fun _ _ _ _ _ h => h.1
theorem rB.tk : ∀ tm w H v a, rB tm w H v a → w.tm = tm := fun _ _ _ _ _ h => h.1
/-! ### constants, names -/
def cV : D → Option V
  | .non => some .non
  | .bl b => some (.bl b)
  | .int i => some (.int i)
  | .str x => some (.str x)
  | _ => none
theorem de_const {e : Expr} {v : V} {d : D} (h : PE X e (tC v)) (k : ∀ cs Av H, Rep c cs Av H v d) : DE X c W e (M.pure (d, false)) :=
  PE.less h fun σ H Q ⟨w, st, r, p⟩ => p v H w r (Ext.refl _ _ _) ⟨rfl, k _ _ _⟩
theorem de_int {i : Int} {j pos} : DE X c W (.Constant (.int i) j pos) (M.pure (.int i, false)) := de_const pe_int fun _ _ _ => .int i
theorem de_bl {i : Bool} {j pos} : DE X c W (.Constant (.bool i) j pos) (M.pure (.bl i, false)) := de_const pe_bl fun _ _ _ => .bl i
theorem de_str {i : Str} {j pos} : DE X c W (.Constant (.str i) j pos) (M.pure (.str i, false)) := de_const pe_str fun _ _ _ => .str i
theorem de_non {j pos} : DE X c W (.Constant .none j pos) (M.pure (.non, false)) := de_const pe_non fun _ _ _ => .non

/-! ### the state changes, what stands does not -/
theorem SlR.less {w w' : Wt} {o : Option Addr} {v : Option V} {s : Sl} (h : SlR c w H o v s) (e : w'.cs = w.cs) (l : ∀ b, w'.av c b → w.av c b) : SlR c w' H o v s := by
  cases s with
  | no => exact h
  | sh d =>
    obtain ⟨e1, x, e2, e3⟩ := h
    refine ⟨e1, x, e2, ?_⟩
    show Rep c w'.cs _ H x d
    rw [e]; exact e3.less l
  | ow d =>
    obtain ⟨b, e1, e2, e3⟩ := h
    refine ⟨b, e1, e2, ?_⟩
    rw [e]
    cases e3 with
    | lst h r => exact .lst h (r.less l)
    | dic h k x y r s => exact .dic h k x y (r.less l) (s.less l)
theorem CellR.less {cs : List Addr} {Av Av' : Addr → Prop} {a : Addr} {cell : Cell} (h : CellR c cs Av H a cell) (l : ∀ b, Av' b → Av b) : CellR c cs Av' H a cell := by
  cases cell with
  | lst ds => obtain ⟨xs, e1, e2⟩ := h; exact ⟨xs, e1, e2.less l⟩
  | ins _ _ => exact h
theorem Rel.to {w' : Wt} {st' : Sto} (r : Rel c w st σ H) (hcs : w'.cs = w.cs) (hS : st'.S = st.S) (l : ∀ b, w'.av c b → w.av c b)
    (nd : (w'.cs ++ (w'.ow.filterMap id ++ w'.tm)).Nodup) (lo : w'.ow.length = st'.ρ.length) (ls : σ.length = st'.ρ.length)
    (nw : ∀ a, (some a ∈ w'.ow ∨ a ∈ w'.tm) → (some a ∈ w.ow ∨ a ∈ w.tm))
    (sl : ∀ (i : Nat) (s : Sl) (o : Option Addr) (v : Option V), st'.ρ[i]? = some s → w'.ow[i]? = some o → σ[i]? = some v → SlR c w' H o v s) : Rel c w' st' σ H := by
  refine ⟨r.a0, r.fr, hcs ▸ r.pre, nd, fun b h => ?_, fun b h => r.ex b (l b h), by rw [hcs, hS]; exact r.len, fun k cell b h1 h2 => ?_, lo, ls, sl⟩
  · rcases h with h | h | h
    · rcases nw b (.inl h) with z | z
      · exact r.nw b (.inl z)
      · exact r.nw b (.inr (.inl z))
    · rcases nw b (.inr h) with z | z
      · exact r.nw b (.inl z)
      · exact r.nw b (.inr (.inl z))
    · exact r.nw b (.inr (.inr (hcs ▸ h)))
  · rw [hS] at h1; rw [hcs] at h2
    rw [hcs]
    exact (r.cells k cell b h1 h2).less l
theorem mem_owned {a : Addr} {l : List (Option Addr)} : a ∈ l.filterMap id ↔ some a ∈ l := by
  simp [List.mem_filterMap]
/-- taking one held object out -/
theorem nodup_out {l : List (Option Addr)} {a : Addr} : ∀ {i : Nat}, (l.filterMap id).Nodup → l[i]? = some (some a) → ((l.set i none).filterMap id).Nodup ∧ (∀ b, some b ∈ l.set i none → some b ∈ l ∧ b ≠ a) := by
  induction l with
  | nil => intro i _ e; simp at e
  | cons o l ih =>
    intro i nd e
    cases i with
    | zero =>
      simp at e; subst e
      simp only [List.filterMap_cons, id] at nd
      obtain ⟨n1, n2⟩ := List.nodup_cons.mp nd
      refine ⟨by simpa using n2, fun b hb => ?_⟩
      have hb' : some b ∈ l := by simpa using hb
      exact ⟨List.mem_cons_of_mem _ hb', fun z => n1 (by rw [← z]; exact mem_owned.mpr hb')⟩
    | succ i =>
      have e' : l[i]? = some (some a) := by simpa using e
      have nd' : (l.filterMap id).Nodup := by
        cases o with
        | none => simpa using nd
        | some x => simp only [List.filterMap_cons, id] at nd; exact (List.nodup_cons.mp nd).2
      obtain ⟨h1, h2⟩ := ih nd' e'
      refine ⟨?_, fun b hb => ?_⟩
      · cases o with
        | none => simpa using h1
        | some x =>
          simp only [List.filterMap_cons, id] at nd
          obtain ⟨n1, n2⟩ := List.nodup_cons.mp nd
          simp only [List.set_cons_succ, List.filterMap_cons, id]
          refine List.nodup_cons.mpr ⟨fun q => n1 (mem_owned.mpr (h2 x (mem_owned.mp q)).1), h1⟩
      · simp only [List.set_cons_succ, List.mem_cons] at hb
        rcases hb with hb | hb
        · subst hb
          refine ⟨List.mem_cons_self, fun z => ?_⟩
          subst z
          simp only [List.filterMap_cons, id] at nd
          exact (List.nodup_cons.mp nd).1 (mem_owned.mpr (List.mem_of_getElem? e'))
        · exact ⟨List.mem_cons_of_mem _ (h2 b hb).1, (h2 b hb).2⟩
/-- a name: what is held there is held no more -/
def varM (i : Nat) : M R := fun st => match st.ρ[i]? with
  | some (.sh d) => .ok (d, false) st
  | some (.ow d) => .ok (d, false) { st with ρ := st.ρ.set i (.sh d) }
  | _ => .stuck
/-- a name for the last time -/
def movM (i : Nat) : M R := fun st => match st.ρ[i]? with
  | some (.sh d) => .ok (d, false) st
  | some (.ow d) => .ok (d, true) { st with ρ := st.ρ.set i .no }
  | _ => .stuck
theorem Rel.out {i : Nat} {d : D} {a : Addr} {s' : Sl} {tm' : List Addr} (r : Rel c w st σ H) (e : st.ρ[i]? = some (.ow d)) (ea : w.ow[i]? = some (some a))
    (ht : tm' = w.tm ∨ tm' = a :: w.tm)
    (hs : ∀ w' : Wt, w'.cs = w.cs → w'.ow = w.ow.set i none → w'.tm = tm' → (∀ b, w'.av c b → w.av c b) → SlR c w' H none (some (.ref a)) s') :
    Rel c { w with ow := w.ow.set i none, tm := tm' } { st with ρ := st.ρ.set i s' } σ H ∧ ∀ b, ({ w with ow := w.ow.set i none, tm := tm' } : Wt).av c b → w.av c b := by
  obtain ⟨nd1, nd2, nd3⟩ := List.nodup_append.mp r.nd
  obtain ⟨nd4, nd5, nd6⟩ := List.nodup_append.mp nd2
  obtain ⟨o1, o2⟩ := nodup_out nd4 ea
  have hao : some a ∈ w.ow := List.mem_of_getElem? ea
  have l : ∀ b, ({ w with ow := w.ow.set i none, tm := tm' } : Wt).av c b → w.av c b := fun b h => by
    rcases h with h | h | h | h
    · exact .inl h
    · exact .inr (.inl h)
    · exact .inr (.inr (.inl (o2 b h).1))
    · rcases ht with z | z
      · exact .inr (.inr (.inr (by rw [← z]; exact h)))
      · have h' : b ∈ a :: w.tm := by rw [← z]; exact h
        rcases List.mem_cons.mp h' with q | q
        · subst q; exact .inr (.inr (.inl hao))
        · exact .inr (.inr (.inr q))
  have nt : ((w.ow.set i none).filterMap id ++ tm').Nodup := by
    rcases ht with z | z
    · rw [z]
      exact List.nodup_append.mpr ⟨o1, nd5, fun x hx y hy => nd6 x (mem_owned.mpr (o2 x (mem_owned.mp hx)).1) y hy⟩
    · rw [z]
      refine List.nodup_append.mpr ⟨o1, List.nodup_cons.mpr ⟨fun q => nd6 a (mem_owned.mpr hao) a q rfl, nd5⟩, fun x hx y hy => ?_⟩
      rcases List.mem_cons.mp hy with q | q
      · subst q; exact (o2 x (mem_owned.mp hx)).2
      · exact nd6 x (mem_owned.mpr (o2 x (mem_owned.mp hx)).1) y q
  refine ⟨r.to rfl rfl l ?_ (by simpa using r.lo) (by simpa using r.ls) (fun b h => ?_) fun j s o v h1 h2 h3 => ?_, l⟩
  · refine List.nodup_append.mpr ⟨nd1, nt, fun x hx y hy => ?_⟩
    rcases List.mem_append.mp hy with q | q
    · exact nd3 x hx y (List.mem_append_left _ (mem_owned.mpr (o2 y (mem_owned.mp q)).1))
    · rcases ht with z | z
      · exact nd3 x hx y (List.mem_append_right _ (by rw [← z]; exact q))
      · have h' : y ∈ a :: w.tm := by rw [← z]; exact q
        rcases List.mem_cons.mp h' with q | q
        · subst q; exact nd3 x hx y (List.mem_append_left _ (mem_owned.mpr hao))
        · exact nd3 x hx y (List.mem_append_right _ q)
  · rcases h with h | h
    · exact .inl (o2 b h).1
    · rcases ht with z | z
      · exact .inr (by rw [← z]; exact h)
      · have h' : b ∈ a :: w.tm := by rw [← z]; exact h
        rcases List.mem_cons.mp h' with q | q
        · subst q; exact .inl hao
        · exact .inr q
  · by_cases hj : j = i
    · subst hj
      have hi : j < st.ρ.length := (List.getElem?_eq_some_iff.mp e).1
      have hi2 : j < w.ow.length := (List.getElem?_eq_some_iff.mp ea).1
      have h1' : some s' = some s := by rw [← h1, List.getElem?_set_self hi]
      have h2' : some none = some o := by rw [← h2, List.getElem?_set_self hi2]
      cases h1'; cases h2'
      have q := r.sl j _ _ _ e ea h3
      obtain ⟨b, q1, q2, q3⟩ := q
      cases q1
      rw [q2]
      exact hs _ rfl rfl rfl l
    · have h1' : st.ρ[j]? = some s := by rw [← h1]; exact (List.getElem?_set_ne (Ne.symm hj)).symm
      have h2' : w.ow[j]? = some o := by rw [← h2]; exact (List.getElem?_set_ne (Ne.symm hj)).symm
      exact (r.sl j s o v h1' h2' h3).less rfl l
theorem Rel.at (r : Rel c w st σ H) {i : Nat} {s : Sl} (e : st.ρ[i]? = some s) : ∃ o v, w.ow[i]? = some o ∧ σ[i]? = some v ∧ SlR c w H o v s := by
  have hi : i < st.ρ.length := (List.getElem?_eq_some_iff.mp e).1
  have h1 : i < w.ow.length := by rw [r.lo]; exact hi
  have h2 : i < σ.length := by rw [r.ls]; exact hi
  exact ⟨w.ow[i], σ[i], List.getElem?_eq_getElem h1, List.getElem?_eq_getElem h2, r.sl i s _ _ e (List.getElem?_eq_getElem h1) (List.getElem?_eq_getElem h2)⟩
theorem Ext.of_less {w' : Wt} (e : w'.cs = w.cs) (l : ∀ b, w'.av c b → w.av c b) : Ext c w H w' H :=
  ⟨⟨fun _ _ h _ => h, fun a h => .inl (l a h), by rw [e]; exact List.prefix_refl _⟩, fun _ _ => rfl⟩
theorem de_var {i : Nat} {x : Str} {pos : Pos} (hN : X.N[i]? = some x) (hv : Vis X.env.scope x) (hd : (x == ("__debug__" : Str)) = false) (hcd : (x == ("__classdict__" : Str)) = false) : DE X c W (.Name x pos) (varM i) := by
  refine PE.less (pe_var hN hv hd hcd) fun σ H Q ⟨w, st, r, p⟩ => ?_
  unfold Pst varM at p
  cases e : st.ρ[i]? with
  | none => rw [e] at p; exact p.elim
  | some s =>
    rw [e] at p
    obtain ⟨o, v, h1, h2, h3⟩ := r.at e
    cases s with
    | no => exact p.elim
    | sh d =>
      obtain ⟨_, x, h4, h5⟩ := h3
      exact ⟨x, by rw [h2, h4], p x H w r (Ext.refl _ _ _) ⟨rfl, h5⟩⟩
    | ow d =>
      obtain ⟨a, h4, h5, h6⟩ := h3
      subst h4 h5
      obtain ⟨nd1, nd2, nd3⟩ := List.nodup_append.mp r.nd
      obtain ⟨nd4, nd5, nd6⟩ := List.nodup_append.mp nd2
      obtain ⟨o1, o2⟩ := nodup_out nd4 h1
      have hao : some a ∈ w.ow := List.mem_of_getElem? h1
      have rep : ∀ w' : Wt, w'.cs = w.cs → w'.ow = w.ow.set i none → w'.tm = w.tm → (∀ b, w'.av c b → w.av c b) → RepW c w' H (.ref a) d := fun w' e1 e2 e3 l => by
        have na : ¬ w'.av c a := fun h => by
          rcases h with h | h | h | h
          · exact r.a0 a h (r.nw a (.inl hao))
          · rw [e1] at h; exact nd3 a h a (List.mem_append_left _ (mem_owned.mpr hao)) rfl
          · rw [e2] at h; exact (o2 a h).2 rfl
          · rw [e3] at h; exact nd6 a (mem_owned.mpr hao) a h rfl
        show Rep c w'.cs _ H _ d
        rw [e1]
        cases h6 with
        | lst h r => exact .lst ⟨na, h⟩ (r.less l)
        | dic h k x y r s => exact .dic na h k x y (r.less l) (s.less l)
      obtain ⟨r2, l⟩ := r.out (s' := .sh d) (tm' := w.tm) e h1 (.inl rfl) fun w' e1 e2 e3 l => ⟨rfl, _, rfl, rep w' e1 e2 e3 l⟩
      exact ⟨_, h2, p _ H _ r2 (Ext.of_less rfl l) ⟨rfl, rep _ rfl rfl rfl l⟩⟩
theorem de_mov {i : Nat} {x : Str} {pos : Pos} (hN : X.N[i]? = some x) (hv : Vis X.env.scope x) (hd : (x == ("__debug__" : Str)) = false) (hcd : (x == ("__classdict__" : Str)) = false) : DE X c W (.Name x pos) (movM i) := by
  refine PE.less (pe_var hN hv hd hcd) fun σ H Q ⟨w, st, r, p⟩ => ?_
  unfold Pst movM at p
  cases e : st.ρ[i]? with
  | none => rw [e] at p; exact p.elim
  | some s =>
    rw [e] at p
    obtain ⟨o, v, h1, h2, h3⟩ := r.at e
    cases s with
    | no => exact p.elim
    | sh d =>
      obtain ⟨_, x, h4, h5⟩ := h3
      exact ⟨x, by rw [h2, h4], p x H w r (Ext.refl _ _ _) ⟨rfl, h5⟩⟩
    | ow d =>
      obtain ⟨a, h4, h5, h6⟩ := h3
      subst h4 h5
      obtain ⟨r2, l⟩ := r.out (s' := .no) (tm' := a :: w.tm) e h1 (.inr rfl) fun w' e1 e2 e3 l => rfl
      refine ⟨_, h2, p _ H _ r2 (Ext.of_less rfl l) ⟨a, rfl, rfl, ?_⟩⟩
      cases h6 with
      | lst h r => exact .lst h (r.less l)
      | dic h k x y r s => exact .dic h k x y (r.less l) (s.less l)
end
end Pv
namespace Pv
open PySem PySem.Spec PyProof.Rows L2

section
variable {X : Cx} {c : Cn} {W : WX} {w : Wt} {st : Sto} {σ : Sv} {H H' : Hp} {α β : Type}
def Same (H H' : Hp) : Prop := ∀ a o, H a = some o → H' a = some o
theorem Same.refl (H : Hp) : Same H H := fun _ _ h => h
theorem Same.upd {a : Addr} {o : HO} (h : H a = none) : Same H (upd H a o) := fun b u e => by
  rw [upd_ne (ne_of_none e h)]; exact e
theorem Same.gr (s : Same H H') (cs : List Addr) (Av : Addr → Prop) : Gr H H' cs cs Av Av := ⟨fun a o h _ => s a o h, fun _ h => .inl h, List.prefix_refl _⟩
theorem CellR.gr {cs cs' : List Addr} {Av Av' : Addr → Prop} {a : Addr} {cell : Cell} (h : CellR c cs Av H a cell) (g : Gr H H' cs cs' Av Av') (k : ∀ o, H a = some o → H' a = some o) : CellR c cs' Av' H' a cell := by
  cases cell with
  | lst ds => obtain ⟨xs, e1, e2⟩ := h; exact ⟨xs, k _ e1, g.reps e2⟩
  | ins _ _ => exact h
theorem Top.gr {cs cs' : List Addr} {Av Av' : Addr → Prop} {a : Addr} {d : D} (h : Top c cs Av H a d) (g : Gr H H' cs cs' Av Av') (k : ∀ o, H a = some o → H' a = some o) : Top c cs' Av' H' a d := by
  cases h with
  | lst h r => exact .lst (k _ h) (g.reps r)
  | dic h q x y r s => exact .dic (k _ h) q x y (g.reps r) (g.reps s)
theorem SlR.gr {w' : Wt} {o : Option Addr} {v : Option V} {s : Sl} (h : SlR c w H o v s) (g : Gr H H' w.cs w'.cs (w.av c) (w'.av c)) (k : ∀ a u, o = some a → H a = some u → H' a = some u) : SlR c w' H' o v s := by
  cases s with
  | no => exact h
  | sh d => obtain ⟨e1, x, e2, e3⟩ := h; exact ⟨e1, x, e2, g.rep e3⟩
  | ow d => obtain ⟨b, e1, e2, e3⟩ := h; exact ⟨b, e1, e2, e3.gr g fun u => k b u e1⟩
theorem Same.rel (s : Same H H') (r : Rel c w st σ H) : Rel c w st σ H' :=
  ⟨r.a0, fun a o h n => s _ _ (r.fr a o h n), r.pre, r.nd, r.nw, (fun a h q => by
      cases e : H a with
      | none => exact r.ex a h e
      | some o => rw [s _ _ e] at q; cases q), r.len, fun k cell a h1 h2 => (r.cells k cell a h1 h2).gr (s.gr _ _) fun o => s a o, r.lo, r.ls,
    fun i s' o v h1 h2 h3 => (r.sl i s' o v h1 h2 h3).gr (s.gr _ _) fun a u _ => s a u⟩
theorem Same.ext (s : Same H H') (r : Rel c w st σ H) : Ext c w H w H' := ⟨s.gr _ _, fun a ha => by
  cases e : H a with
  | none => exact absurd e (r.ex a (.inr (.inr (.inr ha))))
  | some o => rw [s _ _ e]⟩
/-- a new object is held -/
def Wt.more (w : Wt) (a : Addr) : Wt := { w with tm := a :: w.tm }
theorem Wt.more_av {a b : Addr} : (w.more a).av c b ↔ w.av c b ∨ b = a := by
  unfold Wt.av Wt.more
  simp only [List.mem_cons]
  constructor
  · rintro (h | h | h | h | h)
    · exact .inl (.inl h)
    · exact .inl (.inr (.inl h))
    · exact .inl (.inr (.inr (.inl h)))
    · exact .inr h
    · exact .inl (.inr (.inr (.inr h)))
  · rintro ((h | h | h | h) | h)
    · exact .inl h
    · exact .inr (.inl h)
    · exact .inr (.inr (.inl h))
    · exact .inr (.inr (.inr (.inr h)))
    · exact .inr (.inr (.inr (.inl h)))
theorem Same.gr_more {a : Addr} (s : Same H H') (n : H a = none) : Gr H H' w.cs (w.more a).cs (w.av c) ((w.more a).av c) :=
  ⟨fun a o h _ => s a o h, fun b h => by
    rcases Wt.more_av.mp h with z | z
    · exact .inl z
    · subst z; exact .inr n, List.prefix_refl _⟩
theorem Same.rel_more {a : Addr} (s : Same H H') (r : Rel c w st σ H) (n : H a = none) (n' : H' a ≠ none) : Rel c (w.more a) st σ H' := by
  have g : Gr H H' w.cs (w.more a).cs (w.av c) ((w.more a).av c) := s.gr_more n
  have av : ∀ b, w.av c b → b ≠ a := fun b h z => by subst z; exact r.ex b h n
  obtain ⟨nd1, nd2, nd3⟩ := List.nodup_append.mp r.nd
  obtain ⟨nd4, nd5, nd6⟩ := List.nodup_append.mp nd2
  have n0 : c.H0 a = none := by
    cases e : c.H0 a with
    | none => rfl
    | some o =>
      by_cases q : a ∈ c.cs0
      · obtain ⟨t, ht⟩ := r.pre
        exact absurd rfl (av a (.inr (.inl (by rw [← ht]; exact List.mem_append_left _ q))))
      · have := r.fr a o e q
        rw [n] at this; cases this
  refine ⟨r.a0, fun a o h n => s _ _ (r.fr a o h n), r.pre, ?_, fun b h => ?_, fun b h q => ?_, r.len, fun k cell a h1 h2 => (r.cells k cell a h1 h2).gr g fun o => s a o, r.lo, r.ls,
    fun i s' o v h1 h2 h3 => (r.sl i s' o v h1 h2 h3).gr g fun a u _ => s a u⟩
  · refine List.nodup_append.mpr ⟨nd1, List.nodup_append.mpr ⟨nd4, List.nodup_cons.mpr ⟨fun q => av a (.inr (.inr (.inr q))) rfl, nd5⟩, fun x hx y hy => ?_⟩, fun x hx y hy => ?_⟩
    · rcases List.mem_cons.mp hy with z | z
      · rw [z]; exact av x (.inr (.inr (.inl (mem_owned.mp hx))))
      · exact nd6 x hx y z
    · rcases List.mem_append.mp hy with z | z
      · exact nd3 x hx y (List.mem_append_left _ z)
      · rcases List.mem_cons.mp z with z | z
        · rw [z]; exact av x (.inr (.inl hx))
        · exact nd3 x hx y (List.mem_append_right _ z)
  · rcases h with h | h | h
    · exact r.nw b (.inl h)
    · rcases List.mem_cons.mp h with z | z
      · subst z; exact n0
      · exact r.nw b (.inr (.inl z))
    · exact r.nw b (.inr (.inr h))
  · rcases Wt.more_av.mp h with z | z
    · cases e : H b with
      | none => exact r.ex b z e
      | some o => rw [s _ _ e] at q; cases q
    · subst z; exact n' q
theorem Same.ext_more {a : Addr} (s : Same H H') (r : Rel c w st σ H) (n : H a = none) : Ext c w H (w.more a) H' := ⟨s.gr_more n, (s.ext r).tm⟩

/-! ### what is only looked at: an operand is a value, or a name that is read when all operands are there -/
def Pk (c : Cn) (w : Wt) (H : Hp) (v : V) (d : D) : Prop := RepW c w H v d ∨ ∃ a, v = .ref a ∧ Top c w.cs (w.av c) H a d
inductive Pks (c : Cn) (w : Wt) (H : Hp) : List V → List D → Prop
  | nil : Pks c w H [] []
  | cons {v : V} {d : D} {vs : List V} {ds : List D} : Pk c w H v d → Pks c w H vs ds → Pks c w H (v :: vs) (d :: ds)
abbrev G := D ⊕ Nat
def rG1 (c : Cn) (σ : Sv) (w : Wt) (H : Hp) (v : V) : G → Prop
  | .inl d => RepW c w H v d
  | .inr i => σ[i]? = some (some v)
def rG (c : Cn) (σ : Sv) : RT V G := fun tm w H v x => w.tm = tm ∧ rG1 c σ w H v x
inductive rGl (c : Cn) (σ : Sv) (w : Wt) (H : Hp) : List V → List G → Prop
  | nil : rGl c σ w H [] []
  | cons {v : V} {d : G} {vs : List V} {ds : List G} : rG1 c σ w H v d → rGl c σ w H vs ds → rGl c σ w H (v :: vs) (d :: ds)
def rGs (c : Cn) (σ : Sv) : RT (List V) (List G) := fun tm w H v x => w.tm = tm ∧ rGl c σ w H v x
theorem rG.tk : ∀ tm w H v a, rG c σ tm w H v a → w.tm = tm := fun _ _ _ _ _ h => h.1
theorem rGs.tk : ∀ tm w H v a, rGs c σ tm w H v a → w.tm = tm := fun _ _ _ _ _ h => h.1
theorem rG1.ext {w' : Wt} {v : V} {x : G} (h : rG1 c σ w H v x) (e : Ext c w H w' H') : rG1 c σ w' H' v x := by
  cases x with
  | inl d => exact e.rep h
  | inr i => exact h
theorem rGl.ext {w' : Wt} {vs : List V} : ∀ {xs : List G}, rGl c σ w H vs xs → Ext c w H w' H' → rGl c σ w' H' vs xs := by
  induction vs with
  | nil => intro xs h e; cases h; exact .nil
  | cons v vs ih => intro xs h e; cases h with | cons r s => exact .cons (r.ext e) (ih s e)
abbrev DG (X : Cx) (c : Cn) (W : WX) (e : Expr) (m : M G) : Prop := PE X e (fun σ => tM c W (rG c σ) m σ)
abbrev DGs (X : Cx) (c : Cn) (W : WX) (e : List Expr) (m : M (List G)) : Prop := PA X e (fun σ => tM c W (rGs c σ) m σ)
def M.inl (m : M D) : M G := fun s => match m s with
  | .ok a s' => .ok (.inl a) s'
  | .err x s' => .err x s'
  | .stuck => .stuck
theorem DV.g {e : Expr} {m : M D} (h : DV X c W e m) : DG X c W e m.inl := PE.less h fun σ H Q ⟨w, st, r, p⟩ => by
  refine ⟨w, st, r, ?_⟩
  unfold Pst M.inl at *
  cases e : m st with
  | stuck => simp only [e] at p
  | err x st' => simp only [e] at p; exact p
  | ok a st' => simp only [e] at p; exact fun v H' w' r' x' q => p v H' w' r' x' q
def peekM (i : Nat) : M D := fun st => match st.ρ[i]? with
  | some (.sh d) => .ok d st
  | some (.ow d) => .ok d st
  | _ => .stuck
theorem de_peek {i : Nat} {x : Str} {pos : Pos} (hN : X.N[i]? = some x) (hv : Vis X.env.scope x) (hd : (x == ("__debug__" : Str)) = false) (hcd : (x == ("__classdict__" : Str)) = false) : DG X c W (.Name x pos) (fun st => match st.ρ[i]? with | some (.sh _) | some (.ow _) => .ok (.inr i) st | _ => .stuck) := by
  refine PE.less (pe_var hN hv hd hcd) fun σ H Q ⟨w, st, r, p⟩ => ?_
  unfold Pst at p
  cases e : st.ρ[i]? with
  | none => simp only [e] at p
  | some s =>
    simp only [e] at p
    obtain ⟨o, v, h1, h2, h3⟩ := r.at e
    cases s with
    | no => exact p.elim
    | sh d =>
      obtain ⟨_, x, h4, h5⟩ := h3
      subst h4
      exact ⟨x, h2, p x H w r (Ext.refl _ _ _) ⟨rfl, h2⟩⟩
    | ow d =>
      obtain ⟨a, h4, h5, h6⟩ := h3
      subst h4 h5
      exact ⟨_, h2, p _ H w r (Ext.refl _ _ _) ⟨rfl, h2⟩⟩
def res : G → M D
  | .inl d => M.pure d
  | .inr i => peekM i
def ress : List G → M (List D)
  | [] => M.pure []
  | g :: gs => M.bind (res g) fun d => M.bind (ress gs) fun ds => M.pure (d :: ds)
theorem peek_ok {i : Nat} {d : D} {st' : Sto} {v : V} (e : peekM i st = .ok d st') (r : Rel c w st σ H) (h : σ[i]? = some (some v)) : st' = st ∧ Pk c w H v d := by
  unfold peekM at e
  cases q : st.ρ[i]? with
  | none => rw [q] at e; cases e
  | some s =>
    rw [q] at e
    obtain ⟨o, v', h1, h2, h3⟩ := r.at q
    rw [h] at h2; cases h2
    cases s with
    | no => cases e
    | sh d' =>
      cases e
      obtain ⟨_, x, h4, h5⟩ := h3
      cases h4
      exact ⟨rfl, .inl h5⟩
    | ow d' =>
      cases e
      obtain ⟨a, h4, h5, h6⟩ := h3
      cases h5
      exact ⟨rfl, .inr ⟨a, rfl, h6⟩⟩
theorem peek_err {i : Nat} {x : Exn} {st' : Sto} (e : peekM i st = .err x st') : False := by
  unfold peekM at e
  split at e <;> cases e
theorem res_ok {g : G} {d : D} {st' : Sto} {v : V} (e : res g st = .ok d st') (r : Rel c w st σ H) (h : rG1 c σ w H v g) : st' = st ∧ Pk c w H v d := by
  cases g with
  | inl d' => cases e; exact ⟨rfl, .inl h⟩
  | inr i => exact peek_ok e r h
theorem res_err {g : G} {x : Exn} {st' : Sto} (e : res g st = .err x st') : False := by
  cases g with
  | inl d' => cases e
  | inr i => exact peek_err e
theorem ress_err : ∀ {gs : List G} {x : Exn} {st st' : Sto}, ress gs st = .err x st' → False
  | [], x, st, st', e => by cases e
  | g :: gs, x, st, st', e => by
    unfold ress M.bind at e
    cases q : res g st with
    | stuck => rw [q] at e; cases e
    | err x s => exact res_err q
    | ok d s =>
      rw [q] at e
      simp only at e
      cases q2 : ress gs s with
      | stuck => rw [q2] at e; cases e
      | err x s => exact ress_err q2
      | ok d s => rw [q2] at e; cases e
theorem ress_ok (r : Rel c w st σ H) : ∀ (gs : List G) {ds : List D} {st' : Sto} {vs : List V}, ress gs st = .ok ds st' → rGl c σ w H vs gs → st' = st ∧ Pks c w H vs ds := by
  intro gs
  induction gs with
  | nil => intro ds st' vs e h; cases e; cases h; exact ⟨rfl, .nil⟩
  | cons g gs ih =>
    intro ds st' vs e h
    cases h with
    | cons h1 h2 =>
      unfold ress at e
      cases q : res g st with
      | stuck => rw [M.bind_stuck q] at e; cases e
      | err x s => exact (res_err q).elim
      | ok d s =>
        rw [M.bind_ok q] at e
        obtain ⟨e1, k⟩ := res_ok q r h1
        rw [e1] at e
        cases q2 : ress gs st with
        | stuck => rw [M.bind_stuck q2] at e; cases e
        | err x s => exact (ress_err q2).elim
        | ok d s =>
          rw [M.bind_ok q2] at e
          obtain ⟨e2, k2⟩ := ih q2 h2
          cases e
          exact ⟨e2, .cons k k2⟩

theorem Pk.lst {v : V} {ds : List D} (h : Pk c w H v (.lst ds)) : ∃ a xs, v = .ref a ∧ SqL c.K H a xs ∧ RepsW c w H xs ds := by
  rcases h with h | ⟨a, rfl, h⟩
  · cases h with | lst n r => exact ⟨_, _, rfl, n.sq, r⟩
  · cases h with | lst n r => exact ⟨_, _, rfl, SqL.of n, r⟩
theorem Pk.tup {v : V} {ds : List D} (h : Pk c w H v (.tup ds)) : ∃ a xs, v = .ref a ∧ SqT c.K H a xs ∧ RepsW c w H xs ds ∧ RepW c w H v (.tup ds) := by
  rcases h with h | ⟨a, rfl, h⟩
  · cases h with | tup n r => exact ⟨_, _, rfl, n.sq, r, .tup n r⟩
  · cases h
theorem Pk.int {v : V} {i : Int} (h : Pk c w H v (.int i)) : v = .int i := by
  rcases h with h | ⟨a, rfl, h⟩ <;> cases h <;> rfl
theorem Pk.bl {v : V} {i : Bool} (h : Pk c w H v (.bl i)) : v = .bl i := by
  rcases h with h | ⟨a, rfl, h⟩ <;> cases h <;> rfl
theorem Pk.str {v : V} {i : Str} (h : Pk c w H v (.str i)) : v = .str i := by
  rcases h with h | ⟨a, rfl, h⟩ <;> cases h <;> rfl
theorem Pk.non {v : V} (h : Pk c w H v .non) : v = .non := by
  rcases h with h | ⟨a, rfl, h⟩ <;> cases h <;> rfl

/-! ### what a built-in gives -/
def PrQ (c : Cn) (w : Wt) (H : Hp) (r : R) (Q : VK) : Prop := ∀ v H', Same H H' → (match r.2 with
  | false => RepW c w H' v r.1
  | true => ∃ a, v = .ref a ∧ H a = none ∧ Top c w.cs (fun b => w.av c b ∨ b = a) H' a r.1) → Q v H'
theorem PrQ.of {r : R} {Q : VK} (rl : Rel c w st σ H) (h : ∀ v H' w', Rel c w' st σ H' → Ext c w H w' H' → rR c w.tm w' H' v r → Q v H') : PrQ c w H r Q := by
  intro v H' s q
  obtain ⟨d, k⟩ := r
  cases k with
  | false => exact h v H' w (s.rel rl) (s.ext rl) ⟨rfl, q⟩
  | true =>
    obtain ⟨a, rfl, n, t⟩ := q
    have n' : H' a ≠ none := by
      cases t with
      | lst h1 _ => rw [h1]; simp
      | dic h1 _ _ _ _ _ => rw [h1]; simp
    refine h _ H' (w.more a) (s.rel_more rl n n') (s.ext_more rl n) ⟨a, rfl, rfl, ?_⟩
    have e : (fun b => w.av c b ∨ b = a) = (w.more a).av c := funext fun b => propext Wt.more_av.symm
    rw [e] at t
    exact t
theorem PrQ.same {r : R} {Q : VK} (h : PrQ c w H r Q) {v : V} (e : r.2 = false) (q : RepW c w H v r.1) : Q v H := by
  obtain ⟨d, k⟩ := r
  cases e
  exact h v H (Same.refl _) q
theorem PrQ.lst {ds : List D} {Q : VK} (h : PrQ c w H (.lst ds, true) Q) {xs : List V} (r : RepsW c w H xs ds) {p : Addr} (hp : H p = none) : Q (.ref p) (upd H p (.lst xs)) :=
  h _ _ (Same.upd hp) ⟨p, rfl, hp, .lst upd_same (Gr.reps (⟨fun a o h _ => Same.upd hp a o h, fun b h => by
    rcases h with z | z
    · exact .inl z
    · subst z; exact .inr hp, List.prefix_refl _⟩ : Gr H (upd H p (.lst xs)) w.cs w.cs (w.av c) (fun b => w.av c b ∨ b = p)) r)⟩
theorem PrQ.tup {ds : List D} {Q : VK} (h : PrQ c w H (.tup ds, false) Q) (rl : ∀ a, w.av c a → H a ≠ none) {xs : List V} (r : RepsW c w H xs ds) {p : Addr} {o : Obj} (ho : o.dict = none) (hp : H p = none) : Q (.ref p) (upd H p (.frz o (.tup xs))) :=
  h _ _ (Same.upd hp) (.tup (.inl ⟨fun q => rl p q hp, o, upd_same, ho⟩) ((Same.upd hp).gr _ _ |>.reps r))

def ExA (c : Cn) (w : Wt) (H : Hp) : Prop := ∀ a, w.av c a → H a ≠ none
def P1 (c : Cn) (g : D → Option R) : V → Hp → VK → Prop := fun x H Q => ∃ w d r, ExA c w H ∧ Pk c w H x d ∧ g d = some r ∧ PrQ c w H r Q
def P2 (c : Cn) (g : D → D → Option R) : R2 := fun x y H Q => ∃ w d e r, ExA c w H ∧ Pk c w H x d ∧ Pk c w H y e ∧ g d e = some r ∧ PrQ c w H r Q
def Pn (c : Cn) (g : List D → Option R) : List V → Hp → VK → Prop := fun xs H Q => ∃ w ds r, ExA c w H ∧ Pks c w H xs ds ∧ g ds = some r ∧ PrQ c w H r Q

/-- an operation of two places -/
def opM (g : D → D → Option R) (ma mb : M G) : M R := M.bind ma fun x => M.bind mb fun y => M.bind (res x) fun d => M.bind (res y) fun e => M.lift (g d e)
theorem Rel.exA (r : Rel c w st σ H) : ExA c w H := r.ex
theorem Pst.res {g : D → M R} {x : G} {v : V} {Q : VK} (h : Pst c W (rR c) (M.bind (res x) g) w st σ H Q) (r : Rel c w st σ H) (k : rG1 c σ w H v x) : ∃ d, Pk c w H v d ∧ Pst c W (rR c) (g d) w st σ H Q := by
  unfold Pst at h
  cases e : Pv.res x st with
  | stuck => rw [M.bind_stuck e] at h; exact h.elim
  | err x st' => exact (res_err e).elim
  | ok d st1 =>
    rw [M.bind_ok e] at h
    obtain ⟨rfl, q⟩ := res_ok e r k
    exact ⟨d, q, h⟩
theorem Pst.ress {g : List D → M R} {x : List G} {v : List V} {Q : VK} (h : Pst c W (rR c) (M.bind (ress x) g) w st σ H Q) (r : Rel c w st σ H) (k : rGl c σ w H v x) : ∃ d, Pks c w H v d ∧ Pst c W (rR c) (g d) w st σ H Q := by
  unfold Pst at h
  cases e : Pv.ress x st with
  | stuck => rw [M.bind_stuck e] at h; exact h.elim
  | err x st' => exact (ress_err e).elim
  | ok d st1 =>
    rw [M.bind_ok e] at h
    obtain ⟨rfl, q⟩ := ress_ok r _ e k
    exact ⟨d, q, h⟩
theorem Pst.prim {o : Option R} {Q : VK} (h : Pst c W (rR c) (M.lift o) w st σ H Q) (r : Rel c w st σ H) : ∃ a, o = some a ∧ PrQ c w H a Q := by
  obtain ⟨a, e, k⟩ := h.lift
  exact ⟨a, e, .of r k⟩
theorem de_op {op : Operator} {a b : Expr} {ma mb : M G} {g : D → D → Option R} {pos : Pos} (ho : OpR X (binaryOp op) (P2 c g)) (ha : DG X c W a ma) (hb : DG X c W b mb) : DE X c W (.BinOp a op b pos) (opM g ma mb) := by
  refine PE.less (pe_op ho ha hb) fun σ H Q ⟨w, st, r, p⟩ => ?_
  refine ⟨w, st, r, (Pst.bind p rG.tk).mono fun v1 H1 ⟨x, w1, st1, r1, q1, x1, t1, p1⟩ => ?_⟩
  refine ⟨w1, st1, r1, (Pst.bind p1 rG.tk).mono fun v2 H2 ⟨y, w2, st2, r2, q2, x2, t2, p2⟩ => ?_⟩
  obtain ⟨d, k1, p2⟩ := p2.res r2 (q1.2.ext x2)
  obtain ⟨e, k2, p2⟩ := p2.res r2 q2.2
  obtain ⟨r, e1, k⟩ := p2.prim r2
  exact ⟨w2, d, e, r, r2.exA, k1, k2, e1, k⟩
theorem de_anil : DGs X c W [] (M.pure []) := PA.less pa_nil fun σ H Q ⟨w, st, r, p⟩ => p [] H w r (Ext.refl _ _ _) ⟨rfl, .nil⟩
def consM (m : M G) (ms : M (List G)) : M (List G) := M.bind m fun x => M.bind ms fun xs => M.pure (x :: xs)
theorem de_acons {e : Expr} {es : List Expr} {m : M G} {ms : M (List G)} (h : DG X c W e m) (hs : DGs X c W es ms) (h1 : starEach (e :: es) X.env = (false, eval e X.env) :: starEach es X.env) : DGs X c W (e :: es) (consM m ms) := by
  refine PA.less (pa_cons h hs h1) fun σ H Q ⟨w, st, r, p⟩ => ?_
  refine ⟨w, st, r, (Pst.bind p rG.tk).mono fun v1 H1 ⟨x, w1, st1, r1, q1, x1, t1, p1⟩ => ?_⟩
  refine ⟨w1, st1, r1, (Pst.bind p1 rGs.tk).mono fun v2 H2 ⟨y, w2, st2, r2, q2, x2, t2, p2⟩ => ?_⟩
  exact p2 _ H2 w2 r2 (Ext.refl _ _ _) ⟨rfl, .cons (q1.2.ext x2) q2.2⟩
end
end Pv
namespace Pv
open PySem PySem.Spec PyProof.Rows L2

/-! ### pure data -/
mutual
def toP : D → Option PyData
  | .non => some .none
  | .bl b => some (.bool b)
  | .int i => some (.int i)
  | .str x => some (.str x)
  | .tup xs => (toPs xs).map .tuple
  | .lst xs => (toPs xs).map .list
  | .dic _ _ => none
  | .ref _ => none
  | .scr _ => none
  | .pr _ => none
def toPs : List D → Option (List PyData)
  | [] => some []
  | d :: ds => match toP d, toPs ds with
    | some p, some ps => some (p :: ps)
    | _, _ => none
end
section
variable {X : Cx} {c : Cn} {W : WX} {w : Wt} {st : Sto} {σ : Sv} {H H' : Hp} {pins : List (Addr × Obj)} {s : Shared}
mutual
theorem Rep.dp {cs : List Addr} {Av : Addr → Prop} : ∀ {v : V} {d : D} {p : PyData}, Rep c cs Av H v d → toP d = some p → Dp c.K H v p
  | _, _, _, .non, e => by cases e; exact .non
  | _, _, _, .bl b, e => by cases e; exact .bl b
  | _, _, _, .int b, e => by cases e; exact .int b
  | _, _, _, .str b, e => by cases e; exact .str b
  | _, _, _, .tup (ds := ds) n r, e => by
    unfold toP at e
    cases q : toPs ds with
    | none => rw [q] at e; cases e
    | some ps => rw [q] at e; cases e; exact .tup n.sq (Reps.dp r q)
  | _, _, _, .lst (ds := ds) n r, e => by
    unfold toP at e
    cases q : toPs ds with
    | none => rw [q] at e; cases e
    | some ps => rw [q] at e; cases e; exact .lst n.sq (Reps.dp r q)
  | _, _, _, .dic .., e => by cases e
  | _, _, _, .ref _, e => by cases e
  | _, _, _, .scr _, e => by cases e
  | _, _, _, .pr .., e => by cases e
theorem Reps.dp {cs : List Addr} {Av : Addr → Prop} : ∀ {v : List V} {d : List D} {p : List PyData}, Reps c cs Av H v d → toPs d = some p → DpAll c.K H v p
  | _, _, _, .nil, e => by cases e; exact .nil
  | _, _, _, .cons (d := d) (ds := ds) r s, e => by
    unfold toPs at e
    cases q : toP d with
    | none => rw [q] at e; cases e
    | some p =>
      cases q2 : toPs ds with
      | none => rw [q, q2] at e; cases e
      | some ps => rw [q, q2] at e; cases e; exact .cons (Rep.dp r q) (Reps.dp s q2)
end
theorem Pk.dp {v : V} {d : D} {p : PyData} (h : Pk c w H v d) (e : toP d = some p) : Dp c.K H v p := by
  rcases h with h | ⟨a, rfl, h⟩
  · exact h.dp e
  · cases h with
    | lst n r =>
      rename_i xs ds
      unfold toP at e
      cases q : toPs ds with
      | none => rw [q] at e; cases e
      | some ps => rw [q] at e; cases e; exact .lst (SqL.of n) (Reps.dp r q)
    | dic => cases e
mutual
theorem toP_plain : ∀ {d : D} {p : PyData}, toP d = some p → p.plain = true
  | .non, _, e => by cases e; rfl
  | .bl _, _, e => by cases e; rfl
  | .int _, _, e => by cases e; rfl
  | .str _, _, e => by cases e; rfl
  | .tup ds, _, e => by
    unfold toP at e
    cases q : toPs ds with
    | none => rw [q] at e; cases e
    | some ps => rw [q] at e; cases e; exact toPs_plain q
  | .lst ds, _, e => by
    unfold toP at e
    cases q : toPs ds with
    | none => rw [q] at e; cases e
    | some ps => rw [q] at e; cases e; exact toPs_plain q
  | .dic .., _, e => by cases e
  | .ref _, _, e => by cases e
  | .scr _, _, e => by cases e
  | .pr _, _, e => by cases e
theorem toPs_plain : ∀ {d : List D} {p : List PyData}, toPs d = some p → PyData.plainAll p = true
  | [], _, e => by cases e; rfl
  | d :: ds, _, e => by
    unfold toPs at e
    cases q : toP d with
    | none => rw [q] at e; cases e
    | some p =>
      cases q2 : toPs ds with
      | none => rw [q, q2] at e; cases e
      | some ps =>
        rw [q, q2] at e; cases e
        rw [PyData.plainAll, toP_plain q, toPs_plain q2]; rfl
end
/-! ### numbers, texts, sequences: + - * // % ** -/
def intD (i : Int) : R := (.int i, false)
def blD (b : Bool) : R := (.bl b, false)
def addD : D → D → Option R
  | .int i, .int j => some (.int (i + j), false)
  | .str i, .str j => if i.length + j.length ≤ sizeLine then some (.str (i ++ j), false) else none
  | .lst a, .lst b => if a.length + b.length ≤ sizeLine then some (.lst (a ++ b), true) else none
  | .tup a, .tup b => if a.length + b.length ≤ sizeLine then some (.tup (a ++ b), false) else none
  | _, _ => none
def subD : D → D → Option R
  | .int i, .int j => some (.int (i - j), false)
  | _, _ => none
def p64 : Int := 2 ^ 64
def mulD : D → D → Option R
  | .int i, .int j => if (-p64 < i ∧ i < p64) ∨ (-p64 < j ∧ j < p64) then some (.int (i * j), false) else none
  | .tup xs, .int k => if 2 ≤ k ∧ k ≤ 1000 ∧ xs.isEmpty = false ∧ xs.length ≤ 1000 then some (.tup (List.replicate k.toNat xs).flatten, false) else none
  | .lst xs, .int k => if -9223372036854775808 ≤ k ∧ k < 9223372036854775808 ∧ xs.length * k.toNat ≤ sizeLine then some (.lst (List.replicate k.toNat xs).flatten, true) else none
  | _, _ => none
def divD : D → D → Option R
  | .int i, .int j => if j ≠ 0 ∧ j.natAbs < 1073741824 then some (.int (i.fdiv j), false) else none
  | _, _ => none
def modD : D → D → Option R
  | .int i, .int j => if j ≠ 0 then some (.int (i.fmod j), false) else none
  | _, _ => none
def powD : D → D → Option R
  | .int i, .int j => if 0 ≤ j ∧ j ≤ 1000000 ∧ i.natAbs < 2 ^ 64 then some (.int (i ^ j.toNat), false) else none
  | _, _ => none
def negD : D → Option R
  | .int i => some (.int (-i), false)
  | _ => none
theorem PrQ.int {i : Int} {Q : VK} (h : PrQ c w H (.int i, false) Q) : Q (.int i) H := h.same rfl (.int i)
theorem PrQ.bl {i : Bool} {Q : VK} (h : PrQ c w H (.bl i, false) Q) : Q (.bl i) H := h.same rfl (.bl i)
theorem PrQ.str {i : Str} {Q : VK} (h : PrQ c w H (.str i, false) Q) : Q (.str i) H := h.same rfl (.str i)
theorem Pk.lst' {v : V} {ds : List D} (h : Pk c w H v (.lst ds)) : ∃ a xs, v = .ref a ∧ H a = some (.lst xs) ∧ RepsW c w H xs ds := by
  rcases h with h | ⟨a, rfl, h⟩
  · cases h with | lst n r => exact ⟨_, _, rfl, n.2, r⟩
  · cases h with | lst n r => exact ⟨_, _, rfl, n, r⟩
/-! new tuples, as they stand: no dict -/
def newT (us : List Value) : Obj := { cls := .type "tuple", data := .seq us.toArray }
theorem newT_ok {P : Program} {wd : World} {H : Hp} {h : Heap} {xs : List V} {us : List Value} (hz : xs.length ≤ sizeLine) (r : Vals xs us) (a : Addr) (ha : a = h.objs.size) : ObjOk P wd H (h.push (newT us)) a (.frz (newT us) (.tup xs)) := by
  subst ha
  exact ⟨Heap.get?_push_size _ rfl, hz, us, r, ⟨newT us, Heap.get?_push_size _ rfl, rfl, _, rfl⟩⟩
theorem inv_newT {X : Cx} {pins : List (Addr × Obj)} {σ : Sv} {H : Hp} {s : Shared} (I : Inv X pins σ H s) {xs : List V} {us : List Value} (hz : xs.length ≤ sizeLine) (r : Vals xs us) (tk : Nat) :
    Inv X pins σ (upd H s.heap.objs.size (.frz (newT us) (.tup xs))) { s with heap := s.heap.push (newT us), toks := tk } ∧ H s.heap.objs.size = none :=
  ⟨I.laid (fun _ _ q => Heap.get?_push_of_some _ q) (Nat.le_refl _) (newT_ok hz r _ rfl), I.hok.fresh (Nat.le_refl _)⟩
/-- t + u -/
def rCatF (K : PySem.W.Frag) : R2 := fun x y H Q => ∃ a b xs ys, x = .ref a ∧ y = .ref b ∧ SqT K H a xs ∧ SqT K H b ys ∧ xs.length + ys.length ≤ sizeLine ∧
  (xs = [] → Q (.ref b) H) ∧ (ys = [] → Q (.ref a) H) ∧ ∀ p o, o.dict = none → H p = none → Q (.ref p) (upd H p (.frz o (.tup (xs ++ ys))))
theorem op_catF {X : Cx} : OpR X (binaryOp .Add) (rCatF X.K) := by
  intro pins s σ H x y v u Q I rx ry ⟨a, b, xs, ys, e1, e2, ha, hb, hz, q0, q1, q2⟩
  subst e1 e2
  cases rx; cases ry
  obtain ⟨us, r1, p1, _⟩ := I.tuple ha
  obtain ⟨us2, r2, p2, _⟩ := I.tuple hb
  by_cases hx : us = []
  · subst hx
    cases r1
    exact cat_tup0 p1 p2 ⟨.ref b, H, I, rfl, q0 rfl⟩
  · refine HT.cat_tup p1 p2 hx (fun z => ⟨.ref a, H, I, rfl, q1 (r2.nil_iff.mp z)⟩) (fun _ => ?_) (by have := r1.length; have := r2.length; omega)
    obtain ⟨J, hn⟩ := inv_newT I (xs := xs ++ ys) (us := us ++ us2) (by rw [List.length_append]; exact hz) (r1.append r2) s.toks
    exact ⟨.ref s.heap.objs.size, _, J, rfl, q2 _ _ rfl hn⟩
/-- t * n -/
def rRepF (K : PySem.W.Frag) : R2 := fun x y H Q => ∃ l k xs, x = .ref l ∧ y = .int k ∧ SqT K H l xs ∧ xs ≠ [] ∧ 2 ≤ k ∧ k ≤ 1000 ∧ xs.length ≤ 1000 ∧ ∀ p o, o.dict = none → H p = none → Q (.ref p) (upd H p (.frz o (.tup (List.replicate k.toNat xs).flatten)))
theorem op_repF {X : Cx} : OpR X (binaryOp .Mult) (rRepF X.K) := by
  intro pins s σ H x y v u Q I rx ry ⟨l, k, xs, e1, e2, hT, hne, k1, k2, k3, q⟩
  subst e1 e2
  cases rx
  obtain ⟨tk, rfl⟩ := ry
  obtain ⟨us, r, ⟨ob, hob, hcls, n, hdt⟩, hs⟩ := I.tuple hT
  obtain ⟨cl, dc, dt, sls⟩ := ob
  cases (show cl = .type "tuple" from hcls)
  cases (show dt = .seq us.toArray n from hdt)
  have hle := r.length
  have hsz : us.toArray.size = xs.length := by simp [hle]
  have hmt : us.toArray.isEmpty = false := by
    cases us with
    | nil => exact absurd (List.eq_nil_of_length_eq_zero hle) hne
    | cons _ _ => rfl
  have hk0 : k.toNat ≤ 1000 := by omega
  have hprod : k.toNat * xs.length ≤ 1000000 := Nat.mul_le_mul hk0 k3
  have hprodI : ((us.toArray.size : Nat) : Int) * k ≤ 1000000 := by
    have h1 : ((k.toNat * xs.length : Nat) : Int) ≤ 1000000 := by omega
    rw [hsz, Int.mul_comm]
    have h2 : ((k.toNat * xs.length : Nat) : Int) = k * (xs.length : Int) := by
      rw [Int.natCast_mul]; congr 1; omega
    omega
  have hfl : (List.replicate k.toNat us).flatten.length ≤ sizeLine := by
    rw [PyProof.Rows.lm_len_rep_flat, ← hle, sizeLine_eq]; omega
  have b0 : (decide (k < -(2 ^ 63)) || decide (k ≥ 2 ^ 63)) = false := by simp; omega
  have b1 : (us.toArray.isEmpty || k == 1) = false := by rw [hmt]; simp; omega
  have b2 : (decide (k ≤ 0) || us.toArray.isEmpty) = false := by rw [hmt]; simp; omega
  have b3 : Builtin.Tuple.tupleTooMany (((us.toArray.size : Nat) : Int) * k) = false := by
    unfold Builtin.Tuple.tupleTooMany
    exact decide_eq_false (by rw [sizeLine_eq]; omega)
  have mul := tuple_mulW l us.toArray n dc sls k tk b0 b1 b2 (by omega) b3 (by rw [size_rep, List.size_toArray]; exact hfl)
  refine wpAny_binaryOp_repeat_ref (T := "tuple") (U := "int") (by decide) ⟨_, hob, rfl⟩ (fun _ => typeIs_int _ k tk) noFill_tuple_mul PySem.F.fills_int_mul PySem.F.slot_int_rmul repeat_tuple PySem.F.slot_int_index.lookup ?_
  refine call_meets PySem.F.slot_int_rmul (typeIs_int s k tk) PySem.F.entry_int_rmul (PySem.F.args_int_rmul_2 _ _) (int_rmul_tuple k tk l us.toArray n dc sls) ⟨hob, rfl, ⟨_, hob, rfl⟩, ?_⟩
  refine call_meets PySem.F.slot_tuple_mul ⟨_, hob, rfl⟩ PySem.F.entry_tuple_mul (PySem.F.args_tuple_mul_2 _ _) mul ⟨hob, ?_⟩
  rw [size_rep]
  obtain ⟨J, hn⟩ := inv_newT I (xs := (List.replicate k.toNat xs).flatten) (us := (List.replicate k.toNat us).flatten) (by rw [PyProof.Rows.lm_len_rep_flat, sizeLine_eq]; omega) (r.rep k.toNat) s.toks
  exact ⟨.ref s.heap.objs.size, _, J, rfl, q _ _ rfl hn⟩
theorem o_add (hK : X.K = c.K) : OpR X (binaryOp .Add) (P2 c addD) := by
  intro pins s σ H x y v u Q I rx ry ⟨w, d, e, r, ex, k1, k2, eq, q⟩
  unfold addD at eq
  split at eq
  · cases eq; cases k1.int; cases k2.int
    exact op_add pins s σ H _ _ v u Q I rx ry ⟨_, _, rfl, rfl, q.int⟩
  · split at eq
    · rename_i hz
      cases eq; cases k1.str; cases k2.str
      exact op_add_str pins s σ H _ _ v u Q I rx ry ⟨_, _, rfl, rfl, hz, q.str⟩
    · cases eq
  · split at eq
    · rename_i hz
      cases eq
      obtain ⟨a, xs, rfl, h1, r1⟩ := k1.lst'
      obtain ⟨b, ys, rfl, h2, r2⟩ := k2.lst'
      exact op_cat pins s σ H _ _ v u Q I rx ry ⟨a, b, xs, ys, rfl, rfl, h1, h2, by rw [r1.length, r2.length]; exact hz, fun p hp => q.lst (r1.append r2) hp⟩
    · cases eq
  · split at eq
    · rename_i hz
      cases eq
      obtain ⟨a, xs, rfl, h1, r1, q1⟩ := k1.tup
      obtain ⟨b, ys, rfl, h2, r2, q2⟩ := k2.tup
      refine op_catF pins s σ H _ _ v u Q I rx ry ⟨a, b, xs, ys, rfl, rfl, hK ▸ h1, hK ▸ h2, by rw [r1.length, r2.length]; exact hz, fun e => ?_, fun e => ?_, fun p o ho hp => q.tup ex (r1.append r2) ho hp⟩
      · subst e; cases r1; exact q.same rfl q2
      · subst e; cases r2
        refine q.same rfl ?_
        show Rep _ _ _ _ _ (.tup (_ ++ []))
        rw [List.append_nil]; exact q1
    · cases eq
  · cases eq
theorem o_sub : OpR X (binaryOp .Sub) (P2 c subD) := by
  intro pins s σ H x y v u Q I rx ry ⟨w, d, e, r, ex, k1, k2, eq, q⟩
  unfold subD at eq
  split at eq
  · cases eq; cases k1.int; cases k2.int
    exact op_sub pins s σ H _ _ v u Q I rx ry ⟨_, _, rfl, rfl, q.int⟩
  · cases eq
theorem Reps.rep {cs : List Addr} {Av : Addr → Prop} {xs : List V} {ds : List D} (r : Reps c cs Av H xs ds) : ∀ n : Nat, Reps c cs Av H (List.replicate n xs).flatten (List.replicate n ds).flatten
  | 0 => .nil
  | n + 1 => by
    rw [List.replicate_succ, List.replicate_succ, List.flatten_cons, List.flatten_cons]
    exact r.append (r.rep n)
theorem o_mul (hK : X.K = c.K) : OpR X (binaryOp .Mult) (P2 c mulD) := by
  intro pins s σ H x y v u Q I rx ry ⟨w, d, e, r, ex, k1, k2, eq, q⟩
  unfold mulD at eq
  split at eq
  · split at eq
    · rename_i hc
      cases eq; cases k1.int; cases k2.int
      exact op_mul pins s σ H _ _ v u Q I rx ry ⟨_, _, rfl, rfl, hc, q.int⟩
    · cases eq
  · split at eq
    · rename_i hc
      obtain ⟨h1, h2, h3, h4⟩ := hc
      cases eq; cases k2.int
      obtain ⟨a, ys, rfl, t1, r1, _⟩ := k1.tup
      have hl := r1.length
      refine op_repF pins s σ H _ _ v u Q I rx ry ⟨a, _, ys, rfl, rfl, hK ▸ t1, ?_, h1, h2, by omega, fun p o ho hp => q.tup ex (r1.rep _) ho hp⟩
      rintro rfl
      cases List.eq_nil_of_length_eq_zero hl.symm
      cases h3
    · cases eq
  · split at eq
    · rename_i hc
      obtain ⟨h1, h2, h3⟩ := hc
      cases eq; cases k2.int
      obtain ⟨a, ys, rfl, t1, r1⟩ := k1.lst'
      exact op_rep pins s σ H _ _ v u Q I rx ry ⟨a, _, ys, rfl, rfl, t1, by omega, by omega, by rw [r1.length]; exact h3, fun p hp => q.lst (r1.rep _) hp⟩
    · cases eq
  · cases eq
theorem o_div : OpR X (binaryOp .FloorDiv) (P2 c divD) := by
  intro pins s σ H x y v u Q I rx ry ⟨w, d, e, r, ex, k1, k2, eq, q⟩
  unfold divD at eq
  split at eq
  · split at eq
    · rename_i hc
      cases eq; cases k1.int; cases k2.int
      exact op_fdivN pins s σ H _ _ v u Q I rx ry ⟨_, _, rfl, rfl, hc, q.int⟩
    · cases eq
  · cases eq
theorem o_mod : OpR X (binaryOp .Mod) (P2 c modD) := by
  intro pins s σ H x y v u Q I rx ry ⟨w, d, e, r, ex, k1, k2, eq, q⟩
  unfold modD at eq
  split at eq
  · split at eq
    · rename_i hc
      cases eq; cases k1.int; cases k2.int
      exact op_modN pins s σ H _ _ v u Q I rx ry ⟨_, _, rfl, rfl, hc, q.int⟩
    · cases eq
  · cases eq
theorem o_pow : OpR X (binaryOp .Pow) (P2 c powD) := by
  intro pins s σ H x y v u Q I rx ry ⟨w, d, e, r, ex, k1, k2, eq, q⟩
  unfold powD at eq
  split at eq
  · split at eq
    · rename_i hc
      cases eq; cases k1.int; cases k2.int
      exact op_pow pins s σ H _ _ v u Q I rx ry ⟨_, _, rfl, rfl, hc, q.int⟩
    · cases eq
  · cases eq
theorem o_neg : UnR X (unaryOp .USub) (P1 c negD) := by
  intro pins s σ H x v Q I rx ⟨w, d, r, ex, k1, eq, q⟩
  unfold negD at eq
  split at eq
  · cases eq; cases k1.int
    exact un_neg pins s σ H _ v Q I rx ⟨_, rfl, q.int⟩
  · cases eq
/-! ### comparisons -/
def dep (d : PyData) : Bool := decide (d.depth ≤ 40)
def eqD (d e : D) : Option Bool := match toP d, toP e with
  | some p, some q => if dep p || dep q then some (PyData.eqv p q) else none
  | _, _ => none
def eqR (d e : D) : Option R := (eqD d e).map blD
def neR (d e : D) : Option R := (eqD d e).map fun b => blD (!b)
theorem eqD_some {d e : D} {b : Bool} (h : eqD d e = some b) : ∃ p q, toP d = some p ∧ toP e = some q ∧ min p.depth q.depth ≤ 40 ∧ b = PyData.eqv p q := by
  unfold eqD at h
  cases h1 : toP d with
  | none => rw [h1] at h; cases h
  | some p =>
    cases h2 : toP e with
    | none => rw [h1, h2] at h; cases h
    | some q =>
      rw [h1, h2] at h
      simp only at h
      split at h
      · rename_i hc
        cases h
        refine ⟨p, q, rfl, rfl, ?_, rfl⟩
        unfold dep at hc
        simp only [Bool.or_eq_true, decide_eq_true_eq] at hc
        omega
      · cases h
def Small (X : Cx) : Prop := X.A.units + 100 < cLine
theorem o_eq (hK : X.K = c.K) (hu : Small X) : OpR X (compareOp .Eq) (P2 c eqR) := by
  intro pins s σ H x y v u Q I rx ry ⟨w, d, e, r, ex, k1, k2, eq, q⟩
  obtain ⟨b, e1, rfl⟩ := Option.map_eq_some_iff.mp eq
  obtain ⟨p1, p2, h1, h2, h3, rfl⟩ := eqD_some e1
  obtain ⟨as, r1⟩ := Dp.reads I p1 x v (hK ▸ k1.dp h1) rx
  obtain ⟨bs, r2⟩ := Dp.reads I p2 y u (hK ▸ k2.dp h2) ry
  exact SeqAt.eq_plain r1 r2 (toP_plain h1) (toP_plain h2) (by unfold Small at hu; omega) ⟨.bl _, H, I, rfl, q.bl⟩
theorem o_ne (hK : X.K = c.K) (hu : Small X) : OpR X (compareOp .NotEq) (P2 c neR) := by
  intro pins s σ H x y v u Q I rx ry ⟨w, d, e, r, ex, k1, k2, eq, q⟩
  obtain ⟨b, e1, rfl⟩ := Option.map_eq_some_iff.mp eq
  obtain ⟨p1, p2, h1, h2, h3, rfl⟩ := eqD_some e1
  obtain ⟨as, r1⟩ := Dp.reads I p1 x v (hK ▸ k1.dp h1) rx
  obtain ⟨bs, r2⟩ := Dp.reads I p2 y u (hK ▸ k2.dp h2) ry
  exact SeqAt.ne_plain r1 r2 (toP_plain h1) (toP_plain h2) (by unfold Small at hu; omega) ⟨.bl _, H, I, rfl, q.bl⟩
def nnP : PyData → Bool
  | .none => false
  | _ => true
/-- less, for what can be ordered -/
def ltD (d e : D) : Option Bool := match d, e with
  | .int i, .int j => some (decide (i < j))
  | d, e => match toP d, toP e with
    | some p, some q => if PySem.W.alike p q && nnP p && (dep p || dep q) then some (PySem.W.dataLt p q) else none
    | _, _ => none
theorem ltD_some {d e : D} {b : Bool} (h : ltD d e = some b) : ∃ p q, toP d = some p ∧ toP e = some q ∧ PySem.W.alike p q = true ∧ p ≠ .none ∧ min p.depth q.depth ≤ 40 ∧ b = PySem.W.dataLt p q := by
  unfold ltD at h
  split at h
  · cases h
    exact ⟨_, _, rfl, rfl, by simp [PySem.W.alike], by simp, by simp [PyData.depth], (PySem.W.dataLt_int _ _).symm⟩
  · cases h1 : toP d with
    | none => rw [h1] at h; cases h
    | some p =>
      cases h2 : toP e with
      | none => rw [h1, h2] at h; cases h
      | some q =>
        rw [h1, h2] at h
        simp only at h
        split at h
        · rename_i hc
          cases h
          simp only [Bool.and_eq_true, Bool.or_eq_true] at hc
          refine ⟨p, q, rfl, rfl, hc.1.1, fun z => ?_, ?_, rfl⟩
          · subst z; simp [nnP] at hc
          · have := hc.2
            unfold dep at this
            simp only [decide_eq_true_eq] at this
            omega
        · cases h
def ltR (d e : D) : Option R := (ltD d e).map blD
def gtR (d e : D) : Option R := (ltD e d).map blD
def leR (d e : D) : Option R := (ltD e d).map fun b => blD (!b)
def geR (d e : D) : Option R := (ltD d e).map fun b => blD (!b)
theorem o_lt (hK : X.K = c.K) (hu : Small X) : OpR X (compareOp .Lt) (P2 c ltR) := by
  intro pins s σ H x y v u Q I rx ry ⟨w, d, e, r, ex, k1, k2, eq, q⟩
  obtain ⟨b, e1, rfl⟩ := Option.map_eq_some_iff.mp eq
  obtain ⟨p1, p2, h1, h2, al, nn, h3, rfl⟩ := ltD_some e1
  obtain ⟨as, r1⟩ := Dp.reads I p1 x v (hK ▸ k1.dp h1) rx
  obtain ⟨bs, r2⟩ := Dp.reads I p2 y u (hK ▸ k2.dp h2) ry
  exact PySem.W.lt_data r1 r2 al nn (by unfold Small at hu; omega) ⟨.bl _, H, I, rfl, q.bl⟩
theorem ne_none_of2 {x y : PyData} (h : PySem.W.alike x y = true) (e : x ≠ .none) : y ≠ .none := PySem.W.ne_none_both h e
theorem o_gt (hK : X.K = c.K) (hu : Small X) : OpR X (compareOp .Gt) (P2 c gtR) := by
  intro pins s σ H x y v u Q I rx ry ⟨w, d, e, r, ex, k1, k2, eq, q⟩
  obtain ⟨b, e1, rfl⟩ := Option.map_eq_some_iff.mp eq
  obtain ⟨p2, p1, h2, h1, al, nn, h3, rfl⟩ := ltD_some e1
  obtain ⟨as, r1⟩ := Dp.reads I p1 x v (hK ▸ k1.dp h1) rx
  obtain ⟨bs, r2⟩ := Dp.reads I p2 y u (hK ▸ k2.dp h2) ry
  exact PySem.W.gt_data r1 r2 (PySem.W.alike_comm _ _ ▸ al) (ne_none_of2 al nn) (by unfold Small at hu; omega) ⟨.bl _, H, I, rfl, q.bl⟩
theorem o_le (hK : X.K = c.K) (hu : Small X) : OpR X (compareOp .LtE) (P2 c leR) := by
  intro pins s σ H x y v u Q I rx ry ⟨w, d, e, r, ex, k1, k2, eq, q⟩
  obtain ⟨b, e1, rfl⟩ := Option.map_eq_some_iff.mp eq
  obtain ⟨p2, p1, h2, h1, al, nn, h3, rfl⟩ := ltD_some e1
  obtain ⟨as, r1⟩ := Dp.reads I p1 x v (hK ▸ k1.dp h1) rx
  obtain ⟨bs, r2⟩ := Dp.reads I p2 y u (hK ▸ k2.dp h2) ry
  refine PySem.W.le_data r1 r2 (PySem.W.alike_comm _ _ ▸ al) (ne_none_of2 al nn) (by unfold Small at hu; omega) ⟨.bl _, H, I, rfl, q.bl⟩
theorem o_ge (hK : X.K = c.K) (hu : Small X) : OpR X (compareOp .GtE) (P2 c geR) := by
  intro pins s σ H x y v u Q I rx ry ⟨w, d, e, r, ex, k1, k2, eq, q⟩
  obtain ⟨b, e1, rfl⟩ := Option.map_eq_some_iff.mp eq
  obtain ⟨p1, p2, h1, h2, al, nn, h3, rfl⟩ := ltD_some e1
  obtain ⟨as, r1⟩ := Dp.reads I p1 x v (hK ▸ k1.dp h1) rx
  obtain ⟨bs, r2⟩ := Dp.reads I p2 y u (hK ▸ k2.dp h2) ry
  exact PySem.W.ge_data r1 r2 al nn (by unfold Small at hu; omega) ⟨.bl _, H, I, rfl, q.bl⟩
end
end Pv
namespace Pv
open PySem PySem.Spec PyProof.Rows L2

section
variable {X : Cx} {c : Cn} {W : WX} {w : Wt} {st : Sto} {σ : Sv} {H H' : Hp} {pins : List (Addr × Obj)} {s : Shared} {pos : Pos} {e a b : Expr}
theorem Pst.resG {α β : Type} {rr : RT β α} {g : D → M α} {x : G} {v : V} {Q : β → Hp → Prop} (h : Pst c W rr (M.bind (Pv.res x) g) w st σ H Q) (r : Rel c w st σ H) (k : rG1 c σ w H v x) : ∃ d, Pk c w H v d ∧ Pst c W rr (g d) w st σ H Q := by
  unfold Pst at h
  cases e : Pv.res x st with
  | stuck => rw [M.bind_stuck e] at h; exact h.elim
  | err x st' => exact (res_err e).elim
  | ok d st1 =>
    rw [M.bind_ok e] at h
    obtain ⟨rfl, q⟩ := res_ok e r k
    exact ⟨d, q, h⟩
/-! ### truth -/
def truthD : D → Option Bool
  | .non => some false
  | .bl b => some b
  | .int i => some (i != 0)
  | .lst xs => some (!xs.isEmpty)
  | .tup xs => some (!xs.isEmpty)
  | _ => none
theorem isEmpty_len {α β : Type} {xs : List α} {ys : List β} (h : xs.length = ys.length) : xs.isEmpty = ys.isEmpty := by
  cases xs <;> cases ys <;> simp_all
theorem truth_ok (hK : X.K = c.K) {v : V} {d : D} {k : Bool} (h : Pk c w H v d) (e : truthD d = some k) : TruV X.K v H k := by
  unfold truthD at e
  split at e <;> cases e
  · cases h.non; rfl
  · cases h.bl; rfl
  · cases h.int; rfl
  · obtain ⟨a, xs, rfl, h1, r⟩ := h.lst
    exact .inl ⟨xs, hK ▸ h1, by rw [isEmpty_len r.length]⟩
  · obtain ⟨a, xs, rfl, h1, r, _⟩ := h.tup
    exact .inr (.inl ⟨xs, hK ▸ h1, by rw [isEmpty_len r.length]⟩)
def truthM (m : M G) : M Bool := M.bind m fun x => M.bind (res x) fun d => M.lift (truthD d)
theorem dt_val (hK : X.K = c.K) {m : M G} (h : DG X c W e m) (he : ∀ whole, isTrue e X.env whole = (do let v ← whole; standAt e.pos; holding [v] (truthy v))) : DT X c W e (truthM m) := by
  refine PT.less (pt_truth h he) fun σ H Q ⟨w, st, r, p⟩ => ?_
  refine ⟨w, st, r, (Pst.bind p rG.tk).mono fun v1 H1 ⟨x, w1, st1, r1, q1, x1, t1, p1⟩ => ?_⟩
  obtain ⟨d, k1, p1⟩ := p1.resG r1 q1.2
  obtain ⟨b, e1, k⟩ := p1.lift
  exact ⟨b, truth_ok hK k1 e1, k b H1 w1 r1 (Ext.refl _ _ _) ⟨rfl, rfl⟩⟩
/-! ### comparisons -/
theorem de_cmp {op : CmpOp} {ma mb : M G} {g : D → D → Option R} (ho : OpR X (compareOp op) (P2 c g)) (ha : DG X c W a ma) (hb : DG X c W b mb) (hm : behindInMarks op b = false) : DE X c W (.Compare a [op] [b] pos) (opM g ma mb) := by
  refine PE.less (pe_cmpR ho ha hb hm) fun σ H Q ⟨w, st, r, p⟩ => ?_
  refine ⟨w, st, r, (Pst.bind p rG.tk).mono fun v1 H1 ⟨x, w1, st1, r1, q1, x1, t1, p1⟩ => ?_⟩
  refine ⟨w1, st1, r1, (Pst.bind p1 rG.tk).mono fun v2 H2 ⟨y, w2, st2, r2, q2, x2, t2, p2⟩ => ?_⟩
  obtain ⟨d, k1, p2⟩ := p2.res r2 (q1.2.ext x2)
  obtain ⟨e, k2, p2⟩ := p2.res r2 q2.2
  obtain ⟨r, e1, k⟩ := p2.prim r2
  exact ⟨w2, d, e, r, r2.exA, k1, k2, e1, k⟩
/-- the answer of a comparison as a test -/
def blOf : R → Option Bool
  | (.bl b, _) => some b
  | _ => none
def opB (g : D → D → Option R) (ma mb : M G) : M Bool := M.bind ma fun x => M.bind mb fun y => M.bind (res x) fun d => M.bind (res y) fun e => M.lift ((g d e).bind blOf)
theorem blOf_some {r : R} {b : Bool} (h : blOf r = some b) : ∃ k, r = (.bl b, k) := by
  obtain ⟨d, k⟩ := r
  cases d <;> simp [blOf] at h
  subst h; exact ⟨k, rfl⟩
theorem PrQ.ofB {r : R} {b : Bool} {Q : Bool → Hp → Prop} (rl : Rel c w st σ H) (e : blOf r = some b) (h : ∀ v H' w', Rel c w' st σ H' → Ext c w H w' H' → rB w.tm w' H' v b → Q v H') : PrQ c w H r fun x H' => ∃ k, x = .bl k ∧ Q k H' := by
  obtain ⟨k, rfl⟩ := blOf_some e
  intro v H' s q
  cases k with
  | false =>
    cases q
    exact ⟨b, rfl, h b H' w (s.rel rl) (s.ext rl) ⟨rfl, rfl⟩⟩
  | true =>
    obtain ⟨a, rfl, n, t⟩ := q
    cases t
theorem dt_cmp {op : CmpOp} {ma mb : M G} {g : D → D → Option R} (ho : OpR X (compareOp op) (P2 c g)) (ha : DG X c W a ma) (hb : DG X c W b mb) (hm : behindInMarks op b = false) : DT X c W (.Compare a [op] [b] pos) (opB g ma mb) := by
  refine PT.less (pt_cmpR ho ha hb hm) fun σ H Q ⟨w, st, r, p⟩ => ?_
  refine ⟨w, st, r, (Pst.bind p rG.tk).mono fun v1 H1 ⟨x, w1, st1, r1, q1, x1, t1, p1⟩ => ?_⟩
  refine ⟨w1, st1, r1, (Pst.bind p1 rG.tk).mono fun v2 H2 ⟨y, w2, st2, r2, q2, x2, t2, p2⟩ => ?_⟩
  obtain ⟨d, k1, p2⟩ := p2.resG r2 (q1.2.ext x2)
  obtain ⟨e, k2, p2⟩ := p2.resG r2 q2.2
  obtain ⟨b, e1, k⟩ := p2.lift
  obtain ⟨r, e2, e3⟩ := Option.bind_eq_some_iff.mp e1
  exact ⟨w2, d, e, r, r2.exA, k1, k2, e2, .ofB r2 e3 k⟩
/-- a < b < c: b is asked once; no name that is only looked at stands ahead of a call that may change it -/
def chM (g g' : D → D → Option R) (ma mb mc : M D) : M R := M.bind ma fun d => M.bind mb fun e => M.bind (M.lift ((g d e).bind blOf)) fun k => if k then M.bind mc fun f => M.lift (g' e f) else M.pure (blD false)
def chB (g g' : D → D → Option R) (ma mb mc : M D) : M Bool := M.bind ma fun d => M.bind mb fun e => M.bind (M.lift ((g d e).bind blOf)) fun k => if k then M.bind mc fun f => M.lift ((g' e f).bind blOf) else M.pure false
variable {c1 : Expr}
theorem Pst.liftB {α β γ : Type} {o : Option γ} {rr : RT β α} {f : γ → M α} {Q : β → Hp → Prop} (h : Pst c W rr (M.bind (M.lift o) f) w st σ H Q) : ∃ k, o = some k ∧ Pst c W rr (f k) w st σ H Q := by
  cases o with
  | none => exact h.elim
  | some k => exact ⟨k, rfl, h⟩
theorem PrQ.at {r : R} {b : Bool} {Q : VK} (e : blOf r = some b) (h : ∀ H', Same H H' → Q (.bl b) H') : PrQ c w H r Q := by
  obtain ⟨k, rfl⟩ := blOf_some e
  intro v H' s q
  cases k with
  | false => cases q; exact h H' s
  | true => obtain ⟨a, rfl, n, t⟩ := q; cases t
theorem Pst.same {α β : Type} {rr : RT β α} {m : M α} {Q : β → Hp → Prop} (h : Pst c W rr m w st σ H Q) (s : Same H H') (r : Rel c w st σ H) : Pst c W rr m w st σ H' Q := by
  have x := s.ext r
  unfold Pst at h ⊢
  cases e : m st with
  | stuck => rw [e] at h; exact h
  | err y st' => rw [e] at h; exact fun cls d H2 w2 r2 x2 => h cls d H2 w2 r2 (x.trans x2 fun _ q => q)
  | ok y st' => rw [e] at h; exact fun v H2 w2 r2 x2 => h v H2 w2 r2 (x.trans x2 fun _ q => q)
theorem de_chain {op op' : CmpOp} {ma mb mc : M D} {g g' : D → D → Option R} (ho : OpR X (compareOp op) (P2 c g)) (ho' : OpR X (compareOp op') (P2 c g')) (ha : DV X c W a ma) (hb : DV X c W b mb) (hc : DV X c W c1 mc) (hm : lastMarks [op, op'] [b, c1] = false) :
    DE X c W (.Compare a [op, op'] [b, c1] pos) (chM g g' ma mb mc) := by
  refine PE.less (pe_chain ho ho' ha hb hc hm) fun σ H Q ⟨w, st, r, p⟩ => ?_
  refine ⟨w, st, r, (Pst.bind p rD.tk).mono fun v1 H1 ⟨x, w1, st1, r1, q1, x1, t1, p1⟩ => ?_⟩
  refine ⟨w1, st1, r1, (Pst.bind p1 rD.tk).mono fun v2 H2 ⟨y, w2, st2, r2, q2, x2, t2, p2⟩ => ?_⟩
  obtain ⟨k, e1, p3⟩ := p2.liftB
  obtain ⟨r0, e2, e3⟩ := Option.bind_eq_some_iff.mp e1
  refine ⟨w2, x, y, r0, r2.exA, .inl (x2.rep q1.2), .inl q2.2, e2, .at e3 fun H3 s3 => ⟨k, rfl, ?_⟩⟩
  have p4 := p3.same s3 r2
  cases k with
  | true =>
    rw [if_pos rfl] at p4 ⊢
    refine ⟨w2, st2, s3.rel r2, (Pst.bind p4 rD.tk).mono fun v5 H5 ⟨z, w5, st5, r5, q5, x5, t5, p5⟩ => ?_⟩
    obtain ⟨r6, e6, k6⟩ := p5.prim r5
    exact ⟨w5, y, z, r6, r5.exA, .inl (x5.rep ((s3.ext r2).rep q2.2)), .inl q5.2, e6, k6⟩
  | false =>
    rw [if_neg (by decide)] at p4 ⊢
    exact p4.pure (s3.rel r2) ⟨rfl, .bl false⟩
theorem dt_chain {op op' : CmpOp} {ma mb mc : M D} {g g' : D → D → Option R} (ho : OpR X (compareOp op) (P2 c g)) (ho' : OpR X (compareOp op') (P2 c g')) (ha : DV X c W a ma) (hb : DV X c W b mb) (hc : DV X c W c1 mc) (hm : lastMarks [op, op'] [b, c1] = false) :
    DT X c W (.Compare a [op, op'] [b, c1] pos) (chB g g' ma mb mc) := by
  refine PT.less (pt_chain ho ho' ha hb hc hm) fun σ H Q ⟨w, st, r, p⟩ => ?_
  refine ⟨w, st, r, (Pst.bind p rD.tk).mono fun v1 H1 ⟨x, w1, st1, r1, q1, x1, t1, p1⟩ => ?_⟩
  refine ⟨w1, st1, r1, (Pst.bind p1 rD.tk).mono fun v2 H2 ⟨y, w2, st2, r2, q2, x2, t2, p2⟩ => ?_⟩
  obtain ⟨k, e1, p3⟩ := p2.liftB
  obtain ⟨r0, e2, e3⟩ := Option.bind_eq_some_iff.mp e1
  refine ⟨w2, x, y, r0, r2.exA, .inl (x2.rep q1.2), .inl q2.2, e2, .at e3 fun H3 s3 => ⟨k, rfl, ?_⟩⟩
  have p4 := p3.same s3 r2
  cases k with
  | true =>
    rw [if_pos rfl] at p4 ⊢
    refine ⟨w2, st2, s3.rel r2, (Pst.bind p4 rD.tk).mono fun v5 H5 ⟨z, w5, st5, r5, q5, x5, t5, p5⟩ => ?_⟩
    obtain ⟨b, e6, k6⟩ := p5.lift
    obtain ⟨r7, e7, e8⟩ := Option.bind_eq_some_iff.mp e6
    exact ⟨w5, y, z, r7, r5.exA, .inl (x5.rep ((s3.ext r2).rep q2.2)), .inl q5.2, e7, .ofB r5 e8 k6⟩
  | false =>
    rw [if_neg (by decide)] at p4 ⊢
    exact ⟨false, rfl, p4.pure (s3.rel r2) ⟨rfl, rfl⟩⟩
/-- is None, is True -/
def isD (neg : Bool) : D → D → Option R
  | .non, .non => some (blD (!neg))
  | .ref _, .non => some (blD neg)
  | .bl _, .non => some (blD neg)
  | .int _, .non => some (blD neg)
  | .str _, .non => some (blD neg)
  | .tup _, .non => some (blD neg)
  | .lst _, .non => some (blD neg)
  | .dic _ _, .non => some (blD neg)
  | .bl a, .bl b => some (blD ((decide (a = b)).xor neg))
  | _, _ => none
theorem Pk.ref {v : V} {d : D} (h : Pk c w H v d) (n : match d with | .tup _ | .lst _ | .dic _ _ | .ref _ => True | _ => False) : ∃ a, v = .ref a := by
  rcases h with h | ⟨a, rfl, h⟩
  · cases h <;> first | exact ⟨_, rfl⟩ | exact n.elim
  · exact ⟨a, rfl⟩
theorem o_is : OpR X (compareOp .Is) (P2 c (isD false)) := by
  intro pins s σ H x y v u Q I rx ry ⟨w, d, e, r, ex, k1, k2, eq, q⟩
  unfold isD at eq
  split at eq <;> cases eq
  · cases k1.non; cases k2.non
    exact op_isN pins s σ H _ _ v u Q I rx ry ⟨rfl, q.bl⟩
  · obtain ⟨a, rfl⟩ := k1.ref trivial; cases k2.non
    exact op_isN pins s σ H _ _ v u Q I rx ry ⟨rfl, q.bl⟩
  · cases k1.bl; cases k2.non
    exact op_isN pins s σ H _ _ v u Q I rx ry ⟨rfl, q.bl⟩
  · cases k1.int; cases k2.non
    exact op_isN pins s σ H _ _ v u Q I rx ry ⟨rfl, q.bl⟩
  · cases k1.str; cases k2.non
    exact op_isN pins s σ H _ _ v u Q I rx ry ⟨rfl, q.bl⟩
  · obtain ⟨a, rfl⟩ := k1.ref trivial; cases k2.non
    exact op_isN pins s σ H _ _ v u Q I rx ry ⟨rfl, q.bl⟩
  · obtain ⟨a, rfl⟩ := k1.ref trivial; cases k2.non
    exact op_isN pins s σ H _ _ v u Q I rx ry ⟨rfl, q.bl⟩
  · obtain ⟨a, rfl⟩ := k1.ref trivial; cases k2.non
    exact op_isN pins s σ H _ _ v u Q I rx ry ⟨rfl, q.bl⟩
  · cases k1.bl; cases k2.bl
    exact op_isBl pins s σ H _ _ v u Q I rx ry ⟨_, _, rfl, rfl, by have := q.bl; simpa using this⟩
theorem o_isnot : OpR X (compareOp .IsNot) (P2 c (isD true)) := by
  intro pins s σ H x y v u Q I rx ry ⟨w, d, e, r, ex, k1, k2, eq, q⟩
  unfold isD at eq
  split at eq <;> cases eq
  · cases k1.non; cases k2.non
    exact op_notN pins s σ H _ _ v u Q I rx ry ⟨rfl, q.bl⟩
  · obtain ⟨a, rfl⟩ := k1.ref trivial; cases k2.non
    exact op_notN pins s σ H _ _ v u Q I rx ry ⟨rfl, q.bl⟩
  · cases k1.bl; cases k2.non
    exact op_notN pins s σ H _ _ v u Q I rx ry ⟨rfl, q.bl⟩
  · cases k1.int; cases k2.non
    exact op_notN pins s σ H _ _ v u Q I rx ry ⟨rfl, q.bl⟩
  · cases k1.str; cases k2.non
    exact op_notN pins s σ H _ _ v u Q I rx ry ⟨rfl, q.bl⟩
  · obtain ⟨a, rfl⟩ := k1.ref trivial; cases k2.non
    exact op_notN pins s σ H _ _ v u Q I rx ry ⟨rfl, q.bl⟩
  · obtain ⟨a, rfl⟩ := k1.ref trivial; cases k2.non
    exact op_notN pins s σ H _ _ v u Q I rx ry ⟨rfl, q.bl⟩
  · obtain ⟨a, rfl⟩ := k1.ref trivial; cases k2.non
    exact op_notN pins s σ H _ _ v u Q I rx ry ⟨rfl, q.bl⟩
  · cases k1.bl; cases k2.bl
    exact op_notBl pins s σ H _ _ v u Q I rx ry ⟨_, _, rfl, rfl, by have := q.bl; simpa using this⟩
/-! ### not, and, or, if else -/
def notB (m : M Bool) : M Bool := M.bind m fun b => M.pure (!b)
theorem dt_not {m : M Bool} (h : DT X c W a m) : DT X c W (.UnaryOp .Not a pos) (notB m) := by
  refine PT.less (pt_not h) fun σ H Q ⟨w, st, r, p⟩ => ?_
  refine ⟨w, st, r, (Pst.bind p rB.tk).mono fun v1 H1 ⟨x, w1, st1, r1, q1, x1, t1, p1⟩ => ?_⟩
  obtain ⟨_, rfl⟩ := q1
  exact p1.pure r1 ⟨rfl, rfl⟩
def andB (m n : M Bool) : M Bool := M.bind m fun b => if b then n else M.pure false
def orB (m n : M Bool) : M Bool := M.bind m fun b => if b then M.pure true else n
abbrev DW (X : Cx) (c : Cn) (W : WX) (e : Expr) (m : M Bool) : Prop := PW X e (tM c W rB m)
theorem PW.less {X : Cx} {e : Expr} {t u : TT} (h : PW X e t) (k : ∀ σ H Q, u σ H Q → t σ H Q) : PW X e u := ⟨fun wh pins s σ H Q I hu => h.run wh pins s σ H Q I (k _ _ _ hu)⟩
variable {rest : List Expr}
theorem dw_and1 {m : M Bool} (h : DT X c W a m) : DW X c W (.BoolOp .And [a] pos) m := pw_and1 h
theorem dw_or1 {m : M Bool} (h : DT X c W a m) : DW X c W (.BoolOp .Or [a] pos) m := pw_or1 h
theorem dw_and {m n : M Bool} (h : DT X c W a m) (k : DW X c W (.BoolOp .And (b :: rest) pos) n) : DW X c W (.BoolOp .And (a :: b :: rest) pos) (andB m n) := by
  refine PW.less (pw_and h k) fun σ H Q ⟨w, st, r, p⟩ => ?_
  refine ⟨w, st, r, (Pst.bind p rB.tk).mono fun v1 H1 ⟨x, w1, st1, r1, q1, x1, t1, p1⟩ => ?_⟩
  obtain ⟨_, rfl⟩ := q1
  cases v1 with
  | true => exact ⟨w1, st1, r1, p1⟩
  | false => exact p1.pure r1 ⟨rfl, rfl⟩
theorem dw_or {m n : M Bool} (h : DT X c W a m) (k : DW X c W (.BoolOp .Or (b :: rest) pos) n) : DW X c W (.BoolOp .Or (a :: b :: rest) pos) (orB m n) := by
  refine PW.less (pw_or h k) fun σ H Q ⟨w, st, r, p⟩ => ?_
  refine ⟨w, st, r, (Pst.bind p rB.tk).mono fun v1 H1 ⟨x, w1, st1, r1, q1, x1, t1, p1⟩ => ?_⟩
  obtain ⟨_, rfl⟩ := q1
  cases v1 with
  | false => exact ⟨w1, st1, r1, p1⟩
  | true => exact p1.pure r1 ⟨rfl, rfl⟩
theorem dt_w {m : M Bool} (h : DW X c W e m) : DT X c W e m := PW.pt h
def iteM {α : Type} (m : M Bool) (x y : M α) : M α := M.bind m fun b => if b then x else y
theorem de_ite {m : M Bool} {x y : M R} (h : DT X c W c1 m) (ha : DE X c W a x) (hb : DE X c W b y) : DE X c W (.IfExp c1 a b pos) (iteM m x y) := by
  refine PE.less (pe_ifExp h ha hb) fun σ H Q ⟨w, st, r, p⟩ => ?_
  refine ⟨w, st, r, (Pst.bind p rB.tk).mono fun v1 H1 ⟨x, w1, st1, r1, q1, x1, t1, p1⟩ => ?_⟩
  obtain ⟨_, rfl⟩ := q1
  cases v1 with
  | false => exact ⟨w1, st1, r1, p1⟩
  | true => exact ⟨w1, st1, r1, p1⟩
/-- not, and, or as values: truths alone (a and b, where all are) -/
def notM (m : M D) : M R := M.bind m fun d => M.lift ((truthD d).map fun b => blD (!b))
theorem de_not (hK : X.K = c.K) {m : M D} (h : DV X c W a m) : DE X c W (.UnaryOp .Not a pos) (notM m) := by
  refine PE.less (pe_notT h) fun σ H Q ⟨w, st, r, p⟩ => ?_
  refine ⟨w, st, r, (Pst.bind p rD.tk).mono fun v1 H1 ⟨x, w1, st1, r1, q1, x1, t1, p1⟩ => ?_⟩
  obtain ⟨r2, e2, k2⟩ := p1.prim r1
  obtain ⟨b, e3, rfl⟩ := Option.map_eq_some_iff.mp e2
  exact ⟨b, truth_ok hK (.inl q1.2) e3, k2.bl⟩
def andM (m : M D) (n : M R) : M R := M.bind m fun d => M.bind (M.lift (truthD d)) fun b => if b then n else M.pure (d, false)
/-- x or y, both values that are let go, or both new: what is new ahead is let go -/
def orM (m : M D) (n : M R) : M R := M.bind m fun d => M.bind (M.lift (truthD d)) fun b => if b then M.pure (d, false) else n
/-- the same, what is new is kept -/
def orR (m n : M R) : M R := M.bind m fun r => M.bind (M.lift (truthD r.1)) fun b => if b then M.pure r else n
theorem Rel.let0 {w1 : Wt} {H1 : Hp} {st1 : Sto} {v : V} {r : R} {tm : List Addr} (r1 : Rel c w1 st1 σ H1) (q : rR c tm w1 H1 v r) : Pk c w1 H1 v r.1 ∧ Rel c { w1 with tm := tm } st1 σ H1 ∧ ∀ b, ({ w1 with tm := tm } : Wt).av c b → w1.av c b := by
  obtain ⟨d, k⟩ := r
  cases k with
  | false =>
    obtain ⟨t, q⟩ := q
    have e : ({ w1 with tm := tm } : Wt) = w1 := by rw [← t]
    rw [e]
    exact ⟨.inl q, r1, fun _ h => h⟩
  | true =>
    obtain ⟨a, rfl, t, top⟩ := q
    obtain ⟨r2, l, na⟩ := r1.let_go t
    exact ⟨.inr ⟨a, rfl, top⟩, r2, l⟩
theorem de_orR (hK : X.K = c.K) {m : M R} {n : M R} (h : DE X c W a m) (k : DE X c W (.BoolOp .Or (b :: rest) pos) n) : DE X c W (.BoolOp .Or (a :: b :: rest) pos) (orR m n) := by
  refine PE.less (pe_orT h k) fun σ H Q ⟨w, st, r, p⟩ => ?_
  refine ⟨w, st, r, ?_⟩
  unfold Pst orR at p
  unfold Pst
  cases e : m st with
  | stuck => rw [M.bind_stuck e] at p; exact p
  | err x st' => rw [M.bind_err e] at p; exact p
  | ok r0 st1 =>
    rw [M.bind_ok e] at p
    intro v H1 w1 r1 x1 q1
    obtain ⟨pk, r2, l⟩ := r1.let0 q1
    cases e1 : truthD r0.1 with
    | none => rw [e1] at p; exact p.elim
    | some bb =>
      rw [e1] at p
      refine ⟨bb, truth_ok hK pk e1, ?_⟩
      cases bb with
      | true => exact p v H1 w1 r1 x1 q1
      | false =>
        have x2 : Ext c w H { w1 with tm := w.tm } H1 := ⟨⟨x1.gr.keep, fun b hb => x1.gr.av b (l b hb), x1.gr.cs⟩, x1.tm⟩
        refine ⟨{ w1 with tm := w.tm }, st1, r2, ?_⟩
        have eb : M.bind (M.lift (some false)) (fun b => if b = true then M.pure r0 else n) st1 = n st1 := rfl
        rw [eb] at p
        unfold Pst
        cases e2 : n st1 with
        | stuck => rw [e2] at p; exact p
        | err x st' => rw [e2] at p; exact fun cls d H' w' r' x' t' q => p cls d H' w' r' (x2.trans x' fun _ h => h) t' q
        | ok r3 st' => rw [e2] at p; exact fun v H' w' r' x' q => p v H' w' r' (x2.trans x' fun _ h => h) q
theorem de_one {op : BoolOp} {m : M R} (h : DE X c W a m) : DE X c W (.BoolOp op [a] pos) m := pe_one h
theorem de_and (hK : X.K = c.K) {m : M D} {n : M R} (h : DV X c W a m) (k : DE X c W (.BoolOp .And (b :: rest) pos) n) : DE X c W (.BoolOp .And (a :: b :: rest) pos) (andM m n) := by
  refine PE.less (pe_andT h k) fun σ H Q ⟨w, st, r, p⟩ => ?_
  refine ⟨w, st, r, (Pst.bind p rD.tk).mono fun v1 H1 ⟨x, w1, st1, r1, q1, x1, t1, p1⟩ => ?_⟩
  obtain ⟨b, e1, p2⟩ := p1.liftB
  refine ⟨b, truth_ok hK (.inl q1.2) e1, ?_⟩
  cases b with
  | true => exact ⟨w1, st1, r1, p2⟩
  | false => exact p2.pure r1 ⟨rfl, q1.2⟩
theorem de_or (hK : X.K = c.K) {m : M D} {n : M R} (h : DV X c W a m) (k : DE X c W (.BoolOp .Or (b :: rest) pos) n) : DE X c W (.BoolOp .Or (a :: b :: rest) pos) (orM m n) := by
  refine PE.less (pe_orT h k) fun σ H Q ⟨w, st, r, p⟩ => ?_
  refine ⟨w, st, r, (Pst.bind p rD.tk).mono fun v1 H1 ⟨x, w1, st1, r1, q1, x1, t1, p1⟩ => ?_⟩
  obtain ⟨b, e1, p2⟩ := p1.liftB
  refine ⟨b, truth_ok hK (.inl q1.2) e1, ?_⟩
  cases b with
  | false => exact ⟨w1, st1, r1, p2⟩
  | true => exact p2.pure r1 ⟨rfl, q1.2⟩
/-! ### displays, calls of what is built in -/
def unM (g : D → Option R) (m : M G) : M R := M.bind m fun x => M.bind (res x) fun d => M.lift (g d)
theorem de_un {op : UnaryOp} {m : M G} {g : D → Option R} (ho : UnR X (unaryOp op) (P1 c g)) (h : DG X c W a m) : DE X c W (.UnaryOp op a pos) (unM g m) := by
  refine PE.less (pe_un ho h) fun σ H Q ⟨w, st, r, p⟩ => ?_
  refine ⟨w, st, r, (Pst.bind p rG.tk).mono fun v1 H1 ⟨x, w1, st1, r1, q1, x1, t1, p1⟩ => ?_⟩
  obtain ⟨d, k1, p1⟩ := p1.res r1 q1.2
  obtain ⟨r2, e2, k2⟩ := p1.prim r1
  exact ⟨w1, d, r2, r1.exA, k1, e2, k2⟩
variable {es : List Expr}
/-- values, none of them only looked at -/
def onlyV : List G → Option (List D)
  | [] => some []
  | .inl d :: gs => (onlyV gs).map (d :: ·)
  | .inr _ :: _ => none
theorem onlyV_ok {vs : List V} : ∀ {gs : List G} {ds : List D}, onlyV gs = some ds → rGl c σ w H vs gs → RepsW c w H vs ds := by
  induction vs with
  | nil => intro gs ds e h; cases h; cases e; exact .nil
  | cons v vs ih =>
    intro gs ds e h
    cases h with
    | cons h1 h2 =>
      rename_i g gs
      cases g with
      | inr i => cases e
      | inl d =>
        obtain ⟨ds', e1, rfl⟩ := Option.map_eq_some_iff.mp e
        exact .cons h1 (ih e1 h2)
def seqM (mk : List D → R) (ms : M (List G)) : M R := M.bind ms fun gs => M.bind (M.lift (onlyV gs)) fun ds => M.lift (if ds.length ≤ sizeLine then some (mk ds) else none)
def mkT (ds : List D) : R := (.tup ds, false)
def mkL (ds : List D) : R := (.lst ds, true)
/-- (e, ..): a new tuple without a dict -/
def tTupF (t : TA) : TE := fun σ H Q => t σ H fun xs H1 => xs.length ≤ sizeLine ∧ ∀ p o, o.dict = none → H1 p = none → Q (.ref p) (upd H1 p (.frz o (.tup xs)))
theorem pe_tupF {t : TA} {k : Nat} (h : PA X es t) : PE X (.Tuple es k pos) (tTupF t) := by
  constructor
  intro pins s σ H Q I hq
  refine wpAny_Tuple_spliced (thn (h.run pos pins s σ H _ I hq) fun us s2 ⟨xs, H2, J, r, hz, q⟩ => ?_)
  refine ⟨by rw [← r.length]; exact hz, ?_⟩
  obtain ⟨J2, hn⟩ := inv_newT J hz r s2.toks
  exact ⟨.ref s2.heap.objs.size, _, J2, rfl, q _ _ rfl hn⟩
theorem de_tup {k : Nat} {ms : M (List G)} (h : DGs X c W es ms) : DE X c W (.Tuple es k pos) (seqM mkT ms) := by
  refine PE.less (pe_tupF h) fun σ H Q ⟨w, st, r, p⟩ => ?_
  refine ⟨w, st, r, (Pst.bind p rGs.tk).mono fun v1 H1 ⟨x, w1, st1, r1, q1, x1, t1, p1⟩ => ?_⟩
  obtain ⟨ds, e1, p2⟩ := p1.liftB
  obtain ⟨r2, e2, k2⟩ := p2.prim r1
  have rp := onlyV_ok e1 q1.2
  split at e2
  · rename_i hz
    cases e2
    exact ⟨by rw [rp.length]; exact hz, fun p o ho hp => k2.tup r1.exA rp ho hp⟩
  · cases e2
theorem de_lst {ms : M (List G)} (h : DGs X c W es ms) : DE X c W (.List es pos) (seqM mkL ms) := by
  refine PE.less (pe_lst h) fun σ H Q ⟨w, st, r, p⟩ => ?_
  refine ⟨w, st, r, (Pst.bind p rGs.tk).mono fun v1 H1 ⟨x, w1, st1, r1, q1, x1, t1, p1⟩ => ?_⟩
  obtain ⟨ds, e1, p2⟩ := p1.liftB
  obtain ⟨r2, e2, k2⟩ := p2.prim r1
  have rp := onlyV_ok e1 q1.2
  split at e2
  · rename_i hz
    cases e2
    exact ⟨by rw [rp.length]; exact hz, fun p hp => k2.lst rp hp⟩
  · cases e2
/-- *xs within a display -/
def itemsD : D → Option (List D)
  | .tup ds => some ds
  | .lst ds => some ds
  | _ => none
def starM (m : M G) (ms : M (List G)) : M (List G) := M.bind m fun x => M.bind (res x) fun d => M.bind (M.lift (itemsD d)) fun ds => M.bind ms fun gs => M.pure (ds.map .inl ++ gs)
theorem rGl.append {vs us : List V} : ∀ {gs hs : List G}, rGl c σ w H vs gs → rGl c σ w H us hs → rGl c σ w H (vs ++ us) (gs ++ hs) := by
  induction vs with
  | nil => intro gs hs h k; cases h; exact k
  | cons v vs ih => intro gs hs h k; cases h with | cons r s => exact .cons r (ih s k)
theorem rGl.inl {vs : List V} : ∀ {ds : List D}, RepsW c w H vs ds → rGl c σ w H vs (ds.map .inl) := by
  induction vs with
  | nil => intro ds h; cases h; exact .nil
  | cons v vs ih => intro ds h; cases h with | cons r s => exact .cons r (ih s)
theorem de_star (hK : X.K = c.K) {m : M G} {ms : M (List G)} {p : Pos} (h : DG X c W e m) (hs : DGs X c W es ms) : DGs X c W (.Starred e p :: es) (starM m ms) := by
  refine PA.less (StX.pa_star h hs) fun σ H Q ⟨w, st, r, p⟩ => ?_
  refine ⟨w, st, r, (Pst.bind p rG.tk).mono fun v1 H1 ⟨x, w1, st1, r1, q1, x1, t1, p1⟩ => ?_⟩
  obtain ⟨d, k1, p1⟩ := p1.resG r1 q1.2
  obtain ⟨ds, e1, p2⟩ := p1.liftB
  have ⟨a, xs, ev, sq, rp⟩ : ∃ a xs, v1 = .ref a ∧ (SqT X.K H1 a xs ∨ SqL X.K H1 a xs) ∧ RepsW c w1 H1 xs ds := by
    unfold itemsD at e1
    split at e1 <;> cases e1
    · obtain ⟨a, xs, rfl, h1, r, _⟩ := k1.tup
      exact ⟨a, xs, rfl, .inl (hK ▸ h1), r⟩
    · obtain ⟨a, xs, rfl, h1, r⟩ := k1.lst
      exact ⟨a, xs, rfl, .inr (hK ▸ h1), r⟩
  subst ev
  refine ⟨a, xs, rfl, sq, w1, st1, r1, (Pst.bind p2 rGs.tk).mono fun v2 H2 ⟨y, w2, st2, r2, q2, x2, t2, p2⟩ => ?_⟩
  exact p2 _ H2 w2 r2 (Ext.refl _ _ _) ⟨rfl, (rGl.inl rp).ext x2 |>.append q2.2⟩
def callM (g : List D → Option R) (ms : M (List G)) : M R := M.bind ms fun gs => M.bind (ress gs) fun ds => M.lift (g ds)
variable {x : Str} {p : Pos}
theorem pe_bi {id : String} {g : List D → Option R} {ms : M (List G)} {E : Expr} {tA : TA → TE} (hp : ∀ t : TA, PA X es t → PE X E (tCB (Pn c g) t)) (h : DGs X c W es ms) : DE X c W E (callM g ms) := by
  refine PE.less (hp _ h) fun σ H Q ⟨w, st, r, p⟩ => ?_
  refine ⟨w, st, r, (Pst.bind p rGs.tk).mono fun v1 H1 ⟨x, w1, st1, r1, q1, x1, t1, p1⟩ => ?_⟩
  obtain ⟨ds, k1, p1⟩ := p1.ress r1 q1.2
  obtain ⟨r2, e2, k2⟩ := p1.prim r1
  exact ⟨w1, ds, r2, r1.exA, k1, e2, k2⟩
end
end Pv
namespace Pv
open PySem PySem.Spec PyProof.Rows L2

section
variable {X : Cx} {c : Cn} {W : WX} {w : Wt} {st : Sto} {σ : Sv} {H H' : Hp} {pins : List (Addr × Obj)} {s : Shared} {pos : Pos} {e a b : Expr} {es : List Expr}
theorem Pks.one {xs : List V} {d : D} (h : Pks c w H xs [d]) : ∃ x, xs = [x] ∧ Pk c w H x d := by
  cases h with | cons r s => cases s; exact ⟨_, rfl, r⟩
theorem Pks.two {xs : List V} {d e : D} (h : Pks c w H xs [d, e]) : ∃ x y, xs = [x, y] ∧ Pk c w H x d ∧ Pk c w H y e := by
  cases h with | cons r s => cases s with | cons r' s => cases s; exact ⟨_, _, rfl, r, r'⟩
theorem Pk.scr {v : V} {ns : List Int} (h : Pk c w H v (.scr ns)) : ∃ a, v = .ref a ∧ SqL c.K H a (ns.map V.int) := by
  rcases h with h | ⟨a, rfl, h⟩
  · cases h with | scr n => exact ⟨_, rfl, n.sq⟩
  · cases h
/-! ### len, abs, int, max, min -/
def lenD : List D → Option R
  | [.lst xs] => some (intD xs.length)
  | [.tup xs] => some (intD xs.length)
  | [.scr xs] => some (intD xs.length)
  | [.str x] => if x.length ≤ sizeLine then some (intD x.length) else none
  | _ => none
theorem c_len (hK : X.K = c.K) : CallR X (.builtin "len") (Pn c lenD) := by
  intro pins s σ H xs us Q I r ⟨w, ds, r0, ex, kk, eq, q⟩
  unfold lenD at eq
  split at eq
  · cases eq
    obtain ⟨x, rfl, k⟩ := kk.one
    obtain ⟨a, ys, rfl, h1, r1⟩ := k.lst
    exact call_len_seq pins s σ H _ us Q I r ⟨a, ys, rfl, .inl (hK ▸ h1), by rw [r1.length]; exact q.int⟩
  · cases eq
    obtain ⟨x, rfl, k⟩ := kk.one
    obtain ⟨a, ys, rfl, h1, r1, _⟩ := k.tup
    exact call_len_seq pins s σ H _ us Q I r ⟨a, ys, rfl, .inr (hK ▸ h1), by rw [r1.length]; exact q.int⟩
  · cases eq
    obtain ⟨x, rfl, k⟩ := kk.one
    obtain ⟨a, rfl, h1⟩ := k.scr
    exact call_len_seq pins s σ H _ us Q I r ⟨a, _, rfl, .inl (hK ▸ h1), by rw [List.length_map]; exact q.int⟩
  · split at eq
    · rename_i hz
      cases eq
      obtain ⟨x, rfl, k⟩ := kk.one
      cases k.str
      exact call_len_str pins s σ H _ us Q I r ⟨_, rfl, hz, q.int⟩
    · cases eq
  · cases eq
def absD : List D → Option R
  | [.int i] => some (intD (if i < 0 then -i else i))
  | _ => none
theorem c_abs : CallR X (.builtin "abs") (Pn c absD) := by
  intro pins s σ H xs us Q I r ⟨w, ds, r0, ex, kk, eq, q⟩
  unfold absD at eq
  split at eq <;> cases eq
  obtain ⟨x, rfl, k⟩ := kk.one
  cases k.int
  exact call_abs pins s σ H _ us Q I r ⟨_, rfl, q.int⟩
def intOf : List D → Option R
  | [.int i] => some (intD i)
  | [.bl b] => some (intD (if b then 1 else 0))
  | _ => none
theorem c_int : CallR X (.type "int") (Pn c intOf) := by
  intro pins s σ H xs us Q I r ⟨w, ds, r0, ex, kk, eq, q⟩
  unfold intOf at eq
  split at eq <;> cases eq
  · obtain ⟨x, rfl, k⟩ := kk.one
    cases k.int
    exact call_int1 pins s σ H _ us Q I r (.inl ⟨_, rfl, q.int⟩)
  · obtain ⟨x, rfl, k⟩ := kk.one
    cases k.bl
    exact call_int1 pins s σ H _ us Q I r (.inr ⟨_, rfl, q.int⟩)
/-- whole numbers alone -/
def intsD : List D → Option (List Int)
  | [] => some []
  | .int i :: ds => (intsD ds).map (i :: ·)
  | _ :: _ => none
theorem intsD_some : ∀ {ds : List D} {ns : List Int}, intsD ds = some ns → ds = ns.map .int
  | [], ns, e => by cases e; rfl
  | d :: ds, ns, e => by
    cases d with
    | int i =>
      obtain ⟨ms, e1, rfl⟩ := Option.map_eq_some_iff.mp (show (intsD ds).map (i :: ·) = some ns from e)
      rw [intsD_some e1]; rfl
    | _ => cases e
theorem Reps.ints {cs : List Addr} {Av : Addr → Prop} {xs : List V} : ∀ {ns : List Int}, Reps c cs Av H xs (ns.map .int) → xs = ns.map V.int := by
  induction xs with
  | nil => intro ns h; cases ns with | nil => rfl | cons n ns => cases h
  | cons x xs ih =>
    intro ns h
    cases ns with
    | nil => cases h
    | cons n ns =>
      cases h with
      | cons r s => cases r; rw [ih s]; rfl
theorem depthAll_ints : ∀ ns : List Int, PyData.depthAll (ns.map .int) = 0
  | [] => rfl
  | n :: ns => by simp [PyData.depthAll, PyData.depth, depthAll_ints ns]
theorem readsAll_ints {h : Heap} : ∀ {ns : List Int} {us : List Value}, IntsAre us ns → ∃ as, ReadsAll h us (ns.map .int) as
  | [], us, e => by cases e; exact ⟨_, .nil⟩
  | n :: ns, us, e => by
    cases us with
    | nil => cases e
    | cons u us =>
      cases e with
      | cons _ _ s' =>
        obtain ⟨as, r⟩ := readsAll_ints (h := h) s'
        exact ⟨_, .cons (.int _ _) r⟩
def maxOf : List D → Option R
  | [.int i, .int j] => some (intD (if j > i then j else i))
  | [.lst ds] => match intsD ds with
    | some (n :: ns) => some (intD (ns.foldl max n))
    | _ => none
  | [.tup ds] => match intsD ds with
    | some (n :: ns) => some (intD (ns.foldl max n))
    | _ => none
  | _ => none
def minOf : List D → Option R
  | [.int i, .int j] => some (intD (if j < i then j else i))
  | [.lst ds] => match intsD ds with
    | some (n :: ns) => some (intD (ns.foldl min n))
    | _ => none
  | [.tup ds] => match intsD ds with
    | some (n :: ns) => some (intD (ns.foldl min n))
    | _ => none
  | _ => none
theorem foldl_max_mem : ∀ (ns : List Int) (n : Int), ns.foldl max n ∈ n :: ns ∧ ∀ y ∈ n :: ns, y ≤ ns.foldl max n
  | [], n => ⟨List.mem_cons_self, fun y h => by simp at h; simp [h]⟩
  | m :: ns, n => by
    obtain ⟨h1, h2⟩ := foldl_max_mem ns (max n m)
    refine ⟨?_, fun y hy => ?_⟩
    · rcases List.mem_cons.mp h1 with e | e
      · rw [List.foldl_cons, e]
        rcases Int.le_total n m with q | q
        · rw [Int.max_eq_right q]; exact List.mem_cons_of_mem _ List.mem_cons_self
        · rw [Int.max_eq_left q]; exact List.mem_cons_self
      · rw [List.foldl_cons]; exact List.mem_cons_of_mem _ (List.mem_cons_of_mem _ e)
    · have h3 := h2 (max n m) List.mem_cons_self
      rw [List.foldl_cons]
      rcases List.mem_cons.mp hy with e | hy
      · subst e; omega
      · rcases List.mem_cons.mp hy with e | hy
        · subst e; omega
        · exact h2 y (List.mem_cons_of_mem _ hy)
theorem foldl_min_mem : ∀ (ns : List Int) (n : Int), ns.foldl min n ∈ n :: ns ∧ ∀ y ∈ n :: ns, ns.foldl min n ≤ y
  | [], n => ⟨List.mem_cons_self, fun y h => by simp at h; simp [h]⟩
  | m :: ns, n => by
    obtain ⟨h1, h2⟩ := foldl_min_mem ns (min n m)
    refine ⟨?_, fun y hy => ?_⟩
    · rcases List.mem_cons.mp h1 with e | e
      · rw [List.foldl_cons, e]
        rcases Int.le_total n m with q | q
        · rw [Int.min_eq_left q]; exact List.mem_cons_self
        · rw [Int.min_eq_right q]; exact List.mem_cons_of_mem _ List.mem_cons_self
      · rw [List.foldl_cons]; exact List.mem_cons_of_mem _ (List.mem_cons_of_mem _ e)
    · have h3 := h2 (min n m) List.mem_cons_self
      rw [List.foldl_cons]
      rcases List.mem_cons.mp hy with e | hy
      · subst e; omega
      · rcases List.mem_cons.mp hy with e | hy
        · subst e; omega
        · exact h2 y (List.mem_cons_of_mem _ hy)
theorem alikeAll_ints (ns : List Int) : PySem.W.AlikeAll (ns.map PyData.int) := by
  refine ⟨fun d hd e he => ?_, fun d hd => ?_⟩
  · obtain ⟨i, _, rfl⟩ := List.mem_map.mp hd
    obtain ⟨j, _, rfl⟩ := List.mem_map.mp he
    simp [PySem.W.alike]
  · obtain ⟨i, _, rfl⟩ := List.mem_map.mp hd
    simp
theorem c_max (hK : X.K = c.K) (hu : Small X) (hc : X.calm = true) : CallR X (.builtin "max") (Pn c maxOf) := by
  intro pins s σ H xs us Q I r ⟨w, ds, r0, ex, kk, eq, q⟩
  unfold maxOf at eq
  split at eq
  · cases eq
    obtain ⟨x, y, rfl, k, k'⟩ := kk.two
    cases k.int; cases k'.int
    exact call_max2 hc pins s σ H _ us Q I r ⟨_, _, rfl, q.int⟩
  · split at eq
    · rename_i e1
      cases eq
      obtain ⟨x, rfl, k⟩ := kk.one
      obtain ⟨a, ys, rfl, h1, r1⟩ := k.lst
      rw [intsD_some e1] at r1
      have e2 := r1.ints
      subst e2
      refine cr_max hc pins s σ H _ us Q I r ⟨a, _, rfl, hK ▸ h1, by simp, fun m hm hle => ?_⟩
      obtain ⟨f1, f2⟩ := foldl_max_mem _ _
      have e3 := Int.le_antisymm (f2 m hm) (hle _ f1)
      rw [e3]; exact q.int
    · cases eq
  · split at eq
    · rename_i n ns e1
      cases eq
      obtain ⟨x, rfl, k⟩ := kk.one
      obtain ⟨a, ys, rfl, h1, r1, _⟩ := k.tup
      rw [intsD_some e1] at r1
      have e2 := r1.ints
      subst e2
      obtain ⟨u, rfl, r2⟩ := vals1 r
      cases r2
      obtain ⟨its, rv, p, hz⟩ := I.tuple (hK ▸ h1 : SqT X.K H a _)
      obtain ⟨as, ra⟩ := readsAll_ints (h := s.heap) (ns := n :: ns) rv.ints
      refine PySem.W.max_tuple_data (x := .int n) (xs := ns.map .int) (as := as) (I.ok.hd hc) (show s.heap.IsTuple a its.toArray from p) ra (alikeAll_ints (n :: ns)) ?_ fun i v h' tk bs e1 e2 k => ?_
      · have := depthAll_ints (n :: ns)
        simp only [List.map_cons] at this
        rw [this]; unfold Small at hu; omega
      · rw [PySem.W.maxD_ints] at e2
        cases e2
        exact ⟨.int _, H, I.kept k, ⟨_, rfl⟩, q.int⟩
    · cases eq
  · cases eq
theorem c_min (hK : X.K = c.K) (hu : Small X) (hc : X.calm = true) : CallR X (.builtin "min") (Pn c minOf) := by
  intro pins s σ H xs us Q I r ⟨w, ds, r0, ex, kk, eq, q⟩
  unfold minOf at eq
  split at eq
  · cases eq
    obtain ⟨x, y, rfl, k, k'⟩ := kk.two
    cases k.int; cases k'.int
    exact call_min2 hc pins s σ H _ us Q I r ⟨_, _, rfl, q.int⟩
  · split at eq
    · rename_i e1
      cases eq
      obtain ⟨x, rfl, k⟩ := kk.one
      obtain ⟨a, ys, rfl, h1, r1⟩ := k.lst
      rw [intsD_some e1] at r1
      have e2 := r1.ints
      subst e2
      refine cr_min hc pins s σ H _ us Q I r ⟨a, _, rfl, hK ▸ h1, by simp, fun m hm hle => ?_⟩
      obtain ⟨f1, f2⟩ := foldl_min_mem _ _
      have e3 := Int.le_antisymm (hle _ f1) (f2 m hm)
      rw [e3]; exact q.int
    · cases eq
  · split at eq
    · rename_i n ns e1
      cases eq
      obtain ⟨x, rfl, k⟩ := kk.one
      obtain ⟨a, ys, rfl, h1, r1, _⟩ := k.tup
      rw [intsD_some e1] at r1
      have e2 := r1.ints
      subst e2
      obtain ⟨u, rfl, r2⟩ := vals1 r
      cases r2
      obtain ⟨its, rv, p, hz⟩ := I.tuple (hK ▸ h1 : SqT X.K H a _)
      obtain ⟨as, ra⟩ := readsAll_ints (h := s.heap) (ns := n :: ns) rv.ints
      refine PySem.W.min_tuple_data (x := .int n) (xs := ns.map .int) (as := as) (I.ok.hd hc) (show s.heap.IsTuple a its.toArray from p) ra (alikeAll_ints (n :: ns)) ?_ fun i v h' tk bs e1 e2 k => ?_
      · have := depthAll_ints (n :: ns)
        simp only [List.map_cons] at this
        rw [this]; unfold Small at hu; omega
      · rw [PySem.W.minD_ints] at e2
        cases e2
        exact ⟨.int _, H, I.kept k, ⟨_, rfl⟩, q.int⟩
    · cases eq
  · cases eq
/-! ### all, any, sum -/
def blsD : List D → Option (List Bool)
  | [] => some []
  | .bl i :: ds => (blsD ds).map (i :: ·)
  | _ :: _ => none
theorem blsD_some : ∀ {ds : List D} {ns : List Bool}, blsD ds = some ns → ds = ns.map .bl
  | [], ns, e => by cases e; rfl
  | d :: ds, ns, e => by
    cases d with
    | bl i =>
      obtain ⟨ms, e1, rfl⟩ := Option.map_eq_some_iff.mp (show (blsD ds).map (i :: ·) = some ns from e)
      rw [blsD_some e1]; rfl
    | _ => cases e
theorem Reps.bls {cs : List Addr} {Av : Addr → Prop} {xs : List V} : ∀ {ns : List Bool}, Reps c cs Av H xs (ns.map .bl) → xs = ns.map V.bl := by
  induction xs with
  | nil => intro ns h; cases ns with | nil => rfl | cons n ns => cases h
  | cons x xs ih =>
    intro ns h
    cases ns with
    | nil => cases h
    | cons n ns =>
      cases h with
      | cons r s => cases r; rw [ih s]; rfl
def allOf : List D → Option R
  | [.lst ds] => (blsD ds).map fun bs => blD (bs.all id)
  | _ => none
def anyOf : List D → Option R
  | [.lst ds] => (blsD ds).map fun bs => blD (bs.any id)
  | _ => none
def sumOf : List D → Option R
  | [.lst ds] => (intsD ds).map fun bs => intD bs.sum
  | [.tup ds] => (intsD ds).map fun bs => intD bs.sum
  | _ => none
/-- sum(t), t a tuple of ints -/
theorem sum_tup {P : Program} {wd : World} {A : Around} {E : Value → Shared → Prop} {s : Shared} {l : Addr} {its : List Value} {ns : List Int} {Q : Value → Shared → Prop} (hh : A.handled = none) (ht : IsTup s.heap l its.toArray) (hi : IntsAre its ns)
    (h : ∀ h' tk t', (∀ b o, s.heap.get? b = some o → h'.get? b = some o) → Q (.int ns.sum t') { s with heap := h', toks := tk }) : wpAny (model P wd) A (call (.builtin "sum") [.ref l]) Q E s := by
  obtain ⟨xs, e⟩ := hi.allInts.items
  have hn : numsOf (intItems xs).toList = ns := by rw [← e]; exact hi.numsOf
  rw [nums_intItems] at hn
  rw [e] at ht
  have ht' : s.heap.IsTuple l (intItems xs) := ht
  have hlt : l < s.heap.objs.size := by obtain ⟨_, q, _⟩ := id ht'; exact Heap.lt_size q
  refine call_sum_walkG (wpAny_pyIter_tuple ht' ⟨s.heap.objs.size, _, _, _, _, _, numAt xs, rfl, Walks.tuple (A := A.in1) hh s.heap.objs.size l (Nat.ne_of_lt hlt) (intItems xs), ⟨⟨_, Heap.get?_push_size _ rfl, rfl, rfl⟩, ht'.at fun o q => Heap.get?_push_of_some _ q⟩, fun b hb => ?_, fun _ _ => intItems_at, fun h' tk t' hk => ?_⟩)
  · show b < (s.heap.push _).objs.size
    rw [Heap.size_push]
    simp only [List.mem_cons, List.not_mem_nil, or_false] at hb
    rcases hb with rfl | rfl
    · exact Nat.lt_succ_self _
    · exact Nat.lt_succ_of_lt hlt
  · have g := h h' tk t' fun b o q => hk b o (fun z => by
      have := Heap.lt_size q
      rw [List.mem_singleton.mp z] at this
      exact absurd this (Nat.lt_irrefl _)) (Heap.get?_push_of_some _ q)
    rw [preSum_eq, List.take_of_length_le (by simp [intItems]), hn]; exact g
theorem c_all (hK : X.K = c.K) (hc : X.calm = true) : CallR X (.builtin "all") (Pn c allOf) := by
  intro pins s σ H xs us Q I r ⟨w, ds, r0, ex, kk, eq, q⟩
  unfold allOf at eq
  split at eq
  · obtain ⟨bs, e1, rfl⟩ := Option.map_eq_some_iff.mp eq
    obtain ⟨x, rfl, k⟩ := kk.one
    obtain ⟨a, ys, rfl, h1, r1⟩ := k.lst
    rw [blsD_some e1] at r1
    have e2 := r1.bls
    subst e2
    exact cr_all hc pins s σ H _ us Q I r ⟨a, _, rfl, hK ▸ h1, q.bl⟩
  · cases eq
theorem c_any (hK : X.K = c.K) (hc : X.calm = true) : CallR X (.builtin "any") (Pn c anyOf) := by
  intro pins s σ H xs us Q I r ⟨w, ds, r0, ex, kk, eq, q⟩
  unfold anyOf at eq
  split at eq
  · obtain ⟨bs, e1, rfl⟩ := Option.map_eq_some_iff.mp eq
    obtain ⟨x, rfl, k⟩ := kk.one
    obtain ⟨a, ys, rfl, h1, r1⟩ := k.lst
    rw [blsD_some e1] at r1
    have e2 := r1.bls
    subst e2
    exact cr_any hc pins s σ H _ us Q I r ⟨a, _, rfl, hK ▸ h1, q.bl⟩
  · cases eq
theorem c_sum (hK : X.K = c.K) (hc : X.calm = true) : CallR X (.builtin "sum") (Pn c sumOf) := by
  intro pins s σ H xs us Q I r ⟨w, ds, r0, ex, kk, eq, q⟩
  unfold sumOf at eq
  split at eq
  · obtain ⟨bs, e1, rfl⟩ := Option.map_eq_some_iff.mp eq
    obtain ⟨x, rfl, k⟩ := kk.one
    obtain ⟨a, ys, rfl, h1, r1⟩ := k.lst
    rw [intsD_some e1] at r1
    have e2 := r1.ints
    subst e2
    exact cr_sum hc pins s σ H _ us Q I r ⟨a, _, rfl, hK ▸ h1, q.int⟩
  · obtain ⟨bs, e1, rfl⟩ := Option.map_eq_some_iff.mp eq
    obtain ⟨x, rfl, k⟩ := kk.one
    obtain ⟨a, ys, rfl, h1, r1, _⟩ := k.tup
    rw [intsD_some e1] at r1
    have e2 := r1.ints
    subst e2
    rw [Vals.ref1 r]
    obtain ⟨its, rv, pl, hz⟩ := I.tuple (hK ▸ h1 : SqT X.K H a (bs.map V.int))
    exact sum_tup (I.ok.hd hc) pl (intsAre_of rv) fun h' tk t' kp => ⟨.int _, H, I.kept kp, ⟨_, rfl⟩, q.int⟩
  · cases eq
/-! ### tuple(x), list(x), sorted(x) -/
def tupOf : List D → Option R
  | [.lst ds] => some (.tup ds, false)
  | [.tup ds] => some (.tup ds, false)
  | _ => none
def lstOf : List D → Option R
  | [.lst ds] => some (.lst ds, true)
  | [.tup ds] => some (.lst ds, true)
  | [.scr ns] => some (.lst (ns.map .int), true)
  | _ => none
/-- tuple(x): of a list a new one without a dict, of a tuple itself -/
theorem call_tupleF : CallR X (.type "tuple") (fun xs H Q => ∃ p ys, xs = [.ref p] ∧ ((SqL X.K H p ys ∧ ∀ l o, o.dict = none → H l = none → Q (.ref l) (upd H l (.frz o (.tup ys)))) ∨ (SqT X.K H p ys ∧ Q (.ref p) H))) := by
  intro pins s σ H xs us Q I r ⟨p, ys, e, h⟩
  subst e
  obtain ⟨u, rfl, rx⟩ := vals1 r
  cases rx
  rcases h with ⟨hq, q⟩ | ⟨hq, q⟩
  · obtain ⟨its, rv, pl, hz⟩ := I.list hq
    refine call_tuple_list pl.isList (fun h' kp => ?_) (by have := rv.length; simp only [List.size_toArray]; omega)
    have J : Inv X pins σ H { s with heap := h' } := I.kept (t' := s.toks) kp
    obtain ⟨J2, hn⟩ := inv_newT J hz rv s.toks
    exact ⟨.ref h'.objs.size, _, J2, rfl, q _ _ rfl hn⟩
  · obtain ⟨its, _, pl, _⟩ := I.tuple hq
    exact call_tuple_same pl ⟨.ref p, H, I, rfl, q⟩
theorem c_tuple (hK : X.K = c.K) : CallR X (.type "tuple") (Pn c tupOf) := by
  intro pins s σ H xs us Q I r ⟨w, ds, r0, ex, kk, eq, q⟩
  unfold tupOf at eq
  split at eq <;> cases eq
  · obtain ⟨x, rfl, k⟩ := kk.one
    obtain ⟨a, ys, rfl, h1, r1⟩ := k.lst
    exact call_tupleF pins s σ H _ us Q I r ⟨a, ys, rfl, .inl ⟨hK ▸ h1, fun l o ho hl => q.tup ex r1 ho hl⟩⟩
  · obtain ⟨x, rfl, k⟩ := kk.one
    obtain ⟨a, ys, rfl, h1, r1, rr⟩ := k.tup
    exact call_tupleF pins s σ H _ us Q I r ⟨a, ys, rfl, .inr ⟨hK ▸ h1, q.same rfl rr⟩⟩
theorem reps_ints (ns : List Int) {cs : List Addr} {Av : Addr → Prop} : Reps c cs Av H (ns.map V.int) (ns.map .int) := by
  induction ns with
  | nil => exact .nil
  | cons n ns ih => exact .cons (.int n) ih
theorem c_list (hK : X.K = c.K) : CallR X (.type "list") (Pn c lstOf) := by
  intro pins s σ H xs us Q I r ⟨w, ds, r0, ex, kk, eq, q⟩
  unfold lstOf at eq
  split at eq <;> cases eq
  · obtain ⟨x, rfl, k⟩ := kk.one
    obtain ⟨a, ys, rfl, h1, r1⟩ := k.lst
    exact call_list_of pins s σ H _ us Q I r ⟨a, ys, rfl, .inl (hK ▸ h1), fun l hl => q.lst r1 hl⟩
  · obtain ⟨x, rfl, k⟩ := kk.one
    obtain ⟨a, ys, rfl, h1, r1, rr⟩ := k.tup
    exact call_list_of pins s σ H _ us Q I r ⟨a, ys, rfl, .inr (hK ▸ h1), fun l hl => q.lst r1 hl⟩
  · obtain ⟨x, rfl, k⟩ := kk.one
    obtain ⟨a, rfl, h1⟩ := k.scr
    exact call_list_of pins s σ H _ us Q I r ⟨a, _, rfl, .inl (hK ▸ h1), fun l hl => q.lst (reps_ints _) hl⟩
end
end Pv
namespace Pv
open PySem PySem.Spec PyProof.Rows L2

section
variable {X : Cx} {c : Cn} {W : WX} {w : Wt} {st : Sto} {σ : Sv} {H H' : Hp} {pins : List (Addr × Obj)} {s : Shared} {pos : Pos} {e a b : Expr} {es : List Expr}
/-! ### sorted(x) -/
def leP (p q : PyData) : Bool := !PySem.W.dataLt q p
def allAlikeB (ps : List PyData) : Bool := ps.all fun p => ps.all fun q => PySem.W.alike p q
def someTup : PyData → Bool
  | .tuple (_ :: _) => true
  | _ => false
def noTup : PyData → Bool
  | .tuple _ => false
  | .none => false
  | _ => true
def sortP (ds : List D) (ps : List PyData) : List D := ((ds.zip ps).mergeSort fun a b => leP a.2 b.2).map (·.1)
def sortD (ds : List D) : Option (List D) := match toPs ds with
  | none => none
  | some ps => if allAlikeB ps && (ps.all someTup || ps.all noTup) && ps.all dep then some (sortP ds ps) else none
def sortedOf : List D → Option R
  | [.lst ds] => (sortD ds).map mkL
  | [.tup ds] => none
  | _ => none
theorem dpAll_reads (I : Inv X pins σ H s) {ds : List PyData} : ∀ {vs : List V} {us : List Value}, DpAll X.K H vs ds → Vals vs us → PySem.W.EachIs (fun (v : Value) (b : V × PyData) => ∃ as, Reads s.heap v b.2 as) us (vs.zip ds) ∧ PySem.W.EachIs (fun (v : Value) (b : V × PyData) => RelV b.1 v) us (vs.zip ds) := by
  induction ds with
  | nil => intro vs us h r; cases h; cases r; exact ⟨.nil, .nil⟩
  | cons d ds ih =>
    intro vs us h r
    cases h with
    | cons h1 h2 =>
      cases r with
      | cons r1 r2 =>
        obtain ⟨a1, a2⟩ := ih h2 r2
        exact ⟨.cons (Dp.reads I d _ _ h1 r1) a1, .cons r1 a2⟩
theorem eachIs_vals {us : List Value} : ∀ {bs : List (V × PyData)}, PySem.W.EachIs (fun (v : Value) (b : V × PyData) => RelV b.1 v) us bs → Vals (bs.map (·.1)) us := by
  induction us with
  | nil => intro bs h; cases h; exact .nil
  | cons u us ih => intro bs h; cases h with | cons r s => exact .cons r (ih s)
/-- values, data, plain data, item by item -/
theorem zip_sort {cs : List Addr} {Av : Addr → Prop} {xs : List V} {ds : List D} (r : Reps c cs Av H xs ds) (ps : List PyData) (hl : ds.length = ps.length) :
    Reps c cs Av H (((xs.zip ps).mergeSort fun a b => leP a.2 b.2).map (·.1)) (sortP ds ps) := by
  have hx := r.length
  let T := (xs.zip ds).zip ps
  have e1 : (xs.zip ps) = T.map fun t => (t.1.1, t.2) := by
    refine List.ext_getElem? fun i => ?_
    simp only [T, List.getElem?_map, List.zip_eq_zipWith, List.getElem?_zipWith]
    cases h1 : xs[i]? <;> cases h2 : ds[i]? <;> cases h3 : ps[i]? <;> simp_all
    all_goals
      have a1 := List.getElem?_eq_none_iff.mp h2
      have a2 := (List.getElem?_eq_some_iff.mp h1).1
      omega
  have e2 : (ds.zip ps) = T.map fun t => (t.1.2, t.2) := by
    refine List.ext_getElem? fun i => ?_
    simp only [T, List.getElem?_map, List.zip_eq_zipWith, List.getElem?_zipWith]
    cases h1 : xs[i]? <;> cases h2 : ds[i]? <;> cases h3 : ps[i]? <;> simp_all
    all_goals
      have a1 := List.getElem?_eq_none_iff.mp h1
      have a2 := (List.getElem?_eq_some_iff.mp h2).1
      omega
  have m1 : (xs.zip ps).mergeSort (fun a b => leP a.2 b.2) = (T.mergeSort fun a b => leP a.2 b.2).map fun t => (t.1.1, t.2) := by
    rw [e1]; exact (List.map_mergeSort (r := fun a b : (V × D) × PyData => leP a.2 b.2) (s := fun a b : V × PyData => leP a.2 b.2) (f := fun t : (V × D) × PyData => (t.1.1, t.2)) (fun a _ b _ => rfl)).symm
  have m2 : (ds.zip ps).mergeSort (fun a b => leP a.2 b.2) = (T.mergeSort fun a b => leP a.2 b.2).map fun t => (t.1.2, t.2) := by
    rw [e2]; exact (List.map_mergeSort (r := fun a b : (V × D) × PyData => leP a.2 b.2) (s := fun a b : D × PyData => leP a.2 b.2) (f := fun t : (V × D) × PyData => (t.1.2, t.2)) (fun a _ b _ => rfl)).symm
  unfold sortP
  rw [m1, m2, List.map_map, List.map_map]
  have mem : ∀ t ∈ T.mergeSort (fun a b => leP a.2 b.2), Rep c cs Av H t.1.1 t.1.2 := fun t ht => by
    have ht' : t ∈ T := List.mem_mergeSort.mp ht
    obtain ⟨h1, _⟩ := List.of_mem_zip (show (t.1, t.2) ∈ (xs.zip ds).zip ps from ht')
    obtain ⟨i, hi⟩ := List.mem_iff_getElem?.mp h1
    rw [List.zip_eq_zipWith, List.getElem?_zipWith] at hi
    cases h1 : xs[i]? with
    | none => rw [h1] at hi; cases hi
    | some x =>
      cases h2 : ds[i]? with
      | none => rw [h1, h2] at hi; cases hi
      | some d =>
        rw [h1, h2] at hi
        have e5 : (x, d) = t.1 := Option.some.inj hi
        obtain ⟨d', h3, h4⟩ := r.get' h1
        rw [h2] at h3; cases h3
        rw [← e5]
        exact h4
  generalize T.mergeSort (fun a b => leP a.2 b.2) = L at mem
  induction L with
  | nil => exact .nil
  | cons t L ih => exact .cons (mem t List.mem_cons_self) (ih fun t ht => mem t (List.mem_cons_of_mem _ ht))
theorem toPs_length : ∀ {ds : List D} {ps : List PyData}, toPs ds = some ps → ds.length = ps.length
  | [], ps, e => by cases e; rfl
  | d :: ds, ps, e => by
    unfold toPs at e
    cases q : toP d with
    | none => rw [q] at e; cases e
    | some p =>
      cases q2 : toPs ds with
      | none => rw [q, q2] at e; cases e
      | some ps => rw [q, q2] at e; cases e; simp [toPs_length q2]
theorem zip_map_snd {α β : Type} : ∀ {xs : List α} {ys : List β}, xs.length = ys.length → (xs.zip ys).map (·.2) = ys
  | [], [], _ => rfl
  | x :: xs, y :: ys, h => by simp [zip_map_snd (by simpa using h)]
  | [], _ :: _, h => by simp at h
  | _ :: _, [], h => by simp at h
theorem c_sorted (hK : X.K = c.K) (hu : Small X) : CallR X (.builtin "sorted") (Pn c sortedOf) := by
  intro pins s σ H xs us Q I r ⟨w, ds, r0, ex, kk, eq, q⟩
  unfold sortedOf at eq
  split at eq
  · obtain ⟨ds', e1, rfl⟩ := Option.map_eq_some_iff.mp eq
    obtain ⟨x, rfl, k⟩ := kk.one
    obtain ⟨a, ys, rfl, h1, r1⟩ := k.lst
    obtain ⟨u, rfl, r2⟩ := vals1 r
    cases r2
    unfold sortD at e1
    split at e1
    · cases e1
    · rename_i ps e2
      split at e1
      · rename_i hc
        cases e1
        simp only [Bool.and_eq_true, Bool.or_eq_true] at hc
        obtain ⟨⟨c1, c2⟩, c3⟩ := hc
        obtain ⟨its, rv, pl, hz⟩ := I.list (hK ▸ h1 : SqL X.K H a ys)
        have hl := toPs_length e2
        have hl2 := r1.length
        obtain ⟨er, e⟩ := dpAll_reads I (hK ▸ Reps.dp r1 e2 : DpAll X.K H ys ps) rv
        have em : (ys.zip ps).map (fun b => b.2) = ps := zip_map_snd (by omega)
        refine PySem.W.sorted_data (enc := fun b : V × PyData => b.2) (R := fun (v : Value) (b : V × PyData) => RelV b.1 v) pl.isList e er ?_ ?_ ?_ ?_ fun out ho hs => ?_
        · rw [em]
          intro d hd d' hd'
          have := List.all_eq_true.mp c1 d hd
          exact List.all_eq_true.mp this d' hd'
        · rw [em]
          rcases c2 with c2 | c2
          · refine .inl fun d hd => ?_
            have := List.all_eq_true.mp c2 d hd
            unfold someTup at this
            split at this
            · exact ⟨_, _, rfl⟩
            · cases this
          · refine .inr fun d hd => ?_
            have := List.all_eq_true.mp c2 d hd
            refine ⟨fun z => ?_, fun xs z => ?_⟩ <;> subst z <;> simp [noTup] at this
        · rw [List.length_zip]; omega
        · intro b hb
          have hb' : b.2 ∈ ps := by rw [← em]; exact List.mem_map.mpr ⟨b, hb, rfl⟩
          have := List.all_eq_true.mp c3 _ hb'
          unfold dep at this
          simp only [decide_eq_true_eq] at this
          unfold Small at hu
          omega
        · obtain ⟨n, hn⟩ := PyProof.Rows.sortedAll_at s.heap its out.toArray
          have rv2 := eachIs_vals hs
          have rr := zip_sort r1 ps hl
          have hf : H (s.heap.objs.size + 1) = none := I.hok.fresh (Nat.le_succ _)
          have hlen : ((List.map (fun b : V × PyData => b.1) ((ys.zip ps).mergeSort (PySem.W.dataLe false fun b => b.2)))).length ≤ sizeLine := by
            rw [List.length_map, List.length_mergeSort, List.length_zip]; omega
          exact ⟨.ref _, _, I.laid (t' := s.toks) (o := .lst (List.map (fun b : V × PyData => b.1) ((ys.zip ps).mergeSort (PySem.W.dataLe false fun b => b.2)))) (fun _ _ => PyProof.Rows.sortedAll_old) (Nat.le_succ _) ⟨hlen, out, n, rv2, hn⟩, rfl, q.lst rr hf⟩
      · cases e1
  · cases eq
  · cases eq
end
end Pv
namespace Pv
open PySem PySem.Spec PyProof.Rows L2

section
variable {X : Cx} {c : Cn} {W : WX} {w : Wt} {st : Sto} {σ : Sv} {H H' : Hp} {pins : List (Addr × Obj)} {s : Shared} {pos : Pos} {e a b : Expr} {es : List Expr}
/-! ### subscripts -/
theorem Reps.atI {cs : List Addr} {Av : Addr → Prop} {xs : List V} {ds : List D} {i : Int} {d : D} (r : Reps c cs Av H xs ds) (h : L2.atI ds i = some d) : ∃ v, L2.atI xs i = some v ∧ Rep c cs Av H v d := by
  unfold L2.atI at h ⊢
  rw [r.length]
  cases e : ixN ds.length i with
  | none => rw [e] at h; cases h
  | some j =>
    rw [e] at h
    exact r.get h
def ixD : D → D → Option R
  | .lst ds, .int i => (L2.atI ds i).map fun d => (d, false)
  | .tup ds, .int i => (L2.atI ds i).map fun d => (d, false)
  | .scr ns, .int i => (L2.atI ns i).map intD
  | .str z, .int i => if z.length ≤ sizeLine then (L2.atI z.cps.toList i).map fun c => (.str ⟨#[c]⟩, false) else none
  | _, _ => none
/-- .. of a cell too -/
def M.look {α : Type} (f : Sto → Option α) : M α := fun st => match f st with
  | some a => .ok a st
  | none => .stuck
theorem Pst.look {α β : Type} {rr : RT β α} {f : Sto → Option α} {Q : β → Hp → Prop} (h : Pst c W rr (M.look f) w st σ H Q) : ∃ a, f st = some a ∧ ∀ v H' w', Rel c w' st σ H' → Ext c w H w' H' → rr w.tm w' H' v a → Q v H' := by
  unfold Pst M.look at h
  cases e : f st with
  | none => rw [e] at h; exact h.elim
  | some a => rw [e] at h; exact ⟨a, rfl, h⟩
def cellAt (st : Sto) (k : Nat) : Option (List D) := match st.S[k]? with
  | some (.lst ds) => some ds
  | _ => none
def ixS (d e : D) (st : Sto) : Option R := match d with
  | .ref k => match e with
    | .int i => (cellAt st k).bind fun ds => (L2.atI ds i).map fun d => (d, false)
    | _ => none
  | d => ixD d e
def ixM (ma mb : M G) : M R := M.bind ma fun x => M.bind mb fun y => M.bind (res x) fun d => M.bind (res y) fun e => M.look (ixS d e)
theorem cellAt_some {k : Nat} {ds : List D} (h : cellAt st k = some ds) : st.S[k]? = some (.lst ds) := by
  unfold cellAt at h
  split at h
  · rename_i e; cases h; exact e
  · cases h
theorem atI_ints {ns : List Int} {i n : Int} (h1 : L2.atI ns i = some n) : L2.atI (ns.map V.int) i = some (.int n) := by
  unfold L2.atI at h1 ⊢
  rw [List.length_map]
  cases e5 : ixN ns.length i with
  | none => rw [e5] at h1; cases h1
  | some j =>
    rw [e5] at h1
    show (ns.map V.int)[j]? = _
    rw [List.getElem?_map, show ns[j]? = some n from h1]; rfl
theorem Rel.cell (r : Rel c w st σ H) {k : Nat} {ds : List D} (h : st.S[k]? = some (.lst ds)) {v : V} (p : Pk c w H v (.ref k)) : ∃ a xs, v = .ref a ∧ w.cs[k]? = some a ∧ H a = some (.lst xs) ∧ RepsW c w H xs ds := by
  have e : ∃ a, v = .ref a ∧ w.cs[k]? = some a := by
    rcases p with p | ⟨a, rfl, p⟩
    · cases p with | ref e => exact ⟨_, rfl, e⟩
    · cases p
  obtain ⟨a, rfl, e⟩ := e
  obtain ⟨xs, h1, h2⟩ := r.cells k _ a h e
  exact ⟨a, xs, rfl, e, h1, h2⟩
theorem de_ix (hK : X.K = c.K) {ma mb : M G} (ha : DG X c W a ma) (hb : DG X c W b mb) (hs : PlainIx b) : DE X c W (.Subscript a b pos) (ixM ma mb) := by
  refine PE.less (pe_ix ix_seq ha hb hs) fun σ H Q ⟨w, st, r, p⟩ => ?_
  refine ⟨w, st, r, (Pst.bind p rG.tk).mono fun v1 H1 ⟨x, w1, st1, r1, q1, x1, t1, p1⟩ => ?_⟩
  refine ⟨w1, st1, r1, (Pst.bind p1 rG.tk).mono fun v2 H2 ⟨y, w2, st2, r2, q2, x2, t2, p2⟩ => ?_⟩
  obtain ⟨d, k1, p2⟩ := p2.res r2 (q1.2.ext x2)
  obtain ⟨e, k2, p2⟩ := p2.res r2 q2.2
  obtain ⟨a0, eq, k⟩ := p2.look
  have fin : ∀ v, rR c w2.tm w2 H2 v a0 → Q v H2 := fun v q => k v H2 w2 r2 (Ext.refl _ _ _) q
  unfold ixS at eq
  split at eq
  · split at eq
    · rename_i k0 _ i
      obtain ⟨ds, hc, e1⟩ := Option.bind_eq_some_iff.mp eq
      obtain ⟨d0, hd, rfl⟩ := Option.map_eq_some_iff.mp e1
      obtain ⟨a, xs, rfl, h1, h2, h3⟩ := r2.cell (cellAt_some hc) k1
      cases k2.int
      obtain ⟨v, h4, h5⟩ := h3.atI hd
      exact .inl ⟨a, xs, i, v, rfl, rfl, .of h2, h4, fin v ⟨rfl, h5⟩⟩
    · cases eq
  · unfold ixD at eq
    split at eq
    · obtain ⟨d0, h1, rfl⟩ := Option.map_eq_some_iff.mp eq
      obtain ⟨a, xs, rfl, h2, h3⟩ := k1.lst
      cases k2.int
      obtain ⟨v, h4, h5⟩ := h3.atI h1
      exact .inl ⟨a, xs, _, v, rfl, rfl, hK ▸ h2, h4, fin v ⟨rfl, h5⟩⟩
    · obtain ⟨d0, h1, rfl⟩ := Option.map_eq_some_iff.mp eq
      obtain ⟨a, xs, rfl, h2, h3, _⟩ := k1.tup
      cases k2.int
      obtain ⟨v, h4, h5⟩ := h3.atI h1
      exact .inr (.inl ⟨a, xs, _, v, rfl, rfl, hK ▸ h2, h4, fin v ⟨rfl, h5⟩⟩)
    · obtain ⟨n, h1, rfl⟩ := Option.map_eq_some_iff.mp eq
      obtain ⟨a, rfl, h2⟩ := k1.scr
      cases k2.int
      exact .inl ⟨a, _, _, .int n, rfl, rfl, hK ▸ h2, atI_ints h1, fin _ ⟨rfl, .int n⟩⟩
    · split at eq
      · rename_i hz
        obtain ⟨n, h1, rfl⟩ := Option.map_eq_some_iff.mp eq
        cases k1.str; cases k2.int
        exact .inr (.inr ⟨_, _, n, rfl, rfl, hz, h1, fin _ ⟨rfl, .str _⟩⟩)
      · cases eq
    · cases eq
/-! ### slices -/
def cutD (xs : List D) (lo hi : Option Int) : List D := (xs.drop (HT.sIx xs.length 0 lo)).take (HT.sIx xs.length xs.length hi - HT.sIx xs.length 0 lo)
def cutI (xs : List Int) (lo hi : Option Int) : List Int := (xs.drop (HT.sIx xs.length 0 lo)).take (HT.sIx xs.length xs.length hi - HT.sIx xs.length 0 lo)
theorem Reps.cut {cs : List Addr} {Av : Addr → Prop} {xs : List V} {ds : List D} (r : Reps c cs Av H xs ds) (lo hi : Option Int) : Reps c cs Av H (cutV xs lo hi) (cutD ds lo hi) := by
  unfold cutV cutD
  rw [r.length]
  exact (r.drop _).take _
def slD (d : D) (lo hi : Option Int) : Option R := match d with
  | .lst ds => some (.lst (cutD ds lo hi), true)
  | .tup ds => some (.tup (cutD ds lo hi), false)
  | .scr ns => some (.lst ((cutI ns lo hi).map .int), true)
  | .str z => if z.length ≤ sizeLine then some (.str (cutS z lo hi), false) else none
  | _ => none
def intM (m : M D) : M (Option Int) := M.bind m fun d => M.lift (match d with | .int i => some (some i) | _ => none)
def rO : RT (Option Int) (Option Int) := fun tm w _ v b => w.tm = tm ∧ v = b
theorem rO.tk : ∀ tm w H v a, rO tm w H v a → w.tm = tm := fun _ _ _ _ _ h => h.1
abbrev DO (X : Cx) (c : Cn) (W : WX) (e : Option Expr) (m : M (Option Int)) : Prop := PO X e (tM c W rO m)
theorem PO.less {e : Option Expr} {t u : TO} (h : PO X e t) (k : ∀ σ H Q, u σ H Q → t σ H Q) : PO X e u := ⟨fun pins s σ H Q I hu => h.run pins s σ H Q I (k _ _ _ hu)⟩
theorem do_none : DO X c W none (M.pure none) := PO.less po_none fun σ H Q ⟨w, st, r, p⟩ => p none H w r (Ext.refl _ _ _) ⟨rfl, rfl⟩
theorem do_some {m : M D} (h : DV X c W e m) : DO X c W (some e) (intM m) := by
  refine PO.less (po_some h) fun σ H Q ⟨w, st, r, p⟩ => ?_
  refine ⟨w, st, r, (Pst.bind p rD.tk).mono fun v1 H1 ⟨x, w1, st1, r1, q1, x1, t1, p1⟩ => ?_⟩
  obtain ⟨k, e1, k1⟩ := p1.lift
  cases x with
  | int i =>
    cases e1
    cases (show Pk c w1 H1 v1 (.int i) from .inl q1.2).int
    exact ⟨i, rfl, k1 _ H1 w1 r1 (Ext.refl _ _ _) ⟨rfl, rfl⟩⟩
  | _ => cases e1
def slM (m : M G) (ml mh : M (Option Int)) : M R := M.bind m fun x => M.bind ml fun lo => M.bind mh fun hi => M.bind (res x) fun d => M.lift (slD d lo hi)
/-- t[lo:hi]: all of it is t itself; else a new tuple without a dict -/
def rSlF (K : PySem.W.Frag) : V → Option Int → Option Int → Hp → VK → Prop := fun x lo hi H Q => ∃ a xs, x = .ref a ∧ SqT K H a xs ∧
  (HT.sIx xs.length 0 lo = 0 ∧ HT.sIx xs.length xs.length hi = xs.length → Q (.ref a) H) ∧ ∀ p o, o.dict = none → H p = none → Q (.ref p) (upd H p (.frz o (.tup (cutV xs lo hi))))
theorem sl_tupF : L2.SlR X (rSlF X.K) := by
  intro pins s σ H x v vl vu lo hi sl Q I rx hs pl pu ⟨a, xs, e, hx, q1, q2⟩
  subst e
  cases rx
  obtain ⟨us, r, ht, hz⟩ := I.tuple hx
  have hl : us.toArray.size = xs.length := by simp [r.length]
  refine ⟨"tuple", _, PyProof.Rows.slot_tuple_getitem.lookup, ht.typeIs, ?_⟩
  by_cases hw : HT.sIx xs.length 0 lo = 0 ∧ HT.sIx xs.length xs.length hi = xs.length
  · exact getItem_tuple_whole ht hs pl pu (by rw [hl]; exact hw) ⟨.ref a, H, I, rfl, q1 hw⟩
  · refine HT.getItem_tuple_cut ht hs pl pu (by rw [hl]; exact hw) ?_ (by rw [hl]; exact hz)
    rw [hl]
    obtain ⟨J, hn⟩ := inv_newT I (xs := cutV xs lo hi) (Nat.le_trans (cutV_length xs lo hi) hz) ((r.drop (HT.sIx xs.length 0 lo)).take (HT.sIx xs.length xs.length hi - HT.sIx xs.length 0 lo)) s.toks
    exact ⟨.ref s.heap.objs.size, _, J, rfl, q2 _ _ rfl hn⟩
theorem sl_all : L2.SlR X (fun x lo hi H Q => rSlL X.K x lo hi H Q ∨ (rSlF X.K x lo hi H Q ∨ rSlS x lo hi H Q)) := sl_list.or (sl_tupF.or sl_str)
theorem cutV_map (ns : List Int) (lo hi : Option Int) : cutV (ns.map V.int) lo hi = (cutI ns lo hi).map V.int := by
  unfold cutV cutI
  rw [List.length_map, List.map_take, List.map_drop]
theorem de_sl (hK : X.K = c.K) {m : M G} {ml mh : M (Option Int)} {lo hi : Option Expr} {p2 : Pos} (h : DG X c W e m) (hl : DO X c W lo ml) (hh : DO X c W hi mh) : DE X c W (.Subscript e (.Slice lo hi none p2) pos) (slM m ml mh) := by
  refine PE.less (pe_slice sl_all h hl hh) fun σ H Q ⟨w, st, r, p⟩ => ?_
  refine ⟨w, st, r, (Pst.bind p rG.tk).mono fun v1 H1 ⟨x, w1, st1, r1, q1, x1, t1, p1⟩ => ?_⟩
  refine ⟨w1, st1, r1, (Pst.bind p1 rO.tk).mono fun v2 H2 ⟨y, w2, st2, r2, q2, x2, t2, p2⟩ => ?_⟩
  refine ⟨w2, st2, r2, (Pst.bind p2 rO.tk).mono fun v3 H3 ⟨z, w3, st3, r3, q3, x3, t3, p3⟩ => ?_⟩
  obtain ⟨_, rfl⟩ := q2
  obtain ⟨_, rfl⟩ := q3
  obtain ⟨d, k1, p3⟩ := p3.res r3 ((q1.2.ext x2).ext x3)
  obtain ⟨r4, e4, k4⟩ := p3.prim r3
  unfold slD at e4
  split at e4
  · cases e4
    obtain ⟨a, xs, rfl, h2, h3⟩ := k1.lst
    exact .inl ⟨a, xs, rfl, hK ▸ h2, fun p hp => k4.lst (h3.cut _ _) hp⟩
  · cases e4
    obtain ⟨a, xs, rfl, h2, h3, h4⟩ := k1.tup
    refine .inr (.inl ⟨a, xs, rfl, hK ▸ h2, fun hw => k4.same rfl ?_, fun p o ho hp => k4.tup r3.exA (h3.cut _ _) ho hp⟩)
    rw [h3.length] at hw
    rw [show (∀ {ds : List D} {lo hi : Option Int}, (HT.sIx ds.length 0 lo = 0 ∧ HT.sIx ds.length ds.length hi = ds.length) → cutD ds lo hi = ds) from fun {ds lo hi} hw => by unfold cutD; rw [hw.1, hw.2]; simp] <;> assumption
  · cases e4
    obtain ⟨a, rfl, h2⟩ := k1.scr
    exact .inl ⟨a, _, rfl, hK ▸ h2, fun p hp => by rw [cutV_map]; exact k4.lst (reps_ints _) hp⟩
  · split at e4
    · rename_i hz
      cases e4
      cases k1.str
      exact .inr (.inr ⟨_, rfl, hz, k4.str⟩)
    · cases e4
  · cases e4
/-- xs[::-1] of a list -/
def revD : D → Option R
  | .lst ds => some (.lst ds.reverse, true)
  | _ => none
theorem de_rev (hK : X.K = c.K) {m : M G} {k : Nat} {p1 p2 p3 : Pos} (h : DG X c W e m) : DE X c W (.Subscript e (.Slice none none (some (.UnaryOp .USub (.Constant (.int 1) k p1) p2)) p3) pos) (unM revD m) := by
  refine PE.less (pe_revL h) fun σ H Q ⟨w, st, r, p⟩ => ?_
  refine ⟨w, st, r, (Pst.bind p rG.tk).mono fun v1 H1 ⟨x, w1, st1, r1, q1, x1, t1, p1⟩ => ?_⟩
  obtain ⟨d, k1, p1⟩ := p1.res r1 q1.2
  obtain ⟨r2, e2, k2⟩ := p1.prim r1
  unfold revD at e2
  split at e2
  · cases e2
    obtain ⟨a, xs, rfl, h2, h3⟩ := k1.lst
    exact ⟨a, xs, rfl, hK ▸ h2, fun p hp => k2.lst h3.reverse hp⟩
  · cases e2
/-! ### isinstance of what is built in -/
def tyD : D → Option String
  | .non => some "NoneType"
  | .bl _ => some "bool"
  | .int _ => some "int"
  | .str _ => some "str"
  | .tup _ => some "tuple"
  | .lst _ => some "list"
  | .scr _ => none
  | _ => none
/-- the types that may be asked -/
def tyAsk (t : String) : Bool := t == "bool" || t == "int" || t == "str" || t == "tuple" || t == "list"
def isTy (t u : String) : Bool := t == u || (t == "bool" && u == "int")
theorem isTy_ok {t u : String} (h : t ∈ ["NoneType", "bool", "int", "str", "tuple", "list"]) (k : tyAsk u = true) : kitB t u = some (isTy t u) := by
  have hu : u ∈ ["bool", "int", "str", "tuple", "list"] := by
    unfold tyAsk at k
    simp only [Bool.or_eq_true, beq_iff_eq] at k
    simp only [List.mem_cons, List.not_mem_nil, or_false]
    rcases k with (((k | k) | k) | k) | k
    · exact .inl k
    · exact .inr (.inl k)
    · exact .inr (.inr (.inl k))
    · exact .inr (.inr (.inr (.inl k)))
    · exact .inr (.inr (.inr (.inr k)))
  have all : ∀ t ∈ ["NoneType", "bool", "int", "str", "tuple", "list"], ∀ u ∈ ["bool", "int", "str", "tuple", "list"], kitB t u = some (isTy t u) := by decide +kernel
  exact all t h u hu
theorem tyD_mem {d : D} {t : String} (h : tyD d = some t) : t ∈ ["NoneType", "bool", "int", "str", "tuple", "list"] := by
  unfold tyD at h
  split at h <;> cases h <;> decide
theorem Pk.tyX {v : V} {d : D} {t : String} (k : Pk c w H v d) (h : tyD d = some t) : TyX c.K H v (.type t) := by
  unfold tyD at h
  split at h <;> cases h
  · cases k.non; exact .base .non
  · cases k.bl; exact .base (.bl _)
  · cases k.int; exact .base (.int _)
  · cases k.str; exact .base (.str _)
  · rcases k with k | ⟨a, rfl, k⟩
    · cases k with
      | tup n r =>
        rcases n with ⟨_, o, n, _⟩ | ⟨o, its, n, h1, h2, _⟩
        · exact .fTuple n
        · exact .kTuple h1 h2
    · cases k
  · obtain ⟨a, xs, rfl, h1, _⟩ := k.lst'
    exact .base (.lst h1)
def isiD (ts : List String) (d : D) : Option R := (tyD d).map fun t => blD (ts.any (isTy t))
variable {x : Str} {p : Pos}
theorem vty {n : String} {u : Value} (r : RelV (.ty n) u) : u = .type n := r
/-- isinstance(e, T) -/
theorem de_isi (hK : X.K = c.K) {m : M G} {T : String} {p2 : Pos} {y : Str} (h : DG X c W e m) (hy : PE X (.Name y p2) (tC (.ty T))) (ht : tyAsk T = true) (hg : Gl X "isinstance") (hm : X.mg "isinstance" = none) (h1 : starEach [e, .Name y p2] X.env = (false, eval e X.env) :: starEach [.Name y p2] X.env) :
    DE X c W (.Call (.Name "isinstance" p) [e, .Name y p2] [] pos) (unM (isiD [T]) m) := by
  refine PE.less (pe_callB call_isi hg hm boot_isinstance (pa_cons h (pa_cons hy pa_nil) h1) (he := h1)) fun σ H Q ⟨w, st, r, p⟩ => ?_
  refine ⟨w, st, r, (Pst.bind p rG.tk).mono fun v1 H1 ⟨x, w1, st1, r1, q1, x1, t1, p1⟩ => ?_⟩
  obtain ⟨d, k1, p1⟩ := p1.res r1 q1.2
  obtain ⟨r2, e2, k2⟩ := p1.prim r1
  obtain ⟨t, e3, rfl⟩ := Option.map_eq_some_iff.mp e2
  refine ⟨v1, .ty T, .type t, .type T, _, rfl, .ty T, hK ▸ k1.tyX e3, kit_ty (isTy_ok (tyD_mem e3) ht), ?_⟩
  have := k2.bl
  simpa using this
theorem kitAny_ty {t : String} (ht : t ∈ ["NoneType", "bool", "int", "str", "tuple", "list"]) : ∀ ts : List String, ts.all tyAsk = true → PySem.W.kitAny X.K (.type t) (ts.map .type) = some (ts.any (isTy t))
  | [], _ => kitAny_nil
  | u :: ts, h => by
    simp only [List.all_cons, Bool.and_eq_true] at h
    refine kitAny_cons (kit_ty (isTy_ok ht h.1)) (fun e => ?_) fun e => ?_
    · rw [kitAny_ty ht ts h.2, List.any_cons, e, Bool.false_or]
    · rw [List.any_cons, e, Bool.true_or]
/-- types written one behind another -/
def tTys (ts : List String) : TA := fun _ H Q => Q (ts.map V.ty) H
theorem pa_ty {y : Str} {p2 : Pos} {T : String} {ts : List String} {es : List Expr} (hy : PE X (.Name y p2) (tC (.ty T))) (h : PA X es (tTys ts)) (h1 : starEach (.Name y p2 :: es) X.env = (false, eval (.Name y p2) X.env) :: starEach es X.env := by rfl) : PA X (.Name y p2 :: es) (tTys (T :: ts)) :=
  PA.less (pa_cons hy h h1) fun _ _ _ h => h
theorem pa_ty0 : PA X [] (tTys []) := pa_nil
theorem clsVs : ∀ ts : List String, Paired ClsV (ts.map V.ty) (ts.map Value.type)
  | [] => .nil
  | t :: ts => .cons (.ty t) (clsVs ts)
theorem de_isiT (hK : X.K = c.K) {m : M G} {ts : List String} {k : Nat} {p2 : Pos} (h : DG X c W e m) (hy : PA X es (tTys ts)) (ht : ts.all tyAsk = true) (hl : ts.length ≤ 100) (hg : Gl X "isinstance") (hm : X.mg "isinstance" = none) (h1 : starEach [e, .Tuple es k p2] X.env = (false, eval e X.env) :: starEach [.Tuple es k p2] X.env) :
    DE X c W (.Call (.Name "isinstance" p) [e, .Tuple es k p2] [] pos) (unM (isiD ts) m) := by
  refine PE.less (pe_callB call_isiT hg hm boot_isinstance (pa_cons h (pa_cons (pe_tup hy) pa_nil) h1) (he := h1)) fun σ H Q ⟨w, st, r, p⟩ => ?_
  refine ⟨w, st, r, (Pst.bind p rG.tk).mono fun v1 H1 ⟨x, w1, st1, r1, q1, x1, t1, p1⟩ => ?_⟩
  obtain ⟨d, k1, p1⟩ := p1.res r1 q1.2
  obtain ⟨r2, e2, k2⟩ := p1.prim r1
  obtain ⟨t, e3, rfl⟩ := Option.map_eq_some_iff.mp e2
  have hz : (ts.map V.ty).length ≤ sizeLine := by rw [List.length_map, sizeLine_eq]; omega
  refine ⟨hz, fun q hq => ?_⟩
  have s1 : Same H1 (upd H1 q (.tup (ts.map V.ty))) := Same.upd hq
  have k3 : Pk c w1 (upd H1 q (.tup (ts.map V.ty))) v1 d := by
    rcases k1 with k1 | ⟨a, rfl, k1⟩
    · exact .inl ((s1.gr _ _).rep k1)
    · exact .inr ⟨a, rfl, k1.gr (s1.gr _ _) fun o => s1 a o⟩
  refine ⟨v1, q, ts.map V.ty, .type t, ts.map .type, _, rfl, upd_same, clsVs ts, hK ▸ k3.tyX e3, kitAny_ty (tyD_mem e3) ts ht, ?_⟩
  exact k2 _ _ s1 (.bl _)
end
end Pv
namespace Pv
open PySem PySem.Spec PyProof.Rows L2

section
variable {X : Cx} {c : Cn} {W : WX} {w : Wt} {st : Sto} {σ : Sv} {H H' : Hp} {pins : List (Addr × Obj)} {s : Shared} {pos : Pos} {e a b : Expr} {es : List Expr}
/-! ### blocks -/
def Sst (c : Cn) (W : WX) (m : M Fl) (w : Wt) (st : Sto) (H : Hp) (D : Ends) : Prop := match m st with
  | .ok f st' => ∀ σ' H' w', Rel c w' st' σ' H' → Ext c w H w' H' → (match f with
    | .next => w'.tm = [] → D.nx σ' H'
    | .brk => w'.tm = [] → D.bk σ' H'
    | .cont => w'.tm = [] → D.ct σ' H'
    | .ret r => ∀ v, rR c [] w' H' v r → D.rt v H')
  | .err x st' => ∀ cls d σ' H' w', Rel c w' st' σ' H' → Ext c w H w' H' → w'.tm = [] → c.xr w'.cs (w'.av c) H' x cls d → W cls d σ' H'
  | .stuck => False
def tSt (c : Cn) (W : WX) (m : M Fl) : TS := fun D σ H => ∃ w st, Rel c w st σ H ∧ w.tm = [] ∧ Sst c W m w st H D
abbrev DS (X : Cx) (c : Cn) (W : WX) (t : Stmt) (m : M Fl) : Prop := PS X t (tSt c W m)
abbrev DSs (X : Cx) (c : Cn) (W : WX) (t : List Stmt) (m : M Fl) : Prop := PSs X t (tSt c W m)
theorem PS.less {t : Stmt} {f g : TS} (h : PS X t f) (k : ∀ D σ H, g D σ H → f D σ H) : PS X t g := ⟨fun pins s σ H D I hu => h.run pins s σ H D I (k _ _ _ hu)⟩
theorem PSs.less {t : List Stmt} {f g : TS} (h : PSs X t f) (k : ∀ D σ H, g D σ H → f D σ H) : PSs X t g := ⟨fun pins s σ H D I hu => h.run pins s σ H D I (k _ _ _ hu)⟩
/-- an expression, then the rest of the statement -/
theorem Sst.bind {α β : Type} {rr : RT β α} {m : M α} {f : α → M Fl} {D : Ends} (h : Sst c W (M.bind m f) w st H D) (h0 : w.tm = []) :
    Pst c W rr m w st σ H fun v H1 => ∃ a w1 st1, Rel c w1 st1 σ H1 ∧ rr w.tm w1 H1 v a ∧ Ext c w H w1 H1 ∧ Sst c W (f a) w1 st1 H1 { D with } := by
  unfold Sst at h
  unfold Pst
  cases e : m st with
  | stuck => rw [M.bind_stuck e] at h; exact h
  | err x st' =>
    rw [M.bind_err e] at h
    exact fun cls d H' w' r x t q => h cls d σ H' w' r x (t.trans h0) q
  | ok a st1 =>
    rw [M.bind_ok e] at h
    intro v H1 w1 r1 x1 q1
    refine ⟨a, w1, st1, r1, q1, x1, ?_⟩
    have sub : ∀ y ∈ w.tm, y ∈ w1.tm := fun y hy => by rw [h0] at hy; cases hy
    unfold Sst
    cases e1 : f a st1 with
    | stuck => rw [e1] at h; exact h
    | err x st' =>
      rw [e1] at h
      exact fun cls d σ' H' w' r' x' t' q => h cls d σ' H' w' r' (x1.trans x' sub) t' q
    | ok fl st2 =>
      rw [e1] at h
      intro σ' H' w' r' x'
      have := h σ' H' w' r' (x1.trans x' sub)
      exact this
theorem Sst.next {m : M Fl} {D : Ends} (h : Sst c W (M.pure .next) w st H D) (r : Rel c w st σ H) (t : w.tm = []) : D.nx σ H := h σ H w r (Ext.refl _ _ _) t
def seqS (m n : M Fl) : M Fl := M.bind m fun f => match f with
  | .next => n
  | f => M.pure f
theorem ds_nil : DSs X c W [] (M.pure .next) := PSs.less pss_nil fun D σ H ⟨w, st, r, t, p⟩ => p σ H w r (Ext.refl _ _ _) t
theorem Sst.seq {m n : M Fl} {D : Ends} (h : Sst c W (seqS m n) w st H D) (h0 : w.tm = []) : Sst c W m w st H { D with nx := tSt c W n D } := by
  unfold Sst at h ⊢
  unfold seqS at h
  cases e : m st with
  | stuck => rw [M.bind_stuck e] at h; exact h
  | err x st' => rw [M.bind_err e] at h; exact h
  | ok f st1 =>
    rw [M.bind_ok e] at h
    have sub : ∀ (w1 : Wt), ∀ y ∈ w.tm, y ∈ w1.tm := fun w1 y hy => by rw [h0] at hy; cases hy
    cases f with
    | next =>
      intro σ1 H1 w1 r1 x1 t1
      refine ⟨w1, st1, r1, t1, ?_⟩
      unfold Sst
      simp only at h
      cases e1 : n st1 with
      | stuck => rw [e1] at h; exact h
      | err x st' =>
        rw [e1] at h
        exact fun cls d σ' H' w' r' x' t' q => h cls d σ' H' w' r' (x1.trans x' (sub _)) t' q
      | ok fl st2 =>
        rw [e1] at h
        exact fun σ' H' w' r' x' => h σ' H' w' r' (x1.trans x' (sub _))
    | brk => exact h
    | cont => exact h
    | ret r => exact h
theorem ds_cons {t : Stmt} {ts : List Stmt} {m n : M Fl} (h : DS X c W t m) (k : DSs X c W ts n) : DSs X c W (t :: ts) (seqS m n) :=
  PSs.less (pss_cons h k) fun D σ H ⟨w, st, r, t, p⟩ => ⟨w, st, r, t, p.seq t⟩
theorem ds_one {t : Stmt} {m : M Fl} (h : DS X c W t m) : DSs X c W [t] m := pss_one h
/-! ### what is written at a held place -/
theorem ix_eq {α : Type} {l : List α} (nd : l.Nodup) {i j : Nat} {x : α} (a : l[i]? = some x) (b : l[j]? = some x) : i = j := by
  obtain ⟨h1, e1⟩ := List.getElem?_eq_some_iff.mp a
  obtain ⟨h2, e2⟩ := List.getElem?_eq_some_iff.mp b
  exact (List.getElem_inj nd).mp (e1.trans e2.symm)
theorem held_ix {p : Addr} : ∀ (l : List (Option Addr)) (i j : Nat), (l.filterMap id).Nodup → l[i]? = some (some p) → l[j]? = some (some p) → j = i := by
  intro l
  induction l with
  | nil => intro i j _ h; simp at h
  | cons o l ih =>
    intro i j nd4 h hj
    have nd' : (l.filterMap id).Nodup := by
      cases o with
      | none => simpa using nd4
      | some x => simp only [List.filterMap_cons, id] at nd4; exact (List.nodup_cons.mp nd4).2
    cases i with
    | zero =>
      cases j with
      | zero => rfl
      | succ j =>
        simp at h; subst h
        simp only [List.filterMap_cons, id] at nd4
        exact absurd (mem_owned.mpr (List.mem_of_getElem? (by simpa using hj))) (List.nodup_cons.mp nd4).1
    | succ i =>
      cases j with
      | zero =>
        simp at hj; subst hj
        simp only [List.filterMap_cons, id] at nd4
        exact absurd (mem_owned.mpr (List.mem_of_getElem? (by simpa using h))) (List.nodup_cons.mp nd4).1
      | succ j => rw [ih i j nd' (by simpa using h) (by simpa using hj)]
theorem nodup_held (r : Rel c w st σ H) {i : Nat} {p : Addr} (h : w.ow[i]? = some (some p)) : p ∉ w.cs ∧ p ∉ w.tm ∧ ¬ c.av0 p ∧ ∀ (j : Nat), w.ow[j]? = some (some p) → j = i := by
  obtain ⟨nd1, nd2, nd3⟩ := List.nodup_append.mp r.nd
  obtain ⟨nd4, nd5, nd6⟩ := List.nodup_append.mp nd2
  have hm : some p ∈ w.ow := List.mem_of_getElem? h
  refine ⟨fun q => nd3 p q p (List.mem_append_left _ (mem_owned.mpr hm)) rfl, fun q => nd6 p (mem_owned.mpr hm) p q rfl, fun q => r.a0 p q (r.nw p (.inl hm)), fun j hj => held_ix _ _ _ nd4 h hj⟩
/-- a write at p, which nothing else reads off -/
theorem upd_gr {p : Addr} {o : HO} (hp : w.av c p) : Gr H (upd H p o) w.cs w.cs (w.av c) (w.av c) :=
  ⟨fun a u h n => by rw [upd_ne (fun z => n (by rw [z]; exact hp))]; exact h, fun _ h => .inl h, List.prefix_refl _⟩
theorem upd_ext {p : Addr} {o : HO} (hp : w.av c p) (ht : p ∉ w.tm) : Ext c w H w (upd H p o) := ⟨upd_gr hp, fun a ha => upd_ne fun z => ht (by rw [← z]; exact ha)⟩
theorem Rel.write {i : Nat} {p : Addr} {d d' : D} {o : HO} (r : Rel c w st σ H) (e : st.ρ[i]? = some (.ow d)) (ew : w.ow[i]? = some (some p))
    (t : Top c w.cs (w.av c) (upd H p o) p d') : Rel c w { st with ρ := st.ρ.set i (.ow d') } σ (upd H p o) ∧ Ext c w H w (upd H p o) := by
  obtain ⟨n1, n2, n3, n4⟩ := nodup_held r ew
  have hm : some p ∈ w.ow := List.mem_of_getElem? ew
  have hp : w.av c p := .inr (.inr (.inl hm))
  have g : Gr H (upd H p o) w.cs w.cs (w.av c) (w.av c) := upd_gr hp
  refine ⟨⟨r.a0, fun a u h n => ?_, r.pre, r.nd, r.nw, fun a h q => ?_, r.len, fun k cell a h1 h2 => ?_, by simpa using r.lo, by simpa using r.ls, fun j s o' v h1 h2 h3 => ?_⟩, upd_ext hp n2⟩
  · rw [upd_ne (fun z => by rw [z, r.nw p (.inl hm)] at h; cases h)]; exact r.fr a u h n
  · by_cases z : a = p
    · rw [z, upd_same] at q; cases q
    · rw [upd_ne z] at q; exact r.ex a h q
  · exact (r.cells k cell a h1 h2).gr g fun u hu => by rw [upd_ne (fun z => n1 (by rw [← z]; exact List.mem_of_getElem? h2))]; exact hu
  · by_cases hj : j = i
    · subst hj
      have hi : j < st.ρ.length := (List.getElem?_eq_some_iff.mp e).1
      have h1' : some (Sl.ow d') = some s := by rw [← h1, List.getElem?_set_self hi]
      cases h1'
      rw [ew] at h2; cases h2
      obtain ⟨b, q1, q2, _⟩ := r.sl j _ _ _ e ew h3
      cases q1
      exact ⟨p, rfl, q2, t⟩
    · have h1' : st.ρ[j]? = some s := by rw [← h1]; exact (List.getElem?_set_ne (Ne.symm hj)).symm
      exact (r.sl j s o' v h1' h2 h3).gr g fun b u hb hu => by
        rw [upd_ne (fun z => hj (n4 j (by rw [h2, hb, z])))]; exact hu
theorem Rel.writeCell {k : Nat} {p : Addr} {cell' : Cell} {o : HO} (r : Rel c w st σ H) (ew : w.cs[k]? = some p)
    (t : CellR c w.cs (w.av c) (upd H p o) p cell') : Rel c w { st with S := st.S.set k cell' } σ (upd H p o) ∧ Ext c w H w (upd H p o) := by
  obtain ⟨nd1, nd2, nd3⟩ := List.nodup_append.mp r.nd
  have hm : p ∈ w.cs := List.mem_of_getElem? ew
  have hp : w.av c p := .inr (.inl hm)
  have g : Gr H (upd H p o) w.cs w.cs (w.av c) (w.av c) := upd_gr hp
  have nt : p ∉ w.tm := fun q => nd3 p hm p (List.mem_append_right _ q) rfl
  have no : some p ∉ w.ow := fun q => nd3 p hm p (List.mem_append_left _ (mem_owned.mpr q)) rfl
  refine ⟨⟨r.a0, fun a u h n => ?_, r.pre, r.nd, r.nw, fun a h q => ?_, by simpa using r.len, fun j cell a h1 h2 => ?_, r.lo, r.ls, fun j s o' v h1 h2 h3 => ?_⟩, upd_ext hp nt⟩
  · by_cases q : p ∈ c.cs0
    · rw [upd_ne (fun z => n (by rw [z]; exact q))]; exact r.fr a u h n
    · rw [upd_ne (fun z => by rw [z, r.nw p (.inr (.inr ⟨hm, q⟩))] at h; cases h)]; exact r.fr a u h n
  · by_cases z : a = p
    · rw [z, upd_same] at q; cases q
    · rw [upd_ne z] at q; exact r.ex a h q
  · by_cases hj : j = k
    · subst hj
      rw [ew] at h2; cases h2
      have hi : j < st.S.length := by rw [← r.len]; exact (List.getElem?_eq_some_iff.mp ew).1
      have h1' : some cell' = some cell := by rw [← h1, List.getElem?_set_self hi]
      cases h1'
      exact t
    · have h1' : st.S[j]? = some cell := by rw [← h1]; exact (List.getElem?_set_ne (Ne.symm hj)).symm
      exact (r.cells j cell a h1' h2).gr g fun u hu => by
        rw [upd_ne (fun z => hj (ix_eq nd1 h2 (by rw [z]; exact ew)))]; exact hu
  · exact (r.sl j s o' v h1 h2 h3).gr g fun b u hb hu => by
      rw [upd_ne (fun z => no (by rw [← z, ← hb]; exact List.mem_of_getElem? h2))]; exact hu
end
end Pv
namespace Pv
open PySem PySem.Spec PyProof.Rows L2

section
variable {X : Cx} {c : Cn} {W : WX} {w : Wt} {st : Sto} {σ : Sv} {H H' : Hp} {pins : List (Addr × Obj)} {s : Shared} {pos apos cpos : Pos} {e a b o : Expr} {es : List Expr}
/-! ### methods of what is built in: the receiver's type by what every state shows -/
def TyE (X : Cx) (T : String) (x : V) (H : Hp) : Prop := ∀ (pins : List (Addr × Obj)) (s : Shared) (σ : Sv) (v : Value), Inv X pins σ H s → RelV x v →
  s.TypeIs v T ∧ ∀ a, v = .ref a → ∃ ob, s.heap.get? a = some ob ∧ ob.dict = none
theorem TyE.of {T : String} {x : V} (h : tyV X.K T x H) : TyE X T x H := fun _ _ _ _ I r => tyV_is I r h
theorem TyE.list {xs : List V} {p : Addr} (h : SqL X.K H p xs) : TyE X "list" (.ref p) H := .of (.inl ⟨rfl, xs, h⟩)
theorem TyE.str {z : Str} : TyE X "str" (.str z) H := .of rfl
def tMe (X : Cx) (T : String) (r : V → List V → Hp → VK → Prop) (to : TE) (t : TA) : TE := fun σ H Q => to σ H fun x H1 => TyE X T x H1 ∧ t σ H1 fun xs H2 => r x xs H2 Q
variable {to : TE} {t : TA} {name : Str} {T id : String} {r : V → List V → Hp → VK → Prop}
theorem pe_me (pa : PlainAttrs T) (slot : Slot T name id) (hty : typeOf (.builtin id) = pure (.type "method_descriptor")) (hm : MtR X id r) (ho : PE X o to) (ha : PA X (e :: es) t)
    (h1 : attributeBase o name X.env (eval o X.env) = eval o X.env)
    (h2 : ((backTo cpos (starEach (e :: es) X.env)).all (fun x => !x.1) && (backToKw cpos (keywordEach [] X.env)).all (fun x => x.1.isSome)
      && decide ((e :: es).length + ([] : List Keyword).length + (if ([] : List Keyword).isEmpty then 0 else 1) < 30)) = true)
    (h3 : (apos.endLine == cpos.line) = true) (h4 : starEach (e :: es) X.env = (false, eval e X.env) :: starEach es X.env) (h5 : (backTo cpos (starEach es X.env)).any (·.1) = false) :
    PE X (.Call (.Attribute o name apos) (e :: es) [] cpos) (tMe X T r to t) := by
  constructor
  intro pins s σ H Q I h
  refine wpAny_Call_method_late h1 h2 h3 rfl (thn (ho.run pins s σ H _ I h) fun v s1 hv => ?_)
  obtain ⟨x, H1, I1, r1, ty, q1⟩ := hv
  obtain ⟨t1, t2⟩ := ty pins s1 σ v I1 r1
  refine ⟨T, id, pa, slot, hty, t1, t2, ?_⟩
  have hA := ha.run cpos pins s1 σ H1 _ I1 q1
  rw [h4] at hA ⊢
  refine Calls.callWith_builtin ?_ (Calls.evalArgs_plain (thn hA fun us s2 hu => ?_))
  · show (false || (backTo cpos (starEach es X.env)).any (·.1)) = false
    rw [h5]; rfl
  · obtain ⟨vs, H2, I2, r2, q2⟩ := hu
    exact hm pins s2 σ H2 x vs v us Q I2 r1 r2 q2
def tMe0 (X : Cx) (T : String) (r : V → List V → Hp → VK → Prop) (to : TE) : TE := fun σ H Q => to σ H fun x H1 => TyE X T x H1 ∧ r x [] H1 Q
theorem pe_me0 (pa : PlainAttrs T) (slot : Slot T name id) (hty : typeOf (.builtin id) = pure (.type "method_descriptor")) (hm : MtR X id r) (ho : PE X o to)
    (h1 : attributeBase o name X.env (eval o X.env) = eval o X.env) (h3 : (apos.endLine == cpos.line) = true) : PE X (.Call (.Attribute o name apos) [] [] cpos) (tMe0 X T r to) := by
  constructor
  intro pins s σ H Q I h
  refine wpAny_Call_method0_late h1 h3 (thn (ho.run pins s σ H _ I h) fun v s1 hv => ?_)
  obtain ⟨x, H1, I1, r1, ty, q1⟩ := hv
  obtain ⟨t1, t2⟩ := ty pins s1 σ v I1 r1
  exact ⟨T, id, pa, slot, hty, t1, t2, Calls.callWith_builtin rfl (PySem.evalArgs_none (hm pins s1 σ H1 x [] v [] Q I1 r1 .nil q1))⟩
/-! ### a list that a name holds: append, extend, pop -/
def ownL (i : Nat) (st : Sto) : Option (List D) := match st.ρ[i]? with
  | some (.ow (.lst ds)) => some ds
  | _ => none
def setOw (i : Nat) (d : D) (st : Sto) : Sto := { st with ρ := st.ρ.set i (.ow d) }
theorem ownL_some {i : Nat} {ds : List D} (h : ownL i st = some ds) : st.ρ[i]? = some (.ow (.lst ds)) := by
  unfold ownL at h
  split at h
  · rename_i q; cases h; exact q
  · cases h
theorem Rel.own (r : Rel c w st σ H) {i : Nat} {d : D} (h : st.ρ[i]? = some (.ow d)) : ∃ p, w.ow[i]? = some (some p) ∧ σ[i]? = some (some (.ref p)) ∧ Top c w.cs (w.av c) H p d := by
  obtain ⟨o, v, h1, h2, p, h3, h4, h5⟩ := r.at h
  subst h3 h4
  exact ⟨p, h1, h2, h5⟩
theorem Rel.ownLst (r : Rel c w st σ H) {i : Nat} {ds : List D} (h : ownL i st = some ds) : ∃ p xs, w.ow[i]? = some (some p) ∧ σ[i]? = some (some (.ref p)) ∧ H p = some (.lst xs) ∧ RepsW c w H xs ds := by
  obtain ⟨p, h1, h2, h3⟩ := r.own (ownL_some h)
  cases h3 with | lst a b => exact ⟨p, _, h1, h2, a, b⟩
/-- the list at i becomes ds' -/
theorem Rel.putLst {i : Nat} {p : Addr} {ds ds' : List D} {xs' : List V} (r : Rel c w st σ H) (h : ownL i st = some ds) (ew : w.ow[i]? = some (some p)) (q : RepsW c w H xs' ds') :
    Rel c w (setOw i (.lst ds') st) σ (upd H p (.lst xs')) ∧ Ext c w H w (upd H p (.lst xs')) := by
  have hp : w.av c p := .inr (.inr (.inl (List.mem_of_getElem? ew)))
  exact r.write (ownL_some h) ew (.lst upd_same ((upd_gr hp).reps q))
def appF (i : Nat) (d : D) : M R := fun st => match ownL i st with
  | some ds => if ds.length < sizeLine then .ok (.non, false) (setOw i (.lst (ds ++ [d])) st) else .stuck
  | none => .stuck
def appM (i : Nat) (m : M D) : M R := M.bind (M.look (ownL i)) fun _ => M.bind m fun d => appF i d
variable {x : Str} {px : Pos} {i : Nat}
/-- the receiver: a name that holds a list -/
def tOwn (i : Nat) : TE := tVar i
theorem own_start {f : List D → M R} {Q : VK} (r : Rel c w st σ H) (p : Pst c W (rR c) (M.bind (M.look (ownL i)) f) w st σ H Q) :
    ∃ p xs ds, w.ow[i]? = some (some p) ∧ σ[i]? = some (some (.ref p)) ∧ H p = some (.lst xs) ∧ RepsW c w H xs ds ∧ ownL i st = some ds ∧ Pst c W (rR c) (f ds) w st σ H Q := by
  cases e : ownL i st with
  | none =>
    have e1 : M.look (ownL i) st = .stuck := by unfold M.look; rw [e]
    unfold Pst at p
    rw [M.bind_stuck e1] at p
    exact p.elim
  | some ds =>
    have e1 : M.look (ownL i) st = .ok ds st := by unfold M.look; rw [e]
    obtain ⟨q, xs, h1, h2, h3, h4⟩ := r.ownLst e
    refine ⟨q, xs, ds, h1, h2, h3, h4, rfl, ?_⟩
    unfold Pst at p ⊢
    rw [M.bind_ok e1] at p
    exact p
theorem de_append (hK : X.K = c.K) {m : M D} (hN : X.N[i]? = some x) (hv : Vis X.env.scope x) (hd : (x == ("__debug__" : Str)) = false) (hcd : (x == ("__classdict__" : Str)) = false) (h : DV X c W e m)
    (h1 : attributeBase (.Name x px) "append" X.env (eval (.Name x px) X.env) = eval (.Name x px) X.env)
    (h2 : ((backTo cpos (starEach [e] X.env)).all (fun x => !x.1) && (backToKw cpos (keywordEach [] X.env)).all (fun x => x.1.isSome) && decide ([e].length + ([] : List Keyword).length + (if ([] : List Keyword).isEmpty then 0 else 1) < 30)) = true)
    (h3 : (apos.endLine == cpos.line) = true) (h4 : starEach [e] X.env = (false, eval e X.env) :: starEach [] X.env) :
    DE X c W (.Call (.Attribute (.Name x px) "append" apos) [e] [] cpos) (appM i m) := by
  refine PE.less (pe_me PySem.F.plainAttrs_list PySem.F.slot_list_append PySem.F.type_list_append mt_append (pe_var hN hv hd hcd) (pa_cons h pa_nil h4) h1 h2 h3 h4 rfl) fun σ H Q ⟨w, st, r, p⟩ => ?_
  obtain ⟨q, xs, ds, ew, es, hx, rx, eo, p1⟩ := own_start r p
  refine ⟨.ref q, es, .list (SqL.of hx), ?_⟩
  refine ⟨w, st, r, (Pst.bind p1 rD.tk).mono fun v1 H1 ⟨d, w1, st1, r1, q1, x1, t1, p2⟩ => ?_⟩
  unfold Pst appF at p2
  cases e1 : ownL i st1 with
  | none => simp only [e1] at p2
  | some ds1 =>
    simp only [e1] at p2
    split at p2
    · rename_i a0 s0 heq
      split at heq
      · rename_i hz
        cases heq
        obtain ⟨p', xs', h1, h2, h3, h4⟩ := r1.ownLst e1
        rw [es] at h2; cases h2
        obtain ⟨r2, x2⟩ := r1.putLst e1 h1 (h4.append (.cons q1.2 .nil))
        exact ⟨q, xs', v1, rfl, rfl, h3, by rw [h4.length]; exact hz, p2 _ _ _ r2 x2 ⟨rfl, .non⟩⟩
      · cases heq
    · rename_i heq
      split at heq <;> cases heq
    · exact p2.elim
def extF (i : Nat) (d : D) : M R := fun st => match ownL i st, d with
  | some ds, .lst es => if ds.length + es.length ≤ sizeLine then .ok (.non, false) (setOw i (.lst (ds ++ es)) st) else .stuck
  | _, _ => .stuck
def extM (i : Nat) (m : M G) : M R := M.bind (M.look (ownL i)) fun _ => M.bind m fun x => M.bind (res x) fun d => extF i d
theorem de_extend (hK : X.K = c.K) {m : M G} (hN : X.N[i]? = some x) (hv : Vis X.env.scope x) (hd : (x == ("__debug__" : Str)) = false) (hcd : (x == ("__classdict__" : Str)) = false) (h : DG X c W e m)
    (h1 : attributeBase (.Name x px) "extend" X.env (eval (.Name x px) X.env) = eval (.Name x px) X.env)
    (h2 : ((backTo cpos (starEach [e] X.env)).all (fun x => !x.1) && (backToKw cpos (keywordEach [] X.env)).all (fun x => x.1.isSome) && decide ([e].length + ([] : List Keyword).length + (if ([] : List Keyword).isEmpty then 0 else 1) < 30)) = true)
    (h3 : (apos.endLine == cpos.line) = true) (h4 : starEach [e] X.env = (false, eval e X.env) :: starEach [] X.env) :
    DE X c W (.Call (.Attribute (.Name x px) "extend" apos) [e] [] cpos) (extM i m) := by
  refine PE.less (pe_me PySem.F.plainAttrs_list PySem.F.slot_list_extend PySem.F.type_list_extend mt_extend (pe_var hN hv hd hcd) (pa_cons h pa_nil h4) h1 h2 h3 h4 rfl) fun σ H Q ⟨w, st, r, p⟩ => ?_
  obtain ⟨q, xs, ds, ew, es, hx, rx, eo, p1⟩ := own_start r p
  refine ⟨.ref q, es, .list (SqL.of hx), ?_⟩
  refine ⟨w, st, r, (Pst.bind p1 rG.tk).mono fun v1 H1 ⟨x0, w1, st1, r1, q1, x1, t1, p2⟩ => ?_⟩
  obtain ⟨d, k1, p2⟩ := p2.resG r1 q1.2
  unfold Pst extF at p2
  split at p2
  · rename_i a0 s0 heq
    split at heq
    · rename_i ds1 es1 e1
      split at heq
      · rename_i hz
        cases heq
        obtain ⟨p', xs', h1, h2, h3, h4⟩ := r1.ownLst e1
        rw [es] at h2; cases h2
        obtain ⟨b, ys, rfl, h5, h6⟩ := k1.lst'
        obtain ⟨r2, x2⟩ := r1.putLst e1 h1 (h4.append h6)
        exact ⟨q, b, xs', ys, rfl, rfl, h3, h5, by rw [h4.length, h6.length]; exact hz, p2 _ _ _ r2 x2 ⟨rfl, .non⟩⟩
      · cases heq
    · cases heq
  · rename_i heq
    split at heq
    · split at heq <;> cases heq
    · cases heq
  · exact p2.elim
def popF (i : Nat) (d : D) : M R := fun st => match ownL i st, d with
  | some ds, .int j => if -(2 ^ 63) ≤ j ∧ j < 2 ^ 63 then (match seqIndex? j ds.length with
    | some k => match ds[k]? with
      | some y => .ok (y, false) (setOw i (.lst (ds.eraseIdx k)) st)
      | none => .stuck
    | none => .stuck) else .stuck
  | _, _ => .stuck
def popM (i : Nat) (m : M D) : M R := M.bind (M.look (ownL i)) fun _ => M.bind m fun d => popF i d
theorem popF_ok {d : D} {r0 : R} {st' : Sto} (h : popF i d st = .ok r0 st') : ∃ ds j k y, ownL i st = some ds ∧ d = .int j ∧ -(2 ^ 63) ≤ j ∧ j < 2 ^ 63 ∧ seqIndex? j ds.length = some k ∧ ds[k]? = some y ∧ r0 = (y, false) ∧ st' = setOw i (.lst (ds.eraseIdx k)) st := by
  unfold popF at h
  split at h
  · rename_i ds j e1
    split at h
    · rename_i hj
      split at h
      · rename_i k hk
        split at h
        · rename_i y hy
          cases h
          exact ⟨ds, j, k, y, e1, rfl, hj.1, hj.2, hk, hy, rfl, rfl⟩
        · cases h
      · cases h
    · cases h
  · cases h
theorem popF_err {d : D} {x0 : Exn} {st' : Sto} (h : popF i d st = .err x0 st') : False := by
  unfold popF at h
  split at h
  · split at h
    · split at h
      · split at h <;> cases h
      · cases h
    · cases h
  · cases h
theorem de_pop (hK : X.K = c.K) {m : M D} (hN : X.N[i]? = some x) (hv : Vis X.env.scope x) (hd : (x == ("__debug__" : Str)) = false) (hcd : (x == ("__classdict__" : Str)) = false) (h : DV X c W e m)
    (h1 : attributeBase (.Name x px) "pop" X.env (eval (.Name x px) X.env) = eval (.Name x px) X.env)
    (h2 : ((backTo cpos (starEach [e] X.env)).all (fun x => !x.1) && (backToKw cpos (keywordEach [] X.env)).all (fun x => x.1.isSome) && decide ([e].length + ([] : List Keyword).length + (if ([] : List Keyword).isEmpty then 0 else 1) < 30)) = true)
    (h3 : (apos.endLine == cpos.line) = true) (h4 : starEach [e] X.env = (false, eval e X.env) :: starEach [] X.env) :
    DE X c W (.Call (.Attribute (.Name x px) "pop" apos) [e] [] cpos) (popM i m) := by
  refine PE.less (pe_me PySem.F.plainAttrs_list PySem.F.slot_list_pop PySem.F.type_list_pop mt_popAt (pe_var hN hv hd hcd) (pa_cons h pa_nil h4) h1 h2 h3 h4 rfl) fun σ H Q ⟨w, st, r, p⟩ => ?_
  obtain ⟨q, xs, ds, ew, es, hx, rx, eo, p1⟩ := own_start r p
  refine ⟨.ref q, es, .list (SqL.of hx), ?_⟩
  refine ⟨w, st, r, (Pst.bind p1 rD.tk).mono fun v1 H1 ⟨d, w1, st1, r1, q1, x1, t1, p2⟩ => ?_⟩
  unfold Pst at p2
  cases e0 : popF i d st1 with
  | stuck => rw [e0] at p2; exact p2.elim
  | err x0 s0 => exact (popF_err e0).elim
  | ok r0 st2 =>
    rw [e0] at p2
    obtain ⟨ds1, j, k, y, e1, rfl, hj1, hj2, hk, hy, rfl, rfl⟩ := popF_ok e0
    obtain ⟨p', xs', g1, g2, g3, g4⟩ := r1.ownLst e1
    rw [es] at g2; cases g2
    obtain ⟨v, g5, g6⟩ := g4.get hy
    obtain ⟨r2, x2⟩ := r1.putLst e1 g1 (g4.erase k)
    cases (show Pk c w1 H1 v1 (.int j) from .inl q1.2).int
    exact ⟨q, xs', j, k, v, rfl, rfl, g3, hj1, hj2, by rw [g4.length]; exact hk, g5, p2 _ _ _ r2 x2 ⟨rfl, x2.rep g6⟩⟩
def pop0F (i : Nat) : M R := fun st => match ownL i st with
  | some ds => match ds[ds.length - 1]? with
    | some y => .ok (y, false) (setOw i (.lst ds.dropLast) st)
    | none => .stuck
  | none => .stuck
def pop0M (i : Nat) : M R := M.bind (M.look (ownL i)) fun _ => pop0F i
theorem Reps.dropLast {cs : List Addr} {Av : Addr → Prop} {xs : List V} {ds : List D} (r : Reps c cs Av H xs ds) : Reps c cs Av H xs.dropLast ds.dropLast := by
  rw [List.dropLast_eq_take, List.dropLast_eq_take, r.length]
  exact r.take _
theorem de_pop0 (hK : X.K = c.K) (hN : X.N[i]? = some x) (hv : Vis X.env.scope x) (hd : (x == ("__debug__" : Str)) = false) (hcd : (x == ("__classdict__" : Str)) = false)
    (h1 : attributeBase (.Name x px) "pop" X.env (eval (.Name x px) X.env) = eval (.Name x px) X.env) (h3 : (apos.endLine == cpos.line) = true) :
    DE X c W (.Call (.Attribute (.Name x px) "pop" apos) [] [] cpos) (pop0M i) := by
  refine PE.less (pe_me0 PySem.F.plainAttrs_list PySem.F.slot_list_pop PySem.F.type_list_pop mt_pop (pe_var hN hv hd hcd) h1 h3) fun σ H Q ⟨w, st, r, p⟩ => ?_
  obtain ⟨q, xs, ds, ew, es, hx, rx, eo, p1⟩ := own_start r p
  refine ⟨.ref q, es, .list (SqL.of hx), ?_⟩
  unfold Pst pop0F at p1
  simp only [eo] at p1
  split at p1
  · rename_i r0 st' heq
    split at heq
    · rename_i y hy
      cases heq
      obtain ⟨v, g5, g6⟩ := rx.get hy
      obtain ⟨r2, x2⟩ := r.putLst eo ew rx.dropLast
      exact ⟨q, xs, v, rfl, rfl, hx, by rw [rx.length]; exact g5, p1 _ _ _ r2 x2 ⟨rfl, x2.rep g6⟩⟩
    · cases heq
  · rename_i heq
    split at heq <;> cases heq
  · exact p1.elim
end
end Pv
namespace Pv
open PySem PySem.Spec PyProof.Rows L2

section
variable {X : Cx} {c : Cn} {W : WX} {w : Wt} {st : Sto} {σ : Sv} {H H' : Hp} {pins : List (Addr × Obj)} {s : Shared} {pos apos cpos : Pos} {e a b o : Expr} {es : List Expr}
/-! ### a name is stored -/
def slOf (r : R) : Sl := if r.2 then .ow r.1 else .sh r.1
def putR (i : Nat) (r : R) (st : Sto) : Sto := { st with ρ := st.ρ.set i (slOf r) }
/-- nothing held at i any more -/
theorem Rel.drop (r : Rel c w st σ H) (i : Nat) : Rel c { w with ow := w.ow.set i none } { st with ρ := st.ρ.set i .no } σ H ∧ (∀ b, ({ w with ow := w.ow.set i none } : Wt).av c b → w.av c b) := by
  by_cases hi : i < st.ρ.length
  · have hi2 : i < w.ow.length := by rw [r.lo]; exact hi
    cases e : w.ow[i] with
    | none =>
      have e0 : w.ow.set i none = w.ow := by
        rw [← e]; exact List.set_getElem_self hi2
      have e1 : ({ w with ow := w.ow.set i none } : Wt) = w := by rw [e0]
      rw [e1]
      refine ⟨r.to rfl rfl (fun _ h => h) r.nd (by simpa using r.lo) (by simpa using r.ls) (fun _ h => h) fun j s o v h1 h2 h3 => ?_, fun _ h => h⟩
      by_cases hj : j = i
      · subst hj
        have h1' : some Sl.no = some s := by rw [← h1, List.getElem?_set_self hi]
        cases h1'
        have h2' : some w.ow[j] = some o := by rw [← h2]; exact (List.getElem?_eq_getElem hi2).symm
        cases h2'
        exact e
      · exact r.sl j s o v (by rw [← h1]; exact (List.getElem?_set_ne (Ne.symm hj)).symm) h2 h3
    | some a =>
      have ea : w.ow[i]? = some (some a) := by rw [List.getElem?_eq_getElem hi2, e]
      have es : st.ρ[i]? = some st.ρ[i] := List.getElem?_eq_getElem hi
      obtain ⟨o, v, h1, h2, h3⟩ := r.at es
      rw [ea] at h1; cases h1
      cases q : st.ρ[i] with
      | no => rw [q] at h3; cases h3
      | sh d => rw [q] at h3; cases h3.1
      | ow d =>
        rw [q] at es
        obtain ⟨r2, l⟩ := r.out (s' := .no) (tm' := w.tm) es ea (.inl rfl) fun w' e1 e2 e3 l => rfl
        exact ⟨r2, l⟩
  · have e0 : st.ρ.set i Sl.no = st.ρ := List.set_eq_of_length_le (Nat.le_of_not_lt hi)
    have e1 : w.ow.set i none = w.ow := List.set_eq_of_length_le (by rw [r.lo]; exact Nat.le_of_not_lt hi)
    have e2 : ({ w with ow := w.ow.set i none } : Wt) = w := by rw [e1]
    have e3 : ({ st with ρ := st.ρ.set i .no } : Sto) = st := by rw [e0]
    rw [e2, e3]
    exact ⟨r, fun _ h => h⟩
theorem Rel.store {i : Nat} {v : V} {r0 : R} {tm : List Addr} (r : Rel c w st σ H) (hi : i < st.ρ.length) (q : rR c tm w H v r0) :
    ∃ w', w'.tm = tm ∧ Rel c w' (putR i r0 st) (σ.set i (some v)) H ∧ Ext c w H w' H := by
  obtain ⟨r1, l1⟩ := r.drop i
  obtain ⟨d, k⟩ := r0
  cases k with
  | false =>
    obtain ⟨t, rp⟩ := q
    refine ⟨{ w with ow := w.ow.set i none }, t, ?_, Ext.of_less rfl l1⟩
    refine ⟨r1.a0, r1.fr, r1.pre, r1.nd, r1.nw, r1.ex, r1.len, r1.cells, by simpa [putR] using r1.lo, by simpa [putR] using r1.ls, fun j s o u h1 h2 h3 => ?_⟩
    by_cases hj : j = i
    · subst hj
      have h1' : some (Sl.sh d) = some s := by rw [← h1]; simp [putR, slOf, List.getElem?_set_self hi]
      cases h1'
      have hi2 : j < w.ow.length := by rw [r.lo]; exact hi
      have h2' : some none = some o := by rw [← h2]; exact (List.getElem?_set_self hi2).symm
      cases h2'
      have hi3 : j < σ.length := by rw [r.ls]; exact hi
      have h3' : some (some v) = some u := by rw [← h3, List.getElem?_set_self hi3]
      cases h3'
      exact ⟨rfl, v, rfl, rp.less l1⟩
    · refine r1.sl j s o u ?_ h2 ?_
      · rw [← h1]; simp [putR, List.getElem?_set_ne (Ne.symm hj)]
      · rw [← h3]; exact (List.getElem?_set_ne (Ne.symm hj)).symm
  | true =>
    obtain ⟨p, rfl, t, top⟩ := q
    have hi2 : i < w.ow.length := by rw [r.lo]; exact hi
    have e0 : (w.ow.set i none)[i]? = some none := List.getElem?_set_self hi2
    have mm : ∀ b, some b ∈ w.ow.set i (some p) → b = p ∨ some b ∈ w.ow.set i none := fun b hb => by
      obtain ⟨j, hj⟩ := List.mem_iff_getElem?.mp hb
      by_cases hji : j = i
      · subst hji
        rw [List.getElem?_set_self hi2] at hj
        exact .inl (Option.some.inj (Option.some.inj hj)).symm
      · rw [List.getElem?_set_ne (Ne.symm hji)] at hj
        refine .inr (List.mem_iff_getElem?.mpr ⟨j, ?_⟩)
        rw [List.getElem?_set_ne (Ne.symm hji)]; exact hj
    have l2 : ∀ b, ({ w with ow := w.ow.set i (some p), tm := tm } : Wt).av c b → w.av c b := fun b h => by
      rcases h with h | h | h | h
      · exact .inl h
      · exact .inr (.inl h)
      · rcases mm b h with z | z
        · subst z; exact .inr (.inr (.inr (by rw [t]; exact List.mem_cons_self)))
        · exact l1 b (.inr (.inr (.inl z)))
      · exact .inr (.inr (.inr (by rw [t]; exact List.mem_cons_of_mem _ h)))
    obtain ⟨nd1, nd2, nd3⟩ := List.nodup_append.mp r1.nd
    obtain ⟨nd4, nd5, nd6⟩ := List.nodup_append.mp nd2
    have nd5' : (p :: tm).Nodup := by rw [← t]; exact nd5
    obtain ⟨nd7, nd8⟩ := List.nodup_cons.mp nd5'
    have pn : p ∈ w.tm := by rw [t]; exact List.mem_cons_self
    have fm : ((w.ow.set i (some p)).filterMap id).Nodup := by
      have : ∀ (l : List (Option Addr)) (i : Nat), i < l.length → ((l.set i none).filterMap id).Nodup → (∀ b, some b ∈ l.set i none → b ≠ p) → ((l.set i (some p)).filterMap id).Nodup := by
        intro l
        induction l with
        | nil => intro i hi; simp at hi
        | cons o l ih =>
          intro i hi nd ne
          cases i with
          | zero =>
            simp only [List.set_cons_zero, List.filterMap_cons, id] at nd ⊢
            exact List.nodup_cons.mpr ⟨fun q => ne p (List.mem_cons_of_mem _ (mem_owned.mp q)) rfl, nd⟩
          | succ i =>
            simp only [List.set_cons_succ] at nd ne ⊢
            have hi' : i < l.length := by simpa using hi
            cases o with
            | none =>
              simp only [List.filterMap_cons, id] at nd ⊢
              exact ih i hi' nd fun b hb => ne b (List.mem_cons_of_mem _ hb)
            | some x =>
              simp only [List.filterMap_cons, id] at nd ⊢
              obtain ⟨n1, n2⟩ := List.nodup_cons.mp nd
              refine List.nodup_cons.mpr ⟨fun q => ?_, ih i hi' n2 fun b hb => ne b (List.mem_cons_of_mem _ hb)⟩
              obtain ⟨j, hj⟩ := List.mem_iff_getElem?.mp (mem_owned.mp q)
              by_cases hji : j = i
              · subst hji
                rw [List.getElem?_set_self hi'] at hj
                have := Option.some.inj (Option.some.inj hj)
                exact ne x List.mem_cons_self this.symm
              · rw [List.getElem?_set_ne (Ne.symm hji)] at hj
                exact n1 (mem_owned.mpr (List.mem_iff_getElem?.mpr ⟨j, by rw [List.getElem?_set_ne (Ne.symm hji)]; exact hj⟩))
      exact this w.ow i hi2 nd4 fun b hb z => nd6 b (mem_owned.mpr hb) p pn z
    have gx : Ext c w H { w with ow := w.ow.set i (some p), tm := tm } H := Ext.of_less rfl l2
    refine ⟨{ w with ow := w.ow.set i (some p), tm := tm }, rfl, ?_, gx⟩
    refine ⟨r.a0, r.fr, r.pre, ?_, fun b h => ?_, fun b h => r.ex b (l2 b h), r.len, fun k cell b h1 h2 => (r.cells k cell b h1 h2).less l2, by simpa [putR] using r.lo, by simpa [putR] using r.ls, fun j s o u h1 h2 h3 => ?_⟩
    · refine List.nodup_append.mpr ⟨nd1, List.nodup_append.mpr ⟨fm, nd8, fun x hx y hy z => ?_⟩, fun x hx y hy => ?_⟩
      · rcases mm x (mem_owned.mp hx) with q | q
        · subst q; subst z; exact nd7 hy
        · exact nd6 x (mem_owned.mpr q) y (by rw [t]; exact List.mem_cons_of_mem _ hy) z
      · rcases List.mem_append.mp hy with q | q
        · rcases mm y (mem_owned.mp q) with q | q
          · subst q; exact nd3 x hx y (List.mem_append_right _ pn)
          · exact nd3 x hx y (List.mem_append_left _ (mem_owned.mpr q))
        · exact nd3 x hx y (List.mem_append_right _ (by rw [t]; exact List.mem_cons_of_mem _ q))
    · rcases h with h | h | h
      · rcases mm b h with z | z
        · subst z; exact r.nw b (.inr (.inl pn))
        · exact r1.nw b (.inl z)
      · exact r.nw b (.inr (.inl (by rw [t]; exact List.mem_cons_of_mem _ h)))
      · exact r.nw b (.inr (.inr h))
    · by_cases hj : j = i
      · subst hj
        have h1' : some (Sl.ow d) = some s := by rw [← h1]; simp [putR, slOf, List.getElem?_set_self hi]
        cases h1'
        have h2' : some (some p) = some o := by rw [← h2]; exact (List.getElem?_set_self hi2).symm
        cases h2'
        have hi3 : j < σ.length := by rw [r.ls]; exact hi
        have h3' : some (some (V.ref p)) = some u := by rw [← h3, List.getElem?_set_self hi3]
        cases h3'
        exact ⟨p, rfl, rfl, top.gr gx.gr fun _ h => h⟩
      · have h1' : st.ρ[j]? = some s := by rw [← h1]; simp [putR, List.getElem?_set_ne (Ne.symm hj)]
        have h2' : w.ow[j]? = some o := by rw [← h2]; exact (List.getElem?_set_ne (Ne.symm hj)).symm
        have h3' : σ[j]? = some u := by rw [← h3]; exact (List.getElem?_set_ne (Ne.symm hj)).symm
        exact (r.sl j s o u h1' h2' h3').less rfl l2
def putF (i : Nat) (r : R) : M Fl := fun st => if i < st.ρ.length then .ok .next (putR i r st) else .stuck
def setM (i : Nat) (m : M R) : M Fl := M.bind m (putF i)
theorem Sst.store {i : Nat} {v : V} {r0 : R} {D : Ends} (h : Sst c W (putF i r0) w st H D) (r : Rel c w st σ H) (q : rR c [] w H v r0) : D.nx (σ.set i (some v)) H := by
  unfold Sst at h
  by_cases hi : i < st.ρ.length
  · have e : putF i r0 st = .ok .next (putR i r0 st) := if_pos hi
    rw [e] at h
    obtain ⟨w', t', r', x'⟩ := r.store hi q
    exact h _ _ _ r' x' t'
  · have e : putF i r0 st = .stuck := if_neg hi
    rw [e] at h; exact h.elim
theorem ds_set {i : Nat} {x : Str} {px : Pos} {m : M R} (hN : X.N.Nodup) (hi : X.N[i]? = some x) (hx : Loc X.env.scope x) (h : DE X c W e m) (hs : swapsWith e (some (.Name x px)) pos.line X.env = pure false) (hf : X.fn x = true ∨ X.env.scope.names.lookup x = some .local) :
    DS X c W (.Assign [.Name x px] e pos) (setM i m) := by
  refine PS.less (ps_set hN hi hx h hs hf) fun D σ H ⟨w, st, r, t, p⟩ => ?_
  refine ⟨w, st, r, (Sst.bind p t).mono fun v1 H1 ⟨r0, w1, st1, r1, q1, x1, p1⟩ => ?_⟩
  rw [t] at q1
  exact p1.store r1 q1
end
end Pv
namespace Pv
open PySem PySem.Spec PyProof.Rows L2
open AutoSeq1 (wpAny_loadPart')
/-! ### enumerate of a tuple -/
theorem meets_enum_tup (l : Addr) (items : Array Value) (n : Nat) (dct : Option Addr) (sl : Array (Option Value)) :
    Meets (Builtin.«enumerate.__new__» ⟨[.type "enumerate", .ref l], []⟩) (fun _ R s => s.heap.get? l = some { cls := .type "tuple", dict := dct, data := .seq items n, slots := sl } ∧
      R (.ok (.ret (.ref (s.heap.push { cls := .type "tuple_iterator", data := .fields #[.ref l, .int 0 0] }).objs.size)))
        { s with heap := (s.heap.push { cls := .type "tuple_iterator", data := .fields #[.ref l, .int 0 0] }).push { cls := .type "enumerate", data := .fields #[.none, .bool false, .ref s.heap.objs.size, rawInt 0, .none, .none] } }) :=
  .of_wp fun prog w A R s h => by
    obtain ⟨hp, g, d, tk, os⟩ := s; obtain ⟨hl, h⟩ := h
    have hsub := sub_enumerate
    have hL : Heap.IsTuple (Shared.heap ⟨hp, g, d, tk, os⟩) l items := ⟨_, hl, rfl, n, rfl⟩
    wp_walk using wpAny_loadPart' hl
    refine wpAny_stack_any fun st => wpAny_pure ?_
    split
    · rename_i c _ _ _ _ _
      cases (c == Value.type "enumerate")
      · wp_walk using wpAny_loadPart' hl, wpAny_pyIter_tuple hL
        exact ⟨_, rfl, h⟩
      · wp_walk using wpAny_loadPart' hl, wpAny_pyIter_tuple hL
        exact ⟨_, rfl, h⟩
    · wp_walk using wpAny_loadPart' hl, wpAny_pyIter_tuple hL
      exact ⟨_, rfl, h⟩
section
variable {prog : Program} {w : World} {A : Around} {E : Value → Shared → Prop} {s : Shared}
theorem call_enum_tup {l : Addr} {items : Array Value} {Q : Value → Shared → Prop} (hL : s.heap.IsTuple l items)
    (h : ∀ h', IsEnum h' (s.heap.objs.size + 1) s.heap.objs.size 0 .none → h'.IsTupleIter s.heap.objs.size l 0 → h'.objs.size = s.heap.objs.size + 2 →
      (∀ b o, s.heap.get? b = some o → h'.get? b = some o) → Q (.ref (s.heap.objs.size + 1)) { s with heap := h' }) :
    wpAny (model prog w) A (call (.type "enumerate") [.ref l]) Q E s := by
  obtain ⟨⟨c, dct, dt, sl⟩, hl, hc, n, hd⟩ := hL
  replace hc : c = .type "tuple" := hc
  replace hd : dt = .seq items n := hd
  subst hc hd
  refine callType_new F.called_enumerate (by decide) (F.typeCall_enumerate_1 _) (F.newCall_enumerate_1 _) (fun obj => F.args_object_init_2 obj _) F.entry_enumerate_new
    (meets_enum_tup l items n dct sl) ⟨hl, ?_⟩
  have hz : (s.heap.push { cls := .type "tuple_iterator", data := .fields #[.ref l, .int 0 0] }).objs.size = s.heap.objs.size + 1 := Heap.size_push ..
  show _ ∧ _
  rw [hz]
  have he : IsEnum ((s.heap.push { cls := .type "tuple_iterator", data := .fields #[.ref l, .int 0 0] }).push
      { cls := .type "enumerate", data := .fields #[.none, .bool false, .ref s.heap.objs.size, rawInt 0, .none, .none] }) (s.heap.objs.size + 1) s.heap.objs.size 0 .none := by
    have := Heap.get?_push_size (s.heap.push { cls := .type "tuple_iterator", data := .fields #[.ref l, .int 0 0] })
      (o := { cls := .type "enumerate", data := .fields #[.none, .bool false, .ref s.heap.objs.size, rawInt 0, .none, .none] }) rfl
    rw [hz] at this; exact this
  exact ⟨⟨_, he, rfl⟩, h _ he ⟨_, Heap.get?_push_of_some _ (Heap.get?_push_size _ rfl), rfl, rfl⟩ (by rw [Heap.size_push, hz]) fun b o x => Heap.get?_push_of_some _ (Heap.get?_push_of_some _ x)⟩
end
/-- the tuple at a, each item in a new pair -/
def IteT (K : PySem.W.Frag) (a : Addr) : It :=
  ⟨fun i H => ∃ (xs : List V) (x : V), SqT K H a xs ∧ xs[i]? = some x, fun i H v H' => ∃ T x, v = .ref T ∧ H T = none ∧ H' = upd H T (.tup [.int (i : Nat), x]) ∧ ∀ xs, SqT K H a xs → xs[i]? = some x, fun i H => ∃ xs : List V, SqT K H a xs ∧ xs.length ≤ i⟩
theorem turn_enumT {P : Program} {w : World} {K : PySem.W.Frag} {elts : List Expr} {kk : Nat} {tpos : Pos} (a e it : Addr) (items : Array Value) :
    Turn P w K (.Tuple elts kk tpos) (IteT K a) [e, it] e (fun i h => (∃ old, IsEnum h e it ((i : Nat) : Int) old) ∧ h.IsTupleIter it a i ∧ e ≠ it ∧ a ≠ it ∧ a ≠ e) where
  mem := by simp
  obj := fun i h st b hb => by
    obtain ⟨⟨old, he⟩, ⟨o, ho, hc, hd⟩, _⟩ := st
    have e' : b = e ∨ b = it := by simpa using hb
    rcases e' with z | z
    · rw [z]; exact ⟨_, he, fun v q => nomatch q⟩
    · rw [z]; exact ⟨o, ho, fun v q => by rw [hd] at q; cases q⟩
  keep := fun i h h' st k => let ⟨⟨old, he⟩, hi, hne⟩ := st; ⟨⟨old, k e (by simp) _ he⟩, hi.at fun o q => k it (by simp) o q, hne⟩
  item := by
    intro X hP hw hK hc i pins s σ H E I hf st hg
    subst hP hw hK
    obtain ⟨⟨old, he⟩, hit, hne, hai, hae⟩ := st
    obtain ⟨xs, x, hq, hx⟩ := hg
    obtain ⟨its, rv, p, hz⟩ := I.tuple hq
    obtain ⟨u, hu, ru⟩ := rv.get hx
    have hel : e < s.heap.objs.size := Heap.lt_size he
    have hil : it < s.heap.objs.size := by obtain ⟨_, q, _⟩ := hit; exact Heap.lt_size q
    have hA : X.A.in1.handled = none := I.ok.hd hc
    refine wpAny_pyNext_enum_itemD (Draws.tuple hA it a hai its.toArray) he ⟨hit, p⟩ (by have := rv.length; have := (List.getElem?_eq_some_iff.mp hx).1; simp; omega) hne (by simp [hne, Ne.symm hae]) fun y h' tk hP ho st' hT hsz hk => ?_
    obtain ⟨hit', p'⟩ := st'
    have ey : y = u := by
      have hP' : its[i]? = some y := by simpa using hP
      rw [hu] at hP'; exact (Option.some.inj hP').symm
    subst ey
    refine ⟨_, rfl, wpAny_letOwnedTupleGo_enum (s := { s with heap := h', toks := tk + 1 }) ho fun h'' he' sb => ?_⟩
    have hT2 : h''.get? s.heap.objs.size = some { cls := .type "tuple", data := .seq #[.int i tk, y] } := (sb.2 _ (Nat.ne_of_gt hel)).trans hT
    have new : ObjOk X.prog X.w (upd H s.heap.objs.size (.tup [.int (i : Nat), x])) h'' s.heap.objs.size (.tup [.int (i : Nat), x]) :=
      ⟨by show 2 ≤ sizeLine; decide, [.int i tk, y], .cons ⟨_, rfl⟩ (.cons ru .nil), ⟨_, hT2, rfl, _, rfl⟩⟩
    have I1 : Inv X pins σ (upd H s.heap.objs.size (.tup [.int (i : Nat), x])) { s with heap := h'', toks := tk + 1 } :=
      I.turnedNew (ch := [e, it]) (fun b ob hb q => (sb.2 b (fun z => hb (by simp [z]))).trans (hk b ob (fun z => hb (by simp [z])) (fun z => hb (by simp [z])) q)) hf (Nat.le_refl _) new
    refine ⟨.ref s.heap.objs.size, _, I1, rfl, ⟨_, x, rfl, I.hok.fresh (Nat.le_refl _), rfl, fun ys hy => by rw [I.tuple_inj hy hq]; exact hx⟩, ⟨⟨y, ?_⟩, hit'.at fun o q => (sb.2 it (Ne.symm hne)).trans q, hne, hai, hae⟩, fun b hb => ?_⟩
    · have e1 : ((i + 1 : Nat) : Int) = (i : Int) + 1 := by omega
      rw [e1]; exact he'
    · have hb' : b < s.heap.objs.size := by
        have e' : b = e ∨ b = it := by simpa using hb
        rcases e' with z | z
        · rw [z]; exact hel
        · rw [z]; exact hil
      rw [upd_ne (Nat.ne_of_lt hb')]
      exact (hf b hb).1
  done := by
    intro X hP hw hK hc i pins s σ H E I hf st hg
    subst hP hw hK
    obtain ⟨⟨old, he⟩, hit, hne, hai, hae⟩ := st
    obtain ⟨xs, hq, hx⟩ := hg
    obtain ⟨its, rv, p, hz⟩ := I.tuple hq
    obtain ⟨f0, f1, f2, f3, f4, f5⟩ := hf it (by simp)
    have hl := rv.length
    have hA : X.A.in1.handled = none := I.ok.hd hc
    have hT : s.TypeIs (.ref e) "enumerate" := ⟨_, he, rfl⟩
    unfold pyNext
    refine wpAny_bind (wpAny_attempt (wpAny_callSpecial?_slot (name := Str.ofString "__next__") hT F.slot_enumerate_next
      (wpAny_call_entry F.slot_enumerate_next hT F.entry_enumerate_next ?_ (F.args_enumerate_next_1 _))))
    show wpAny _ _ (field (.ref e) 2 >>= _) _ _ _
    refine wpAny_bind (wpAny_field he rfl (x := .ref it) rfl ?_)
    refine wpAny_bind (wpAny_nextOf_tuple_end (A := X.A.in1) hA hit (show s.heap.IsTuple a its.toArray from p) (by simp; omega) fun h' x he' hx' => ?_)
    obtain ⟨o, ho, hc'⟩ := hx'
    refine wpAny_bind (wpAny_isInstance (T := "StopIteration") (b := true) ⟨o, ho, hc'⟩ isSubtype_stop ?_)
    exact wpAny_pure ⟨rfl, I.turned (t' := s.toks) (fun b o hb q => he' b o hb q) f0 f1 f3 f4 f5⟩
  self := fun A i s Q E st h => let ⟨⟨_, he⟩, _⟩ := st; wpAny_pyIter_enum he h
end Pv
namespace Pv
open PySem PySem.Spec PyProof.Rows L2

section
variable {X : Cx} {c : Cn} {W : WX} {w : Wt} {st : Sto} {σ : Sv} {H H' : Hp} {pins : List (Addr × Obj)} {s : Shared} {pos apos cpos p tpos : Pos} {e a b o tg e2 : Expr} {es elts : List Expr} {kk : Nat}
/-! ### lists of values -/
theorem da_nil : DA X c W [] (M.pure []) := PA.less pa_nil fun σ H Q ⟨w, st, r, p⟩ => p [] H w r (Ext.refl _ _ _) ⟨rfl, .nil⟩
def conM (m : M D) (ms : M (List D)) : M (List D) := M.bind m fun x => M.bind ms fun xs => M.pure (x :: xs)
theorem da_cons {m : M D} {ms : M (List D)} (h : DV X c W e m) (hs : DA X c W es ms) (h1 : starEach (e :: es) X.env = (false, eval e X.env) :: starEach es X.env) : DA X c W (e :: es) (conM m ms) := by
  refine PA.less (pa_cons h hs h1) fun σ H Q ⟨w, st, r, p⟩ => ?_
  refine ⟨w, st, r, (Pst.bind p rD.tk).mono fun v1 H1 ⟨x, w1, st1, r1, q1, x1, t1, p1⟩ => ?_⟩
  refine ⟨w1, st1, r1, (Pst.bind p1 rL.tk).mono fun v2 H2 ⟨y, w2, st2, r2, q2, x2, t2, p2⟩ => ?_⟩
  exact p2 _ H2 w2 r2 (Ext.refl _ _ _) ⟨rfl, .cons (x2.rep q1.2) q2.2⟩
/-! ### what a loop walks -/
theorem PI.less {iter : Expr} {t u : TI} (h : PI X tg iter t) (k : ∀ σ H Q, u σ H Q → t σ H Q) : PI X tg iter u := ⟨fun pins s σ H R I hu => h.run pins s σ H R I (k _ _ _ hu)⟩
def ItD (c : Cn) (w : Wt) (H : Hp) (J : It) (ds : List D) : Prop := ∀ w1 H1, Gr H H1 w.cs w1.cs (w.av c) (w1.av c) → ExA c w1 H1 →
  (∀ i d, ds[i]? = some d → J.go i H1 ∧ ∀ x H', J.yld i H1 x H' → Same H1 H' ∧ RepW c w1 H' x d) ∧ ∀ i, ds.length ≤ i → J.stop i H1
def rI (c : Cn) : RT It (List D) := fun tm w H J ds => w.tm = tm ∧ ItD c w H J ds
theorem rI.tk : ∀ tm w H v a, rI c tm w H v a → w.tm = tm := fun _ _ _ _ _ h => h.1
abbrev DI (X : Cx) (c : Cn) (W : WX) (tg e : Expr) (m : M (List D)) : Prop := PI X tg e (tM c W (rI c) m)
/-- what stands at a as a list -/
structure AtL (c : Cn) (w : Wt) (H : Hp) (a : Addr) (ds : List D) : Prop where
  all : ∀ w1 H1, Gr H H1 w.cs w1.cs (w.av c) (w1.av c) → ∃ xs, SqL c.K H1 a xs ∧ RepsW c w1 H1 xs ds
structure AtT (c : Cn) (w : Wt) (H : Hp) (a : Addr) (ds : List D) : Prop where
  all : ∀ w1 H1, Gr H H1 w.cs w1.cs (w.av c) (w1.av c) → ∃ xs, SqT c.K H1 a xs ∧ RepsW c w1 H1 xs ds
/-- the things in a value -/
def seqD : D → Option (List D)
  | .tup ds => some ds
  | .lst ds => some ds
  | .scr ns => some (ns.map .int)
  | _ => none
theorem reps_int {cs : List Addr} {Av : Addr → Prop} : ∀ (ns : List Int), Reps c cs Av H (ns.map V.int) (ns.map D.int)
  | [] => .nil
  | n :: ns => .cons (.int n) (reps_int ns)
theorem at_of {v : V} {d : D} {ds : List D} (h : RepW c w H v d) (e : seqD d = some ds) : ∃ a, v = .ref a ∧ (AtL c w H a ds ∨ AtT c w H a ds) := by
  unfold seqD at e
  split at e
  · cases e
    cases h with | tup n r => exact ⟨_, rfl, .inr ⟨fun w1 H1 g => ⟨_, (g.ndT n).sq, g.reps r⟩⟩⟩
  · cases e
    cases h with | lst n r => exact ⟨_, rfl, .inl ⟨fun w1 H1 g => ⟨_, (g.ndL n).sq, g.reps r⟩⟩⟩
  · cases e
    cases h with | scr n => exact ⟨_, rfl, .inl ⟨fun w1 H1 g => ⟨_, (g.ndS n).sq, reps_int _⟩⟩⟩
  · cases e
theorem at_tup {v : V} {ds : List D} (h : RepW c w H v (.tup ds)) : ∃ a, v = .ref a ∧ AtT c w H a ds := by
  cases h with | tup n r => exact ⟨_, rfl, ⟨fun w1 H1 g => ⟨_, (g.ndT n).sq, g.reps r⟩⟩⟩
theorem at_lst {v : V} {ds : List D} (h : RepW c w H v (.lst ds)) : ∃ a, v = .ref a ∧ AtL c w H a ds := by
  cases h with | lst n r => exact ⟨_, rfl, ⟨fun w1 H1 g => ⟨_, (g.ndL n).sq, g.reps r⟩⟩⟩
theorem AtL.now {ds : List D} (h : AtL c w H a1 ds) : ∃ xs, SqL c.K H a1 xs ∧ RepsW c w H xs ds := h.all w H (Gr.refl _ _ _)
theorem AtT.now {ds : List D} (h : AtT c w H a1 ds) : ∃ xs, SqT c.K H a1 xs ∧ RepsW c w H xs ds := h.all w H (Gr.refl _ _ _)
theorem it_l {a1 : Addr} {ds : List D} (h : AtL c w H a1 ds) : ItD c w H (Itl c.K a1) ds := fun w1 H1 g ex => by
  obtain ⟨xs, hq, hr⟩ := h.all w1 H1 g
  refine ⟨fun i d e => ?_, fun i hi => ⟨xs, hq, by rw [hr.length]; exact hi⟩⟩
  obtain ⟨v, e1, e2⟩ := hr.get e
  exact ⟨⟨xs, v, hq, e1⟩, fun x H' ⟨e3, e4⟩ => by
    subst e3
    have := e4 xs hq
    rw [e1] at this; cases this
    exact ⟨Same.refl _, e2⟩⟩
theorem it_t {a1 : Addr} {ds : List D} (h : AtT c w H a1 ds) : ItD c w H (Itt c.K a1) ds := fun w1 H1 g ex => by
  obtain ⟨xs, hq, hr⟩ := h.all w1 H1 g
  refine ⟨fun i d e => ?_, fun i hi => ⟨xs, hq, by rw [hr.length]; exact hi⟩⟩
  obtain ⟨v, e1, e2⟩ := hr.get e
  exact ⟨⟨xs, v, hq, e1⟩, fun x H' ⟨e3, e4⟩ => by
    subst e3
    have := e4 xs hq
    rw [e1] at this; cases this
    exact ⟨Same.refl _, e2⟩⟩
def iSeq (K : PySem.W.Frag) (tl : TE) : TI := fun σ H R => tl σ H fun x H1 => ∃ a, x = .ref a ∧ (((∃ xs, SqL K H1 a xs) ∧ R (Itl K a) H1) ∨ ((∃ xs, SqT K H1 a xs) ∧ R (Itt K a) H1))
theorem pi_seq {l : Expr} {tl : TE} (hl : PE X l tl) : PI X tg l (iSeq X.K tl) := by
  refine ⟨fun pins s σ H R I h => ?_⟩
  refine thn (hl.run pins s σ H _ I h) fun v s1 ⟨x, H1, I1, r1, q1⟩ => ?_
  obtain ⟨a, e, ⟨⟨xs, hq⟩, q⟩ | ⟨⟨xs, hq⟩, q⟩⟩ := q1
  · subst e
    cases r1
    obtain ⟨its, rv, p, hz⟩ := I1.list hq
    refine wpAny_pyIter_list p.isList ?_
    refine ⟨s1.heap.objs.size, [s1.heap.objs.size], _, _, H1, rfl, I1.kept (t' := s1.toks) fun b o e => Heap.get?_push_of_some _ e, turn_list a _, ⟨_, Heap.get?_push_size _ rfl, rfl, rfl⟩, fun b hb => ?_, q⟩
    have e : b = s1.heap.objs.size := by simpa using hb
    subst e
    exact I1.fpOk (Nat.le_refl _) (I1.hok.fresh (Nat.le_refl _))
  · subst e
    cases r1
    obtain ⟨its, rv, p, hz⟩ := I1.tuple hq
    refine wpAny_pyIter_tuple (show s1.heap.IsTuple a its.toArray from p) ?_
    refine ⟨s1.heap.objs.size, [s1.heap.objs.size], _, _, H1, rfl, I1.kept (t' := s1.toks) fun b o e => Heap.get?_push_of_some _ e, turn_tuple a _, ⟨_, Heap.get?_push_size _ rfl, rfl, rfl⟩, fun b hb => ?_, q⟩
    have e : b = s1.heap.objs.size := by simpa using hb
    subst e
    exact I1.fpOk (Nat.le_refl _) (I1.hok.fresh (Nat.le_refl _))
def itM (m : M D) : M (List D) := M.bind m fun d => M.lift (seqD d)
theorem Pst.itD {o : Option (List D)} {Q : It → Hp → Prop} (p : Pst c W (rI c) (M.lift o) w st σ H Q) (r : Rel c w st σ H) : ∃ ds, o = some ds ∧ ∀ J, ItD c w H J ds → Q J H := by
  obtain ⟨ds, e, k⟩ := p.lift
  exact ⟨ds, e, fun J h => k J H w r (Ext.refl _ _ _) ⟨rfl, h⟩⟩
theorem di_seq (hK : X.K = c.K) {m : M D} (h : DV X c W e m) : DI X c W tg e (itM m) := by
  refine PI.less (pi_seq h) fun σ H Q ⟨w, st, r, p⟩ => ?_
  refine ⟨w, st, r, (Pst.bind p rD.tk).mono fun v1 H1 ⟨x, w1, st1, r1, q1, x1, t1, p1⟩ => ?_⟩
  obtain ⟨ds, e1, k⟩ := p1.itD r1
  obtain ⟨a, rfl, h | h⟩ := at_of q1.2 e1
  · obtain ⟨xs, hq, _⟩ := h.now
    exact ⟨a, rfl, .inl ⟨⟨xs, hK ▸ hq⟩, hK ▸ k _ (it_l h)⟩⟩
  · obtain ⟨xs, hq, _⟩ := h.now
    exact ⟨a, rfl, .inr ⟨⟨xs, hK ▸ hq⟩, hK ▸ k _ (it_t h)⟩⟩
/-! range -/
def sm62 (i : Int) : Bool := decide (-(2 ^ 62) ≤ i) && decide (i < 2 ^ 62)
theorem sm62_ok {i : Int} (h : sm62 i = true) : -(2 ^ 62) ≤ i ∧ i < 2 ^ 62 := by
  unfold sm62 at h
  simpa using h
def intsFrom (lo : Int) (n : Nat) : List D := (List.range n).map fun i => .int (lo + (i : Nat))
theorem it_rg {lo : Int} {n : Nat} : ItD c w H (Itr lo n) (intsFrom lo n) := fun w1 H1 g ex => by
  refine ⟨fun i d e => ?_, fun i hi => (show n ≤ i by simpa [intsFrom] using hi)⟩
  unfold intsFrom at e
  rw [List.getElem?_map] at e
  obtain ⟨j, e1, rfl⟩ := Option.map_eq_some_iff.mp e
  obtain ⟨h1, h2⟩ := List.getElem?_eq_some_iff.mp e1
  have hj : i < n := by simpa using h1
  have ej : j = i := by rw [← h2]; simp
  subst ej
  exact ⟨hj, fun x H' ⟨e3, e4⟩ => by subst e3 e4; exact ⟨Same.refl _, .int _⟩⟩
def rg1D : List D → Option (List D)
  | [.int j] => if sm62 j then some (intsFrom 0 j.toNat) else none
  | _ => none
def rg2D : List D → Option (List D)
  | [.int i, .int j] => if sm62 i && sm62 j then some (intsFrom i (j - i).toNat) else none
  | _ => none
/-- a, a + k, .. below b (k > 0) or above it (k < 0) -/
def intsBy (lo k : Int) (n : Nat) : List D := (List.range n).map fun i => .int (lo + (i : Nat) * k)
def seqM2 (g : List D → Option (List D)) (ms : M (List D)) : M (List D) := M.bind ms fun ds => M.lift (g ds)
theorem rg1D_ok {ds ds' : List D} (h : rg1D ds = some ds') : ∃ j, ds = [.int j] ∧ sm62 j = true ∧ ds' = intsFrom 0 j.toNat := by
  unfold rg1D at h
  split at h
  · split at h
    · rename_i hj; cases h; exact ⟨_, rfl, hj, rfl⟩
    · cases h
  · cases h
theorem rg2D_ok {ds ds' : List D} (h : rg2D ds = some ds') : ∃ i j, ds = [.int i, .int j] ∧ sm62 i = true ∧ sm62 j = true ∧ ds' = intsFrom i (j - i).toNat := by
  unfold rg2D at h
  split at h
  · split at h
    · rename_i hj; cases h
      obtain ⟨h1, h2⟩ := Bool.and_eq_true_iff.mp hj
      exact ⟨_, _, rfl, h1, h2, rfl⟩
    · cases h
  · cases h
theorem Reps.one {cs : List Addr} {Av : Addr → Prop} {vs : List V} {d : D} (h : Reps c cs Av H vs [d]) : ∃ v, vs = [v] ∧ Rep c cs Av H v d := by
  cases h with | cons a b => cases b; exact ⟨_, rfl, a⟩
theorem Reps.two {cs : List Addr} {Av : Addr → Prop} {vs : List V} {d e : D} (h : Reps c cs Av H vs [d, e]) : ∃ v u, vs = [v, u] ∧ Rep c cs Av H v d ∧ Rep c cs Av H u e := by
  cases h with | cons a b => cases b with | cons b b' => cases b'; exact ⟨_, _, rfl, a, b⟩
theorem Reps.three {cs : List Addr} {Av : Addr → Prop} {vs : List V} {d e f : D} (h : Reps c cs Av H vs [d, e, f]) : ∃ v u t, vs = [v, u, t] ∧ Rep c cs Av H v d ∧ Rep c cs Av H u e ∧ Rep c cs Av H t f := by
  cases h with | cons a b => obtain ⟨u, t, rfl, h1, h2⟩ := b.two; exact ⟨_, _, _, rfl, a, h1, h2⟩
theorem di_rg1 {ms : M (List D)} (hg : Gl X "range") (hm : X.mg "range" = none) (ha : DA X c W [a] ms) (hs : starEach [a] X.env = [(false, eval a X.env)]) : DI X c W tg (.Call (.Name "range" p) [a] [] pos) (seqM2 rg1D ms) := by
  refine PI.less (pi_range1 hg hm ha hs) fun σ H Q ⟨w, st, r, p⟩ => ?_
  refine ⟨w, st, r, (Pst.bind p rL.tk).mono fun v1 H1 ⟨x, w1, st1, r1, q1, x1, t1, p1⟩ => ?_⟩
  obtain ⟨ds, e1, k⟩ := p1.itD r1
  obtain ⟨j, rfl, hj, rfl⟩ := rg1D_ok e1
  obtain ⟨v, rfl, q⟩ := q1.2.one
  cases q
  obtain ⟨h1, h2⟩ := sm62_ok hj
  exact ⟨j, rfl, h1, h2, k _ it_rg⟩
theorem di_rg2 {ms : M (List D)} (hg : Gl X "range") (hm : X.mg "range" = none) (ha : DA X c W [a, b] ms) (hs : starEach [a, b] X.env = [(false, eval a X.env), (false, eval b X.env)]) (hs2 : starEach [b] X.env = [(false, eval b X.env)]) : DI X c W tg (.Call (.Name "range" p) [a, b] [] pos) (seqM2 rg2D ms) := by
  refine PI.less (pi_range2 hg hm ha hs hs2) fun σ H Q ⟨w, st, r, p⟩ => ?_
  refine ⟨w, st, r, (Pst.bind p rL.tk).mono fun v1 H1 ⟨x, w1, st1, r1, q1, x1, t1, p1⟩ => ?_⟩
  obtain ⟨ds, e1, k⟩ := p1.itD r1
  obtain ⟨i, j, rfl, hi, hj, rfl⟩ := rg2D_ok e1
  obtain ⟨v, u, rfl, q, q'⟩ := q1.2.two
  cases q; cases q'
  obtain ⟨h1, h2⟩ := sm62_ok hi
  obtain ⟨h3, h4⟩ := sm62_ok hj
  exact ⟨i, j, rfl, ⟨h1, h2, h3, h4⟩, k _ it_rg⟩
/-! enumerate, zip -/
def prD (d e : D) : D := .pr [d, e]
def enumD : Nat → List D → List D
  | _, [] => []
  | i, d :: ds => prD (.int (i : Nat)) d :: enumD (i + 1) ds
theorem enumD_get : ∀ (ds : List D) (k i : Nat) (d : D), (enumD k ds)[i]? = some d → ∃ e, ds[i]? = some e ∧ d = prD (.int ((k + i : Nat) : Int)) e
  | [], k, i, d, h => by simp [enumD] at h
  | e :: ds, k, 0, d, h => by
    simp [enumD] at h
    exact ⟨e, rfl, by subst h; simp⟩
  | e :: ds, k, i + 1, d, h => by
    have h' : (enumD (k + 1) ds)[i]? = some d := by simpa [enumD] using h
    obtain ⟨e', h1, h2⟩ := enumD_get ds (k + 1) i d h'
    refine ⟨e', by simpa using h1, ?_⟩
    rw [h2, show k + 1 + i = k + (i + 1) by omega]
theorem enumD_length : ∀ (ds : List D) (k : Nat), (enumD k ds).length = ds.length
  | [], _ => rfl
  | _ :: ds, k => by simp [enumD, enumD_length ds]
theorem rep_pair {w1 : Wt} {H1 : Hp} {T : Addr} {x y : V} {d e : D} (ex : ExA c w1 H1) (n : H1 T = none) (h1 : RepW c w1 H1 x d) (h2 : RepW c w1 H1 y e) : Same H1 (upd H1 T (.tup [x, y])) ∧ RepW c w1 (upd H1 T (.tup [x, y])) (.ref T) (prD d e) := by
  have s : Same H1 (upd H1 T (.tup [x, y])) := Same.upd n
  exact ⟨s, .pr (fun q => ex T q n) upd_same (.cons ((s.gr _ _).rep h1) (.cons ((s.gr _ _).rep h2) .nil))⟩
theorem it_el {a1 : Addr} {ds : List D} (h : AtL c w H a1 ds) : ItD c w H (Ite c.K a1) (enumD 0 ds) := fun w1 H1 g ex => by
  obtain ⟨xs, hq, hr⟩ := h.all w1 H1 g
  refine ⟨fun i d e => ?_, fun i hi => ⟨xs, hq, by rw [hr.length]; rw [enumD_length] at hi; exact hi⟩⟩
  obtain ⟨d', e', rfl⟩ := enumD_get _ _ _ _ e
  obtain ⟨v, e1, e2⟩ := hr.get e'
  refine ⟨⟨xs, v, hq, e1⟩, fun x H' ⟨T, y, e3, n, e4, e5⟩ => ?_⟩
  subst e3 e4
  have := e5 xs hq
  rw [e1] at this; cases this
  rw [Nat.zero_add]
  exact rep_pair ex n (.int _) e2
theorem it_et {a1 : Addr} {ds : List D} (h : AtT c w H a1 ds) : ItD c w H (IteT c.K a1) (enumD 0 ds) := fun w1 H1 g ex => by
  obtain ⟨xs, hq, hr⟩ := h.all w1 H1 g
  refine ⟨fun i d e => ?_, fun i hi => ⟨xs, hq, by rw [hr.length]; rw [enumD_length] at hi; exact hi⟩⟩
  obtain ⟨d', e', rfl⟩ := enumD_get _ _ _ _ e
  obtain ⟨v, e1, e2⟩ := hr.get e'
  refine ⟨⟨xs, v, hq, e1⟩, fun x H' ⟨T, y, e3, n, e4, e5⟩ => ?_⟩
  subst e3 e4
  have := e5 xs hq
  rw [e1] at this; cases this
  rw [Nat.zero_add]
  exact rep_pair ex n (.int _) e2
def iEnA (K : PySem.W.Frag) (ta : TA) : TI := fun σ H R => ta σ H fun vs H1 => ∃ a, vs = [.ref a] ∧ (((∃ xs, SqL K H1 a xs) ∧ R (Ite K a) H1) ∨ ((∃ xs, SqT K H1 a xs) ∧ R (IteT K a) H1))
theorem pi_enA {X : Cx} {e : Expr} {ta : TA} {p pos tpos : Pos} {elts : List Expr} {kk : Nat} (hg : Gl X "enumerate") (hm : X.mg "enumerate" = none) (ha : PA X [e] ta) (hs : starEach [e] X.env = [(false, eval e X.env)]) :
    PI X (.Tuple elts kk tpos) (.Call (.Name "enumerate" p) [e] [] pos) (iEnA X.K ta) := by
  refine ⟨fun pins s σ H R I h => ?_⟩
  refine Call_ (ld_blt I hg hm boot_enumerate (PyProof.Rows.callWith_type1 (thn (ha.run pos pins s σ H _ I h) fun us s1 ⟨vs, H1, I1, r1, q1⟩ => ?_) hs rfl))
  obtain ⟨a, ex, q1⟩ := q1
  subst ex
  cases r1 with
  | cons r rr =>
    cases rr
    cases r
    have fr : ∀ b ∈ [s1.heap.objs.size + 1, s1.heap.objs.size], FpOk X pins H1 b := fun b hb => by
      have e' : b = s1.heap.objs.size + 1 ∨ b = s1.heap.objs.size := by simpa using hb
      have hle : s1.heap.objs.size ≤ b := by
        rcases e' with z | z
        · rw [z]; exact Nat.le_add_right _ _
        · rw [z]; exact Nat.le_refl _
      exact I1.fpOk hle (I1.hok.fresh hle)
    rcases q1 with ⟨⟨xs, hq⟩, q⟩ | ⟨⟨xs, hq⟩, q⟩
    · obtain ⟨its, rv, p', hz⟩ := I1.list hq
      refine call_enumerate_list p'.isList fun h' he hit hsz hk => wpAny_pyIter_enum he ?_
      have I2 : Inv X pins σ H1 { s1 with heap := h' } := I1.kept (t' := s1.toks) hk
      exact ⟨s1.heap.objs.size + 1, [s1.heap.objs.size + 1, s1.heap.objs.size], _, _, H1, rfl, I2, turn_enum a (s1.heap.objs.size + 1) s1.heap.objs.size, ⟨⟨.none, he⟩, hit, Nat.succ_ne_self _⟩, fr, q⟩
    · obtain ⟨its, rv, p', hz⟩ := I1.tuple hq
      have hlt : a < s1.heap.objs.size := by obtain ⟨_, q, _⟩ := id p'; exact Heap.lt_size q
      refine call_enum_tup (show s1.heap.IsTuple a its.toArray from p') fun h' he hit hsz hk => wpAny_pyIter_enum he ?_
      have I2 : Inv X pins σ H1 { s1 with heap := h' } := I1.kept (t' := s1.toks) hk
      exact ⟨s1.heap.objs.size + 1, [s1.heap.objs.size + 1, s1.heap.objs.size], _, _, H1, rfl, I2, turn_enumT a (s1.heap.objs.size + 1) s1.heap.objs.size #[], ⟨⟨.none, he⟩, hit, Nat.succ_ne_self _, Nat.ne_of_lt hlt, Nat.ne_of_lt (Nat.lt_succ_of_lt hlt)⟩, fr, q⟩
def en1D : List D → Option (List D)
  | [d] => (seqD d).map (enumD 0)
  | _ => none
theorem en1D_ok {ds ds' : List D} (h : en1D ds = some ds') : ∃ d l, ds = [d] ∧ seqD d = some l ∧ ds' = enumD 0 l := by
  unfold en1D at h
  split at h
  · obtain ⟨l, h1, h2⟩ := Option.map_eq_some_iff.mp h
    exact ⟨_, l, rfl, h1, h2.symm⟩
  · cases h
theorem di_enum (hK : X.K = c.K) {ms : M (List D)} (hg : Gl X "enumerate") (hm : X.mg "enumerate" = none) (ha : DA X c W [e] ms) (hs : starEach [e] X.env = [(false, eval e X.env)]) :
    DI X c W (.Tuple elts kk tpos) (.Call (.Name "enumerate" p) [e] [] pos) (seqM2 en1D ms) := by
  refine PI.less (pi_enA hg hm ha hs) fun σ H Q ⟨w, st, r, p⟩ => ?_
  refine ⟨w, st, r, (Pst.bind p rL.tk).mono fun v1 H1 ⟨x, w1, st1, r1, q1, x1, t1, p1⟩ => ?_⟩
  obtain ⟨ds, e1, k⟩ := p1.itD r1
  obtain ⟨d, l, rfl, e2, rfl⟩ := en1D_ok e1
  obtain ⟨v, rfl, q⟩ := q1.2.one
  obtain ⟨a, rfl, h | h⟩ := at_of q e2
  · obtain ⟨xs, hq, _⟩ := h.now
    exact ⟨a, rfl, .inl ⟨⟨xs, hK ▸ hq⟩, hK ▸ k _ (it_el h)⟩⟩
  · obtain ⟨xs, hq, _⟩ := h.now
    exact ⟨a, rfl, .inr ⟨⟨xs, hK ▸ hq⟩, hK ▸ k _ (it_et h)⟩⟩
def zipD : List D → List D → List D
  | d :: ds, e :: es => prD d e :: zipD ds es
  | _, _ => []
theorem zipD_get : ∀ (ds es : List D) (i : Nat) (d : D), (zipD ds es)[i]? = some d → ∃ x y, ds[i]? = some x ∧ es[i]? = some y ∧ d = prD x y
  | [], es, i, d, h => by simp [zipD] at h
  | a :: ds, [], i, d, h => by simp [zipD] at h
  | a :: ds, b :: es, 0, d, h => by
    simp [zipD] at h
    exact ⟨a, b, rfl, rfl, h.symm⟩
  | a :: ds, b :: es, i + 1, d, h => by
    have h' : (zipD ds es)[i]? = some d := by simpa [zipD] using h
    obtain ⟨x, y, h1, h2, h3⟩ := zipD_get ds es i d h'
    exact ⟨x, y, by simpa using h1, by simpa using h2, h3⟩
theorem zipD_length : ∀ (ds es : List D), (zipD ds es).length = min ds.length es.length
  | [], es => by simp [zipD]
  | a :: ds, [] => by simp [zipD]
  | a :: ds, b :: es => by simp [zipD, zipD_length ds es]
theorem it_zl {a1 a2 : Addr} {ds es : List D} (h : AtL c w H a1 ds) (h' : AtL c w H a2 es) : ItD c w H (Itz c.K a1 a2) (zipD ds es) := fun w1 H1 g ex => by
  obtain ⟨xs, hq, hr⟩ := h.all w1 H1 g
  obtain ⟨ys, hq', hr'⟩ := h'.all w1 H1 g
  refine ⟨fun i d e => ?_, fun i hi => ⟨xs, ys, hq, hq', by rw [hr.length, hr'.length]; rw [zipD_length] at hi; omega⟩⟩
  obtain ⟨x, y, e1, e2, rfl⟩ := zipD_get _ _ _ _ e
  obtain ⟨v, f1, f2⟩ := hr.get e1
  obtain ⟨u, g1, g2⟩ := hr'.get e2
  refine ⟨⟨xs, ys, v, u, hq, hq', f1, g1⟩, fun z H' ⟨T, y, t, e3, n, e4, e5, e6⟩ => ?_⟩
  subst e3 e4
  have := e5 xs hq
  rw [f1] at this; cases this
  have := e6 ys hq'
  rw [g1] at this; cases this
  exact rep_pair ex n f2 g2
theorem it_zt {a1 a2 : Addr} {ds es : List D} (h : AtT c w H a1 ds) (h' : AtT c w H a2 es) : ItD c w H (RZ.ItzT c.K a1 a2) (zipD ds es) := fun w1 H1 g ex => by
  obtain ⟨xs, hq, hr⟩ := h.all w1 H1 g
  obtain ⟨ys, hq', hr'⟩ := h'.all w1 H1 g
  refine ⟨fun i d e => ?_, fun i hi => ⟨xs, ys, hq, hq', by rw [hr.length, hr'.length]; rw [zipD_length] at hi; omega⟩⟩
  obtain ⟨x, y, e1, e2, rfl⟩ := zipD_get _ _ _ _ e
  obtain ⟨v, f1, f2⟩ := hr.get e1
  obtain ⟨u, g1, g2⟩ := hr'.get e2
  refine ⟨⟨xs, ys, v, u, hq, hq', f1, g1⟩, fun z H' ⟨T, y, t, e3, n, e4, e5, e6⟩ => ?_⟩
  subst e3 e4
  have := e5 xs hq
  rw [f1] at this; cases this
  have := e6 ys hq'
  rw [g1] at this; cases this
  exact rep_pair ex n f2 g2
def zip2D : List D → Option (List D)
  | [.tup ds, .tup es] => some (zipD ds es)
  | [.lst ds, .lst es] => some (zipD ds es)
  | _ => none
theorem di_zip (hK : X.K = c.K) {ms : M (List D)} (hg : Gl X "zip") (hm : X.mg "zip" = none) (ha : DA X c W [e, e2] ms) (hs : starEach [e, e2] X.env = (false, eval e X.env) :: starEach [e2] X.env) (hpl : (backTo pos (starEach [e2] X.env)).any (·.1) = false) :
    DI X c W (.Tuple elts kk tpos) (.Call (.Name "zip" p) [e, e2] [] pos) (seqM2 zip2D ms) := by
  refine PI.less (RZ.pi_zipA hg hm ha hs hpl) fun σ H Q ⟨w, st, r, p⟩ => ?_
  refine ⟨w, st, r, (Pst.bind p rL.tk).mono fun v1 H1 ⟨x, w1, st1, r1, q1, x1, t1, p1⟩ => ?_⟩
  obtain ⟨ds, e1, k⟩ := p1.itD r1
  unfold zip2D at e1
  split at e1
  · cases e1
    obtain ⟨v, u, rfl, q, q'⟩ := q1.2.two
    obtain ⟨a, rfl, h⟩ := at_tup q
    obtain ⟨b, rfl, h'⟩ := at_tup q'
    obtain ⟨xs, hq, _⟩ := h.now
    obtain ⟨ys, hq', _⟩ := h'.now
    exact ⟨a, b, xs, ys, rfl, .inr ⟨hK ▸ hq, hK ▸ hq', hK ▸ k _ (it_zt h h')⟩⟩
  · cases e1
    obtain ⟨v, u, rfl, q, q'⟩ := q1.2.two
    obtain ⟨a, rfl, h⟩ := at_lst q
    obtain ⟨b, rfl, h'⟩ := at_lst q'
    obtain ⟨xs, hq, _⟩ := h.now
    obtain ⟨ys, hq', _⟩ := h'.now
    exact ⟨a, b, xs, ys, rfl, .inl ⟨hK ▸ hq, hK ▸ hq', hK ▸ k _ (it_zl h h')⟩⟩
  · cases e1
end
end Pv
namespace Pv
open PySem PySem.Spec PyProof.Rows L2

section
variable {X : Cx} {c : Cn} {W : WX} {w : Wt} {st : Sto} {σ : Sv} {H H' : Hp} {pins : List (Addr × Obj)} {s : Shared} {pos apos cpos p tpos : Pos} {e a b o tg e2 : Expr} {es elts : List Expr} {kk : Nat}
/-! ### targets -/
def SamB (vs : List Nat) (σ σ' : Sv) : Prop := σ'.length = σ.length ∧ ∀ i, i ∉ vs → σ'[i]? = σ[i]?
theorem SamB.trans {vs : List Nat} {σ σ1 σ2 : Sv} (a : SamB vs σ σ1) (b : SamB vs σ1 σ2) : SamB vs σ σ2 := ⟨b.1.trans a.1, fun i h => (b.2 i h).trans (a.2 i h)⟩
theorem SamB.more {vs us : List Nat} {σ σ' : Sv} (a : SamB vs σ σ') (h : ∀ v ∈ vs, v ∈ us) : SamB us σ σ' := ⟨a.1, fun i q => a.2 i fun z => q (h i z)⟩
def Tgt (c : Cn) (o : Option Sto) (vs : List Nat) (w : Wt) (σ : Sv) (H : Hp) (Q : Sv → Hp → Prop) : Prop :=
  ∃ st', o = some st' ∧ ∀ σ' w', Rel c w' st' σ' H → Ext c w H w' H → w'.tm = w.tm → SamB vs σ σ' → Q σ' H
abbrev Tf := D → Sto → Option Sto
abbrev Tfs := List D → Sto → Option Sto
def tTg (c : Cn) (vs : List Nat) (m : Tf) : TG := fun v σ H Q => ∃ w st d, Rel c w st σ H ∧ RepW c w H v d ∧ Tgt c (m d st) vs w σ H Q
def tTgs (c : Cn) (vs : List Nat) (m : Tfs) : TGs := fun v σ H Q => ∃ w st d, Rel c w st σ H ∧ RepsW c w H v d ∧ Tgt c (m d st) vs w σ H Q
abbrev DTg (X : Cx) (c : Cn) (vs : List Nat) (e : Expr) (m : Tf) : Prop := PG X e (tTg c vs m)
abbrev DTgs (X : Cx) (c : Cn) (vs : List Nat) (e : List Expr) (m : Tfs) : Prop := PGs X e (tTgs c vs m)
theorem PG.less {t u : TG} (h : PG X e t) (k : ∀ v σ H Q, u v σ H Q → t v σ H Q) : PG X e u := ⟨fun pins s σ H v u Q I r hu => h.run pins s σ H v u Q I r (k _ _ _ _ hu)⟩
theorem PGs.less {t u : TGs} (h : PGs X es t) (k : ∀ v σ H Q, u v σ H Q → t v σ H Q) : PGs X es u := ⟨fun pins s σ H v u Q I r hu => h.run pins s σ H v u Q I r (k _ _ _ _ hu)⟩
def tnF (i : Nat) : Tf := fun d st => if i < st.ρ.length then some (putR i (d, false) st) else none
theorem dg_name {i : Nat} {x : Str} (hN : X.N.Nodup) (hi : X.N[i]? = some x) (hx : Loc X.env.scope x) (hf : X.fn x = true ∨ X.env.scope.names.lookup x = some .local) : DTg X c [i] (.Name x pos) (tnF i) := by
  refine PG.less (pg_name hN hi hx hf) fun v σ H Q ⟨w, st, d, r, q, st', e, h⟩ => ?_
  unfold tnF at e
  by_cases hl : i < st.ρ.length
  · rw [if_pos hl] at e
    cases e
    obtain ⟨w', t', r', x'⟩ := r.store (r0 := (d, false)) (tm := w.tm) hl ⟨rfl, q⟩
    exact h _ _ r' x' t' ⟨by simp, fun j hj => List.getElem?_set_ne fun z => hj (by simp [z])⟩
  · rw [if_neg hl] at e; cases e
def tnil : Tfs
  | [], st => some st
  | _, _ => none
def tcons (m : Tf) (ms : Tfs) : Tfs
  | d :: ds, st => (m d st).bind fun st1 => ms ds st1
  | [], _ => none
theorem dgs_nil {vs : List Nat} : DTgs X c vs [] tnil := by
  refine PGs.less pgs_nil fun v σ H Q ⟨w, st, d, r, q, st', e, h⟩ => ?_
  cases d with
  | nil => cases q; cases e; exact ⟨rfl, h _ _ r (Ext.refl _ _ _) rfl ⟨rfl, fun _ _ => rfl⟩⟩
  | cons d ds => cases e
theorem dgs_cons {m : Tf} {ms : Tfs} {vs1 vs : List Nat} (h1 : DTg X c vs1 e m) (h2 : DTgs X c vs es ms) (hv : ∀ v ∈ vs1, v ∈ vs) (hs : (assignEach (e :: es) X.env).map (·.2) = assign e X.env :: (assignEach es X.env).map (·.2)) :
    DTgs X c vs (e :: es) (tcons m ms) := by
  refine PGs.less (pgs_cons h1 h2 hs) fun v σ H Q ⟨w, st, d, r, q, st', e, h⟩ => ?_
  cases d with
  | nil => cases e
  | cons d ds =>
    cases q with
    | cons q1 q2 =>
      obtain ⟨st1, e1, e2⟩ := Option.bind_eq_some_iff.mp e
      refine ⟨_, _, rfl, w, st, d, r, q1, st1, e1, fun σ1 w1 r1 x1 t1 s1 => ?_⟩
      exact ⟨w1, st1, ds, r1, x1.reps q2, st', e2, fun σ' w' r' x' t' s' => h σ' w' r' (x1.trans x' fun a ha => by rw [t1]; exact ha) (t'.trans t1) ((s1.more hv).trans s')⟩
def tupF (n : Nat) (ms : Tfs) : Tf
  | .tup ds, st => if ds.length = n then ms ds st else none
  | .lst ds, st => if ds.length = n then ms ds st else none
  | .pr ds, st => if ds.length = n then ms ds st else none
  | _, _ => none
theorem tupF_ok {n : Nat} {ms : Tfs} {d : D} {st st' : Sto} (h : tupF n ms d st = some st') : ∃ ds, (d = .tup ds ∨ d = .lst ds ∨ d = .pr ds) ∧ ds.length = n ∧ ms ds st = some st' := by
  cases d with
  | tup ds =>
    have e : (if ds.length = n then ms ds st else none) = some st' := h
    split at e
    · exact ⟨ds, .inl rfl, by assumption, e⟩
    · cases e
  | lst ds =>
    have e : (if ds.length = n then ms ds st else none) = some st' := h
    split at e
    · exact ⟨ds, .inr (.inl rfl), by assumption, e⟩
    · cases e
  | pr ds =>
    have e : (if ds.length = n then ms ds st else none) = some st' := h
    split at e
    · exact ⟨ds, .inr (.inr rfl), by assumption, e⟩
    · cases e
  | _ => cases h
def gUn (K : PySem.W.Frag) (n : Nat) (t : TGs) : TG := fun v σ H Q => ∃ a xs, v = .ref a ∧ (SqT K H a xs ∨ SqL K H a xs) ∧ xs.length = n ∧ t xs σ H Q
theorem pg_un {t : TGs} {k n : Nat} (hc : X.calm = true) (h : PGs X es t) (hn : (assignEach es X.env).length = n) (hst : (assignEach es X.env).findIdx? (·.1) = none) : PG X (.Tuple es k pos) (gUn X.K n t) := by
  refine ⟨fun pins s σ H v u Q I r hw => ?_⟩
  obtain ⟨a, xs, e1, hq | hq, hl, hw⟩ := hw
  · exact (pg_tup hc h hn hst).run pins s σ H v u Q I r ⟨a, xs, e1, hq, hl, hw⟩
  · exact (pg_unl hc h hn hst).run pins s σ H v u Q I r ⟨a, xs, e1, hq, hl, hw⟩
theorem dg_tup (hK : X.K = c.K) {ms : Tfs} {k n : Nat} {vs : List Nat} (hc : X.calm = true) (h : DTgs X c vs es ms) (hn : (assignEach es X.env).length = n) (hst : (assignEach es X.env).findIdx? (·.1) = none) : DTg X c vs (.Tuple es k pos) (tupF n ms) := by
  refine PG.less (pg_un hc h hn hst) fun v σ H Q ⟨w, st, d, r, q, st', e, h⟩ => ?_
  obtain ⟨ds, rfl | rfl | rfl, hl, e⟩ := tupF_ok e
  · cases q with | tup nd rp => exact ⟨_, _, rfl, .inl (hK ▸ nd.sq), by rw [rp.length]; exact hl, w, st, ds, r, rp, st', e, h⟩
  · cases q with | lst nd rp => exact ⟨_, _, rfl, .inr (hK ▸ nd.sq), by rw [rp.length]; exact hl, w, st, ds, r, rp, st', e, h⟩
  · cases q with | pr nd hh rp => exact ⟨_, _, rfl, .inl (.of hh), by rw [rp.length]; exact hl, w, st, ds, r, rp, st', e, h⟩
def M.to (m : Sto → Option Sto) : M Unit := fun st => match m st with
  | some st' => .ok () st'
  | none => .stuck
/-- target = value -/
def asgM (m : M D) (t : Tf) : M Fl := M.bind m fun d => M.bind (M.to (t d)) fun _ => M.pure .next
theorem Sst.tgt {t : Sto → Option Sto} {f : M Fl} {vs : List Nat} {D : Ends} (h : Sst c W (M.bind (M.to t) fun _ => f) w st H D) (h0 : w.tm = []) :
    Tgt c (t st) vs w σ H fun σ1 H1 => H1 = H ∧ ∃ w1 st1, t st = some st1 ∧ Rel c w1 st1 σ1 H ∧ w1.tm = [] ∧ Ext c w H w1 H ∧ Sst c W f w1 st1 H D := by
  unfold Sst at h
  cases e : t st with
  | none =>
    have e1 : M.to t st = .stuck := by unfold M.to; rw [e]
    rw [M.bind_stuck e1] at h; exact h.elim
  | some st1 =>
    have e1 : M.to t st = .ok () st1 := by unfold M.to; rw [e]
    rw [M.bind_ok e1] at h
    refine ⟨st1, rfl, fun σ1 w1 r1 x1 t1 s1 => ⟨rfl, w1, st1, rfl, r1, t1.trans h0, x1, ?_⟩⟩
    have sub : ∀ y ∈ w.tm, y ∈ w1.tm := fun y hy => by rw [h0] at hy; cases hy
    unfold Sst
    cases e2 : f st1 with
    | stuck => rw [e2] at h; exact h
    | err x s => rw [e2] at h; exact fun cls d σ' H' w' r' x' t' q => h cls d σ' H' w' r' (x1.trans x' sub) t' q
    | ok fl st2 => rw [e2] at h; exact fun σ' H' w' r' x' => h σ' H' w' r' (x1.trans x' sub)
theorem Tgt.mono {o : Option Sto} {vs : List Nat} {Q Q' : Sv → Hp → Prop} (h : Tgt c o vs w σ H Q) (k : ∀ σ H, Q σ H → Q' σ H) : Tgt c o vs w σ H Q' := by
  obtain ⟨st', e, h⟩ := h
  exact ⟨st', e, fun σ' w' r x t s => k _ _ (h σ' w' r x t s)⟩
theorem ds_asg {m : M D} {t : Tf} {vs : List Nat} (h : DV X c W e m) (ht : DTg X c vs tg t) (hs : swapsWithSole [tg] e pos.line X.env = pure false) (hw : swappedStores [tg] e X.env = pure none) (h1 : (assignEach [tg] X.env).map (·.2) = [assign tg X.env]) :
    DS X c W (.Assign [tg] e pos) (asgM m t) := by
  refine PS.less (ps_asg h ht hs hw h1) fun D σ H ⟨w, st, r, t0, p⟩ => ?_
  refine ⟨w, st, r, (Sst.bind p t0).mono fun v1 H1 ⟨d, w1, st1, r1, q1, x1, p1⟩ => ?_⟩
  have t1 : w1.tm = [] := q1.1.trans t0
  refine ⟨w1, st1, d, r1, q1.2, (p1.tgt t1).mono fun σ2 H2 ⟨e2, w2, st2, _, r2, t2, x2, p2⟩ => ?_⟩
  subst e2
  exact Sst.next (m := M.pure .next) p2 r2 t2
/-! ### for -/
def loopM (t : Tf) (body : M Fl) : List D → M Fl
  | [] => M.pure .next
  | d :: ds => M.bind (M.to (t d)) fun _ => M.bind body fun f => match f with
    | .next => loopM t body ds
    | .cont => loopM t body ds
    | .brk => M.pure .next
    | .ret r => M.pure (.ret r)
def forM (m : M (List D)) (t : Tf) (body : M Fl) : M Fl := M.bind m fun ds => loopM t body ds
/-- a body, then what comes after it -/
def aftT (c : Cn) (W : WX) (w : Wt) (H : Hp) (m : M Fl) (D : Ends) : Sv → Hp → Prop := fun σ' H' => ∃ w' st', Rel c w' st' σ' H' ∧ w'.tm = [] ∧ Ext c w H w' H' ∧ Sst c W m w' st' H' D
theorem Sst.turn {m : M Fl} {k : Fl → M Fl} {D : Ends} (h : Sst c W (M.bind m k) w st H D) (h0 : w.tm = []) (hb : k .brk = M.pure .next) (hr : ∀ r, k (.ret r) = M.pure (.ret r)) :
    Sst c W m w st H { D with nx := aftT c W w H (k .next) D, ct := aftT c W w H (k .cont) D, bk := D.nx } := by
  unfold Sst at h ⊢
  cases e : m st with
  | stuck => rw [M.bind_stuck e] at h; exact h
  | err x st' => rw [M.bind_err e] at h; exact h
  | ok f st1 =>
    rw [M.bind_ok e] at h
    have sub : ∀ (w1 : Wt), ∀ y ∈ w.tm, y ∈ w1.tm := fun w1 y hy => by rw [h0] at hy; cases hy
    have go : ∀ (f : Fl), (match k f st1 with
        | .ok f st' => ∀ σ' H' w', Rel c w' st' σ' H' → Ext c w H w' H' → (match f with
          | .next => w'.tm = [] → D.nx σ' H'
          | .brk => w'.tm = [] → D.bk σ' H'
          | .cont => w'.tm = [] → D.ct σ' H'
          | .ret r => ∀ v, rR c [] w' H' v r → D.rt v H')
        | .err x st' => ∀ cls d σ' H' w', Rel c w' st' σ' H' → Ext c w H w' H' → w'.tm = [] → c.xr w'.cs (w'.av c) H' x cls d → W cls d σ' H'
        | .stuck => False) → ∀ σ1 H1 w1, Rel c w1 st1 σ1 H1 → Ext c w H w1 H1 → w1.tm = [] → ∃ w' st', Rel c w' st' σ1 H1 ∧ w'.tm = [] ∧ Ext c w H w' H1 ∧ Sst c W (k f) w' st' H1 D := fun f h σ1 H1 w1 r1 x1 t1 => by
      refine ⟨w1, st1, r1, t1, x1, ?_⟩
      unfold Sst
      cases e1 : k f st1 with
      | stuck => rw [e1] at h; exact h
      | err x st' =>
        rw [e1] at h
        exact fun cls d σ' H' w' r' x' t' q => h cls d σ' H' w' r' (x1.trans x' (sub _)) t' q
      | ok fl st2 =>
        rw [e1] at h
        exact fun σ' H' w' r' x' => h σ' H' w' r' (x1.trans x' (sub _))
    cases f with
    | next => exact go _ h
    | cont => exact go _ h
    | brk => rw [hb] at h; exact h
    | ret r => rw [hr] at h; exact h
theorem Sst.ends {m : M Fl} {D : Ends} {N N' C C' B : Sv → Hp → Prop} (h : Sst c W m w st H { D with nx := N, ct := C, bk := B }) (k : ∀ σ H, N σ H → N' σ H) (k' : ∀ σ H, C σ H → C' σ H) : Sst c W m w st H { D with nx := N', ct := C', bk := B } := by
  unfold Sst at h ⊢
  cases e : m st with
  | stuck => rw [e] at h; exact h
  | err x st' => rw [e] at h; exact h
  | ok f st1 =>
    rw [e] at h
    intro σ' H' w' r' x'
    have q := h σ' H' w' r' x'
    cases f with
    | next => exact fun t => k _ _ (q t)
    | cont => exact fun t => k' _ _ (q t)
    | brk => exact q
    | ret r => exact q
theorem ds_for {m : M (List D)} {t : Tf} {body : List Stmt} {mb : M Fl} {vs : List Nat} (hp : PassesOwn (model X.prog X.w) X.A X.env X.xe) (hc : X.calm = true) (hi : DI X c W tg e m) (hg : DTg X c vs tg t) (hb : DSs X c W body mb)
    (hs : ∀ x, foldedSetIterable e X.env x = pure x) : DS X c W (.For tg e body [] pos) (forM m t mb) := by
  refine PS.less (ps_for hp hc hi hg hb hs) fun D σ H ⟨w, st, r, t0, p⟩ => ?_
  refine ⟨w, st, r, (Sst.bind p t0).mono fun J H1 ⟨ds, w1, st1, r1, q1, x1, p1⟩ => ?_⟩
  have t1 : w1.tm = [] := q1.1.trans t0
  have it := q1.2
  refine ⟨fun i m σ' H' => m = ds.length - i ∧ i ≤ ds.length ∧ ∃ w' st', Rel c w' st' σ' H' ∧ w'.tm = [] ∧ Ext c w1 H1 w' H' ∧ Sst c W (loopM t mb (ds.drop i)) w' st' H' D, ⟨ds.length, rfl, Nat.zero_le _, w1, st1, r1, t1, Ext.refl _ _ _, p1⟩, ?_⟩
  rintro i n σ2 H2 ⟨rfl, hi, w2, st2, r2, t2, x2, p2⟩
  obtain ⟨j1, j2⟩ := it w2 H2 x2.gr r2.exA
  have sub : ∀ (w' : Wt), ∀ y ∈ w1.tm, y ∈ w'.tm := fun w' y hy => by rw [t1] at hy; cases hy
  by_cases hl : i < ds.length
  · have ed : ds[i]? = some ds[i] := List.getElem?_eq_getElem hl
    rw [List.drop_eq_getElem_cons hl] at p2
    obtain ⟨g1, g2⟩ := j1 i _ ed
    refine .inr ⟨g1, fun σ' H' => ∃ w' st', Rel c w' st' σ' H' ∧ w'.tm = [] ∧ Ext c w1 H1 w' H' ∧ Sst c W (loopM t mb (ds.drop (i + 1))) w' st' H' D, fun σ' H' h => ⟨ds.length - (i + 1), by omega, rfl, hl, h⟩, fun x H3 y => ?_⟩
    obtain ⟨s3, rx⟩ := g2 x H3 y
    have r3 := s3.rel r2
    have x3 : Ext c w2 H2 w2 H3 := s3.ext r2
    have p3 : Sst c W (loopM t mb (ds[i] :: ds.drop (i + 1))) w2 st2 H3 D := by
      unfold Sst at p2 ⊢
      cases e1 : loopM t mb (ds[i] :: ds.drop (i + 1)) st2 with
      | stuck => rw [e1] at p2; exact p2
      | err x st' => rw [e1] at p2; exact fun cls d σ' H' w' r' x' t' q => p2 cls d σ' H' w' r' (x3.trans x' fun a ha => ha) t' q
      | ok fl st2 => rw [e1] at p2; exact fun σ' H' w' r' x' => p2 σ' H' w' r' (x3.trans x' fun a ha => ha)
    refine ⟨w2, st2, ds[i], r3, rx, (Sst.tgt p3 t2).mono fun σ4 H4 ⟨e4, w4, st4, _, r4, t4, x4, p4⟩ => ?_⟩
    subst e4
    refine ⟨w4, st4, r4, t4, ?_⟩
    have xx : Ext c w1 H1 w4 H4 := x2.trans (x3.trans x4 fun a ha => ha) (sub _)
    refine (Sst.turn p4 t4 rfl fun _ => rfl).ends (fun σ' H' h => ?_) (fun σ' H' h => ?_)
    · obtain ⟨w7, st7, r7, t7, x7, p7⟩ := h
      exact ⟨w7, st7, r7, t7, xx.trans x7 (sub _), p7⟩
    · obtain ⟨w7, st7, r7, t7, x7, p7⟩ := h
      exact ⟨w7, st7, r7, t7, xx.trans x7 (sub _), p7⟩
  · have e0 : i = ds.length := by omega
    subst e0
    rw [List.drop_length] at p2
    exact .inl ⟨j2 _ (Nat.le_refl _), Sst.next (m := M.pure .next) p2 r2 t2⟩
/-! ### while -/
def whileM (b : M Bool) (body : M Fl) : Nat → M Fl
  | 0 => M.fail
  | n + 1 => M.bind b fun k => if k then M.bind body fun f => match f with
    | .next => whileM b body n
    | .cont => whileM b body n
    | .brk => M.pure .next
    | .ret r => M.pure (.ret r) else M.pure .next
theorem ds_while {b : Expr} {mb : M Bool} {body : List Stmt} {m : M Fl} {n : Nat} (hp : PassesOwn (model X.prog X.w) X.A X.env X.xe) (hc : DT X c W b mb) (hb : DSs X c W body m) : DS X c W (.While b body [] pos) (whileM mb m n) := by
  refine PS.less (ps_while hp hc hb) fun D σ H ⟨w, st, r, t0, p⟩ => ?_
  refine ⟨fun k σ' H' => ∃ w' st', Rel c w' st' σ' H' ∧ w'.tm = [] ∧ Sst c W (whileM mb m k) w' st' H' D, ⟨n, w, st, r, t0, p⟩, ?_⟩
  rintro k σ1 H1 ⟨w1, st1, r1, t1, p1⟩
  cases k with
  | zero => exact p1.elim
  | succ k =>
    refine ⟨w1, st1, r1, (Sst.bind p1 t1).mono fun v2 H2 ⟨b2, w2, st2, r2, q2, x2, p2⟩ => ?_⟩
    obtain ⟨t2, rfl⟩ := q2
    have t2 : w2.tm = [] := t2.trans t1
    cases v2 with
    | false => exact Sst.next (m := M.pure .next) p2 r2 t2
    | true =>
      refine ⟨fun σ' H' => ∃ w' st', Rel c w' st' σ' H' ∧ w'.tm = [] ∧ Sst c W (whileM mb m k) w' st' H' D, fun σ' H' h => ⟨k, Nat.lt_succ_self _, h⟩, w2, st2, r2, t2, ?_⟩
      refine (Sst.turn (k := fun f => match f with | .next => whileM mb m k | .cont => whileM mb m k | .brk => M.pure .next | .ret r => M.pure (.ret r)) p2 t2 rfl fun _ => rfl).ends (fun σ' H' h => ?_) (fun σ' H' h => ?_)
      · obtain ⟨w7, st7, r7, t7, x7, p7⟩ := h
        exact ⟨w7, st7, r7, t7, p7⟩
      · obtain ⟨w7, st7, r7, t7, x7, p7⟩ := h
        exact ⟨w7, st7, r7, t7, p7⟩
end
end Pv
namespace Pv
open PySem PySem.Spec PyProof.Rows L2

section
variable {X : Cx} {c : Cn} {W : WX} {w : Wt} {st : Sto} {σ : Sv} {H H' : Hp} {pins : List (Addr × Obj)} {s : Shared} {pos apos cpos p tpos : Pos} {e a b o tg e2 elt iter : Expr} {es elts ifs : List Expr} {kk : Nat}
/-! ### comprehensions -/
theorem wipe_get (σ : Sv) (i : Nat) : ∀ vs : List Nat, (wipe σ vs)[i]? = if i ∈ vs ∧ i < σ.length then some none else σ[i]?
  | [] => by simp [wipe]
  | v :: vs => by
    unfold wipe
    by_cases h : v = i
    · subst h
      by_cases hl : v < σ.length
      · rw [List.getElem?_set_self (by rw [wipe_length]; exact hl), if_pos ⟨by simp, hl⟩]
      · have e : (wipe σ vs).set v none = wipe σ vs := List.set_eq_of_length_le (by rw [wipe_length]; omega)
        rw [e, wipe_get σ v vs, if_neg (fun z => hl z.2), if_neg (fun z => hl z.2)]
    · rw [List.getElem?_set_ne h, wipe_get σ i vs]
      by_cases q : i ∈ vs ∧ i < σ.length
      · rw [if_pos q, if_pos ⟨List.mem_cons_of_mem _ q.1, q.2⟩]
      · rw [if_neg q, if_neg fun z => q ⟨(List.mem_cons.mp z.1).resolve_left (Ne.symm h), z.2⟩]
theorem wipe_same {vs : List Nat} {σ σ' : Sv} (h : SamB vs σ σ') : wipe σ' vs = wipe σ vs := by
  apply List.ext_getElem?
  intro i
  rw [wipe_get, wipe_get, h.1]
  by_cases q : i ∈ vs ∧ i < σ.length
  · rw [if_pos q, if_pos q]
  · rw [if_neg q, if_neg q]
    by_cases hi : i ∈ vs
    · have hl : σ.length ≤ i := Nat.le_of_not_lt fun z => q ⟨hi, z⟩
      rw [List.getElem?_eq_none hl, List.getElem?_eq_none (by rw [h.1]; exact hl)]
    · exact h.2 i hi
theorem wipe_wipe {vs : List Nat} {σ : Sv} : wipe (wipe σ vs) vs = wipe σ vs := wipe_same ⟨wipe_length _ _, fun i h => by rw [wipe_get, if_neg fun z => h z.1]⟩
def noOw : Option Sl → Bool
  | some (.ow _) => false
  | _ => true
def wipeR (ρ : List Sl) : List Nat → List Sl
  | [] => ρ
  | v :: vs => (wipeR ρ vs).set v .no
theorem wipeR_length (ρ : List Sl) : ∀ vs, (wipeR ρ vs).length = ρ.length
  | [] => rfl
  | v :: vs => by unfold wipeR; rw [List.length_set, wipeR_length ρ vs]
theorem wipeR_get (ρ : List Sl) (i : Nat) : ∀ vs : List Nat, (wipeR ρ vs)[i]? = if i ∈ vs ∧ i < ρ.length then some .no else ρ[i]?
  | [] => by simp [wipeR]
  | v :: vs => by
    unfold wipeR
    by_cases h : v = i
    · subst h
      by_cases hl : v < ρ.length
      · rw [List.getElem?_set_self (by rw [wipeR_length]; exact hl), if_pos ⟨by simp, hl⟩]
      · have e : (wipeR ρ vs).set v .no = wipeR ρ vs := List.set_eq_of_length_le (by rw [wipeR_length]; omega)
        rw [e, wipeR_get ρ v vs, if_neg (fun z => hl z.2), if_neg (fun z => hl z.2)]
    · rw [List.getElem?_set_ne h, wipeR_get ρ i vs]
      by_cases q : i ∈ vs ∧ i < ρ.length
      · rw [if_pos q, if_pos ⟨List.mem_cons_of_mem _ q.1, q.2⟩]
      · rw [if_neg q, if_neg fun z => q ⟨(List.mem_cons.mp z.1).resolve_left (Ne.symm h), z.2⟩]
def wipeF (vs : List Nat) : Sto → Option Sto := fun st => if vs.all fun v => noOw st.ρ[v]? then some { st with ρ := wipeR st.ρ vs } else none
theorem noOw_slot (r : Rel c w st σ H) {i : Nat} {o : Option Addr} (h : noOw st.ρ[i]? = true) (e : w.ow[i]? = some o) : o = none := by
  have hi : i < st.ρ.length := by rw [← r.lo]; exact (List.getElem?_eq_some_iff.mp e).1
  have es : st.ρ[i]? = some st.ρ[i] := List.getElem?_eq_getElem hi
  obtain ⟨o', v, h1, h2, h3⟩ := r.at es
  rw [e] at h1; cases h1
  rw [es] at h
  cases q : st.ρ[i] with
  | no => rw [q] at h3; exact h3
  | sh d => rw [q] at h3; exact h3.1
  | ow d => rw [q] at h; cases h
/-- the slots are set anew, none of them held -/
theorem Rel.reslot {ρ' : List Sl} {σ' : Sv} (r : Rel c w st σ H) (hl : ρ'.length = st.ρ.length) (hl' : σ'.length = σ.length)
    (h : ∀ (i : Nat) (s : Sl) (v : Option V) (o : Option Addr), ρ'[i]? = some s → σ'[i]? = some v → w.ow[i]? = some o → (st.ρ[i]? = some s ∧ σ[i]? = some v) ∨ SlR c w H o v s) : Rel c w { st with ρ := ρ' } σ' H := by
  refine ⟨r.a0, r.fr, r.pre, r.nd, r.nw, r.ex, r.len, r.cells, by rw [r.lo]; exact hl.symm, by rw [hl', r.ls]; exact hl.symm, fun i s o v h1 h2 h3 => ?_⟩
  rcases h i s v o h1 h3 h2 with ⟨a, b⟩ | q
  · exact r.sl i s o v a h2 b
  · exact q
theorem Rel.wipe {vs : List Nat} {st' : Sto} (r : Rel c w st σ H) (h : wipeF vs st = some st') : Rel c w st' (L2.wipe σ vs) H := by
  unfold wipeF at h
  split at h
  · rename_i q
    cases h
    refine r.reslot (wipeR_length _ _) (wipe_length _ _) fun i s v o h1 h2 h3 => ?_
    rw [wipeR_get] at h1
    rw [wipe_get] at h2
    by_cases hv : i ∈ vs
    · have hi : i < st.ρ.length := by rw [← r.lo]; exact (List.getElem?_eq_some_iff.mp h3).1
      rw [if_pos ⟨hv, hi⟩] at h1
      cases h1
      exact .inr (noOw_slot r (List.all_eq_true.mp q i hv) h3)
    · rw [if_neg fun z => hv z.1] at h1
      rw [if_neg fun z => hv z.1] at h2
      exact .inl ⟨h1, h2⟩
  · cases h
def restR (ρ0 ρ : List Sl) : List Nat → List Sl
  | [] => ρ
  | v :: vs => (restR ρ0 ρ vs).set v ((ρ0[v]?).getD .no)
theorem restR_length (ρ0 ρ : List Sl) : ∀ vs, (restR ρ0 ρ vs).length = ρ.length
  | [] => rfl
  | v :: vs => by unfold restR; rw [List.length_set, restR_length ρ0 ρ vs]
theorem restR_get (ρ0 ρ : List Sl) (i : Nat) : ∀ vs : List Nat, (restR ρ0 ρ vs)[i]? = if i ∈ vs ∧ i < ρ.length then some ((ρ0[i]?).getD .no) else ρ[i]?
  | [] => by simp [restR]
  | v :: vs => by
    unfold restR
    by_cases h : v = i
    · subst h
      by_cases hl : v < ρ.length
      · rw [List.getElem?_set_self (by rw [restR_length]; exact hl), if_pos ⟨by simp, hl⟩]
      · have e : (restR ρ0 ρ vs).set v ((ρ0[v]?).getD .no) = restR ρ0 ρ vs := List.set_eq_of_length_le (by rw [restR_length]; omega)
        rw [e, restR_get ρ0 ρ v vs, if_neg (fun z => hl z.2), if_neg (fun z => hl z.2)]
    · rw [List.getElem?_set_ne h, restR_get ρ0 ρ i vs]
      by_cases q : i ∈ vs ∧ i < ρ.length
      · rw [if_pos q, if_pos ⟨List.mem_cons_of_mem _ q.1, q.2⟩]
      · rw [if_neg q, if_neg fun z => q ⟨(List.mem_cons.mp z.1).resolve_left (Ne.symm h), z.2⟩]
/-- only what goes well -/
def M.sure {α : Type} (m : M α) : Sto → Option (α × Sto) := fun st => match m st with
  | .ok a st' => some (a, st')
  | _ => none
theorem M.sure_ok {α : Type} {m : M α} {x : α × Sto} (h : m.sure st = some x) : m st = .ok x.1 x.2 := by
  unfold M.sure at h
  split at h
  · rename_i e; cases h; exact e
  · cases h
theorem Pst.of_ok {α β : Type} {rr : RT β α} {m : M α} {Q : β → Hp → Prop} {a : α} {st' : Sto} (e : m st = .ok a st') (h : ∀ v H' w', Rel c w' st' σ H' → Ext c w H w' H' → rr w.tm w' H' v a → Q v H') : Pst c W rr m w st σ H Q := by
  unfold Pst; rw [e]; exact h
/-- one turn: what is put to the list -/
def lcT (vs : List Nat) (t : Tf) (tt : M Bool) (te : M D) (d : D) : Sto → Option (Option D × Sto) := fun st =>
  (t d st).bind fun st1 => (tt.sure st1).bind fun x => if x.1 then (te.sure x.2).bind fun y => (wipeF vs y.2).map fun st4 => (some y.1, st4) else (wipeF vs x.2).map fun st4 => (none, st4)
def lcL (vs : List Nat) (t : Tf) (tt : M Bool) (te : M D) : List D → List D → Sto → Option (List D × Sto)
  | [], acc, st => some (acc, st)
  | d :: ds, acc, st => (lcT vs t tt te d st).bind fun x => match x.1 with
    | some y => if acc.length < sizeLine then lcL vs t tt te ds (acc ++ [y]) x.2 else none
    | none => lcL vs t tt te ds acc x.2
def lcF (vs : List Nat) (t : Tf) (tt : M Bool) (te : M D) (ds : List D) : M R := fun st =>
  match (wipeF vs st).bind fun st0 => lcL vs t tt te ds [] st0 with
  | some (acc, st1) => .ok (.lst acc, true) { st1 with ρ := restR st.ρ st1.ρ vs }
  | none => .stuck
def lcM (vs : List Nat) (m : M (List D)) (t : Tf) (tt : M Bool) (te : M D) : M R := M.bind m fun ds => lcF vs t tt te ds
def noX : WX := fun _ _ _ _ => False
abbrev DTs (X : Cx) (c : Cn) (W : WX) (e : List Expr) (m : M Bool) : Prop := PTs X e (tM c W rB m)
theorem PTs.less {t u : TT} (h : PTs X ifs t) (k : ∀ σ H Q, u σ H Q → t σ H Q) : PTs X ifs u := ⟨fun pins s σ H Q I hu => h.run pins s σ H Q I (k _ _ _ hu)⟩
theorem dts_nil : DTs X c W [] (M.pure true) := PTs.less pts_nil fun σ H Q ⟨w, st, r, p⟩ => p.pure r ⟨rfl, rfl⟩
theorem dts_one {m : M Bool} (h : DT X c W e m) : DTs X c W [e] m := pts_one h
theorem wipe_shape (h : wipeF vs st = some st') : st'.S = st.S ∧ st'.ρ = wipeR st.ρ vs := by
  unfold wipeF at h
  split at h
  · cases h; exact ⟨rfl, rfl⟩
  · cases h
/-- a write at what is held for itself -/
theorem Rel.writeTm {p : Addr} {o : HO} (r : Rel c w st σ H) (hm : p ∈ w.tm) : Rel c w st σ (upd H p o) ∧ Gr H (upd H p o) w.cs w.cs (w.av c) (w.av c) := by
  obtain ⟨nd1, nd2, nd3⟩ := List.nodup_append.mp r.nd
  obtain ⟨nd4, nd5, nd6⟩ := List.nodup_append.mp nd2
  have hp : w.av c p := .inr (.inr (.inr hm))
  have g : Gr H (upd H p o) w.cs w.cs (w.av c) (w.av c) := upd_gr hp
  have n1 : p ∉ w.cs := fun q => nd3 p q p (List.mem_append_right _ hm) rfl
  have n2 : some p ∉ w.ow := fun q => nd6 p (mem_owned.mpr q) p hm rfl
  refine ⟨⟨r.a0, fun a u h n => ?_, r.pre, r.nd, r.nw, fun a h q => ?_, r.len, fun k cell a h1 h2 => ?_, r.lo, r.ls, fun j s o' v h1 h2 h3 => ?_⟩, g⟩
  · rw [upd_ne (fun z => by rw [z, r.nw p (.inr (.inl hm))] at h; cases h)]; exact r.fr a u h n
  · by_cases z : a = p
    · rw [z, upd_same] at q; cases q
    · rw [upd_ne z] at q; exact r.ex a h q
  · exact (r.cells k cell a h1 h2).gr g fun u hu => by rw [upd_ne (fun z => n1 (by rw [← z]; exact List.mem_of_getElem? h2))]; exact hu
  · exact (r.sl j s o' v h1 h2 h3).gr g fun b u hb hu => by
      rw [upd_ne (fun z => n2 (by rw [← z, ← hb]; exact List.mem_of_getElem? h2))]; exact hu
theorem tlc_of {vs : List Nat} {m : M (List D)} {t : Tf} {tt : M Bool} {te : M D} {Q : VK} (h : tM c W (rR c) (lcM vs m t tt te) σ H Q) :
    tLc (tM c W (rI c) m) (tTg c vs t) (tM c noX rB tt) (tM c noX (rD c) te) vs σ H Q := by
  obtain ⟨w, st, r, p⟩ := h
  refine ⟨w, st, r, (Pst.bind p rI.tk).mono fun J H1 ⟨ds, w1, st1, r1, q1, x1, t1, p1⟩ => ?_⟩
  intro A hA
  have it := q1.2
  unfold Pst lcF at p1
  cases e0 : wipeF vs st1 with
  | none => simp only [e0, Option.bind_none] at p1
  | some st2 =>
    simp only [e0, Option.bind_some] at p1
    cases e1 : lcL vs t tt te ds [] st2 with
    | none => simp only [e1] at p1
    | some z =>
      obtain ⟨accF, stF⟩ := z
      simp only [e1] at p1
      have r2 := r1.wipe e0
      have sA : Same H1 (upd H1 A (.lst [])) := Same.upd hA
      have r3 : Rel c (w1.more A) st2 (L2.wipe σ vs) (upd H1 A (.lst [])) := sA.rel_more r2 hA (by rw [upd_same]; simp)
      have x3 : Ext c w1 H1 (w1.more A) (upd H1 A (.lst [])) := sA.ext_more r2 hA
      have nA : A ∉ w1.tm := fun q => r1.ex A (.inr (.inr (.inr q))) hA
      refine ⟨fun i n H => n = ds.length - i ∧ i ≤ ds.length ∧ ∃ w' st' acc xs, Rel c w' st' (L2.wipe σ vs) H ∧ w'.tm = A :: w1.tm ∧ Ext c w1 H1 w' H ∧ H A = some (.lst xs) ∧ RepsW c w' H xs acc ∧
        lcL vs t tt te (ds.drop i) acc st' = some (accF, stF), ⟨ds.length, rfl, Nat.zero_le _, w1.more A, st2, [], [], r3, rfl, x3, upd_same, .nil, e1⟩, ?_⟩
      rintro i n H2 ⟨rfl, hi, w2, st3, acc, xs, r4, t4, xx, hA4, ra, e4⟩
      obtain ⟨j1, j2⟩ := it w2 H2 xx.gr r4.exA
      have sub : ∀ y ∈ w1.tm, y ∈ w2.tm := fun y hy => by rw [t4]; exact List.mem_cons_of_mem _ hy
      by_cases hl : i < ds.length
      · have ed : ds[i]? = some ds[i] := List.getElem?_eq_getElem hl
        rw [List.drop_eq_getElem_cons hl] at e4
        obtain ⟨g1, g2⟩ := j1 i _ ed
        unfold lcL at e4
        obtain ⟨⟨yo, st8⟩, e5, e6⟩ := Option.bind_eq_some_iff.mp e4
        unfold lcT at e5
        obtain ⟨st5, e7, e8⟩ := Option.bind_eq_some_iff.mp e5
        obtain ⟨⟨bb, st6⟩, e9, e10⟩ := Option.bind_eq_some_iff.mp e8
        refine .inr ⟨g1, fun H => ∃ n', n' < ds.length - i ∧ (n' = ds.length - (i + 1) ∧ i + 1 ≤ ds.length ∧ ∃ w' st' acc xs, Rel c w' st' (L2.wipe σ vs) H ∧ w'.tm = A :: w1.tm ∧ Ext c w1 H1 w' H ∧ H A = some (.lst xs) ∧ RepsW c w' H xs acc ∧
          lcL vs t tt te (ds.drop (i + 1)) acc st' = some (accF, stF)), fun H h => h, fun x H3 y => ?_⟩
        obtain ⟨s3, rx⟩ := g2 x H3 y
        have r5 := s3.rel r4
        have x5 : Ext c w2 H2 w2 H3 := s3.ext r4
        refine ⟨w2, st3, ds[i], r5, rx, st5, e7, fun σ6 w6 r6 x6 t6 s6 => ⟨(wipe_same s6).trans wipe_wipe, ?_⟩⟩
        have hw6 : L2.wipe σ6 vs = L2.wipe σ vs := (wipe_same s6).trans wipe_wipe
        refine ⟨w6, st5, r6, .of_ok (M.sure_ok e9) fun b7 H7 w7 r7 x7 q7 => ?_⟩
        obtain ⟨t7, rfl⟩ := q7
        have t7' : w7.tm = A :: w1.tm := t7.trans (t6.trans t4)
        have x67 : Ext c w2 H2 w7 H7 := x5.trans (x6.trans x7 fun a ha => by rw [t6]; exact ha) fun a ha => ha
        have hA7 : ∀ {w' : Wt} {H' : Hp}, Ext c w2 H2 w' H' → H' A = some (.lst xs) := fun {w' H'} x => by rw [x.tm A (by rw [t4]; exact List.mem_cons_self)]; exact hA4
        cases b7 with
        | false =>
          simp only [Bool.false_eq_true, if_false] at e10
          obtain ⟨st9, e11, e12⟩ := Option.map_eq_some_iff.mp e10
          cases e12
          rw [if_neg (by decide)]
          have r8 := r7.wipe e11
          rw [hw6] at r8
          exact ⟨ds.length - (i + 1), by omega, rfl, hl, w7, st8, acc, xs, r8, t7', xx.trans x67 sub, hA7 x67, x67.reps ra, e6⟩
        | true =>
          simp only [if_true] at e10
          obtain ⟨⟨yd, st9⟩, e11, e12⟩ := Option.bind_eq_some_iff.mp e10
          obtain ⟨st10, e13, e14⟩ := Option.map_eq_some_iff.mp e12
          cases e14
          rw [if_pos rfl]
          refine ⟨w7, st6, r7, .of_ok (M.sure_ok e11) fun v9 H9 w9 r9 x9 q9 => ?_⟩
          obtain ⟨t9, rv⟩ := q9
          have x69 : Ext c w2 H2 w9 H9 := x67.trans x9 fun a ha => by rw [t7', ← t4]; exact ha
          simp only at e6
          split at e6
          · rename_i hz
            have hA9 := hA7 x69
            have t9' : w9.tm = A :: w1.tm := t9.trans t7'
            have am : A ∈ w9.tm := by rw [t9']; exact List.mem_cons_self
            refine ⟨xs, hA9, by rw [ra.length]; exact hz, ds.length - (i + 1), by omega, rfl, hl, ?_⟩
            have r10 := r9.wipe e13
            rw [hw6] at r10
            obtain ⟨r11, g11⟩ := r10.writeTm (o := .lst (xs ++ [v9])) am
            have x11 : Ext c w1 H1 w9 (upd H9 A (.lst (xs ++ [v9]))) := ⟨(xx.trans x69 sub).gr.trans g11, fun a ha => by
              rw [upd_ne fun z => nA (by rw [← z]; exact ha)]
              exact (xx.trans x69 sub).tm a ha⟩
            exact ⟨w9, st8, acc ++ [yd], xs ++ [v9], r11, t9', x11, upd_same, g11.reps ((x69.reps ra).append (.cons rv .nil)), e6⟩
          · cases e6
      · have e0' : i = ds.length := by omega
        subst e0'
        rw [List.drop_length] at e4
        cases e4
        refine .inl ⟨j2 _ (Nat.le_refl _), ?_⟩
        refine p1 _ H2 w2 (r4.reslot (restR_length _ _ _) (wipe_length _ _).symm fun i s v o h1 h2 h3 => ?_) xx ⟨A, rfl, t4, .lst hA4 ra⟩
        rw [restR_get] at h1
        by_cases hv : i ∈ vs
        · have hi : i < stF.ρ.length := by rw [← r4.lo]; exact (List.getElem?_eq_some_iff.mp h3).1
          have his : i < σ.length := by rw [← wipe_length σ vs, r4.ls]; exact hi
          rw [if_pos ⟨hv, hi⟩] at h1
          cases h1
          have ho : o = none := by
            have q := r4.sl i _ o none (List.getElem?_eq_getElem hi) h3 (by rw [wipe_get, if_pos ⟨hv, his⟩])
            cases e : stF.ρ[i] with
            | no => rw [e] at q; exact q
            | sh d => rw [e] at q; obtain ⟨_, x, z, _⟩ := q; cases z
            | ow d => rw [e] at q; obtain ⟨_, _, z, _⟩ := q; cases z
          refine .inr ?_
          subst ho
          cases e : st1.ρ[i]? with
          | none => exact rfl
          | some s0 =>
            cases s0 with
            | no => exact rfl
            | sh d =>
              obtain ⟨o', v', q1', q2', q3'⟩ := r1.at e
              rw [h2] at q2'; cases q2'
              obtain ⟨_, x, z, rp⟩ := q3'
              exact ⟨rfl, x, z, xx.rep rp⟩
            | ow d =>
              unfold wipeF at e0
              split at e0
              · rename_i q
                have := List.all_eq_true.mp q i hv
                rw [e] at this; cases this
              · cases e0
        · rw [if_neg fun z => hv z.1] at h1
          refine .inl ⟨h1, ?_⟩
          rw [wipe_get, if_neg fun z => hv z.1]; exact h2
theorem de_lc {m : M (List D)} {t : Tf} {tt : M Bool} {te : M D} {scope : Scope} {own : List (Str × Nat)} (hc : X.calm = true) (hN : X.N.Nodup) (hi : DI X c W tg iter m) (ok : BlkOk X.N X.env.scope scope own)
    (hg : ∀ (s : Shared) (H : Hp) (C : Addr) (cl : List (Str × Addr)) (fp : List Addr), DTg (X.blk s H scope (compEnvC scope cl C X.env) fp) c (own.map (·.2)) tg t)
    (ht : ∀ (s : Shared) (H : Hp) (C : Addr) (cl : List (Str × Addr)) (fp : List Addr), DTs (X.blk s H scope (compEnvC scope cl C X.env) fp) c noX ifs tt)
    (he : ∀ (s : Shared) (H : Hp) (C : Addr) (cl : List (Str × Addr)) (fp : List Addr), DV (X.blk s H scope (compEnvC scope cl C X.env) fp) c noX elt te) (hs : ∀ x, foldedSetIterable iter X.env x = pure x) :
    DE X c W (.ListComp elt [⟨tg, iter, ifs, 0⟩] scope pos) (lcM (own.map (·.2)) m t tt te) := by
  exact PE.less (pe_lc hc hN hi ok hg ht he hs) fun σ H Q h => tlc_of h
end
end Pv
namespace Pv
open PySem PySem.Spec PyProof.Rows L2

section
variable {X : Cx} {c : Cn} {W : WX} {w : Wt} {st : Sto} {σ : Sv} {H H' : Hp} {pins : List (Addr × Obj)} {s : Shared} {pos apos cpos p tpos px : Pos} {e a b o tg e2 elt iter : Expr} {es elts ifs : List Expr} {kk i : Nat} {x : Str}
/-! ### small statements -/
theorem ds_pass : DS X c W (.Pass pos) (M.pure .next) := PS.less ps_pass fun D σ H ⟨w, st, r, t, p⟩ => Sst.next (m := M.pure .next) p r t
theorem ds_break : DS X c W (.Break pos) (M.pure .brk) := PS.less ps_break fun D σ H ⟨w, st, r, t, p⟩ => p σ H w r (Ext.refl _ _ _) t
theorem ds_cont : DS X c W (.Continue pos) (M.pure .cont) := PS.less ps_continue fun D σ H ⟨w, st, r, t, p⟩ => p σ H w r (Ext.refl _ _ _) t
def dropM (m : M D) : M Fl := M.bind m fun _ => M.pure .next
theorem ds_expr {m : M D} (h : DV X c W e m) (hs : swapsWith e none pos.line X.env = pure false) : DS X c W (.Expr e pos) (dropM m) := by
  refine PS.less (ps_expr h hs) fun D σ H ⟨w, st, r, t, p⟩ => ?_
  refine ⟨w, st, r, (Sst.bind p t).mono fun v1 H1 ⟨d, w1, st1, r1, q1, x1, p1⟩ => Sst.next (m := M.pure .next) p1 r1 (q1.1.trans t)⟩
def retM (m : M R) : M Fl := M.bind m fun r => M.pure (.ret r)
theorem ds_ret {m : M R} (h : DE X c W e m) : DS X c W (.Return (some e) pos) (retM m) := by
  refine PS.less (ps_ret h) fun D σ H ⟨w, st, r, t, p⟩ => ?_
  refine ⟨w, st, r, (Sst.bind p t).mono fun v1 H1 ⟨d, w1, st1, r1, q1, x1, p1⟩ => ?_⟩
  rw [t] at q1
  exact p1 σ H1 w1 r1 (Ext.refl _ _ _) v1 q1
theorem ds_retN : DS X c W (.Return none pos) (M.pure (.ret (.non, false))) := by
  refine PS.less ps_retN fun D σ H ⟨w, st, r, t, p⟩ => ?_
  exact p σ H w r (Ext.refl _ _ _) .non ⟨t, .non⟩
theorem ds_if {mb : M Bool} {m n : M Fl} {as bs : List Stmt} (hc : DT X c W e mb) (ha : DSs X c W as m) (hb : DSs X c W bs n) : DS X c W (.If e as bs pos) (iteM mb m n) := by
  refine PS.less (ps_if hc ha hb) fun D σ H ⟨w, st, r, t, p⟩ => ?_
  refine ⟨w, st, r, (Sst.bind p t).mono fun v1 H1 ⟨k, w1, st1, r1, q1, x1, p1⟩ => ?_⟩
  obtain ⟨t1, rfl⟩ := q1
  cases v1 with
  | true => exact ⟨w1, st1, r1, t1.trans t, p1⟩
  | false => exact ⟨w1, st1, r1, t1.trans t, p1⟩
/-! name += number -/
def intAt (i : Nat) (st : Sto) : Option Int := match st.ρ[i]? with
  | some (.sh (.int j)) => some j
  | _ => none
def numOf : D → Option Int
  | .int j => some j
  | _ => none
theorem intAt_ok (r : Rel c w st σ H) {j : Int} (h : intAt i st = some j) : σ[i]? = some (some (.int j)) := by
  unfold intAt at h
  split at h
  · rename_i q
    cases h
    obtain ⟨o, v, h1, h2, _, y, h3, h4⟩ := r.at q
    subst h3
    cases h4
    exact h2
  · cases h
theorem numOf_ok {d : D} {j : Int} (h : numOf d = some j) : d = .int j := by cases d <;> cases h; rfl
def augM (f : Int → Int → Int) (i : Nat) (m : M D) : M Fl := M.bind (M.look (intAt i)) fun k => M.bind m fun d => M.bind (M.lift (numOf d)) fun j => putF i (.int (f k j), false)
theorem Sst.look {α : Type} {f : Sto → Option α} {g : α → M Fl} {D : Ends} (h : Sst c W (M.bind (M.look f) g) w st H D) : ∃ a, f st = some a ∧ Sst c W (g a) w st H D := by
  cases e : f st with
  | none =>
    have e1 : M.look f st = .stuck := by unfold M.look; rw [e]
    unfold Sst at h
    rw [M.bind_stuck e1] at h; exact h.elim
  | some a =>
    have e1 : M.look f st = .ok a st := by unfold M.look; rw [e]
    refine ⟨a, rfl, ?_⟩
    unfold Sst at h ⊢
    rw [M.bind_ok e1] at h; exact h
theorem Sst.lift {α : Type} {o : Option α} {g : α → M Fl} {D : Ends} (h : Sst c W (M.bind (M.lift o) g) w st H D) : ∃ a, o = some a ∧ Sst c W (g a) w st H D := by
  cases o with
  | none => exact h.elim
  | some a => exact ⟨a, rfl, h⟩
theorem ds_aug {op : Operator} {f : Int → Int → Int} {m : M D} (ho : PIp X op (ipI f)) (hN : X.N.Nodup) (hi : X.N[i]? = some x) (hx : Loc X.env.scope x) (h : DV X c W e m) (hf : X.fn x = true ∨ X.env.scope.names.lookup x = some .local) :
    DS X c W (.AugAssign (.Name x px) op e pos) (augM f i m) := by
  refine PS.less (ps_aug hN hi hx h ho hf) fun D σ H ⟨w, st, r, t, p⟩ => ?_
  obtain ⟨k, e1, p1⟩ := p.look
  refine ⟨_, intAt_ok r e1, w, st, r, (Sst.bind p1 t).mono fun v1 H1 ⟨d, w1, st1, r1, q1, x1, p2⟩ => ?_⟩
  obtain ⟨j, e2, p3⟩ := p2.lift
  cases numOf_ok e2
  obtain ⟨t1, q1⟩ := q1
  cases q1
  exact ⟨k, j, rfl, rfl, p3.store r1 ⟨t1.trans t, .int _⟩⟩
/-! o[i] = e: a list that is held, or a cell -/
def setAt (i : Nat) (k d : D) (st : Sto) : Option Sto := match st.ρ[i]?, k with
  | some (.ow (.lst ds)), .int n => (ixN ds.length n).map fun j => setOw i (.lst (ds.set j d)) st
  | some (.sh (.ref q)), .int n => match st.S[q]? with
    | some (.lst ds) => (ixN ds.length n).map fun j => { st with S := st.S.set q (.lst (ds.set j d)) }
    | _ => none
  | _, _ => none
def sixM (i : Nat) (mk m : M D) : M Fl := M.bind m fun d => M.bind (M.look fun st => match st.ρ[i]? with | some (.ow _) | some (.sh _) => some () | _ => none) fun _ => M.bind mk fun k => M.bind (M.to (setAt i k d)) fun _ => M.pure .next
theorem setAt_ok {k d : D} {st' : Sto} {vk v : V} (r : Rel c w st σ H) (h : setAt i k d st = some st') (q : RepW c w H vk k) (qd : RepW c w H v d) :
    ∃ p xs n j, σ[i]? = some (some (.ref p)) ∧ vk = .int n ∧ H p = some (.lst xs) ∧ ixN xs.length n = some j ∧ Rel c w st' σ (upd H p (.lst (xs.set j v))) ∧ Ext c w H w (upd H p (.lst (xs.set j v))) := by
  unfold setAt at h
  split at h
  · rename_i ds n e
    obtain ⟨j, e1, rfl⟩ := Option.map_eq_some_iff.mp h
    have eo : ownL i st = some ds := by unfold ownL; rw [e]
    obtain ⟨p, xs, h1, h2, h3, h4⟩ := r.ownLst eo
    cases q
    obtain ⟨r2, x2⟩ := r.putLst eo h1 (h4.set j qd)
    exact ⟨p, xs, n, j, h2, rfl, h3, by rw [h4.length]; exact e1, r2, x2⟩
  · rename_i q' n e
    cases q
    obtain ⟨o, v', h1, h2, h3, y, h4, h5⟩ := r.at e
    subst h4
    cases h5 with
    | ref hk =>
      rename_i p
      split at h
      · rename_i ds e2
        obtain ⟨j, e1, rfl⟩ := Option.map_eq_some_iff.mp h
        obtain ⟨xs, h6, h7⟩ := r.cells _ _ _ e2 hk
        have hp : w.av c p := .inr (.inl (List.mem_of_getElem? hk))
        obtain ⟨r2, x2⟩ := r.writeCell (cell' := .lst (ds.set j d)) (o := .lst (xs.set j v)) hk ⟨_, upd_same, (upd_gr hp).reps (h7.set j qd)⟩
        exact ⟨p, xs, n, j, h2, rfl, h6, by rw [h7.length]; exact e1, r2, x2⟩
      · cases h
  · cases h
theorem ds_six {mk m : M D} (hN : X.N[i]? = some x) (hv : Vis X.env.scope x) (hd : (x == ("__debug__" : Str)) = false) (hcd : (x == ("__classdict__" : Str)) = false) (hk : DV X c W a mk) (h : DV X c W e m)
    (hs : swapsWithSole [.Subscript (.Name x px) a p] e pos.line X.env = pure false) (hw : swappedStores [.Subscript (.Name x px) a p] e X.env = pure none)
    (h1 : (assignEach [.Subscript (.Name x px) a p] X.env).map (·.2) = [assign (.Subscript (.Name x px) a p) X.env])
    (ha : ∀ v, assign (.Subscript (.Name x px) a p) X.env v = (do
      let ov ← holding [v] (eval (.Name x px) X.env)
      let iv ← holding [v, ov] (eval a X.env)
      standAt p
      holding [v, ov, iv] (setItem ov iv v)
      release [v, ov, iv] [])) :
    DS X c W (.Assign [.Subscript (.Name x px) a p] e pos) (sixM i mk m) := by
  refine PS.less (ps_asg h (pg_sub (pe_var hN hv hd hcd) hk set_list ha) hs hw h1) fun D σ H ⟨w, st, r, t, p⟩ => ?_
  refine ⟨w, st, r, (Sst.bind p t).mono fun v1 H1 ⟨d, w1, st1, r1, q1, x1, p1⟩ => ?_⟩
  obtain ⟨u, e1, p2⟩ := p1.look
  have t1 : w1.tm = [] := q1.1.trans t
  have hv : ∃ v0, σ[i]? = some (some v0) := by
    split at e1
    · rename_i q
      obtain ⟨o, v', h1, h2, y, h4, h5, h6⟩ := r1.at q
      subst h5
      exact ⟨_, h2⟩
    · rename_i q
      obtain ⟨o, v', h1, h2, h3, y, h4, h5⟩ := r1.at q
      subst h4
      exact ⟨_, h2⟩
    · cases e1
  obtain ⟨v0, hv0⟩ := hv
  refine ⟨v0, hv0, w1, st1, r1, (Sst.bind p2 t1).mono fun v2 H2 ⟨k, w2, st2, r2, q2, x2, p3⟩ => ?_⟩
  have t2 : w2.tm = [] := q2.1.trans t1
  unfold Sst at p3
  cases e3 : setAt i k d st2 with
  | none =>
    have e4 : M.to (setAt i k d) st2 = .stuck := by unfold M.to; rw [e3]
    rw [M.bind_stuck e4] at p3; exact p3.elim
  | some st3 =>
    have e4 : M.to (setAt i k d) st2 = .ok () st3 := by unfold M.to; rw [e3]
    rw [M.bind_ok e4] at p3
    obtain ⟨q, xs, n, j, g1, rfl, g3, g4, r3, x3⟩ := setAt_ok r2 e3 q2.2 (x2.rep q1.2)
    rw [hv0] at g1; cases g1
    exact ⟨q, xs, n, j, rfl, rfl, g3, g4, p3 _ _ _ r3 x3 t2⟩
/-! a new list becomes a cell -/
def cellM (m : M R) : M R := fun st => match m st with
  | .ok (.lst ds, true) st' => .ok (.ref st'.S.length, false) { st' with S := st'.S ++ [.lst ds] }
  | .err x st' => .err x st'
  | _ => .stuck
theorem Rel.mkCell {A : Addr} {tm : List Addr} {ds : List D} (r : Rel c w st σ H) (t : w.tm = A :: tm) (top : Top c w.cs (w.av c) H A (.lst ds)) :
    Rel c { w with cs := w.cs ++ [A], tm := tm } { st with S := st.S ++ [.lst ds] } σ H ∧ Gr H H w.cs (w.cs ++ [A]) (w.av c) (({ w with cs := w.cs ++ [A], tm := tm } : Wt).av c) := by
  have l : ∀ b, ({ w with cs := w.cs ++ [A], tm := tm } : Wt).av c b → w.av c b := fun b h => by
    rcases h with h | h | h | h
    · exact .inl h
    · rcases List.mem_append.mp h with z | z
      · exact .inr (.inl z)
      · exact .inr (.inr (.inr (by rw [t, List.mem_singleton.mp z]; exact List.mem_cons_self)))
    · exact .inr (.inr (.inl h))
    · exact .inr (.inr (.inr (by rw [t]; exact List.mem_cons_of_mem _ h)))
  have g : Gr H H w.cs (w.cs ++ [A]) (w.av c) (({ w with cs := w.cs ++ [A], tm := tm } : Wt).av c) := ⟨fun _ _ h _ => h, fun a h => .inl (l a h), List.prefix_append _ _⟩
  obtain ⟨nd1, nd2, nd3⟩ := List.nodup_append.mp r.nd
  obtain ⟨nd4, nd5, nd6⟩ := List.nodup_append.mp nd2
  rw [t] at nd5
  obtain ⟨nd7, nd8⟩ := List.nodup_cons.mp nd5
  have hA : A ∈ w.tm := by rw [t]; exact List.mem_cons_self
  refine ⟨⟨r.a0, r.fr, r.pre.trans (List.prefix_append _ _), ?_, fun b h => ?_, fun b h => r.ex b (l b h), by simp [r.len], fun k cell b h1 h2 => ?_, r.lo, r.ls, fun i s o v h1 h2 h3 => ?_⟩, g⟩
  · refine List.nodup_append.mpr ⟨List.nodup_append.mpr ⟨nd1, by simp, fun x hx y hy => ?_⟩, List.nodup_append.mpr ⟨nd4, nd8, fun x hx y hy => nd6 x hx y (by rw [t]; exact List.mem_cons_of_mem _ hy)⟩, fun x hx y hy => ?_⟩
    · rw [List.mem_singleton.mp hy]; exact nd3 x hx A (List.mem_append_right _ hA)
    · rcases List.mem_append.mp hx with z | z
      · rcases List.mem_append.mp hy with q | q
        · exact nd3 x z y (List.mem_append_left _ q)
        · exact nd3 x z y (List.mem_append_right _ (by rw [t]; exact List.mem_cons_of_mem _ q))
      · rw [List.mem_singleton.mp z]
        rcases List.mem_append.mp hy with q | q
        · exact fun z => nd6 y q A hA z.symm
        · exact fun z => nd7 (by rw [z]; exact q)
  · rcases h with h | h | ⟨h, h'⟩
    · exact r.nw b (.inl h)
    · exact r.nw b (.inr (.inl (by rw [t]; exact List.mem_cons_of_mem _ h)))
    · rcases List.mem_append.mp h with z | z
      · exact r.nw b (.inr (.inr ⟨z, h'⟩))
      · exact r.nw b (.inr (.inl (by rw [t, List.mem_singleton.mp z]; exact List.mem_cons_self)))
  · by_cases hk : k < st.S.length
    · have h1' : st.S[k]? = some cell := by rw [← h1]; exact (List.getElem?_append_left hk).symm
      have h2' : w.cs[k]? = some b := by rw [← h2]; exact (List.getElem?_append_left (by rw [r.len]; exact hk)).symm
      exact (r.cells k cell b h1' h2').gr g fun _ h => h
    · have ek : k = st.S.length := by
        have := (List.getElem?_eq_some_iff.mp h1).1
        simp at this; omega
      subst ek
      have h1' : some (Cell.lst ds) = some cell := by rw [← h1]; simp
      cases h1'
      have h2' : some A = some b := by rw [← h2, ← r.len]; simp
      cases h2'
      cases top with | lst h rp => exact ⟨_, h, g.reps rp⟩
  · exact (r.sl i s o v h1 h2 h3).gr g fun _ _ _ h => h
theorem de_cell {m : M R} (h : DE X c W e m) : DE X c W e (cellM m) := by
  refine PE.less h fun σ H Q ⟨w, st, r, p⟩ => ?_
  refine ⟨w, st, r, ?_⟩
  unfold Pst cellM at *
  cases e0 : m st with
  | stuck => simp only [e0] at p
  | err x st' => simp only [e0] at p; exact p
  | ok r0 st' =>
    simp only [e0] at p
    intro v H' w' r' x' q
    obtain ⟨d, k⟩ := r0
    cases k with
    | false => cases d <;> exact p.elim
    | true =>
      obtain ⟨A, rfl, t, top⟩ := q
      cases top with
      | dic _ _ _ _ _ _ => exact p.elim
      | lst hh rp =>
        obtain ⟨r2, g2⟩ := r'.mkCell t (.lst hh rp)
        refine p _ H' _ r2 ⟨x'.gr.trans g2, x'.tm⟩ ⟨rfl, .ref ?_⟩
        rw [← r'.len]; simp
end
end Pv
namespace Pv
open PySem PySem.Spec PyProof.Rows L2

section
variable {X : Cx} {c : Cn} {W : WX} {w : Wt} {st : Sto} {σ : Sv} {H H' : Hp} {pins : List (Addr × Obj)} {s : Shared} {pos apos cpos p tpos px py pz pt pt2 : Pos} {e a b d3 o tg e2 elt iter : Expr} {es elts ifs : List Expr} {kk k2 i j l : Nat} {x y z : Str}
/-! ### several stores at once -/
inductive RRs (c : Cn) (w : Wt) (H : Hp) : List Addr → List V → List R → Prop
  | nil : RRs c w H [] [] []
  | pl {T : List Addr} {v : V} {d : D} {vs : List V} {rs : List R} : RepW c w H v d → RRs c w H T vs rs → RRs c w H T (v :: vs) ((d, false) :: rs)
  | fr {T : List Addr} {A : Addr} {d : D} {vs : List V} {rs : List R} : Top c w.cs (w.av c) H A d → RRs c w H T vs rs → RRs c w H (T ++ [A]) (.ref A :: vs) ((d, true) :: rs)
def rRs (c : Cn) : RT (List V) (List R) := fun tm w H vs rs => ∃ T, w.tm = T ++ tm ∧ RRs c w H T vs rs
theorem Top.ext {w' : Wt} {A : Addr} {d : D} (h : Top c w.cs (w.av c) H A d) (x : Ext c w H w' H') (m : A ∈ w.tm) : Top c w'.cs (w'.av c) H' A d :=
  h.gr x.gr fun o e => by rw [x.tm A m]; exact e
def M.ofF {α : Type} (f : Sto → Option (α × Sto)) : M α := fun st => match f st with
  | some (a, st') => .ok a st'
  | none => .stuck
def rsF : List (M R) → Sto → Option (List R × Sto)
  | [], st => some ([], st)
  | m :: ms, st => (m.sure st).bind fun x => (rsF ms x.2).map fun y => (x.1 :: y.1, y.2)
/-- the reading: rs in order, what is new is held -/
def tRs (c : Cn) (f : Sto → Option (List R × Sto)) : TA := fun σ H Q => ∃ (w : Wt) (st : Sto) (rs : List R) (st' : Sto), Rel c w st σ H ∧ f st = some (rs, st') ∧ ∀ vs H' w', Rel c w' st' σ H' → Ext c w H w' H' → rRs c w.tm w' H' vs rs → Q vs H'
abbrev DRs (X : Cx) (c : Cn) (es : List Expr) (ms : List (M R)) : Prop := PA X es (tRs c (rsF ms))
theorem dr_nil : DRs X c [] [] := PA.less pa_nil fun σ H Q ⟨w, st, rs, st1, r, e, k⟩ => by
  cases e
  exact k [] H w r (Ext.refl _ _ _) ⟨[], rfl, .nil⟩
theorem dr_cons {m : M R} {ms : List (M R)} (h : DE X c W e m) (hs : DRs X c es ms) (h1 : starEach (e :: es) X.env = (false, eval e X.env) :: starEach es X.env) : DRs X c (e :: es) (m :: ms) := by
  refine PA.less (pa_cons h hs h1) fun σ H Q ⟨w, st, rs, st', r, e, k⟩ => ?_
  unfold rsF at e
  obtain ⟨⟨r0, st1⟩, e1, e2⟩ := Option.bind_eq_some_iff.mp e
  obtain ⟨⟨rs', st2⟩, e3, e4⟩ := Option.map_eq_some_iff.mp e2
  cases e4
  refine ⟨w, st, r, .of_ok (M.sure_ok e1) fun v1 H1 w1 r1 x1 q1 => ?_⟩
  refine ⟨w1, st1, rs', _, r1, e3, fun vs H2 w2 r2 x2 q2 => ?_⟩
  obtain ⟨T, t2, q2⟩ := q2
  obtain ⟨d, kf⟩ := r0
  cases kf with
  | false =>
    obtain ⟨t1, q1⟩ := q1
    exact k _ H2 w2 r2 (x1.trans x2 fun a ha => by rw [t1]; exact ha) ⟨T, by rw [t2, t1], .pl (x2.rep q1) q2⟩
  | true =>
    obtain ⟨A, rfl, t1, q1⟩ := q1
    exact k _ H2 w2 r2 (x1.trans x2 fun a ha => by rw [t1]; exact List.mem_cons_of_mem _ ha) ⟨T ++ [A], by rw [t2, t1]; simp, .fr (q1.ext x2 (by rw [t1]; exact List.mem_cons_self)) q2⟩
def putAll : List Nat → List R → Sto → Sto
  | i :: is, r :: rs, st => putR i r (putAll is rs st)
  | _, _, st => st
def setAll : List Nat → List V → Sv → Sv
  | i :: is, v :: vs, σ => (setAll is vs σ).set i (some v)
  | _, _, σ => σ
theorem putAll_length : ∀ (is : List Nat) (rs : List R) (st : Sto), (putAll is rs st).ρ.length = st.ρ.length
  | [], _, _ => by simp [putAll]
  | _ :: _, [], _ => by simp [putAll]
  | i :: is, r :: rs, st => by simp [putAll, putR, putAll_length is rs st]
theorem RRs.ext0 {T : List Addr} {vs : List V} {rs : List R} {w' : Wt} {H' : Hp} (h : RRs c w H T vs rs) (x : Ext c w H w' H') (m : ∀ a ∈ T, a ∈ w.tm) : RRs c w' H' T vs rs := by
  induction h with
  | nil => exact .nil
  | pl q _ ih => exact .pl (x.rep q) (ih m)
  | fr q _ ih => exact .fr (q.ext x (m _ (by simp))) (ih fun a ha => m a (by simp [ha]))
theorem RRs.length {T : List Addr} {vs : List V} {rs : List R} (h : RRs c w H T vs rs) : vs.length = rs.length := by
  induction h with
  | nil => rfl
  | pl _ _ ih => simp [ih]
  | fr _ _ ih => simp [ih]
theorem Rel.stores {tm : List Addr} : ∀ (is : List Nat) {rs : List R} {vs : List V} {T : List Addr} {w : Wt}, Rel c w st σ H → RRs c w H T vs rs → w.tm = T ++ tm → is.length = rs.length → (∀ i ∈ is, i < st.ρ.length) →
    ∃ w', w'.tm = tm ∧ Rel c w' (putAll is rs st) (setAll is vs σ) H ∧ Ext c w H w' H := by
  intro is
  induction is generalizing tm with
  | nil =>
    intro rs vs T w r q t e _
    cases q with
    | nil => exact ⟨w, t, r, Ext.refl _ _ _⟩
    | pl _ _ => cases e
    | fr _ _ => cases e
  | cons i is ih =>
    intro rs vs T w r q t e hi
    cases q with
    | nil => cases e
    | pl q1 q2 =>
      obtain ⟨w1, t1, r1, x1⟩ := ih (tm := tm) r q2 t (by simpa using e) fun k hk => hi k (List.mem_cons_of_mem _ hk)
      obtain ⟨w2, t2, r2, x2⟩ := r1.store (i := i) (r0 := (_, false)) (tm := tm) (by rw [putAll_length]; exact hi i (by simp)) ⟨t1, x1.rep q1⟩
      exact ⟨w2, t2, r2, ⟨x1.gr.trans x2.gr, fun a _ => rfl⟩⟩
    | fr q1 q2 =>
      rename_i T1 A d vs1 rs1
      obtain ⟨w1, t1, r1, x1⟩ := ih (tm := A :: tm) r q2 (by rw [t]; simp) (by simpa using e) fun k hk => hi k (List.mem_cons_of_mem _ hk)
      obtain ⟨w2, t2, r2, x2⟩ := r1.store (i := i) (r0 := (d, true)) (tm := tm) (by rw [putAll_length]; exact hi i (by simp)) ⟨A, rfl, t1, q1.gr x1.gr fun _ h => h⟩
      exact ⟨w2, t2, r2, ⟨x1.gr.trans x2.gr, fun a _ => rfl⟩⟩
def parM (is : List Nat) (ms : List (M R)) : M Fl := fun st => match rsF ms st with
  | some (rs, st') => if rs.length = is.length ∧ ∀ i ∈ is, i < st'.ρ.length then .ok .next (putAll is rs st') else .stuck
  | none => .stuck
theorem Sst.par0 {is : List Nat} {ms : List (M R)} {D : Ends} (h : Sst c W (parM is ms) w st H D) (t : w.tm = []) (r : Rel c w st σ H) :
    tRs c (rsF ms) σ H fun vs H1 => vs.length = is.length ∧ ∀ H2, Same H1 H2 → D.nx (setAll is vs σ) H2 := by
  unfold Sst parM at h
  cases e : rsF ms st with
  | none => simp only [e] at h
  | some z =>
    obtain ⟨rs, st'⟩ := z
    simp only [e] at h
    refine ⟨w, st, rs, st', r, e, fun vs H1 w1 r1 x1 q1 => ?_⟩
    split at h
    · rename_i heq
      split at heq
      · rename_i hl
        cases heq
        obtain ⟨T, t1, q1⟩ := q1
        refine ⟨by rw [q1.length, hl.1], fun H2 s2 => ?_⟩
        have x12 := s2.ext r1
        obtain ⟨w2, t2, r2, x2⟩ := (s2.rel r1).stores (tm := []) is (q1.ext0 x12 fun a ha => by rw [t1]; exact List.mem_append_left _ ha) (by rw [t1, t]) hl.1.symm hl.2
        exact h _ _ _ r2 ((x1.trans x12 fun a ha => by rw [t] at ha; cases ha).trans x2 fun a ha => by rw [t] at ha; cases ha) t2
      · cases heq
    · rename_i heq
      split at heq <;> cases heq
    · exact h.elim
theorem Sst.par {is : List Nat} {ms : List (M R)} {D : Ends} (h : Sst c W (parM is ms) w st H D) (t : w.tm = []) (r : Rel c w st σ H) :
    tRs c (rsF ms) σ H fun vs H1 => vs.length = is.length ∧ D.nx (setAll is vs σ) H1 := by
  obtain ⟨w, st, rs, st', r, e, k⟩ := h.par0 t r
  exact ⟨w, st, rs, st', r, e, fun vs H1 w1 r1 x1 q1 => ⟨(k vs H1 w1 r1 x1 q1).1, (k vs H1 w1 r1 x1 q1).2 _ (Same.refl _)⟩⟩
/-! by a tuple that is taken apart -/
def gNms : List Nat → TGs
  | [] => gNil
  | i :: is => gCons (gName i) (gNms is)
def setL : List Nat → List V → Sv → Sv
  | i :: is, v :: vs, σ => setL is vs (σ.set i (some v))
  | _, _, σ => σ
theorem setL_run : ∀ (is : List Nat) (vs : List V) (σ : Sv) (H : Hp) (Q : Sv → Hp → Prop), vs.length = is.length → Q (setL is vs σ) H → gNms is vs σ H Q
  | [], [], σ, H, Q, _, q => ⟨rfl, q⟩
  | [], v :: vs, σ, H, Q, h, q => by cases h
  | i :: is, [], σ, H, Q, h, q => by cases h
  | i :: is, v :: vs, σ, H, Q, h, q => ⟨v, vs, rfl, setL_run is vs _ H Q (by simpa using h) q⟩
theorem setAll_set : ∀ (is : List Nat) (vs : List V) (σ : Sv) (i : Nat) (x : Option V), i ∉ is → setAll is vs (σ.set i x) = (setAll is vs σ).set i x
  | [], _, σ, i, x, _ => by simp [setAll]
  | j :: is, [], σ, i, x, _ => by simp [setAll]
  | j :: is, v :: vs, σ, i, x, h => by
    simp only [List.mem_cons, not_or] at h
    show (setAll is vs (σ.set i x)).set j (some v) = ((setAll is vs σ).set j (some v)).set i x
    rw [setAll_set is vs σ i x h.2, List.set_comm _ _ h.1]
theorem setL_eq : ∀ (is : List Nat) (vs : List V) (σ : Sv), is.Nodup → setL is vs σ = setAll is vs σ
  | [], _, σ, _ => by simp [setAll, setL]
  | i :: is, [], σ, _ => by simp [setAll, setL]
  | i :: is, v :: vs, σ, h => by
    obtain ⟨h1, h2⟩ := List.nodup_cons.mp h
    show setL is vs (σ.set i (some v)) = (setAll is vs σ).set i (some v)
    rw [setL_eq is vs _ h2, setAll_set is vs σ i _ h1]
theorem ds_parG (hK : X.K = c.K) {ms : List (M R)} {is : List Nat} {tl l : List Expr} (hc : X.calm = true) (hg : PGs X tl (gNms is)) (hn : (assignEach tl X.env).length = is.length) (hst : (assignEach tl X.env).findIdx? (·.1) = none) (nd : is.Nodup) (hz : is.length ≤ 100)
    (h : DRs X c l ms) (hs : swapsWithSole [.Tuple tl kk pt] (.Tuple l k2 pt2) pos.line X.env = pure false) (hw : swappedStores [.Tuple tl kk pt] (.Tuple l k2 pt2) X.env = pure none) :
    DS X c W (.Assign [.Tuple tl kk pt] (.Tuple l k2 pt2) pos) (parM is ms) := by
  refine PS.less (ps_asg (pe_tup h) (pg_tup hc hg hn hst) hs hw rfl) fun D σ H ⟨w, st, r, t, p⟩ => ?_
  obtain ⟨w, st, rs, st', r, e, k⟩ := p.par0 t r
  refine ⟨w, st, rs, st', r, e, fun vs H1 w1 r1 x1 q1 => ?_⟩
  obtain ⟨hl, q⟩ := k vs H1 w1 r1 x1 q1
  refine ⟨by rw [hl, sizeLine_eq]; omega, fun A hA => ⟨A, vs, rfl, .inl (.inl upd_same), hl, setL_run is vs _ _ _ hl ?_⟩⟩
  rw [setL_eq _ _ _ nd]
  exact q _ (Same.upd hA)
theorem ds_par2 {ms : List (M R)} (hc : X.calm = true) (hN : X.N.Nodup) (hi : X.N[i]? = some x) (hj : X.N[j]? = some y) (hij : i ≠ j)
    (hx : X.env.scope.names.lookup x = some .local) (hy : X.env.scope.names.lookup y = some .local) (ha : DRs X c [a, b] ms)
    (hw : swappedStores [.Tuple [.Name x px, .Name y py] kk pt] (.Tuple [a, b] k2 pt2) X.env = pure (some [x, y]))
    (hs : swapsWithSole [.Tuple [.Name x px, .Name y py] kk pt] (.Tuple [a, b] k2 pt2) pos.line X.env = pure false) :
    DS X c W (.Assign [.Tuple [.Name x px, .Name y py] kk pt] (.Tuple [a, b] k2 pt2) pos) (parM [i, j] ms) := by
  refine PS.less (ps_par hc hN hi hj hij hx hy ha hw hs) fun D σ H ⟨w, st, r, t, p⟩ => ?_
  have h := p.par t r
  obtain ⟨w, st, rs, st', r, e, k⟩ := h
  refine ⟨w, st, rs, st', r, e, fun vs H1 w1 r1 x1 q1 => ?_⟩
  obtain ⟨hl, h⟩ := k vs H1 w1 r1 x1 q1
  match vs, hl with
  | [v, u], _ =>
    refine ⟨v, u, rfl, ?_⟩
    rw [List.set_comm _ _ hij]; exact h
theorem ds_par3 {ms : List (M R)} (hc : X.calm = true) (hN : X.N.Nodup) (hi : X.N[i]? = some x) (hj : X.N[j]? = some y) (hl : X.N[l]? = some z) (hij : i ≠ j) (hil : i ≠ l) (hjl : j ≠ l)
    (hx : X.env.scope.names.lookup x = some .local) (hy : X.env.scope.names.lookup y = some .local) (hz : X.env.scope.names.lookup z = some .local) (ha : DRs X c [a, b, d3] ms)
    (hw : swappedStores [.Tuple [.Name x px, .Name y py, .Name z pz] kk pt] (.Tuple [a, b, d3] k2 pt2) X.env = pure (some [x, y, z]))
    (hs : swapsWithSole [.Tuple [.Name x px, .Name y py, .Name z pz] kk pt] (.Tuple [a, b, d3] k2 pt2) pos.line X.env = pure false) :
    DS X c W (.Assign [.Tuple [.Name x px, .Name y py, .Name z pz] kk pt] (.Tuple [a, b, d3] k2 pt2) pos) (parM [i, j, l] ms) := by
  refine PS.less (ps_par3 hc hN hi hj hl hij hil hjl hx hy hz ha hw hs) fun D σ H ⟨w, st, r, t, p⟩ => ?_
  have h := p.par t r
  obtain ⟨w, st, rs, st', r, e, k⟩ := h
  refine ⟨w, st, rs, st', r, e, fun vs H1 w1 r1 x1 q1 => ?_⟩
  obtain ⟨hl', h⟩ := k vs H1 w1 r1 x1 q1
  match vs, hl' with
  | [v, u, t], _ =>
    refine ⟨v, u, t, rfl, ?_⟩
    have e1 : ((σ.set l (some t)).set j (some u)).set i (some v) = ((σ.set i (some v)).set j (some u)).set l (some t) := by
      rw [List.set_comm _ _ hjl.symm, List.set_comm _ _ hil.symm, List.set_comm _ _ hij.symm]
    show D.nx (((σ.set i (some v)).set j (some u)).set l (some t)) H1
    rw [← e1]; exact h
end
end Pv
namespace Pv
open PySem PySem.Spec PyProof.Rows L2

section
variable {b c : Cn} {cs : List Addr} {Av : Addr → Prop} {H : Hp}
mutual
theorem Rep.cn (hK : b.K = c.K) (hk : b.ko = c.ko) : ∀ {v : V} {d : D}, Rep b cs Av H v d → Rep c cs Av H v d
  | _, _, .non => .non
  | _, _, .bl b => .bl b
  | _, _, .int i => .int i
  | _, _, .str x => .str x
  | _, _, .tup n r => .tup (hK ▸ n) (Reps.cn hK hk r)
  | _, _, .lst n r => .lst n (Reps.cn hK hk r)
  | _, _, .dic n h k a b r s => .dic n h (hk ▸ k) a b (Reps.cn hK hk r) (Reps.cn hK hk s)
  | _, _, .ref e => .ref e
  | _, _, .scr n => .scr (hK ▸ n)
  | _, _, .pr n h r => .pr n h (Reps.cn hK hk r)
theorem Reps.cn (hK : b.K = c.K) (hk : b.ko = c.ko) : ∀ {v : List V} {d : List D}, Reps b cs Av H v d → Reps c cs Av H v d
  | _, _, .nil => .nil
  | _, _, .cons r s => .cons (Rep.cn hK hk r) (Reps.cn hK hk s)
end
theorem Top.cn {a : Addr} {d : D} (hK : b.K = c.K) (hk : b.ko = c.ko) (h : Top b cs Av H a d) : Top c cs Av H a d := by
  cases h with
  | lst h r => exact .lst h (r.cn hK hk)
  | dic h q x y r s => exact .dic h (hk ▸ q) x y (r.cn hK hk) (s.cn hK hk)
theorem CellR.cn {a : Addr} {cell : Cell} (hK : b.K = c.K) (hk : b.ko = c.ko) (h : CellR b cs Av H a cell) : CellR c cs Av H a cell := by
  cases cell with
  | lst ds => obtain ⟨xs, e1, e2⟩ := h; exact ⟨xs, e1, e2.cn hK hk⟩
  | ins _ _ => exact h
end

/-! ### functions -/
inductive FOut where
  | ok (r : R) (S : List Cell)
  | err (x : Exn) (S : List Cell)
  | stuck
abbrev Fn := List D → List Cell → FOut
structure Shr (b : Cn) (cs : List Addr) (S : List Cell) (Av : Addr → Prop) (H : Hp) : Prop where
  nd : cs.Nodup
  len : cs.length = S.length
  cells : ∀ (k : Nat) (cell : Cell) (a : Addr), S[k]? = some cell → cs[k]? = some a → CellR b cs Av H a cell
  ex : ∀ a, Av a → H a ≠ none
  sub : ∀ a ∈ cs, Av a
def avs (Av : Addr → Prop) (cs : List Addr) : Addr → Prop := fun a => Av a ∨ a ∈ cs
structure Aft (b : Cn) (cs : List Addr) (Av : Addr → Prop) (H : Hp) (cs' : List Addr) (S' : List Cell) (H' : Hp) : Prop where
  shr : Shr b cs' S' (avs Av cs') H'
  pre : cs <+: cs'
  fr : ∀ a o, H a = some o → a ∉ cs → H' a = some o
  nw : ∀ a ∈ cs', a ∉ cs → H a = none
def RetR (b : Cn) (cs' : List Addr) (S' : List Cell) (Av : Addr → Prop) (H H' : Hp) (v : V) (r : R) : Prop := match r.2 with
  | false => Rep b cs' (avs Av cs') H' v r.1
  | true => ∃ a, v = .ref a ∧ H a = none ∧ a ∉ cs' ∧ Top b cs' (fun x => avs Av cs' x ∨ x = a) H' a r.1 ∧
      ∀ (k : Nat) (cell : Cell) (q : Addr), S'[k]? = some cell → cs'[k]? = some q → CellR b cs' (fun x => avs Av cs' x ∨ x = a) H' q cell
def spF (b : Cn) (n : Nat) (fn : Fn) : Sp := fun vs H Q E => vs.length = n ∧ ∃ cs S Av ds, Shr b cs S Av H ∧ Reps b cs Av H vs ds ∧ match fn ds S with
  | .ok r S' => ∀ v H' cs', Aft b cs Av H cs' S' H' → RetR b cs' S' Av H H' v r → Q v H'
  | .err x S' => ∀ cls d H' cs', Aft b cs Av H cs' S' H' → b.xr cs' (avs Av cs') H' x cls d → E cls d H'
  | .stuck => False
def XMono (b : Cn) : Prop := ∀ cs Av Av' H x cls d, (∀ a, Av' a → Av a) → b.xr cs Av H x cls d → b.xr cs Av' H x cls d
structure Kin (b c : Cn) : Prop where
  K : b.K = c.K
  ko : b.ko = c.ko
  xr : b.xr = c.xr
section
variable {X : Cx} {b c : Cn} {W : WX} {w w' : Wt} {st : Sto} {σ σ' : Sv} {H H' : Hp} {pos apos cpos p tpos : Pos} {e : Expr} {es : List Expr} {x : Str}
def callF (n : Nat) (m : M Fl) : Fn := fun ds S => match m ⟨ds.map .sh ++ List.replicate (n - ds.length) .no, S⟩ with
  | .ok (.ret r) st' => .ok r st'.S
  | .ok .next st' => .ok (.non, false) st'.S
  | .ok _ _ => .stuck
  | .err x st' => .err x st'.S
  | .stuck => .stuck
def outF (f : FOut) : M R := fun st => match f with
  | .ok r S' => .ok r { st with S := S' }
  | .err x S' => .err x { st with S := S' }
  | .stuck => .stuck
def runF (n : Nat) (fn : Fn) (ds : List D) : M R := fun st => if ds.length = n then outF (fn ds st.S) st else .stuck
def callE (n : Nat) (fn : Fn) (ms : M (List D)) : M R := M.bind ms (runF n fn)
/-- what a caller shares -/
theorem Rel.shr (r : Rel c w st σ H) (kin : Kin b c) : Shr b w.cs st.S (w.av c) H :=
  ⟨(List.nodup_append.mp r.nd).1, r.len, fun k cell a h1 h2 => (r.cells k cell a h1 h2).cn kin.K.symm kin.ko.symm, r.ex, fun a h => .inr (.inl h)⟩
theorem Rel.after {S' : List Cell} {cs' : List Addr} {T : List Addr} (r : Rel c w st σ H) (kin : Kin b c) (A : Aft b w.cs (w.av c) H cs' S' H') (nT : T.Nodup) (hT : ∀ a ∈ T, H a = none ∧ a ∉ cs' ∧ H' a ≠ none)
    (hc : ∀ a ∈ T, ∀ (k : Nat) (cell : Cell) (q : Addr), S'[k]? = some cell → cs'[k]? = some q → CellR b cs' (fun x => avs (w.av c) cs' x ∨ x ∈ T) H' q cell) :
    Rel c { w with cs := cs', tm := T ++ w.tm } { st with S := S' } σ H' ∧ Ext c w H { w with cs := cs', tm := T ++ w.tm } H' ∧ ∀ a, ({ w with cs := cs', tm := T ++ w.tm } : Wt).av c a → avs (w.av c) cs' a ∨ a ∈ T := by
  have l : ∀ a, ({ w with cs := cs', tm := T ++ w.tm } : Wt).av c a → avs (w.av c) cs' a ∨ a ∈ T := fun a h => by
    rcases h with h | h | h | h
    · exact .inl (.inl (.inl h))
    · exact .inl (.inr h)
    · exact .inl (.inl (.inr (.inr (.inl h))))
    · rcases List.mem_append.mp h with h | h
      · exact .inr h
      · exact .inl (.inl (.inr (.inr (.inr h))))
  have g : Gr H H' w.cs cs' (w.av c) (({ w with cs := cs', tm := T ++ w.tm } : Wt).av c) := ⟨fun a o h n => A.fr a o h fun q => n (.inr (.inl q)), fun a h => by
    rcases l a h with (z | z) | z
    · exact .inl z
    · by_cases q : a ∈ w.cs
      · exact .inl (.inr (.inl q))
      · exact .inr (A.nw a z q)
    · exact .inr (hT a z).1, A.pre⟩
  obtain ⟨nd1, nd2, nd3⟩ := List.nodup_append.mp r.nd
  obtain ⟨nd4, nd5, nd6⟩ := List.nodup_append.mp nd2
  have apart : ∀ a ∈ cs', ∀ d, (d ∈ w.ow.filterMap id ++ w.tm) → a ≠ d := fun a ha d hd z => by
    subst z
    by_cases q : a ∈ w.cs
    · exact nd3 a q a hd rfl
    · refine r.ex a ?_ (A.nw a ha q)
      rcases List.mem_append.mp hd with h | h
      · exact .inr (.inr (.inl (mem_owned.mp h)))
      · exact .inr (.inr (.inr h))
  have same : ∀ a o, (some a ∈ w.ow ∨ a ∈ w.tm) → H a = some o → H' a = some o := fun a o h e => A.fr a o e fun q => by
    rcases h with h | h
    · exact nd3 a q a (List.mem_append_left _ (mem_owned.mpr h)) rfl
    · exact nd3 a q a (List.mem_append_right _ h) rfl
  have H0n : ∀ a, H a = none → a ∉ c.cs0 → c.H0 a = none := fun a h h' => by
    cases e : c.H0 a with
    | none => rfl
    | some o =>
      have := r.fr a o e h'
      rw [h] at this; cases this
  have nc0 : ∀ a, H a = none → a ∉ c.cs0 := fun a h q => by
    obtain ⟨t, ht⟩ := r.pre
    exact r.ex a (.inr (.inl (by rw [← ht]; exact List.mem_append_left _ q))) h
  refine ⟨⟨r.a0, fun a o h n => ?_, r.pre.trans A.pre, ?_, fun a h => ?_, fun a h => ?_, A.shr.len, fun k cell a h1 h2 => ?_, r.lo, r.ls, fun i s o v h1 h2 h3 => ?_⟩, ⟨g, fun a ha => ?_⟩, l⟩
  · have h1 := r.fr a o h n
    refine A.fr a o h1 fun q => ?_
    have := r.nw a (.inr (.inr ⟨q, n⟩))
    rw [h] at this; cases this
  · refine List.nodup_append.mpr ⟨A.shr.nd, List.nodup_append.mpr ⟨nd4, List.nodup_append.mpr ⟨nT, nd5, fun x hx y hy z => ?_⟩, fun x hx y hy z => ?_⟩, fun x hx y hy => ?_⟩
    · subst z; exact r.ex x (.inr (.inr (.inr hy))) (hT x hx).1
    · subst z
      rcases List.mem_append.mp hy with h | h
      · exact r.ex x (.inr (.inr (.inl (mem_owned.mp hx)))) (hT x h).1
      · exact nd6 x hx x h rfl
    · rcases List.mem_append.mp hy with h | h
      · exact apart x hx y (List.mem_append_left _ h)
      · rcases List.mem_append.mp h with h | h
        · exact fun z => (hT y h).2.1 (by rw [← z]; exact hx)
        · exact apart x hx y (List.mem_append_right _ h)
  · rcases h with h | h | ⟨h, h'⟩
    · exact r.nw a (.inl h)
    · rcases List.mem_append.mp h with h | h
      · exact H0n a (hT a h).1 (nc0 a (hT a h).1)
      · exact r.nw a (.inr (.inl h))
    · by_cases q : a ∈ w.cs
      · exact r.nw a (.inr (.inr ⟨q, h'⟩))
      · exact H0n a (A.nw a h q) h'
  · rcases l a h with z | z
    · exact A.shr.ex a z
    · exact (hT a z).2.2
  · cases hT0 : T with
    | nil =>
      refine CellR.cn kin.K kin.ko ((A.shr.cells k cell a h1 h2).less fun x hx => ?_)
      rcases l x (by rw [hT0]; exact hx) with z | z
      · exact z
      · rw [hT0] at z; cases z
    | cons t0 T0 =>
      have := hc t0 (by rw [hT0]; exact List.mem_cons_self) k cell a h1 h2
      exact CellR.cn kin.K kin.ko (this.less fun x hx => l x (by rw [hT0]; exact hx))
  · exact (r.sl i s o v h1 h2 h3).gr g fun a u ho hu => same a u (.inl (by rw [← ho]; exact List.mem_of_getElem? h2)) hu
  · cases e : H a with
    | none => exact absurd e (r.ex a (.inr (.inr (.inr ha))))
    | some o => exact same a o (.inr ha) e
theorem de_call {k : Nat} {f : Addr} {fd : FuncData} {ps : List Str} {fn : Fn} {ms : M (List D)} (kin : Kin b c) (xm : XMono b) (tk : Takes X W) (F : FnOk X.prog X.w X.K X.mg X.base (L2.CX X.prog X.w) k f fd ps (spF b ps.length fn)) (hr : Room k X.A) (hg : Gl X x) (hm : X.mg x = some (.ref f)) (hk : PySem.W.keepIn X.K (.ref f) = true)
    (hb : Binds X.K fd ps []) (ha : DA X c W (e :: es) ms) (hdb : (x == ("__debug__" : Str)) = false) (he : starEach (e :: es) X.env = (false, eval e X.env) :: starEach es X.env) (hpl : (backTo pos (starEach es X.env)).any (·.1) = false) :
    DE X c W (.Call (.Name x p) (e :: es) [] pos) (callE ps.length fn ms) := by
  refine PE.less (pe_callSD F hr hg hm hk hb .nil (fun σ => passAt tk σ) ha hdb he hpl) fun σ H Q ⟨w, st, r, p⟩ => ?_
  refine ⟨w, st, r, (Pst.bind p rL.tk).mono fun vs H1 ⟨ds, w1, st1, r1, q1, x1, t1, p1⟩ => ?_⟩
  rw [List.append_nil]
  unfold Pst runF at p1
  by_cases hl : ds.length = ps.length
  · simp only [hl, if_true] at p1
    refine ⟨by rw [q1.2.length]; exact hl, w1.cs, st1.S, w1.av c, ds, r1.shr kin, q1.2.cn kin.K.symm kin.ko.symm, ?_⟩
    cases e0 : fn ds st1.S with
    | stuck => simp only [e0, outF] at p1
    | err x S' =>
      simp only [e0, outF] at p1
      intro cls d H' cs' A hx
      obtain ⟨r2, x2, l2⟩ := r1.after (T := []) kin A List.nodup_nil (fun a h => by cases h) (fun a h => by cases h)
      refine p1 cls d H' _ r2 x2 rfl ?_
      rw [← kin.xr]
      exact xm _ _ _ _ _ _ _ (fun a ha => (l2 a ha).resolve_right fun z => by cases z) hx
    | ok r0 S' =>
      simp only [e0, outF] at p1
      intro v H' cs' A hv
      obtain ⟨d, kf⟩ := r0
      cases kf with
      | false =>
        obtain ⟨r2, x2, l2⟩ := r1.after (T := []) kin A List.nodup_nil (fun a h => by cases h) (fun a h => by cases h)
        exact p1 v H' _ r2 x2 ⟨rfl, (Rep.less hv fun a ha => (l2 a ha).resolve_right fun z => by cases z).cn kin.K kin.ko⟩
      | true =>
        obtain ⟨a, rfl, n1, n2, top, hcs⟩ := hv
        obtain ⟨r2, x2, l2⟩ := r1.after (T := [a]) kin A (by simp) (fun y hy => by
          rw [List.mem_singleton.mp hy]
          refine ⟨n1, n2, ?_⟩
          cases top with
          | lst h _ => rw [h]; simp
          | dic h _ _ _ _ _ => rw [h]; simp) (fun y hy k cell q h1 h2 => (hcs k cell q h1 h2).less fun x hx => by
            rcases hx with z | z
            · exact .inl z
            · exact .inr (List.mem_singleton.mp z))
        refine p1 _ H' _ r2 x2 ⟨a, rfl, rfl, ?_⟩
        refine Top.cn kin.K kin.ko (top.gr ⟨fun _ _ h _ => h, fun y hy => .inl ?_, List.prefix_refl _⟩ fun _ h => h)
        rcases l2 y hy with z | z
        · exact .inl z
        · exact .inr (List.mem_singleton.mp z)
  · simp only [hl, if_false] at p1
/-- the caller's view, for a callee -/
def Cn.at (b : Cn) (H : Hp) (cs : List Addr) (Av : Addr → Prop) : Cn := { b with H0 := H, cs0 := cs, av0 := Av }
theorem Cn.at_kin (b : Cn) (H : Hp) (cs : List Addr) (Av : Addr → Prop) : Kin b (b.at H cs Av) := ⟨rfl, rfl, rfl⟩
def wt0 (cs : List Addr) (n : Nat) : Wt := ⟨cs, List.replicate n none, []⟩
theorem filterMap_none (n : Nat) : (List.replicate n (none : Option Addr)).filterMap id = [] := by
  induction n with
  | zero => rfl
  | succ n ih => rw [List.replicate_succ, List.filterMap_cons]; exact ih
theorem rel_start {N : List Str} {cs : List Addr} {S : List Cell} {Av : Addr → Prop} {vs : List V} {ds : List D} (h : Shr b cs S Av H) (hr : Reps b cs Av H vs ds) (hl : vs.length ≤ N.length) :
    Rel (b.at H cs Av) (wt0 cs N.length) ⟨ds.map .sh ++ List.replicate (N.length - ds.length) .no, S⟩ (start N vs) H ∧ ∀ a, (wt0 cs N.length).av (b.at H cs Av) a → Av a := by
  have kin := Cn.at_kin b H cs Av
  have l : ∀ a, (wt0 cs N.length).av (b.at H cs Av) a → Av a := fun a q => by
    rcases q with q | q | q | q
    · exact q
    · exact h.sub a q
    · have := List.eq_of_mem_replicate q
      cases this
    · cases q
  have hl2 := hr.length
  refine ⟨⟨fun a ha => h.ex a ha, fun _ _ h _ => h, List.prefix_refl _, ?_, fun a q => ?_, fun a q => h.ex a (l a q), h.len, fun k cell a h1 h2 => ((h.cells k cell a h1 h2).less l).cn kin.K kin.ko, ?_, ?_, fun i s o v h1 h2 h3 => ?_⟩, l⟩
  · show (cs ++ ((List.replicate N.length none).filterMap id ++ [])).Nodup
    rw [filterMap_none]; simpa using h.nd
  · rcases q with q | q | q
    · have := List.eq_of_mem_replicate q; cases this
    · cases q
    · exact absurd q.1 q.2
  · show (List.replicate N.length none).length = _
    simp; omega
  · unfold L2.start; simp; omega
  · have ho : o = none := by
      have h2' : (List.replicate N.length (none : Option Addr))[i]? = some o := h2
      rw [List.getElem?_replicate] at h2'
      split at h2' <;> cases h2'; rfl
    subst ho
    by_cases hi : i < ds.length
    · have e1 : (ds.map Sl.sh)[i]? = some s := by rw [← h1]; exact (List.getElem?_append_left (by simpa using hi)).symm
      rw [List.getElem?_map] at e1
      obtain ⟨d, e2, rfl⟩ := Option.map_eq_some_iff.mp e1
      obtain ⟨v0, e3, e4⟩ := hr.get e2
      have e5 : (vs.map some)[i]? = some v := by rw [← h3]; unfold L2.start; exact (List.getElem?_append_left (by simp; omega)).symm
      rw [List.getElem?_map, e3] at e5
      cases e5
      exact ⟨rfl, v0, rfl, (e4.less l).cn kin.K kin.ko⟩
    · have e1 : (List.replicate (N.length - ds.length) Sl.no)[i - ds.length]? = some s := by
        rw [← h1, List.getElem?_append_right (by simpa using hi)]; simp
      rw [List.getElem?_replicate] at e1
      split at e1 <;> cases e1
      rfl
/-- a def's promise, by its body -/
theorem body_ok {N : List Str} {m : M Fl} {cs : List Addr} {S : List Cell} {Av : Addr → Prop} {vs : List V} {ds : List D} {Q : VK} {E : XK} {H : Hp} (xm : XMono b) (h : Shr b cs S Av H) (hr : Reps b cs Av H vs ds) (hl : vs.length ≤ N.length)
    (q : match callF N.length m ds S with
      | .ok r S' => ∀ v H' cs', Aft b cs Av H cs' S' H' → RetR b cs' S' Av H H' v r → Q v H'
      | .err x S' => ∀ cls d H' cs', Aft b cs Av H cs' S' H' → b.xr cs' (avs Av cs') H' x cls d → E cls d H'
      | .stuck => False) :
    tSt (b.at H cs Av) (fun cls d _ H => E cls d H) m { nx := fun _ H' => Q .non H', rt := Q } (start N vs) H := by
  obtain ⟨r0, l0⟩ := rel_start h hr hl
  refine ⟨_, _, r0, rfl, ?_⟩
  unfold Sst
  unfold callF at q
  have kin := Cn.at_kin b H cs Av
  have aft : ∀ {w' : Wt} {st' : Sto} {σ' : Sv} {H' : Hp}, Rel (b.at H cs Av) w' st' σ' H' → Aft b cs Av H w'.cs st'.S H' := fun {w' st' σ' H'} r' => by
    have l : ∀ a, avs Av w'.cs a → w'.av (b.at H cs Av) a := fun a h => by
      rcases h with h | h
      · exact .inl h
      · exact .inr (.inl h)
    exact ⟨⟨(List.nodup_append.mp r'.nd).1, r'.len, fun k cell a h1 h2 => ((r'.cells k cell a h1 h2).less l).cn kin.K.symm kin.ko.symm, fun a ha => r'.ex a (l a ha), fun a ha => .inr ha⟩, r'.pre, fun a o h h' => r'.fr a o h h', fun a h h' => r'.nw a (.inr (.inr ⟨h, h'⟩))⟩
  have lav : ∀ {w' : Wt}, ∀ a, avs Av w'.cs a → w'.av (b.at H cs Av) a := fun {w'} a h => by
    rcases h with h | h
    · exact .inl h
    · exact .inr (.inl h)
  split
  · rename_i f st' e
    rw [e] at q
    intro σ' H' w' r' x'
    have A := aft r'
    cases f with
    | next => exact fun t => q .non H' w'.cs A .non
    | brk => exact q.elim
    | cont => exact q.elim
    | ret r =>
      intro v rv
      obtain ⟨d, kf⟩ := r
      cases kf with
      | false => exact q v H' w'.cs A (Rep.cn kin.K.symm kin.ko.symm (Rep.less rv.2 lav))
      | true =>
        obtain ⟨a, rfl, t, top⟩ := rv
        have l3 : ∀ x, (avs Av w'.cs x ∨ x = a) → w'.av (b.at H cs Av) x := fun x hx => by
          rcases hx with z | z
          · exact lav x z
          · exact .inr (.inr (.inr (by rw [t, z]; exact List.mem_cons_self)))
        have ha : a ∈ w'.tm := by rw [t]; exact List.mem_cons_self
        refine q _ H' w'.cs A ⟨a, rfl, r'.nw a (.inr (.inl ha)), fun z => ?_, Top.cn kin.K.symm kin.ko.symm (top.gr ⟨fun _ _ h _ => h, fun y hy => .inl (l3 y hy), List.prefix_refl _⟩ fun _ h => h), fun k cell x h1 h2 => CellR.cn kin.K.symm kin.ko.symm ((r'.cells k cell x h1 h2).less l3)⟩
        exact (List.nodup_append.mp r'.nd).2.2 a z a (List.mem_append_right _ ha) rfl
  · rename_i x st' e
    rw [e] at q
    exact fun cls d σ' H' w' r' x' t' hx => q cls d H' w'.cs (aft r') (xm _ _ _ _ _ _ _ lav hx)
  · rename_i e
    rw [e] at q
    exact q
end
end Pv
namespace Pv
open PySem PySem.Spec PyProof.Rows L2
section
variable {X : Cx} {c : Cn} {W : WX} {w : Wt} {st : Sto} {σ : Sv} {H H' : Hp} {pins : List (Addr × Obj)} {s : Shared} {pos : Pos} {e a b : Expr} {es : List Expr}
/-! ### in, not in: lists and tuples of data; a text in a text -/
def hasD (d : D) (es : List D) : Option Bool := match toP d, toPs es with
  | some p, some ps => if SeqAt.shaped p && SeqAt.shaped (.list ps) then some (ps.any fun z => PyData.eqv z p) else none
  | _, _ => none
def inD (neg : Bool) (d e : D) : Option R := match e with
  | .lst es => (hasD d es).map fun b => blD (b.xor neg)
  | .tup es => (hasD d es).map fun b => blD (b.xor neg)
  | _ => none
theorem hasD_some {d : D} {es : List D} {b : Bool} (h : hasD d es = some b) : ∃ p ps, toP d = some p ∧ toPs es = some ps ∧ SeqAt.shaped p = true ∧ SeqAt.shaped (.list ps) = true ∧ b = ps.any fun z => PyData.eqv z p := by
  unfold hasD at h
  cases h1 : toP d with
  | none => rw [h1] at h; cases h
  | some p =>
    cases h2 : toPs es with
    | none => rw [h1, h2] at h; cases h
    | some ps =>
      rw [h1, h2] at h
      simp only at h
      split at h
      · rename_i q
        cases h
        obtain ⟨q1, q2⟩ := Bool.and_eq_true_iff.mp q
        exact ⟨p, ps, rfl, rfl, q1, q2, rfl⟩
      · cases h
theorem o_in (hK : X.K = c.K) (hu : Small X) : OpR X (compareOp .In) (P2 c (inD false)) := by
  intro pins s σ H x y v u Q I rx ry ⟨w, d, e, r, ex, k1, k2, eq, q⟩
  have hu' : X.A.units + 65 < cLine := by unfold Small at hu; omega
  unfold inD at eq
  split at eq
  · obtain ⟨b, e1, rfl⟩ := Option.map_eq_some_iff.mp eq
    obtain ⟨p, ps, h1, h2, h3, h4, rfl⟩ := hasD_some e1
    obtain ⟨as, r1⟩ := Dp.reads I p x v (hK ▸ k1.dp h1) rx
    obtain ⟨bs, r2⟩ := Dp.reads I (.list ps) y u (hK ▸ k2.dp (by unfold toP; rw [h2]; rfl)) ry
    exact SeqAt.in_list_reads r2 r1 (SeqAt.canLay_of_shaped h4) (SeqAt.canLay_of_shaped h3) (room_in_shaped h3 hu') ⟨.bl _, H, I, rfl, by have := q.bl; simpa using this⟩
  · obtain ⟨b, e1, rfl⟩ := Option.map_eq_some_iff.mp eq
    obtain ⟨p, ps, h1, h2, h3, h4, rfl⟩ := hasD_some e1
    obtain ⟨as, r1⟩ := Dp.reads I p x v (hK ▸ k1.dp h1) rx
    obtain ⟨bs, r2⟩ := Dp.reads I (.tuple ps) y u (hK ▸ k2.dp (by unfold toP; rw [h2]; rfl)) ry
    exact SeqAt.in_tuple_reads r2 r1 (SeqAt.canLay_of_shaped h4) (SeqAt.canLay_of_shaped h3) (room_in_shaped h3 hu') ⟨.bl _, H, I, rfl, by have := q.bl; simpa using this⟩
  · cases eq
theorem o_notin (hK : X.K = c.K) (hu : Small X) : OpR X (compareOp .NotIn) (P2 c (inD true)) := by
  intro pins s σ H x y v u Q I rx ry ⟨w, d, e, r, ex, k1, k2, eq, q⟩
  have hu' : X.A.units + 65 < cLine := by unfold Small at hu; omega
  unfold inD at eq
  split at eq
  · obtain ⟨b, e1, rfl⟩ := Option.map_eq_some_iff.mp eq
    obtain ⟨p, ps, h1, h2, h3, h4, rfl⟩ := hasD_some e1
    obtain ⟨as, r1⟩ := Dp.reads I p x v (hK ▸ k1.dp h1) rx
    obtain ⟨bs, r2⟩ := Dp.reads I (.list ps) y u (hK ▸ k2.dp (by unfold toP; rw [h2]; rfl)) ry
    exact SeqAt.notIn_list_reads r2 r1 (SeqAt.canLay_of_shaped h4) (SeqAt.canLay_of_shaped h3) (room_in_shaped h3 hu') ⟨.bl _, H, I, rfl, by have := q.bl; simpa using this⟩
  · obtain ⟨b, e1, rfl⟩ := Option.map_eq_some_iff.mp eq
    obtain ⟨p, ps, h1, h2, h3, h4, rfl⟩ := hasD_some e1
    obtain ⟨as, r1⟩ := Dp.reads I p x v (hK ▸ k1.dp h1) rx
    obtain ⟨bs, r2⟩ := Dp.reads I (.tuple ps) y u (hK ▸ k2.dp (by unfold toP; rw [h2]; rfl)) ry
    exact SeqAt.notIn_tuple_reads r2 r1 (SeqAt.canLay_of_shaped h4) (SeqAt.canLay_of_shaped h3) (room_in_shaped h3 hu') ⟨.bl _, H, I, rfl, by have := q.bl; simpa using this⟩
  · cases eq
end
end Pv
namespace Pv
open PySem PySem.Spec PyProof.Rows L2
section
variable {X : Cx} {c : Cn} {W : WX} {w : Wt} {st : Sto} {σ : Sv} {H H' : Hp} {pos apos cpos : Pos} {e a b o : Expr}
/-! ### l.index(x) -/
def idxP (p : PyData) : List PyData → Option Nat
  | [] => none
  | z :: zs => if PyData.eqv z p then some 0 else (idxP p zs).map (· + 1)
theorem idxP_some {p : PyData} : ∀ {zs : List PyData} {j : Nat}, idxP p zs = some j → ∃ z, zs[j]? = some z ∧ PyData.eqv z p = true ∧ ∀ (m : Nat) (z' : PyData), m < j → zs[m]? = some z' → PyData.eqv z' p = false
  | [], j, h => by cases h
  | z :: zs, j, h => by
    unfold idxP at h
    split at h
    · rename_i q
      cases h
      exact ⟨z, rfl, q, fun m z' hm => absurd hm (Nat.not_lt_zero _)⟩
    · rename_i q
      obtain ⟨i, h1, rfl⟩ := Option.map_eq_some_iff.mp h
      obtain ⟨y, g1, g2, g3⟩ := idxP_some h1
      refine ⟨y, by simpa using g1, g2, fun m z' hm hz => ?_⟩
      cases m with
      | zero => simp at hz; subst hz; simpa using q
      | succ m => exact g3 m z' (by omega) (by simpa using hz)
def idxD (ds : List D) (d : D) : Option R := match toPs ds, toP d with
  | some ps, some p => if SeqAt.shaped (.list ps) && SeqAt.shaped p then (idxP p ps).map fun j => intD (j : Nat) else none
  | _, _ => none
def lstE : D → Option (Bool × List D)
  | .lst ds => some (true, ds)
  | .tup ds => some (false, ds)
  | _ => none
theorem lstE_some {d : D} {b : Bool} {ds : List D} (h : lstE d = some (b, ds)) : (b = true ∧ d = .lst ds) ∨ (b = false ∧ d = .tup ds) := by
  cases d <;> cases h
  · exact .inr ⟨rfl, rfl⟩
  · exact .inl ⟨rfl, rfl⟩
def idxM (mo m : M D) : M R := M.bind mo fun x => M.bind (M.lift (lstE x)) fun ds => M.bind m fun y => M.lift (idxD ds.2 y)
/-- a tuple of ours has no dict -/
theorem tyE_tup (hK : X.K = c.K) {v : V} {ds : List D} (h : RepW c w H v (.tup ds)) : TyE X "tuple" v H := by
  intro pins s σ u I r
  cases h with
  | tup n _ =>
    cases (show u = _ from r)
    rcases n with ⟨_, o, h1, h2⟩ | ⟨o, its, n, h1, h2, h3, _⟩
    · obtain ⟨g1, _, _, _, o', g2, g3, _⟩ := I.hok _ _ h1
      cases g1.symm.trans g2
      exact ⟨⟨o, g1, g3⟩, fun a e => by cases e; exact ⟨o, g1, h2⟩⟩
    · have g := I.kIn _ _ (hK ▸ h1)
      exact ⟨⟨o, g, h2⟩, fun a e => by cases e; exact ⟨o, g, h3⟩⟩
/-- t.index(x) -/
def rIndexU (K : PySem.W.Frag) : V → List V → Hp → VK → Prop := fun x xs H Q => ∃ (a : Addr) (y : V) (d : PyData) (ds : List PyData) (j : Nat) (z : PyData), x = V.ref a ∧ xs = [y] ∧ Dp K H (V.ref a) (.tuple ds) ∧ Dp K H y d ∧
  SeqAt.shaped (.tuple ds) = true ∧ SeqAt.shaped d = true ∧ ds[j]? = some z ∧ PyData.eqv z d = true ∧ (∀ (m : Nat) (z' : PyData), m < j → ds[m]? = some z' → PyData.eqv z' d = false) ∧ Q (.int (j : Nat)) H
theorem mt_indexU (hu : X.A.units + 65 < cLine) : MtR X "tuple.index" (rIndexU X.K) := by
  intro pins s σ H x xs v us Q I rx rxs ⟨a, y, d, ds, j, z, e1, e2, hl, hy, sl, sd, hz, hzj, hno, q⟩
  subst e1 e2
  cases rx
  obtain ⟨uy, rfl, ry⟩ := vals1 rxs
  obtain ⟨bs, rd⟩ := Dp.reads I d y uy hy ry
  have lay : PyData.canLayAll0 ds = true := SeqAt.canLay_of_shaped sl
  have room : X.A.units + 1 + min (PyData.depthAll ds) d.depth < cLine := room_in_shaped sd hu
  cases hl with
  | tup hs ha =>
    obtain ⟨its, rv, pl, hlen⟩ := I.tuple hs
    obtain ⟨⟨cl, dc, dt, sls⟩, ho, hcl, n, hdt⟩ := pl
    cases (show cl = .type "tuple" from hcl)
    cases (show dt = .seq its.toArray n from hdt)
    obtain ⟨as, ra⟩ := Dp.readsAll I ds _ its ha rv
    have hn : its.length = ds.length := SeqAt.ReadsAll.length ds its as ra
    have hm : its.map (SeqAt.readOf s.heap) = ds := SeqAt.readsAll_map ds its as lay ra
    have hjd := (List.getElem?_eq_some_iff.mp hz).1
    have hj : j < its.toArray.size := by simp; omega
    have rd_at : ∀ (m : Nat) (hml : m < its.toArray.size) (z' : PyData), ds[m]? = some z' → SeqAt.readOf s.heap its.toArray[m] = z' := by
      intro m hml z' e
      have hl2 : m < its.length := by simpa using hml
      rw [← hm, List.getElem?_map, List.getElem?_eq_getElem hl2] at e
      have e3 : SeqAt.readOf s.heap its[m] = z' := by simpa using e
      simpa using e3
    refine call_meets PySem.F.slot_tuple_index ⟨_, ho, rfl⟩ PySem.F.entry_tuple_index (PySem.F.args_tuple_index_2 _ _)
      (TI.tuple_indexAt a its.toArray n dc sls uy (fun u => PyData.eqv (SeqAt.readOf s.heap u) d) j hj ?_ fun m hml hmj => ?_) ⟨ho, SeqAt.items_eqAt (vs := its.toArray) (show ReadsAll s.heap its.toArray.toList ds as from ra) rd lay (SeqAt.canLay_of_shaped sd) room, ⟨.int (j : Nat), H, I.tok _, ⟨_, rfl⟩, q⟩⟩
    · show PyData.eqv (SeqAt.readOf s.heap its.toArray[j]) d = true
      rw [rd_at j hj z hz]; exact hzj
    · have hmd : m < ds.length := by omega
      show PyData.eqv (SeqAt.readOf s.heap its.toArray[m]) d = false
      rw [rd_at m hml _ (List.getElem?_eq_getElem hmd)]
      exact hno m _ hmj (List.getElem?_eq_getElem hmd)
/-- a method of one type or of another, by what the receiver is -/
def tMeA (X : Cx) (T1 T2 : String) (r1 r2 : V → List V → Hp → VK → Prop) (to : TE) (t : TA) : TE := fun σ H Q => to σ H fun x H1 => (TyE X T1 x H1 ∧ t σ H1 fun xs H2 => r1 x xs H2 Q) ∨ (TyE X T2 x H1 ∧ t σ H1 fun xs H2 => r2 x xs H2 Q)
theorem pe_meA {to : TE} {t : TA} {name : Str} {T1 T2 id1 id2 : String} {r1 r2 : V → List V → Hp → VK → Prop} {es : List Expr} (pa1 : PlainAttrs T1) (sl1 : Slot T1 name id1) (ty1 : typeOf (.builtin id1) = pure (.type "method_descriptor")) (hm1 : MtR X id1 r1)
    (pa2 : PlainAttrs T2) (sl2 : Slot T2 name id2) (ty2 : typeOf (.builtin id2) = pure (.type "method_descriptor")) (hm2 : MtR X id2 r2) (ho : PE X o to) (ha : PA X (e :: es) t)
    (h1 : attributeBase o name X.env (eval o X.env) = eval o X.env)
    (h2 : ((backTo cpos (starEach (e :: es) X.env)).all (fun x => !x.1) && (backToKw cpos (keywordEach [] X.env)).all (fun x => x.1.isSome)
      && decide ((e :: es).length + ([] : List Keyword).length + (if ([] : List Keyword).isEmpty then 0 else 1) < 30)) = true)
    (h3 : (apos.endLine == cpos.line) = true) (h4 : starEach (e :: es) X.env = (false, eval e X.env) :: starEach es X.env) (h5 : (backTo cpos (starEach es X.env)).any (·.1) = false) :
    PE X (.Call (.Attribute o name apos) (e :: es) [] cpos) (tMeA X T1 T2 r1 r2 to t) := by
  constructor
  intro pins s σ H Q I h
  refine wpAny_Call_method_late h1 h2 h3 rfl (thn (ho.run pins s σ H _ I h) fun v s1 ⟨x, H1, I1, rx, q1⟩ => ?_)
  have any : (false || (backTo cpos (starEach es X.env)).any (·.1)) = false := by rw [h5]; rfl
  rcases q1 with ⟨ty, q1⟩ | ⟨ty, q1⟩
  · obtain ⟨t1, t2⟩ := ty pins s1 σ v I1 rx
    refine ⟨T1, id1, pa1, sl1, ty1, t1, t2, ?_⟩
    have hA := ha.run cpos pins s1 σ H1 _ I1 q1
    rw [h4] at hA ⊢
    exact Calls.callWith_builtin any (Calls.evalArgs_plain (thn hA fun us s2 ⟨vs, H2, I2, rr, q2⟩ => hm1 pins s2 σ H2 x vs v us Q I2 rx rr q2))
  · obtain ⟨t1, t2⟩ := ty pins s1 σ v I1 rx
    refine ⟨T2, id2, pa2, sl2, ty2, t1, t2, ?_⟩
    have hA := ha.run cpos pins s1 σ H1 _ I1 q1
    rw [h4] at hA ⊢
    exact Calls.callWith_builtin any (Calls.evalArgs_plain (thn hA fun us s2 ⟨vs, H2, I2, rr, q2⟩ => hm2 pins s2 σ H2 x vs v us Q I2 rx rr q2))
theorem idxD_some {ds : List D} {e : D} {r : R} (h : idxD ds e = some r) : ∃ ps p j, toPs ds = some ps ∧ toP e = some p ∧ SeqAt.shaped (.list ps) = true ∧ SeqAt.shaped p = true ∧ idxP p ps = some j ∧ r = intD (j : Nat) := by
  unfold idxD at h
  cases h1 : toPs ds with
  | none => rw [h1] at h; cases h
  | some ps =>
    cases h2 : toP e with
    | none => rw [h1, h2] at h; cases h
    | some p =>
      rw [h1, h2] at h
      simp only at h
      split at h
      · rename_i q
        obtain ⟨q1, q2⟩ := Bool.and_eq_true_iff.mp q
        obtain ⟨j, h3, rfl⟩ := Option.map_eq_some_iff.mp h
        exact ⟨ps, p, j, rfl, rfl, q1, q2, h3, rfl⟩
      · cases h
theorem shaped_lt {ps : List PyData} (h : SeqAt.shaped (.list ps) = true) : SeqAt.shaped (.tuple ps) = true := by
  unfold SeqAt.shaped at *
  simpa [PyData.canLay0, PyData.depth] using h
theorem de_index (hK : X.K = c.K) (hu : Small X) {mo m : M D} (ho : DV X c W o mo) (h : DV X c W e m)
    (h1 : attributeBase o "index" X.env (eval o X.env) = eval o X.env)
    (h2 : ((backTo cpos (starEach [e] X.env)).all (fun x => !x.1) && (backToKw cpos (keywordEach [] X.env)).all (fun x => x.1.isSome) && decide ([e].length + ([] : List Keyword).length + (if ([] : List Keyword).isEmpty then 0 else 1) < 30)) = true)
    (h3 : (apos.endLine == cpos.line) = true) (h4 : starEach [e] X.env = (false, eval e X.env) :: starEach [] X.env) :
    DE X c W (.Call (.Attribute o "index" apos) [e] [] cpos) (idxM mo m) := by
  have hu' : X.A.units + 65 < cLine := by unfold Small at hu; omega
  refine PE.less (pe_meA PySem.F.plainAttrs_list PySem.F.slot_list_index PySem.F.type_list_index (mt_indexD hu') PySem.F.plainAttrs_tuple PySem.F.slot_tuple_index PySem.F.type_tuple_index (mt_indexU hu') ho (pa_cons h pa_nil h4) h1 h2 h3 h4 rfl) fun σ H Q ⟨w, st, r, p⟩ => ?_
  refine ⟨w, st, r, (Pst.bind p rD.tk).mono fun v1 H1 ⟨x, w1, st1, r1, q1, x1, t1, p1⟩ => ?_⟩
  obtain ⟨⟨b, ds⟩, e1, p2⟩ := p1.liftB
  rcases lstE_some e1 with ⟨rfl, rfl⟩ | ⟨rfl, rfl⟩
  · obtain ⟨A, xs, rfl, hq, hr⟩ := (show Pk c w1 H1 v1 (.lst ds) from .inl q1.2).lst
    refine .inl ⟨.list (hK ▸ hq), w1, st1, r1, (Pst.bind p2 rD.tk).mono fun v2 H2 ⟨y, w2, st2, r2, q2, x2, t2, p3⟩ => ?_⟩
    obtain ⟨r3, e3, k3⟩ := p3.prim r2
    obtain ⟨ps, pd, j, g1, g2, g3, g4, g5, rfl⟩ := idxD_some e3
    obtain ⟨z, f1, f2, f3⟩ := idxP_some g5
    have pl : Pk c w2 H2 (.ref A) (.lst ds) := .inl (x2.rep q1.2)
    have pe : Pk c w2 H2 v2 y := .inl q2.2
    exact ⟨A, v2, pd, ps, j, z, rfl, rfl, hK ▸ pl.dp (by unfold toP; rw [g1]; rfl), hK ▸ pe.dp g2, g3, g4, f1, f2, f3, k3.int⟩
  · obtain ⟨A, xs, rfl, hq, hr, hrr⟩ := (show Pk c w1 H1 v1 (.tup ds) from .inl q1.2).tup
    refine .inr ⟨tyE_tup hK hrr, w1, st1, r1, (Pst.bind p2 rD.tk).mono fun v2 H2 ⟨y, w2, st2, r2, q2, x2, t2, p3⟩ => ?_⟩
    obtain ⟨r3, e3, k3⟩ := p3.prim r2
    obtain ⟨ps, pd, j, g1, g2, g3, g4, g5, rfl⟩ := idxD_some e3
    obtain ⟨z, f1, f2, f3⟩ := idxP_some g5
    have pl : Pk c w2 H2 (.ref A) (.tup ds) := .inl (x2.rep hrr)
    have pe : Pk c w2 H2 v2 y := .inl q2.2
    exact ⟨A, v2, pd, ps, j, z, rfl, rfl, hK ▸ pl.dp (by unfold toP; rw [g1]; rfl), hK ▸ pe.dp g2, shaped_lt g3, g4, f1, f2, f3, k3.int⟩
end
end Pv
namespace Pv
open PySem PySem.Spec PyProof.Rows L2
section
variable {X : Cx} {c : Cn} {W : WX} {w : Wt} {st : Sto} {σ : Sv} {H H' : Hp} {pos : Pos} {e a b : Expr}
/-! ### comprehensions of two clauses -/
/-- the inner loop -/
theorem lcRun {vs : List Nat} {J : L2.It} {t : Tf} {tt : M Bool} {te : M D} {ds acc accF : List D} {st3 st4 stF : Sto} {w3 : Wt} {H4 : Hp} {A : Addr} {tm0 : List Addr} {xs : List V} {Nx : Hp → Prop}
    (r3 : Rel c w3 st3 σ H4) (it : ItD c w3 H4 J ds) (t3 : w3.tm = A :: tm0) (hA : H4 A = some (.lst xs)) (ra : RepsW c w3 H4 xs acc) (e0 : wipeF vs st3 = some st4) (e1 : lcL vs t tt te ds acc st4 = some (accF, stF))
    (fin : ∀ w' H' xs', Rel c w' stF (L2.wipe σ vs) H' → w'.tm = A :: tm0 → Gr H4 H' w3.cs w'.cs (w3.av c) (w'.av c) → (∀ a ∈ tm0, H' a = H4 a) → H' A = some (.lst xs') → RepsW c w' H' xs' accF → Nx H') :
    ∃ W : Nat → Nat → Hp → Prop, (∃ m, W 0 m H4) ∧ ∀ i m H, W i m H →
      (J.stop i H ∧ Nx H) ∨ (J.go i H ∧ ∃ N1 : Hp → Prop, (∀ H', N1 H' → ∃ k', k' < m ∧ W (i + 1) k' H') ∧ ∀ x H', J.yld i H x H' → tTg c vs t x (L2.wipe σ vs) H' fun σ3 H5 => L2.wipe σ3 vs = L2.wipe σ vs ∧ tM c noX rB tt σ3 H5 fun b H6 =>
        if b = true then tM c noX (rD c) te σ3 H6 fun y H7 => ∃ acc, H7 A = some (.lst acc) ∧ acc.length < sizeLine ∧ N1 (upd H7 A (.lst (acc ++ [y]))) else N1 H6) := by
  have nA : A ∉ tm0 := by
    have := (List.nodup_append.mp (List.nodup_append.mp r3.nd).2.1).2.1
    rw [t3] at this
    exact (List.nodup_cons.mp this).1
  have r4 := r3.wipe e0
  refine ⟨fun i n H => n = ds.length - i ∧ i ≤ ds.length ∧ ∃ w' st' acc xs, Rel c w' st' (L2.wipe σ vs) H ∧ w'.tm = A :: tm0 ∧ Gr H4 H w3.cs w'.cs (w3.av c) (w'.av c) ∧ (∀ a ∈ tm0, H a = H4 a) ∧ H A = some (.lst xs) ∧ RepsW c w' H xs acc ∧
    lcL vs t tt te (ds.drop i) acc st' = some (accF, stF), ⟨ds.length, rfl, Nat.zero_le _, w3, st4, acc, xs, r4, t3, Gr.refl _ _ _, fun _ _ => rfl, hA, ra, e1⟩, ?_⟩
  rintro i n H2 ⟨rfl, hi, w2, st5, acc, xs, r5, t5, gg, tt0, hA4, ra, e4⟩
  obtain ⟨j1, j2⟩ := it w2 H2 gg r5.exA
  by_cases hl : i < ds.length
  · have ed : ds[i]? = some ds[i] := List.getElem?_eq_getElem hl
    rw [List.drop_eq_getElem_cons hl] at e4
    obtain ⟨g1, g2⟩ := j1 i _ ed
    unfold lcL at e4
    obtain ⟨⟨yo, st8⟩, e5, e6⟩ := Option.bind_eq_some_iff.mp e4
    unfold lcT at e5
    obtain ⟨st6, e7, e8⟩ := Option.bind_eq_some_iff.mp e5
    obtain ⟨⟨bb, st7⟩, e9, e10⟩ := Option.bind_eq_some_iff.mp e8
    refine .inr ⟨g1, fun H => ∃ n', n' < ds.length - i ∧ (n' = ds.length - (i + 1) ∧ i + 1 ≤ ds.length ∧ ∃ w' st' acc xs, Rel c w' st' (L2.wipe σ vs) H ∧ w'.tm = A :: tm0 ∧ Gr H4 H w3.cs w'.cs (w3.av c) (w'.av c) ∧ (∀ a ∈ tm0, H a = H4 a) ∧ H A = some (.lst xs) ∧ RepsW c w' H xs acc ∧
      lcL vs t tt te (ds.drop (i + 1)) acc st' = some (accF, stF)), fun H h => h, fun x H3 y => ?_⟩
    obtain ⟨s3, rx⟩ := g2 x H3 y
    have r6 := s3.rel r5
    have x5 : Ext c w2 H2 w2 H3 := s3.ext r5
    refine ⟨w2, st5, ds[i], r6, rx, st6, e7, fun σ6 w6 r6 x6 t6 s6 => ⟨(wipe_same s6).trans wipe_wipe, ?_⟩⟩
    have hw6 : L2.wipe σ6 vs = L2.wipe σ vs := (wipe_same s6).trans wipe_wipe
    refine ⟨w6, st6, r6, .of_ok (M.sure_ok e9) fun b7 H7 w7 r7 x7 q7 => ?_⟩
    obtain ⟨t7, rfl⟩ := q7
    have t7' : w7.tm = A :: tm0 := t7.trans (t6.trans t5)
    have x67 : Ext c w2 H2 w7 H7 := x5.trans (x6.trans x7 fun a ha => by rw [t6]; exact ha) fun a ha => ha
    have hA7 : ∀ {w' : Wt} {H' : Hp}, Ext c w2 H2 w' H' → H' A = some (.lst xs) := fun {w' H'} x => by rw [x.tm A (by rw [t5]; exact List.mem_cons_self)]; exact hA4
    have tm7 : ∀ {w' : Wt} {H' : Hp}, Ext c w2 H2 w' H' → ∀ a ∈ tm0, H' a = H4 a := fun {w' H'} x a ha => (x.tm a (by rw [t5]; exact List.mem_cons_of_mem _ ha)).trans (tt0 a ha)
    cases b7 with
    | false =>
      simp only [Bool.false_eq_true, if_false] at e10
      obtain ⟨st9, e11, e12⟩ := Option.map_eq_some_iff.mp e10
      cases e12
      rw [if_neg (by decide)]
      have r8 := r7.wipe e11
      rw [hw6] at r8
      exact ⟨ds.length - (i + 1), by omega, rfl, hl, w7, st8, acc, xs, r8, t7', gg.trans x67.gr, tm7 x67, hA7 x67, x67.reps ra, e6⟩
    | true =>
      simp only [if_true] at e10
      obtain ⟨⟨yd, st9⟩, e11, e12⟩ := Option.bind_eq_some_iff.mp e10
      obtain ⟨st10, e13, e14⟩ := Option.map_eq_some_iff.mp e12
      cases e14
      rw [if_pos rfl]
      refine ⟨w7, st7, r7, .of_ok (M.sure_ok e11) fun v9 H9 w9 r9 x9 q9 => ?_⟩
      obtain ⟨t9, rv⟩ := q9
      have x69 : Ext c w2 H2 w9 H9 := x67.trans x9 fun a ha => by rw [t7', ← t5]; exact ha
      simp only at e6
      split at e6
      · rename_i hz
        have hA9 := hA7 x69
        have t9' : w9.tm = A :: tm0 := t9.trans t7'
        have am : A ∈ w9.tm := by rw [t9']; exact List.mem_cons_self
        refine ⟨xs, hA9, by rw [ra.length]; exact hz, ds.length - (i + 1), by omega, rfl, hl, ?_⟩
        have r10 := r9.wipe e13
        rw [hw6] at r10
        obtain ⟨r11, g11⟩ := r10.writeTm (o := .lst (xs ++ [v9])) am
        exact ⟨w9, st8, acc ++ [yd], xs ++ [v9], r11, t9', (gg.trans x69.gr).trans g11, fun a ha => by
          rw [upd_ne fun z => nA (by rw [← z]; exact ha)]
          exact tm7 x69 a ha, upd_same, g11.reps ((x69.reps ra).append (.cons rv .nil)), e6⟩
      · cases e6
  · have e0' : i = ds.length := by omega
    subst e0'
    rw [List.drop_length] at e4
    cases e4
    exact .inl ⟨j2 _ (Nat.le_refl _), fin w2 H2 xs r5 t5 gg tt0 hA4 ra⟩
/-- two clauses: the items of the second are taken anew at each turn of the first -/
def lc2L (vs vs1 : List Nat) (t : Tf) (tt : M Bool) (m1 : M (List D)) (t1 : Tf) (tt1 : M Bool) (te : M D) : List D → List D → Sto → Option (List D × Sto)
  | [], acc, st => some (acc, st)
  | d :: ds, acc, st => (t d st).bind fun st1 => (tt.sure st1).bind fun x => if x.1 then
      (m1.sure x.2).bind fun y => (wipeF vs1 y.2).bind fun st4 => (lcL vs1 t1 tt1 te y.1 acc st4).bind fun z => (wipeF vs z.2).bind fun st6 => lc2L vs vs1 t tt m1 t1 tt1 te ds z.1 st6
    else (wipeF vs x.2).bind fun st4 => lc2L vs vs1 t tt m1 t1 tt1 te ds acc st4
def lc2F (vs vs1 : List Nat) (t : Tf) (tt : M Bool) (m1 : M (List D)) (t1 : Tf) (tt1 : M Bool) (te : M D) (ds : List D) : M R := fun st =>
  match (wipeF vs st).bind fun st0 => lc2L vs vs1 t tt m1 t1 tt1 te ds [] st0 with
  | some (acc, st1) => .ok (.lst acc, true) { st1 with ρ := restR st.ρ st1.ρ vs }
  | none => .stuck
def lc2M (vs vs1 : List Nat) (m : M (List D)) (t : Tf) (tt : M Bool) (m1 : M (List D)) (t1 : Tf) (tt1 : M Bool) (te : M D) : M R := M.bind m fun ds => lc2F vs vs1 t tt m1 t1 tt1 te ds
theorem samB_wipe {vs vs1 : List Nat} (h : ∀ v ∈ vs1, v ∈ vs) {σ : Sv} : SamB vs σ (L2.wipe σ vs1) := ⟨wipe_length _ _, fun i q => by rw [wipe_get, if_neg fun z => q (h i z.1)]⟩
theorem tlc2_of {vs vs1 : List Nat} {m m1 : M (List D)} {t t1 : Tf} {tt tt1 : M Bool} {te : M D} {Q : VK} (hv : ∀ v ∈ vs1, v ∈ vs) (h : tM c W (rR c) (lc2M vs vs1 m t tt m1 t1 tt1 te) σ H Q) :
    tLc2 (tM c W (rI c) m) (tTg c vs t) (tM c noX rB tt) (tM c noX (rI c) m1) (tTg c vs1 t1) (tM c noX rB tt1) (tM c noX (rD c) te) vs vs1 σ H Q := by
  obtain ⟨w, st, r, p⟩ := h
  refine ⟨w, st, r, (Pst.bind p rI.tk).mono fun J H1 ⟨ds, w1, st1, r1, q1, x1, t1', p1⟩ => ?_⟩
  intro A hA
  have it := q1.2
  unfold Pst lc2F at p1
  cases e0 : wipeF vs st1 with
  | none => simp only [e0, Option.bind_none] at p1
  | some st2 =>
    simp only [e0, Option.bind_some] at p1
    cases e1 : lc2L vs vs1 t tt m1 t1 tt1 te ds [] st2 with
    | none => simp only [e1] at p1
    | some z =>
      obtain ⟨accF, stF⟩ := z
      simp only [e1] at p1
      have r2 := r1.wipe e0
      have sA : Same H1 (upd H1 A (.lst [])) := Same.upd hA
      have r3 : Rel c (w1.more A) st2 (L2.wipe σ vs) (upd H1 A (.lst [])) := sA.rel_more r2 hA (by rw [upd_same]; simp)
      have x3 : Ext c w1 H1 (w1.more A) (upd H1 A (.lst [])) := sA.ext_more r2 hA
      have nA : A ∉ w1.tm := fun q => r1.ex A (.inr (.inr (.inr q))) hA
      refine ⟨fun i n H => n = ds.length - i ∧ i ≤ ds.length ∧ ∃ w' st' acc xs, Rel c w' st' (L2.wipe σ vs) H ∧ w'.tm = A :: w1.tm ∧ Ext c w1 H1 w' H ∧ H A = some (.lst xs) ∧ RepsW c w' H xs acc ∧
        lc2L vs vs1 t tt m1 t1 tt1 te (ds.drop i) acc st' = some (accF, stF), ⟨ds.length, rfl, Nat.zero_le _, w1.more A, st2, [], [], r3, rfl, x3, upd_same, .nil, e1⟩, ?_⟩
      rintro i n H2 ⟨rfl, hi, w2, st3, acc, xs, r4, t4, xx, hA4, ra, e4⟩
      obtain ⟨j1, j2⟩ := it w2 H2 xx.gr r4.exA
      have sub : ∀ y ∈ w1.tm, y ∈ w2.tm := fun y hy => by rw [t4]; exact List.mem_cons_of_mem _ hy
      by_cases hl : i < ds.length
      · have ed : ds[i]? = some ds[i] := List.getElem?_eq_getElem hl
        rw [List.drop_eq_getElem_cons hl] at e4
        obtain ⟨g1, g2⟩ := j1 i _ ed
        unfold lc2L at e4
        obtain ⟨st5, e7, e8⟩ := Option.bind_eq_some_iff.mp e4
        obtain ⟨⟨bb, st6⟩, e9, e10⟩ := Option.bind_eq_some_iff.mp e8
        refine .inr ⟨g1, fun H => ∃ n', n' < ds.length - i ∧ (n' = ds.length - (i + 1) ∧ i + 1 ≤ ds.length ∧ ∃ w' st' acc xs, Rel c w' st' (L2.wipe σ vs) H ∧ w'.tm = A :: w1.tm ∧ Ext c w1 H1 w' H ∧ H A = some (.lst xs) ∧ RepsW c w' H xs acc ∧
          lc2L vs vs1 t tt m1 t1 tt1 te (ds.drop (i + 1)) acc st' = some (accF, stF)), fun H h => h, fun x H3 y => ?_⟩
        obtain ⟨s3, rx⟩ := g2 x H3 y
        have r5 := s3.rel r4
        have x5 : Ext c w2 H2 w2 H3 := s3.ext r4
        refine ⟨w2, st3, ds[i], r5, rx, st5, e7, fun σ6 w6 r6 x6 t6 s6 => ⟨(wipe_same s6).trans wipe_wipe, ?_⟩⟩
        have hw6 : L2.wipe σ6 vs = L2.wipe σ vs := (wipe_same s6).trans wipe_wipe
        refine ⟨w6, st5, r6, .of_ok (M.sure_ok e9) fun b7 H7 w7 r7 x7 q7 => ?_⟩
        obtain ⟨t7, rfl⟩ := q7
        have t7' : w7.tm = A :: w1.tm := t7.trans (t6.trans t4)
        have x67 : Ext c w2 H2 w7 H7 := x5.trans (x6.trans x7 fun a ha => by rw [t6]; exact ha) fun a ha => ha
        have hA7 : ∀ {w' : Wt} {H' : Hp}, Ext c w2 H2 w' H' → H' A = some (.lst xs) := fun {w' H'} x => by rw [x.tm A (by rw [t4]; exact List.mem_cons_self)]; exact hA4
        cases b7 with
        | false =>
          simp only [Bool.false_eq_true, if_false] at e10
          obtain ⟨st9, e11, e12⟩ := Option.bind_eq_some_iff.mp e10
          rw [if_neg (by decide)]
          have r8 := r7.wipe e11
          rw [hw6] at r8
          exact ⟨ds.length - (i + 1), by omega, rfl, hl, w7, st9, acc, xs, r8, t7', xx.trans x67 sub, hA7 x67, x67.reps ra, e12⟩
        | true =>
          simp only [if_true] at e10
          obtain ⟨⟨es, st9⟩, e11, e12⟩ := Option.bind_eq_some_iff.mp e10
          obtain ⟨st10, e13, e14⟩ := Option.bind_eq_some_iff.mp e12
          obtain ⟨⟨acc2, st11⟩, e15, e16⟩ := Option.bind_eq_some_iff.mp e14
          obtain ⟨st12, e17, e18⟩ := Option.bind_eq_some_iff.mp e16
          rw [if_pos rfl]
          refine ⟨w7, st6, r7, .of_ok (M.sure_ok e11) fun J1 H9 w9 r9 x9 q9 => ?_⟩
          obtain ⟨t9, it1⟩ := q9
          have t9' : w9.tm = A :: w1.tm := t9.trans t7'
          have x69 : Ext c w2 H2 w9 H9 := x67.trans x9 fun a ha => by rw [t7', ← t4]; exact ha
          have xx9 : Ext c w1 H1 w9 H9 := xx.trans x69 sub
          refine lcRun r9 it1 t9' (hA7 x69) (x69.reps ra) e13 e15 fun w' H' xs' r' t' g' tm' hA' ra' => ?_
          have r8 := r'.wipe e17
          rw [wipe_same (samB_wipe hv), hw6] at r8
          exact ⟨ds.length - (i + 1), by omega, rfl, hl, w', st12, acc2, xs', r8, t', ⟨xx9.gr.trans g', fun a ha => (tm' a ha).trans (xx9.tm a ha)⟩, hA', ra', e18⟩
      · have e0' : i = ds.length := by omega
        subst e0'
        rw [List.drop_length] at e4
        cases e4
        refine .inl ⟨j2 _ (Nat.le_refl _), ?_⟩
        refine p1 _ H2 w2 (r4.reslot (restR_length _ _ _) (wipe_length _ _).symm fun i s v o h1 h2 h3 => ?_) xx ⟨A, rfl, t4, .lst hA4 ra⟩
        rw [restR_get] at h1
        by_cases hv : i ∈ vs
        · have hi : i < stF.ρ.length := by rw [← r4.lo]; exact (List.getElem?_eq_some_iff.mp h3).1
          have his : i < σ.length := by rw [← wipe_length σ vs, r4.ls]; exact hi
          rw [if_pos ⟨hv, hi⟩] at h1
          cases h1
          have ho : o = none := by
            have q := r4.sl i _ o none (List.getElem?_eq_getElem hi) h3 (by rw [wipe_get, if_pos ⟨hv, his⟩])
            cases e : stF.ρ[i] with
            | no => rw [e] at q; exact q
            | sh d => rw [e] at q; obtain ⟨_, x, z, _⟩ := q; cases z
            | ow d => rw [e] at q; obtain ⟨_, _, z, _⟩ := q; cases z
          refine .inr ?_
          subst ho
          cases e : st1.ρ[i]? with
          | none => exact rfl
          | some s0 =>
            cases s0 with
            | no => exact rfl
            | sh d =>
              obtain ⟨o', v', q1', q2', q3'⟩ := r1.at e
              rw [h2] at q2'; cases q2'
              obtain ⟨_, x, z, rp⟩ := q3'
              exact ⟨rfl, x, z, xx.rep rp⟩
            | ow d =>
              unfold wipeF at e0
              split at e0
              · rename_i q
                have := List.all_eq_true.mp q i hv
                rw [e] at this; cases this
              · cases e0
        · rw [if_neg fun z => hv z.1] at h1
          refine .inl ⟨h1, ?_⟩
          rw [wipe_get, if_neg fun z => hv z.1]; exact h2
variable {elt tg iter tg1 iter1 : Expr} {ifs ifs1 : List Expr}
theorem de_lc2 {vs1 : List Nat} {m m1 : M (List D)} {t t1 : Tf} {tt tt1 : M Bool} {te : M D} {scope : Scope} {own : List (Str × Nat)} (hc : X.calm = true) (hN : X.N.Nodup) (hi : DI X c W tg iter m) (ok : BlkOk X.N X.env.scope scope own) (hv : ∀ i ∈ vs1, i ∈ own.map (·.2))
    (hg : ∀ (s : Shared) (H : Hp) (C : Addr) (cl : List (Str × Addr)) (fp : List Addr), DTg (X.blk s H scope (compEnvC scope cl C X.env) fp) c (own.map (·.2)) tg t)
    (ht : ∀ (s : Shared) (H : Hp) (C : Addr) (cl : List (Str × Addr)) (fp : List Addr), DTs (X.blk s H scope (compEnvC scope cl C X.env) fp) c noX ifs tt)
    (hi1 : ∀ (s : Shared) (H : Hp) (C : Addr) (cl : List (Str × Addr)) (fp : List Addr), DI (X.blk s H scope (compEnvC scope cl C X.env) fp) c noX tg1 iter1 m1)
    (hg1 : ∀ (s : Shared) (H : Hp) (C : Addr) (cl : List (Str × Addr)) (fp : List Addr), DTg (X.blk s H scope (compEnvC scope cl C X.env) fp) c vs1 tg1 t1)
    (ht1 : ∀ (s : Shared) (H : Hp) (C : Addr) (cl : List (Str × Addr)) (fp : List Addr), DTs (X.blk s H scope (compEnvC scope cl C X.env) fp) c noX ifs1 tt1)
    (he : ∀ (s : Shared) (H : Hp) (C : Addr) (cl : List (Str × Addr)) (fp : List Addr), DV (X.blk s H scope (compEnvC scope cl C X.env) fp) c noX elt te) (hs : ∀ x, foldedSetIterable iter X.env x = pure x) (hs1 : ∀ env x, foldedSetIterable iter1 env x = pure x) :
    DE X c W (.ListComp elt [⟨tg, iter, ifs, 0⟩, ⟨tg1, iter1, ifs1, 0⟩] scope pos) (lc2M (own.map (·.2)) vs1 m t tt m1 t1 tt1 te) :=
  PE.less (pe_lc2 hc hN hi ok hv hg ht hi1 hg1 ht1 he hs hs1) fun σ H Q h => tlc2_of hv h
theorem ds_setLc2 {i : Nat} {y : Str} {py spos : Pos} {vs1 : List Nat} {m m1 : M (List D)} {t t1 : Tf} {tt tt1 : M Bool} {te : M D} {scope : Scope} {own : List (Str × Nat)} (hc : X.calm = true) (hN : X.N.Nodup) (hy : X.N[i]? = some y) (hyl : X.env.scope.names.lookup y = some .local)
    (hsw : swapsWith (.ListComp elt [⟨tg, iter, ifs, 0⟩, ⟨tg1, iter1, ifs1, 0⟩] scope pos) (some (.Name y py)) spos.line X.env = pure true) (hi : DI X c W tg iter m) (ok : BlkOk X.N X.env.scope scope own) (hv : ∀ i ∈ vs1, i ∈ own.map (·.2))
    (hg : ∀ (s : Shared) (H : Hp) (C : Addr) (cl : List (Str × Addr)) (fp : List Addr), DTg (X.blk s H scope (compEnvC scope cl C X.env) fp) c (own.map (·.2)) tg t)
    (ht : ∀ (s : Shared) (H : Hp) (C : Addr) (cl : List (Str × Addr)) (fp : List Addr), DTs (X.blk s H scope (compEnvC scope cl C X.env) fp) c noX ifs tt)
    (hi1 : ∀ (s : Shared) (H : Hp) (C : Addr) (cl : List (Str × Addr)) (fp : List Addr), DI (X.blk s H scope (compEnvC scope cl C X.env) fp) c noX tg1 iter1 m1)
    (hg1 : ∀ (s : Shared) (H : Hp) (C : Addr) (cl : List (Str × Addr)) (fp : List Addr), DTg (X.blk s H scope (compEnvC scope cl C X.env) fp) c vs1 tg1 t1)
    (ht1 : ∀ (s : Shared) (H : Hp) (C : Addr) (cl : List (Str × Addr)) (fp : List Addr), DTs (X.blk s H scope (compEnvC scope cl C X.env) fp) c noX ifs1 tt1)
    (he : ∀ (s : Shared) (H : Hp) (C : Addr) (cl : List (Str × Addr)) (fp : List Addr), DV (X.blk s H scope (compEnvC scope cl C X.env) fp) c noX elt te) (hs : ∀ x, foldedSetIterable iter X.env x = pure x) (hs1 : ∀ env x, foldedSetIterable iter1 env x = pure x) :
    DS X c W (.Assign [.Name y py] (.ListComp elt [⟨tg, iter, ifs, 0⟩, ⟨tg1, iter1, ifs1, 0⟩] scope pos) spos) (setM i (lc2M (own.map (·.2)) vs1 m t tt m1 t1 tt1 te)) := by
  refine PS.less (ps_setLc2 hc hN hy hyl hsw hi ok hv hg ht hi1 hg1 ht1 he hs hs1) fun D σ H ⟨w, st, r, t0, p⟩ => ?_
  refine tlc2_of hv ⟨w, st, r, (Sst.bind p t0).mono fun v1 H1 ⟨r0, w1, st1, r1, q1, x1, p1⟩ => ?_⟩
  rw [t0] at q1
  exact p1.store r1 q1
end
end Pv
namespace Pv
open PySem PySem.Spec PyProof.Rows L2
section
variable {X : Cx} {c : Cn} {W : WX} {w : Wt} {st : Sto} {σ : Sv} {H H' : Hp} {p pos : Pos} {tg a b d : Expr}
/-! ### range of three -/
theorem it_rgc {lo k : Int} {n : Nat} : ItD c w H (Itc lo k n) (intsBy lo k n) := fun w1 H1 g ex => by
  refine ⟨fun i d e => ?_, fun i hi => (show n ≤ i by simpa [intsBy] using hi)⟩
  unfold intsBy at e
  rw [List.getElem?_map] at e
  obtain ⟨j, e1, rfl⟩ := Option.map_eq_some_iff.mp e
  obtain ⟨h1, h2⟩ := List.getElem?_eq_some_iff.mp e1
  have hj : i < n := by simpa using h1
  have ej : j = i := by rw [← h2]; simp
  subst ej
  exact ⟨hj, fun x H' ⟨e3, e4⟩ => by subst e3 e4; exact ⟨Same.refl _, .int _⟩⟩
def rg3D : List D → Option (List D)
  | [.int i, .int j, .int k] => if k = -1 ∧ sm62 i = true ∧ sm62 j = true then some (intsBy i (-1) (i - j).toNat)
      else if k ≠ 0 ∧ k.natAbs < 1073741824 ∧ Builtin.Range.small i j k = true ∧ 0 ≤ Builtin.Range.rangeSize i j k then some (intsBy i k (Builtin.Range.rangeSize i j k).toNat) else none
  | _ => none
theorem rg3D_ok {ds ds' : List D} (h : rg3D ds = some ds') : ∃ i j k n, ds = [.int i, .int j, .int k] ∧ RgC i j k n ∧ ds' = intsBy i k n := by
  unfold rg3D at h
  split at h
  · rename_i i j k
    split at h
    · rename_i q
      obtain ⟨rfl, q1, q2⟩ := q
      cases h
      obtain ⟨a1, a2⟩ := sm62_ok q1
      obtain ⟨b1, b2⟩ := sm62_ok q2
      exact ⟨i, j, -1, _, rfl, .neg a1 a2 b1 b2, rfl⟩
    · split at h
      · rename_i q
        cases h
        exact ⟨i, j, k, _, rfl, ⟨q.1, q.2.1, q.2.2.1, by omega⟩, rfl⟩
      · cases h
  · cases h
theorem di_rg3 {ms : M (List D)} (hg : Gl X "range") (hm : X.mg "range" = none) (ha : DA X c W [a, b, d] ms) (hs : starEach [a, b, d] X.env = (false, eval a X.env) :: starEach [b, d] X.env) (hpl : (backTo pos (starEach [b, d] X.env)).any (·.1) = false) : DI X c W tg (.Call (.Name "range" p) [a, b, d] [] pos) (seqM2 rg3D ms) := by
  refine PI.less (pi_range3 hg hm ha hs hpl) fun σ H Q ⟨w, st, r, p⟩ => ?_
  refine ⟨w, st, r, (Pst.bind p rL.tk).mono fun v1 H1 ⟨x, w1, st1, r1, q1, x1, t1, p1⟩ => ?_⟩
  obtain ⟨ds, e1, k⟩ := p1.itD r1
  obtain ⟨i, j, kk, n, rfl, hr, rfl⟩ := rg3D_ok e1
  obtain ⟨v, u, t, rfl, q, q', q''⟩ := q1.2.three
  cases q; cases q'; cases q''
  exact ⟨i, j, kk, n, rfl, hr, k _ it_rgc⟩
end
end Pv
namespace Pv
open PySem PySem.Spec PyProof.Rows L2
section
variable {X : Cx} {c : Cn} {W : WX} {w : Wt} {st : Sto} {σ : Sv} {H H' : Hp} {pins : List (Addr × Obj)} {s : Shared} {p pos apos cpos : Pos} {e a b d : Expr} {es : List Expr}
/-! ### gcd, lcm -/
def gcdD : List D → Option R
  | [.int a, .int b] => some (intD ((Nat.gcd a.natAbs b.natAbs : Nat) : Int))
  | _ => none
def lcmD : List D → Option R
  | [.int a, .int b] => if a.natAbs < 18446744073709551616 ∧ b.natAbs < 18446744073709551616 then some (intD ((Nat.lcm a.natAbs b.natAbs : Nat) : Int)) else none
  | _ => none
theorem c_gcd : CallR X (.builtin "math.gcd") (Pn c gcdD) := by
  intro pins s σ H xs us Q I r ⟨w, ds, r0, ex, kk, eq, q⟩
  unfold gcdD at eq
  split at eq <;> cases eq
  obtain ⟨x, y, rfl, k, k'⟩ := kk.two
  cases k.int; cases k'.int
  exact cr_gcd pins s σ H _ us Q I r ⟨_, _, rfl, q.int⟩
theorem c_lcm : CallR X (.builtin "math.lcm") (Pn c lcmD) := by
  intro pins s σ H xs us Q I r ⟨w, ds, r0, ex, kk, eq, q⟩
  unfold lcmD at eq
  split at eq
  · split at eq
    · rename_i hb
      cases eq
      obtain ⟨x, y, rfl, k, k'⟩ := kk.two
      cases k.int; cases k'.int
      obtain ⟨t, u, rfl⟩ := Vals.int2 r
      exact PySem.W.mc_lcm hb.1 hb.2 fun _ => ⟨.int _, H, I.tok _, ⟨_, rfl⟩, q.int⟩
    · cases eq
  · cases eq
/-! ### a constant of the module -/
theorem de_con {x : Str} {i : Int} (hg : Gl X x) (hm : ∃ t, X.mg x = some (.int i t)) (hd : (x == ("__debug__" : Str)) = false) : DE X c W (.Name x pos) (M.pure (.int i, false)) := by
  obtain ⟨t, hm⟩ := hm
  refine de_const (v := .int i) ⟨fun pins s σ H Q I h => ld_glob I hg hm ⟨.int i, H, I, ⟨t, rfl⟩, h⟩ hd⟩ fun _ _ _ => .int i
/-! ### a table of the module: t.get(x) -/
structure TabAt (K : PySem.W.Frag) (wd : World) (a : Addr) (kvs : List (String × Option Int)) : Prop where
  dic : ∃ es n, KDict K wd a es n
  val : ∀ q ∈ kvs, match q.2 with
    | some i => ∃ t, PySem.W.nsIn K a (Str.ofString q.1) = some (some (.int i t))
    | none => PySem.W.nsIn K a (Str.ofString q.1) = some none
def tgetK : List (String × Option Int) → Str → Option D
  | [], _ => none
  | (k, o) :: r, z => if Str.ofString k = z then some (match o with
    | some i => .int i
    | none => .non) else tgetK r z
theorem tgetK_some {d : D} {z : Str} : ∀ {kvs : List (String × Option Int)}, tgetK kvs z = some d → ∃ q ∈ kvs, Str.ofString q.1 = z ∧ d = (match q.2 with
    | some i => .int i
    | none => .non)
  | [], h => by cases h
  | (k, o) :: r, h => by
    unfold tgetK at h
    split at h
    · rename_i e
      cases h
      exact ⟨(k, o), List.mem_cons_self, e, rfl⟩
    · obtain ⟨q, h1, h2⟩ := tgetK_some h
      exact ⟨q, List.mem_cons_of_mem _ h1, h2⟩
def tgetD (kvs : List (String × Option Int)) : D → Option R
  | .str z => (tgetK kvs z).map fun d => (d, false)
  | _ => none
def unV (g : D → Option R) (m : M D) : M R := M.bind m fun d => M.lift (g d)
theorem de_tget {x : Str} {A : Addr} {kvs : List (String × Option Int)} {m : M D} (T : TabAt X.K X.w A kvs) (hg : Gl X x) (hm : X.mg x = some (.ref A)) (hd : (x == ("__debug__" : Str)) = false) (h : DV X c W e m)
    (h1 : attributeBase (.Name x p) "get" X.env (eval (.Name x p) X.env) = eval (.Name x p) X.env)
    (h2 : ((backTo cpos (starEach [e] X.env)).all (fun x => !x.1) && (backToKw cpos (keywordEach [] X.env)).all (fun x => x.1.isSome) && decide ([e].length + ([] : List Keyword).length + (if ([] : List Keyword).isEmpty then 0 else 1) < 30)) = true)
    (h3 : (apos.endLine == cpos.line) = true) (h4 : starEach [e] X.env = (false, eval e X.env) :: starEach [] X.env) :
    DE X c W (.Call (.Attribute (.Name x p) "get" apos) [e] [] cpos) (unV (tgetD kvs) m) := by
  refine ⟨fun pins s σ H Q I ⟨w, st, r, p0⟩ => ?_⟩
  obtain ⟨es, n, D0⟩ := T.dic
  refine wpAny_Call_method h1 h2 h3 PySem.F.plainAttrs_dict PySem.F.slot_dict_get PySem.F.type_dict_get (ld_glob I hg hm ?_ hd)
  refine ⟨kd_type D0 I, fun b q => ?_, ?_⟩
  · cases q; exact ⟨_, I.kIn _ _ D0.at_, rfl⟩
  have tr : backTo cpos (starEach [e] X.env) = [(false, eval e X.env)] := by rw [h4]; rfl
  rw [tr]
  refine Calls.callWith_builtin rfl (Calls.evalArgs_plain (Calls.spliced_cons (thn (h.run pins s σ H _ I ⟨w, st, r, Pst.bind p0 rD.tk⟩) fun iv s2 ⟨y, H2, I2, ry, dd, w2, st2, r2, q2, x2, t2, p3⟩ => Calls.spliced_nil ?_)))
  obtain ⟨r3, e3, k3⟩ := p3.prim r2
  unfold tgetD at e3
  split at e3
  · rename_i z
    obtain ⟨d0, e4, rfl⟩ := Option.map_eq_some_iff.mp e3
    obtain ⟨q, hq, rfl, rfl⟩ := tgetK_some e4
    have hv := T.val q hq
    cases (show Pk c w2 H2 y (.str _) from .inl q2.2).str
    obtain ⟨t, rfl⟩ := ry
    refine call_meetsIn PySem.F.slot_dict_get (kd_type D0 I2) PySem.F.entry_dict_get (PySem.F.args_dict_get_2 _ _) (meets_dict_get _ A (PySem.strKind_is X.prog X.w _ t) D0.low) ⟨_, PySem.W.mapOf_K (prog := X.prog) I2.kIn D0.at_ D0.lit, ?_⟩
    revert hv k3
    cases q.2 with
    | some i =>
      intro k3 ⟨t', hv⟩
      rw [PySem.W.find_K D0.at_ hv]
      exact ⟨.int i, H2, I2.tok _, ⟨_, rfl⟩, k3.int⟩
    | none =>
      intro k3 hv
      rw [PySem.W.find_K D0.at_ hv]
      exact ⟨.non, H2, I2.tok _, rfl, k3.same rfl .non⟩
  · cases e3
/-! ### list(range(..)) -/
def lrG (xs : List D) : Option R := if xs.length ≤ 16777216 then some (mkL xs) else none
def lrM (m : M (List D)) : M R := M.bind m fun xs => M.lift (lrG xs)
theorem rgV_reps {cs : List Addr} {Av : Addr → Prop} (lo k : Int) (n : Nat) : Reps c cs Av H ((List.range n).map fun i => V.int (lo + (i : Nat) * k)) (intsBy lo k n) := by
  unfold intsBy
  generalize List.range n = l
  induction l with
  | nil => exact .nil
  | cons i l ih => exact .cons (.int _) ih
theorem vals_rgc {i k : Int} {n : Nat} {acc : Array Value} (h : ItemsOf (fun j v => ∃ t, v = .int (i + j * k) t) acc n) : Vals ((List.range n).map fun j => V.int (i + (j : Nat) * k)) acc.toList := by
  have e : acc.toList.length = n := by rw [Array.length_toList]; exact h.1
  rw [← e]
  refine vals_of_get acc.toList _ fun j u hj => ?_
  obtain ⟨t, rfl⟩ := h.2 j u (by rw [← hj, Array.getElem?_toList])
  exact ⟨t, rfl⟩
theorem intsFrom_by (lo : Int) (n : Nat) : intsFrom lo n = intsBy lo 1 n := by
  unfold intsFrom intsBy; simp
/-- an expression that makes a range -/
def DRg (X : Cx) (c : Cn) (W : WX) (e : Expr) (m : M (List D)) : Prop :=
  ∀ (β : Type) (rr : RT β R) (f : List D → M R) (pins : List (Addr × Obj)) (s : Shared) (σ : Sv) (H : Hp) (Q : β → Hp → Prop) (w : Wt) (st : Sto), Inv X pins σ H s → Rel c w st σ H → Pst c W rr (M.bind m f) w st σ H Q →
    wpAny (model X.prog X.w) X.A (eval e X.env) (fun x s' => ∃ r a b k t u v n H' w' st', x = .ref r ∧ IsRange s'.heap r a b k t u v ∧ RgC a b k n ∧ Inv X pins σ H' s' ∧ Rel c w' st' σ H' ∧ Ext c w H w' H' ∧ Pst c W rr (f (intsBy a k n)) w' st' σ H' Q) X.xe s
theorem RgC.one {i j : Int} (ha : -(2 ^ 62) ≤ i) (ha' : i < 2 ^ 62) (hb : -(2 ^ 62) ≤ j) (hb' : j < 2 ^ 62) : RgC i j 1 (j - i).toNat :=
  ⟨by decide, by decide, small_one ha ha' hb hb', rangeSize_nat i j⟩
theorem rg_make {ms : M (List D)} {gg : List D → Option (List D)} {as : List Expr} (hg : Gl X "range") (hm : X.mg "range" = none) (ha : DA X c W as ms)
    (hr : ∀ ds ds', gg ds = some ds' → ∃ i j k n, RgC i j k n ∧ ds' = intsBy i k n ∧ ((k = 1 ∧ i = 0 ∧ ds = [.int j]) ∨ (k = 1 ∧ ds = [.int i, .int j]) ∨ ds = [.int i, .int j, .int k]))
    {a0 : Expr} {as' : List Expr} (e0 : as = a0 :: as') (hs : starEach (a0 :: as') X.env = (false, eval a0 X.env) :: starEach as' X.env) (hpl : (backTo pos (starEach as' X.env)).any (·.1) = false) :
    DRg X c W (.Call (.Name "range" p) as [] pos) (seqM2 gg ms) := by
  subst e0
  intro β rr f pins s σ H Q w st I r p0
  have p1 : Pst c W rr (M.bind ms fun ds => M.bind (M.lift (gg ds)) f) w st σ H Q := by
    unfold Pst at p0 ⊢
    have e : M.bind (seqM2 gg ms) f st = M.bind ms (fun ds => M.bind (M.lift (gg ds)) f) st := by
      unfold seqM2 M.bind
      cases ms st <;> rfl
    rw [e] at p0
    exact p0
  refine Call_ (ld_blt I hg hm boot_range (PyProof.Rows.callWith_type1 (thn (ha.run pos pins s σ H _ I ⟨w, st, r, Pst.bind p1 rL.tk⟩) fun us s1 ⟨vs, H1, I1, r1, ds, w1, st1, r2, q2, x2, t2, p3⟩ => ?_) hs hpl))
  obtain ⟨ds', e1, p4⟩ := p3.liftB
  obtain ⟨i, j, k, n, rc, rfl, hd⟩ := hr _ _ e1
  obtain ⟨c0, c1, c2, c3⟩ := id rc
  rcases hd with ⟨rfl, rfl, rfl⟩ | ⟨rfl, rfl⟩ | rfl
  · obtain ⟨v1, rfl, h1⟩ := q2.2.one
    cases h1
    obtain ⟨u1, rfl, t, rfl⟩ := vals1 r1
    exact call_range_1 ⟨_, 0, j, 1, _, _, _, n, H1, w1, st1, rfl, IsRange.new _ _ _ _ _ _ _, rc, I1.kept fun b u e => Heap.get?_push_of_some _ e, r2, x2, p4⟩
  · obtain ⟨v1, v2, rfl, h1, h2⟩ := q2.2.two
    cases h1; cases h2
    obtain ⟨t, u, rfl⟩ := Vals.int2 r1
    exact call_range_2 ⟨_, i, j, 1, _, _, _, n, H1, w1, st1, rfl, IsRange.new _ _ _ _ _ _ _, rc, I1.kept fun b u e => Heap.get?_push_of_some _ e, r2, x2, p4⟩
  · obtain ⟨v1, v2, v3, rfl, h1, h2, h3⟩ := q2.2.three
    cases h1; cases h2; cases h3
    cases r1 with
    | cons ra rr1 =>
      cases rr1 with
      | cons rb rr1 =>
        cases rr1 with
        | cons rc1 rr1 =>
          cases rr1
          obtain ⟨t, rfl⟩ := ra
          obtain ⟨t', rfl⟩ := rb
          obtain ⟨t'', rfl⟩ := rc1
          exact call_range_3 c0 ⟨_, i, j, k, _, _, _, n, H1, w1, st1, rfl, IsRange.new .., rc, I1.kept (t' := s1.toks) fun b u e => Heap.get?_push_of_some _ e, r2, x2, p4⟩ (.inl (PyProof.noPylong_small c1))
theorem de_lr {m : M (List D)} (hc : X.calm = true) (hg : Gl X "list") (hm : X.mg "list" = none) (h : DRg X c W e m) (na : starEach [e] X.env = (false, eval e X.env) :: starEach [] X.env) :
    DE X c W (.Call (.Name "list" p) [e] [] pos) (lrM m) := by
  refine ⟨fun pins s σ H Q I ⟨w, st, r, p0⟩ => ?_⟩
  refine Call_ (ld_blt I hg hm PyProof.Rows.boot_list (PyProof.Rows.callWith_type1 (args_cons (thn (h _ (rR c) (fun xs => M.lift (lrG xs)) pins s σ H Q w st I r p0) fun x s1 ⟨q, i, j, k, t, u, v, n, H1, w1, st1, ex, hr, rc, I1, r1, x1, p1⟩ => args_nil ?_) na) na))
  subst ex
  obtain ⟨r3, e3, k3⟩ := p1.prim r1
  unfold lrG at e3
  split at e3
  · rename_i hz
    cases e3
    have hz' : n ≤ 16777216 := by simpa [intsBy] using hz
    obtain ⟨c0, c1, c2, c3⟩ := rc
    refine call_list_range (n := n) (I1.ok.hd hc) hr c2 c3 (by omega) fun h' tk acc c' hk e' hi => ?_
    refine ⟨.ref s1.heap.objs.size, upd H1 s1.heap.objs.size (.lst ((List.range n).map fun z => V.int (i + (z : Nat) * k))), I1.laid hk (Nat.le_refl _) (show ObjOk X.prog X.w _ _ _ (.lst _) from ⟨?_, acc.toList, c', vals_rgc hi, ?_⟩), rfl, k3.lst (rgV_reps i k n) (I1.hok.fresh (Nat.le_refl _))⟩
    · rw [List.length_map, List.length_range, sizeLine_eq]; omega
    · rw [Array.toArray_toList]; exact e'
  · cases e3
theorem rgA1_ok (ds ds' : List D) (h : rg1D ds = some ds') : ∃ i j k n, RgC i j k n ∧ ds' = intsBy i k n ∧ ((k = 1 ∧ i = 0 ∧ ds = [.int j]) ∨ (k = 1 ∧ ds = [.int i, .int j]) ∨ ds = [.int i, .int j, .int k]) := by
  obtain ⟨j, rfl, hj, rfl⟩ := rg1D_ok h
  obtain ⟨h1, h2⟩ := sm62_ok hj
  refine ⟨0, j, 1, j.toNat, ?_, intsFrom_by _ _, .inl ⟨rfl, rfl, rfl⟩⟩
  have := RgC.one (i := 0) (j := j) (by decide) (by decide) h1 h2
  simpa using this
theorem rgA2_ok (ds ds' : List D) (h : rg2D ds = some ds') : ∃ i j k n, RgC i j k n ∧ ds' = intsBy i k n ∧ ((k = 1 ∧ i = 0 ∧ ds = [.int j]) ∨ (k = 1 ∧ ds = [.int i, .int j]) ∨ ds = [.int i, .int j, .int k]) := by
  obtain ⟨i, j, rfl, hi, hj, rfl⟩ := rg2D_ok h
  obtain ⟨h1, h2⟩ := sm62_ok hi
  obtain ⟨h3, h4⟩ := sm62_ok hj
  exact ⟨i, j, 1, _, RgC.one h1 h2 h3 h4, intsFrom_by _ _, .inr (.inl ⟨rfl, rfl⟩)⟩
theorem rgA3_ok (ds ds' : List D) (h : rg3D ds = some ds') : ∃ i j k n, RgC i j k n ∧ ds' = intsBy i k n ∧ ((k = 1 ∧ i = 0 ∧ ds = [.int j]) ∨ (k = 1 ∧ ds = [.int i, .int j]) ∨ ds = [.int i, .int j, .int k]) := by
  obtain ⟨i, j, k, n, rfl, rc, rfl⟩ := rg3D_ok h
  exact ⟨i, j, k, n, rc, rfl, .inr (.inr rfl)⟩
end
end Pv
namespace Pv
open PySem PySem.Spec PyProof.Rows L2
/-! ### sorted(set(l)), l a list of pairs of ints -/
def prOfD : D → Option (Int × Int)
  | .tup [.int a, .int b] => some (a, b)
  | _ => none
def prsD : List D → Option (List (Int × Int))
  | [] => some []
  | d :: ds => match prOfD d, prsD ds with
    | some p, some ps => some (p :: ps)
    | _, _ => none
def prE (p : Int × Int) : D := .tup [.int p.1, .int p.2]
theorem prOfD_some {d : D} {p : Int × Int} (h : prOfD d = some p) : d = prE p := by
  unfold prOfD at h
  split at h
  · cases h; rfl
  · cases h
theorem prsD_some : ∀ {ds : List D} {ps : List (Int × Int)}, prsD ds = some ps → ds = ps.map prE
  | [], ps, h => by cases h; rfl
  | d :: ds, ps, h => by
    unfold prsD at h
    split at h
    · rename_i p q e1 e2
      cases h
      rw [prOfD_some e1, prsD_some e2]; rfl
    · cases h
theorem prsD_prs : ∀ ps : List (Int × Int), prsD (ps.map prE) = some ps
  | [] => rfl
  | p :: ps => by
    show (match prOfD (prE p), prsD (ps.map prE) with
      | some p, some ps => some (p :: ps)
      | _, _ => none) = _
    rw [prsD_prs ps]; rfl
def leII (p q : Int × Int) : Bool := decide (p.1 < q.1 ∨ (p.1 = q.1 ∧ p.2 ≤ q.2))
def dedP : List (Int × Int) → List (Int × Int)
  | [] => []
  | p :: r => if p ∈ r then dedP r else p :: dedP r
theorem dedP_mem {p : Int × Int} : ∀ {l : List (Int × Int)}, p ∈ dedP l ↔ p ∈ l
  | [] => Iff.rfl
  | q :: r => by
    unfold dedP
    have ih := dedP_mem (p := p) (l := r)
    split
    · rename_i h
      rw [ih, List.mem_cons]
      exact ⟨fun z => .inr z, fun z => by rcases z with rfl | z <;> assumption⟩
    · rw [List.mem_cons, List.mem_cons, ih]
theorem dedP_nodup : ∀ l : List (Int × Int), (dedP l).Nodup
  | [] => List.nodup_nil
  | q :: r => by
    unfold dedP
    split
    · exact dedP_nodup r
    · rename_i h
      exact List.nodup_cons.mpr ⟨fun z => h (dedP_mem.mp z), dedP_nodup r⟩
theorem dedP_id : ∀ {l : List (Int × Int)}, l.Nodup → dedP l = l
  | [], _ => rfl
  | q :: r, h => by
    obtain ⟨h1, h2⟩ := List.nodup_cons.mp h
    unfold dedP
    rw [if_neg h1, dedP_id h2]
def ssP (ps : List (Int × Int)) : List (Int × Int) := (dedP ps).mergeSort leII
theorem leII_trans (a b c : Int × Int) (h1 : leII a b = true) (h2 : leII b c = true) : leII a c = true := by
  unfold leII at *
  simp only [decide_eq_true_eq] at *
  omega
theorem leII_total (a b : Int × Int) : (leII a b || leII b a) = true := by
  unfold leII
  simp only [Bool.or_eq_true, decide_eq_true_eq]
  omega
theorem leII_anti (a b : Int × Int) (h1 : leII a b = true) (h2 : leII b a = true) : a = b := by
  unfold leII at *
  simp only [decide_eq_true_eq] at *
  exact Prod.ext (by omega) (by omega)
/-- what is in order and the same but for the order is the same -/
theorem ssP_of {l ps : List (Int × Int)} (nd : l.Nodup) (so : l.Pairwise fun a b => leII a b = true) (hm : ∀ p, p ∈ l ↔ p ∈ ps) : ssP ps = l := by
  unfold ssP
  have pm : ((dedP ps).mergeSort leII).Perm l := by
    refine (List.mergeSort_perm _ _).trans ?_
    exact (List.perm_ext_iff_of_nodup (dedP_nodup _) nd).mpr fun p => dedP_mem.trans (hm p).symm
  refine List.Perm.eq_of_pairwise (le := fun a b => leII a b = true) (fun a b _ _ h1 h2 => leII_anti a b h1 h2) ?_ so pm
  exact List.pairwise_mergeSort (le := leII) (fun a b c => leII_trans a b c) (fun a b => leII_total a b) _
def ssD : D → Option R
  | .lst ds => (prsD ds).bind fun ps => if ps.length < 64 then some (mkL ((ssP ps).map prE)) else none
  | _ => none
/-! the set's values, sorted -/
def fst2 (l : List Int) : Int := l.headD 0
def snd2 (l : List Int) : Int := (l.drop 1).headD 0
def key2 (l : List Int) : Int × Int := (fst2 l, snd2 l)
section
variable {P : Program} {w : World} {A : Around} {E : Value → Shared → Prop} {s : Shared}
theorem isT_two {h : Heap} {b : Addr} {l : List Int} (x : IsT P w h l b) (h2 : ∃ i j, l = [i, j]) : ∃ as, Reads h (.ref b) (.tuple [.int (fst2 l), .int (snd2 l)]) as ∧ as = [] := by
  obtain ⟨i, j, rfl⟩ := h2
  obtain ⟨o, items, n, ho, hc, hd, hi⟩ := x
  have hv := ints_of_items hi
  generalize hq : items.toList = us at hv
  cases hv with
  | cons _ _ hv' =>
    cases hv' with
    | cons _ _ hv'' =>
      cases hv''
      refine ⟨[], Reads.tuple ho hc hd (as := []) ?_, rfl⟩
      rw [hq]
      exact .cons (as := []) (bs := []) (.int _ _) (.cons (as := []) (bs := []) (.int _ _) .nil)
theorem refs_inv {L : List (Addr × List Int)} : ∀ {vs : List Value}, (∀ v ∈ vs, ∃ q ∈ L, v = Value.ref q.1) → ∃ M : List (Addr × List Int), vs = M.map (fun q => Value.ref q.1) ∧ ∀ q ∈ M, q ∈ L
  | [], _ => ⟨[], rfl, fun q h => by cases h⟩
  | v :: vs, h => by
    obtain ⟨q, hq, rfl⟩ := h v List.mem_cons_self
    obtain ⟨M, e, hM⟩ := refs_inv fun u hu => h u (List.mem_cons_of_mem _ hu)
    exact ⟨q :: M, by rw [e]; rfl, fun r hr => by
      rcases List.mem_cons.mp hr with rfl | z
      · exact hq
      · exact hM r z⟩
theorem refs_perm {L M : List (Addr × List Int)} (one : ∀ q ∈ L, ∀ r ∈ L, q.1 = r.1 → q = r) (nd : L.Nodup) (hs : ∀ q ∈ M, q ∈ L) (pm : (M.map fun q => Value.ref q.1).Perm (L.map fun q => Value.ref q.1)) : M.Perm L := by
  have nr : (L.map fun q => Value.ref q.1).Nodup := List.pairwise_map.mpr (List.Pairwise.imp_of_mem (fun {q r} hq hr hne e => hne (one q hq r hr (Value.ref.inj e))) nd)
  have nM : M.Nodup := nodup_of_map (pm.nodup_iff.mpr nr)
  refine (List.perm_ext_iff_of_nodup nM nd).mpr fun q => ⟨hs q, fun hq => ?_⟩
  obtain ⟨r, hr, e⟩ := List.mem_map.mp (pm.mem_iff.mpr (List.mem_map.mpr ⟨q, hq, rfl⟩))
  have : r = q := one r (hs r hr) q hq (Value.ref.inj e)
  exact this ▸ hr
theorem sorted_pairs {a : Addr} {L : List (Addr × List Int)} {es : Array (Int × Value)} {ep : Nat} {t : SetTable} {Q : Value → Shared → Prop} (R : SetTR P w s.heap a L es ep t) (hh : A.handled = none) (hu : A.units + 64 < cLine)
    (h2 : ∀ q ∈ L, ∃ i j, q.2 = [i, j])
    (hQ : ∀ (s' : Shared) (p : Addr) (out : Array Value) (c : Nat) (M : List (Addr × List Int)), (∀ b o, s.heap.get? b = some o → s'.heap.get? b = some o) → s'.gens = s.gens → s'.os = s.os → s.heap.objs.size ≤ p →
      s'.heap.get? p = some (seqObj "list" out c) → out.toList = M.map (fun q => Value.ref q.1) → M.Perm L → (M.map fun q => key2 q.2).Pairwise (fun x y => leII x y = true) → Q (.ref p) s') :
    wpAny (model P w) A (call (.builtin "sorted") [.ref a]) Q E s := by
  obtain ⟨o, ho, hex, hd⟩ := R.ob
  have hsz := R.size
  have hfew := R.few
  refine Calls.call_function_entry kind_sorted plain_sorted entry_sorted (args_sorted1 _) ?_
  unfold Builtin.«sorted»
  refine wpAny_bind (m := checkCount "sorted" 1 1 _) (wpAny_pure ?_)
  refine wpAny_bind (collect_set (A := A.in1) hh ⟨o, ho, hex.1, hd⟩ R.fits (by unfold scanBound; omega) R.tab.ris R.led fun s1 vs k1 hz g1 o1 pm => ?_)
  have hes : es.toList.map (fun z => z.2) = L.map (fun q => Value.ref q.1) := by
    rw [R.rows]
    simp [rowsOf, Function.comp_def]
  rw [hes] at pm
  have one : ∀ q ∈ L, ∀ r ∈ L, q.1 = r.1 → q = r := fun q hq r hr e => by
    have b1 := R.tup q hq
    rw [e] at b1
    exact Prod.ext e (b1.inj (R.tup r hr))
  have nL : L.Nodup := nodup_of_map R.nd
  obtain ⟨N, eN, hN⟩ := refs_inv (L := L) (vs := vs) fun v hv => by
    obtain ⟨q, hq, e⟩ := List.mem_map.mp (pm.mem_iff.mp hv)
    exact ⟨q, hq, e.symm⟩
  have pN : N.Perm L := refs_perm one nL hN (eN ▸ pm)
  have hvl : vs.length < 64 := by rw [pm.length_eq, List.length_map]; exact hfew
  have hNl : N.length < 64 := by rw [pN.length_eq]; exact hfew
  refine wpAny_bind (wpAny_newList ?_ (by rw [sizeLine_eq]; omega))
  have hl : (s1.heap.push (seqObj "list" vs.toArray 0)).get? s1.heap.objs.size = some (seqObj "list" vs.toArray 0) := Heap.get?_push_size _ rfl
  have rd : ∀ q ∈ N, ∃ as, Reads (s1.heap.push (seqObj "list" vs.toArray 0)) (.ref q.1) (.tuple [.int (fst2 q.2), .int (snd2 q.2)]) as ∧ as = [] := fun q hq =>
    isT_two (P := P) (w := w) (isT_keep (R.tup q (hN q hq)) fun b u e => Heap.get?_push_of_some _ (k1 b u e)) (h2 q (hN q hq))
  have e0 : ∀ M : List (Addr × List Int), PySem.W.EachIs (fun (v : Value) (b : Addr × List Int) => v = Value.ref b.1) (M.map fun q => Value.ref q.1) M := fun M => by
    induction M with
    | nil => exact .nil
    | cons q M ih => exact .cons rfl ih
  have e1g : ∀ (h' : Heap) (l : Addr) (N : List (Addr × List Int)), (∀ q ∈ N, ∃ as, Reads h' (.ref q.1) (.tuple [.int (fst2 q.2), .int (snd2 q.2)]) as ∧ as = []) →
      PySem.W.EachIs (fun (v : Value) (b : Addr × List Int) => ∃ as, Reads h' v (.tuple [.int (fst2 b.2), .int (snd2 b.2)]) as ∧ l ∉ as) (N.map fun q => Value.ref q.1) N := fun h' l N => by
    induction N with
    | nil => intro _; exact .nil
    | cons q N ih =>
      intro rd
      obtain ⟨as, r1, r2⟩ := rd q List.mem_cons_self
      exact .cons ⟨as, r1, by rw [r2]; simp⟩ (ih fun r hr => rd r (List.mem_cons_of_mem _ hr))
  have e1 := e1g _ s1.heap.objs.size N rd
  rw [← eN] at e1
  refine wpAny_bind (wpAny_holding (PySem.W.list_sort_data (s := { s1 with heap := s1.heap.push (seqObj "list" vs.toArray 0) }) (vs := vs) (bs := N) (R := fun (v : Value) (b : Addr × List Int) => v = Value.ref b.1) (enc := fun b : Addr × List Int => .tuple [.int (fst2 b.2), .int (snd2 b.2)]) hl (by
    have := e0 N
    rw [← eN] at this
    exact this) e1 (PySem.W.AllAlike.of fun b b' => by simp [PySem.W.alike, PySem.W.alikeAll]) (PySem.W.Sortable.tuples fun b => ⟨_, _, rfl⟩) (by rw [sizeLine_eq]; omega) (fun b hb => by
    have : (PyData.tuple [.int (fst2 b.2), .int (snd2 b.2)]).depth ≤ 2 := by simp [PyData.depth, PyData.depthAll]
    show A.in1.units + 1 + _ < cLine
    have hi : A.in1.units ≤ A.units + 4 := by
      show A.units + 1 ≤ A.units + 4
      omega
    omega) fun out ho eo => ?_))
  rw [PySem.W.dataLe_ii] at eo
  obtain ⟨c, hc⟩ := sortedHeap_at (vs := vs) (out := out.toArray) hl
  have eM : ∀ {us : List Value} {M : List (Addr × List Int)}, PySem.W.EachIs (fun (v : Value) (b : Addr × List Int) => v = Value.ref b.1) us M → us = M.map fun q => Value.ref q.1 := by
    intro us
    induction us with
    | nil => intro M e; cases e; rfl
    | cons u us ih => intro M e; cases e with | cons a b => rw [a, ih b]; rfl
  refine wpAny_pure ⟨_, rfl, hQ _ s1.heap.objs.size out.toArray c (N.mergeSort fun p q => decide (fst2 p.2 < fst2 q.2 ∨ (fst2 p.2 = fst2 q.2 ∧ snd2 p.2 ≤ snd2 q.2))) (fun b u e => ?_) g1 o1 hz hc (by rw [List.toList_toArray]; exact eM eo) ((List.mergeSort_perm _ _).trans pN) ?_⟩
  · have q := k1 b u e
    have hlt := Heap.lt_size q
    show (sortedHeap (s1.heap.push (seqObj "list" vs.toArray 0)) s1.heap.objs.size vs out.toArray).get? b = some u
    rw [sortedHeap_old (Nat.ne_of_lt hlt) (by rw [size_push']; exact Nat.lt_succ_of_lt hlt)]
    exact Heap.get?_push_of_some _ q
  · refine List.pairwise_map.mpr ?_
    exact List.pairwise_mergeSort (le := fun p q : Addr × List Int => leII (key2 p.2) (key2 q.2)) (fun a b c => leII_trans _ _ _) (fun a b => leII_total _ _) N
end
section
variable {X : Cx} {c : Cn} {W : WX} {w : Wt} {st : Sto} {σ : Sv} {H H' : Hp} {pins : List (Addr × Obj)} {s : Shared} {p pos p2 pos2 : Pos} {e a b d : Expr} {es : List Expr}
def rSortedP (K : PySem.W.Frag) (P : Program) (wd : World) : List V → Hp → VK → Prop := fun vs H Q => ∃ (a : Addr) (L : List (Addr × List Int)), vs = [V.ref a] ∧ H a = some (SetTO P wd a L) ∧ (∀ q ∈ L, SqT K H q.1 (q.2.map V.int)) ∧ (∀ q ∈ L, ∃ i j, q.2 = [i, j]) ∧
  ∀ (M : List (Addr × List Int)) (p : Addr), M.Perm L → (M.map (·.2)).Nodup → (M.map fun q => key2 q.2).Pairwise (fun x y => leII x y = true) → H p = none → Q (.ref p) (upd H p (.lst (M.map fun q => V.ref q.1)))
theorem cr_sortedP (hc : X.calm = true) (hu : Small X) : CallR X (.builtin "sorted") (rSortedP X.K X.prog X.w) := by
  intro pins s σ H vs us Q I r h
  obtain ⟨a, L, rfl, ha, hk, h2, q⟩ := h
  have R0 : SetT0 X.prog X.w s.heap a L := (I.hok a _ ha).1
  obtain ⟨es, ep, t, R⟩ := R0.full fun p hp => I.isT (hk p hp)
  rw [Vals.ref1 r]
  refine sorted_pairs R (I.ok.hd hc) (by unfold Small at hu; omega) h2 fun s' p out c M k g o hp hg hout pm pw => ?_
  have hfew : M.length < 64 := by rw [pm.length_eq]; exact R.few
  have hlen : (M.map fun q => V.ref q.1).length ≤ sizeLine := by rw [List.length_map, sizeLine_eq]; omega
  have hn : H p = none := I.hok.fresh hp
  have hv : Vals (M.map fun q => V.ref q.1) out.toList := by rw [hout]; exact vals_of_refs M
  have J : Inv X pins σ (upd H p (.lst (M.map fun q => V.ref q.1))) { s with heap := s'.heap, gens := s'.gens, drawn := s'.drawn, toks := s'.toks } :=
    I.call (ch := []) (Un.laid k hp hn) (I.hok.laid k hp ⟨hlen, out.toList, c, hv, hg⟩) (by rw [g]; exact I.bare) (fun _ z => nomatch z)
  have e : s' = { s with heap := s'.heap, gens := s'.gens, drawn := s'.drawn, toks := s'.toks } := by
    cases s'; cases s; cases o; rfl
  rw [e]
  exact ⟨.ref p, _, J, rfl, q M p pm ((pm.map (·.2)).nodup_iff.mpr R.nd) pw hn⟩
theorem Reps.prs {cs : List Addr} {Av : Addr → Prop} {xs : List V} : ∀ {ps : List (Int × Int)}, Reps c cs Av H xs (ps.map prE) → ∃ ks : List (Addr × List Int), xs = ks.map (fun q => V.ref q.1) ∧ (∀ q ∈ ks, SqT c.K H q.1 (q.2.map V.int)) ∧ ks.map (·.2) = ps.map (fun p => [p.1, p.2]) ∧ ∀ q ∈ ks, Rep c cs Av H (V.ref q.1) (.tup (q.2.map .int)) := by
  induction xs with
  | nil => intro ps h; cases ps with
    | nil => exact ⟨[], rfl, (fun q h => (nomatch h)), rfl, (fun q h => (nomatch h))⟩
    | cons p ps => cases h
  | cons x xs ih =>
    intro ps h
    cases ps with
    | nil => cases h
    | cons p ps =>
      cases h with
      | cons r s =>
        obtain ⟨ks, e1, e2, e3, e4⟩ := ih s
        obtain ⟨p1, p2⟩ := p
        cases r with
        | tup n r' =>
          rename_i a ys
          have hys : ys = [p1, p2].map V.int := Reps.ints (ns := [p1, p2]) r'
          subst hys
          refine ⟨(a, [p1, p2]) :: ks, by rw [e1]; rfl, fun q hq => ?_, by rw [List.map_cons, e3]; rfl, fun q hq => ?_⟩
          · rcases List.mem_cons.mp hq with rfl | z
            · exact n.sq
            · exact e2 q z
          · rcases List.mem_cons.mp hq with rfl | z
            · exact .tup n r'
            · exact e4 q z
theorem Reps.of_refs {cs : List Addr} {Av : Addr → Prop} : ∀ {M : List (Addr × List Int)}, (∀ q ∈ M, Rep c cs Av H (V.ref q.1) (.tup (q.2.map .int))) → Reps c cs Av H (M.map fun q => V.ref q.1) (M.map fun q => .tup (q.2.map .int))
  | [], _ => .nil
  | q :: M, h => .cons (h q List.mem_cons_self) (Reps.of_refs fun r hr => h r (List.mem_cons_of_mem _ hr))
theorem de_sset (hK : X.K = c.K) (hc : X.calm = true) (hu : Small X) {m : M D} (hg : Gl X "sorted") (hm : X.mg "sorted" = none) (hg2 : Gl X "set") (hm2 : X.mg "set" = none) (h : DV X c W e m) (na : starEach [e] X.env = (false, eval e X.env) :: starEach [] X.env) :
    DE X c W (.Call (.Name "sorted" p) [.Call (.Name "set" p2) [e] [] pos2] [] pos) (unV ssD m) := by
  have hu2 : X.A.units + 64 < cLine := by unfold Small at hu; omega
  refine PE.less (pe_callB (cr_sortedP hc hu) hg hm boot_sorted (pa_cons (pe_callTy (cr_setOfT hc hu2) hg2 hm2 boot_set (pa_cons h pa_nil na) (he := na)) pa_nil)) fun σ H Q ⟨w, st, r, p0⟩ => ?_
  refine ⟨w, st, r, (Pst.bind p0 rD.tk).mono fun v1 H1 ⟨x, w1, st1, r1, q1, x1, t1, p1⟩ => ?_⟩
  obtain ⟨r3, e3, k3⟩ := p1.prim r1
  unfold ssD at e3
  split at e3
  · obtain ⟨ps, f1, f2⟩ := Option.bind_eq_some_iff.mp e3
    have f3 := prsD_some f1
    subst f3
    split at f2
    · rename_i hz
      cases f2
      obtain ⟨A, xs, rfl, hq, hr⟩ := (show Pk c w1 H1 v1 (.lst (ps.map prE)) from .inl q1.2).lst
      obtain ⟨ks, rfl, g2, g3, g4⟩ := hr.prs
      have hkl : ks.length = ps.length := by
        have := congrArg List.length g3
        simpa using this
      refine ⟨A, ks, rfl, hK ▸ hq, fun q hq => hK ▸ g2 q hq, by omega, fun a L ha hsub hall => ?_⟩
      have S1 : Same H1 (upd H1 a (SetTO X.prog X.w a L)) := Same.upd ha
      have two : ∀ q ∈ ks, ∃ i j, q.2 = [i, j] := fun q hq => by
        have : q.2 ∈ ks.map (·.2) := List.mem_map.mpr ⟨q, hq, rfl⟩
        rw [g3] at this
        obtain ⟨z, _, e⟩ := List.mem_map.mp this
        exact ⟨_, _, e.symm⟩
      refine ⟨a, L, rfl, upd_same, fun q hq => ?_, fun q hq => two q (hsub q hq), fun M p pm nd pw hp => ?_⟩
      · have g := g4 q (hsub q hq)
        have g' := (S1.gr w1.cs (w1.av c)).rep g
        cases g' with
        | tup n r' =>
          rename_i ys
          have hys : ys = q.2.map V.int := Reps.ints r'
          subst hys
          exact hK ▸ n.sq
      · have hp1 : H1 p = none := by
          cases hz : H1 p with
          | none => rfl
          | some o =>
            have := S1 p o hz
            rw [hp] at this; cases this
        have S2 : Same H1 (upd (upd H1 a (SetTO X.prog X.w a L)) p (.lst (M.map fun q => V.ref q.1))) := fun b o hb => (Same.upd hp) b o (S1 b o hb)
        have hMk : ∀ q ∈ M, q ∈ ks := fun q hq => hsub q (pm.mem_iff.mp hq)
        have e5 : (M.map fun q => D.tup (q.2.map .int)) = (ssP ps).map prE := by
          have nk : (M.map fun q => key2 q.2).Nodup := by
            refine List.pairwise_map.mpr ?_
            refine List.Pairwise.imp_of_mem (fun {q r} hq hr hne e => ?_) (List.pairwise_map.mp nd)
            obtain ⟨i, j, e1⟩ := two q (hMk q hq)
            obtain ⟨i', j', e2⟩ := two r (hMk r hr)
            refine hne ?_
            rw [e1, e2] at e ⊢
            have e' := Prod.mk.inj (show ((i, j) : Int × Int) = (i', j') from e)
            rw [e'.1, e'.2]
          have em : ssP ps = M.map fun q => key2 q.2 := by
            refine ssP_of nk pw fun z => ?_
            have m1 : ∀ l : List Int, l ∈ M.map (·.2) ↔ l ∈ ps.map (fun p => [p.1, p.2]) := fun l => by
              rw [← g3]
              constructor
              · intro hl
                obtain ⟨q, hq, rfl⟩ := List.mem_map.mp hl
                exact List.mem_map.mpr ⟨q, hMk q hq, rfl⟩
              · intro hl
                obtain ⟨q, hq, rfl⟩ := List.mem_map.mp hl
                have := hall q hq
                obtain ⟨q', hq', e⟩ := List.mem_map.mp this
                exact List.mem_map.mpr ⟨q', pm.mem_iff.mpr hq', e⟩
            constructor
            · intro hz
              obtain ⟨q, hq, rfl⟩ := List.mem_map.mp hz
              obtain ⟨z, hz, e⟩ := List.mem_map.mp ((m1 q.2).mp (List.mem_map.mpr ⟨q, hq, rfl⟩))
              have : key2 q.2 = z := by rw [← e]; rfl
              rw [this]; exact hz
            · intro hz
              obtain ⟨q, hq, e⟩ := List.mem_map.mp ((m1 [z.1, z.2]).mpr (List.mem_map.mpr ⟨z, hz, rfl⟩))
              exact List.mem_map.mpr ⟨q, hq, by rw [e]; rfl⟩
          rw [em, List.map_map]
          refine List.map_congr_left fun q hq => ?_
          obtain ⟨i, j, e⟩ := two q (hMk q hq)
          show D.tup (q.2.map .int) = prE (key2 q.2)
          rw [e]; rfl
        refine k3 _ _ S2 ⟨p, rfl, hp1, .lst upd_same ?_⟩
        rw [← e5]
        refine Reps.of_refs fun q hq => ?_
        refine Gr.rep (⟨fun b o hb _ => S2 b o hb, fun b hb => ?_, List.prefix_refl _⟩ : Gr H1 _ w1.cs w1.cs (w1.av c) (fun b => w1.av c b ∨ b = p)) (g4 q (hMk q hq))
        rcases hb with z | z
        · exact .inl z
        · subst z; exact .inr hp1
    · cases f2
  · cases e3
end
end Pv
namespace Pv
open PySem PySem.Spec PyProof.Rows L2

/-! ### the shape of a text -/
inductive K where
  | non | bl (b : Bool) | int (i : Int) | str (s : String)
  deriving DecidableEq
inductive Bop where
  | add | sub | mul | div | mod | pow
  deriving DecidableEq
inductive Cop where
  | eq | ne | lt | le | gt | ge | is | isn | inn | nin
  deriving DecidableEq
inductive Bif where
  | len | abs | int | max | min | all | any | sum | tuple | list | sorted
  deriving DecidableEq
inductive Mth where
  | gcd | lcm
  deriving DecidableEq
mutual
inductive E where
  | k (d : K)
  | v (i : Nat)
  | mv (i : Nat)
  | op (o : Bop) (a b : E)
  | neg (a : E)
  | cmp (o : Cop) (a b : E)
  | ch (o p : Cop) (a b c : E)
  | nt (a : E)
  | an (a b : E)
  | or (a b : E)
  | ite (c a b : E)
  | tup (es : Es)
  | lst (es : Es)
  | bi (f : Bif) (es : Es)
  | ix (a b : E)
  | sl (a : E) (lo hi : Oe)
  | rev (a : E)
  | isi (a : E) (t : String)
  | isiT (a : E) (ts : List String)
  | app (i : Nat) (e : E)
  | ext (i : Nat) (e : E)
  | pop (i : Nat) (e : E)
  | pop0 (i : Nat)
  | idx (o e : E)
  | lc (vs : List Nat) (t : T) (it : It) (ifs : Oe) (e : E)
  | lc2 (vs vs1 : List Nat) (t : T) (it : It) (ifs : Oe) (t1 : T) (it1 : It) (ifs1 : Oe) (e : E)
  | call (f : Nat) (es : Es)
  | cell (e : E)
  | con (i : Int)
  | mth (f : Mth) (es : Es)
  | tget (kvs : List (String × Option Int)) (a : E)
  | lr1 (a : E)
  | lr2 (a b : E)
  | lr3 (a b c : E)
  | sset (a : E)
inductive Es where
  | nil
  | cons (e : E) (es : Es)
  | star (e : E) (es : Es)
inductive Oe where
  | non
  | som (e : E)
inductive It where
  | seq (e : E)
  | rg1 (a : E)
  | rg2 (a b : E)
  | rg3 (a b c : E)
  | enum (e : E)
  | zip (a b : E)
inductive T where
  | nm (i : Nat)
  | tup (ts : Ts)
inductive Ts where
  | nil
  | cons (t : T) (ts : Ts)
end
mutual
inductive S where
  | set (i : Nat) (e : E)
  | asg (t : T) (e : E)
  | par (is : List Nat) (es : Es)
  | six (i : Nat) (k e : E)
  | aug (i : Nat) (e : E)
  | ret (e : E)
  | retN
  | ex (e : E)
  | pass
  | brk
  | cont
  | if_ (c : E) (a b : Ss)
  | wh (c : E) (b : Ss)
  | for_ (t : T) (it : It) (b : Ss)
inductive Ss where
  | nil
  | cons (s : S) (ss : Ss)
end

/-! ### what it means -/
def K.d : K → D
  | .non => .non
  | .bl b => .bl b
  | .int i => .int i
  | .str s => .str (Str.ofString s)
def Bop.g : Bop → D → D → Option R
  | .add => addD | .sub => subD | .mul => mulD | .div => divD | .mod => modD | .pow => powD
def Cop.g : Cop → D → D → Option R
  | .eq => eqR | .ne => neR | .lt => ltR | .le => leR | .gt => gtR | .ge => geR | .is => isD false | .isn => isD true | .inn => inD false | .nin => inD true
def Bif.g : Bif → List D → Option R
  | .len => lenD | .abs => absD | .int => intOf | .max => maxOf | .min => minOf | .all => allOf | .any => anyOf | .sum => sumOf | .tuple => tupOf | .list => lstOf | .sorted => sortedOf
def Mth.g : Mth → List D → Option R
  | .gcd => gcdD | .lcm => lcmD
def Mth.id : Mth → String
  | .gcd => "math.gcd" | .lcm => "math.lcm"
structure Ev where
  r : M R
  b : M Bool
  g : M G
def Ev.of (m : M R) : Ev := ⟨m, truthM m.val.inl, m.val.inl⟩
def pkM (i : Nat) : M G := fun st => match st.ρ[i]? with | some (.sh _) | some (.ow _) => .ok (.inr i) st | _ => .stuck
abbrev Ar := Bool × Ev
def gsP : List Ar → M (List G)
  | [] => M.pure []
  | (true, a) :: as => starM a.g (gsP as)
  | (false, a) :: as => consM a.g (gsP as)
def gsV : List Ar → M (List G)
  | [] => M.pure []
  | (true, a) :: as => starM a.g (gsV as)
  | (false, a) :: as => consM a.r.val.inl (gsV as)
def dsA : List Ar → M (List D)
  | [] => M.pure []
  | (true, _) :: _ => M.fail
  | (false, a) :: as => conM a.r.val (dsA as)
mutual
def T.f : T → Tf
  | .nm i => tnF i
  | .tup ts => tupF ts.n ts.f
def Ts.f : Ts → Tfs
  | .nil => tnil
  | .cons t ts => tcons t.f ts.f
def Ts.n : Ts → Nat
  | .nil => 0
  | .cons _ ts => ts.n + 1
end
mutual
def T.vs : T → List Nat
  | .nm i => [i]
  | .tup ts => ts.vs
def Ts.vs : Ts → List Nat
  | .nil => []
  | .cons t ts => t.vs ++ ts.vs
end
section
variable (Γ : Nat → Nat × Fn)
mutual
def ev : E → Ev
  | .k d => .of (M.pure (d.d, false))
  | .v i => ⟨varM i, truthM (pkM i), pkM i⟩
  | .mv i => .of (movM i)
  | .op o a b => .of (opM o.g (ev a).g (ev b).g)
  | .neg a => .of (unM negD (ev a).g)
  | .cmp o a b => ⟨opM o.g (ev a).g (ev b).g, opB o.g (ev a).g (ev b).g, (opM o.g (ev a).g (ev b).g).val.inl⟩
  | .ch o p a b c => ⟨chM o.g p.g (ev a).r.val (ev b).r.val (ev c).r.val, chB o.g p.g (ev a).r.val (ev b).r.val (ev c).r.val, (chM o.g p.g (ev a).r.val (ev b).r.val (ev c).r.val).val.inl⟩
  | .nt a => ⟨notM (ev a).r.val, notB (ev a).b, (notM (ev a).r.val).val.inl⟩
  | .an a b => ⟨andM (ev a).r.val (ev b).r, andB (ev a).b (ev b).b, (andM (ev a).r.val (ev b).r).val.inl⟩
  | .or a b => ⟨orR (ev a).r (ev b).r, orB (ev a).b (ev b).b, (orR (ev a).r (ev b).r).val.inl⟩
  | .ite c a b => ⟨iteM (ev c).b (ev a).r (ev b).r, M.fail, (iteM (ev c).b (ev a).r (ev b).r).val.inl⟩
  | .tup es => .of (seqM mkT (gsV (evs es)))
  | .lst es => .of (seqM mkL (gsV (evs es)))
  | .bi f es => .of (callM f.g (gsP (evs es)))
  | .ix a b => .of (ixM (ev a).g (ev b).g)
  | .sl a lo hi => .of (slM (ev a).g (evO lo) (evO hi))
  | .rev a => .of (unM revD (ev a).g)
  | .isi a t => .of (unM (isiD [t]) (ev a).g)
  | .isiT a ts => .of (unM (isiD ts) (ev a).g)
  | .app i e => .of (appM i (ev e).r.val)
  | .ext i e => .of (extM i (ev e).g)
  | .pop i e => .of (popM i (ev e).r.val)
  | .pop0 i => .of (pop0M i)
  | .idx o e => .of (idxM (ev o).r.val (ev e).r.val)
  | .lc vs t it ifs e => .of (lcM vs (evI it) t.f (evT ifs) (ev e).r.val)
  | .lc2 vs vs1 t it ifs t1 it1 ifs1 e => .of (lc2M vs vs1 (evI it) t.f (evT ifs) (evI it1) t1.f (evT ifs1) (ev e).r.val)
  | .call f es => .of (callE (Γ f).1 (Γ f).2 (dsA (evs es)))
  | .cell e => .of (cellM (ev e).r)
  | .con i => .of (M.pure (.int i, false))
  | .mth f es => .of (callM f.g (gsP (evs es)))
  | .tget kvs a => .of (unV (tgetD kvs) (ev a).r.val)
  | .sset a => .of (unV ssD (ev a).r.val)
  | .lr1 a => .of (lrM (seqM2 rg1D (conM (ev a).r.val (M.pure []))))
  | .lr2 a b => .of (lrM (seqM2 rg2D (conM (ev a).r.val (conM (ev b).r.val (M.pure [])))))
  | .lr3 a b c => .of (lrM (seqM2 rg3D (conM (ev a).r.val (conM (ev b).r.val (conM (ev c).r.val (M.pure []))))))
def evs : Es → List Ar
  | .nil => []
  | .cons e es => (false, ev e) :: evs es
  | .star e es => (true, ev e) :: evs es
def evO : Oe → M (Option Int)
  | .non => M.pure none
  | .som e => intM (ev e).r.val
def evT : Oe → M Bool
  | .non => M.pure true
  | .som e => (ev e).b
def evI : It → M (List D)
  | .seq e => itM (ev e).r.val
  | .rg1 a => seqM2 rg1D (conM (ev a).r.val (M.pure []))
  | .rg2 a b => seqM2 rg2D (conM (ev a).r.val (conM (ev b).r.val (M.pure [])))
  | .rg3 a b c => seqM2 rg3D (conM (ev a).r.val (conM (ev b).r.val (conM (ev c).r.val (M.pure []))))
  | .enum e => seqM2 en1D (conM (ev e).r.val (M.pure []))
  | .zip a b => seqM2 zip2D (conM (ev a).r.val (conM (ev b).r.val (M.pure [])))
end
variable (Wb : Nat)
mutual
def evS : S → M Fl
  | .set i e => setM i (ev Γ e).r
  | .asg t e => asgM (ev Γ e).r.val t.f
  | .par is es => parM is ((evs Γ es).map fun a => a.2.r)
  | .six i k e => sixM i (ev Γ k).r.val (ev Γ e).r.val
  | .aug i e => augM (fun i j => i + j) i (ev Γ e).r.val
  | .ret e => retM (ev Γ e).r
  | .retN => M.pure (.ret (.non, false))
  | .ex e => dropM (ev Γ e).r.val
  | .pass => M.pure .next
  | .brk => M.pure .brk
  | .cont => M.pure .cont
  | .if_ c a b => iteM (ev Γ c).b (evSs a) (evSs b)
  | .wh c b => whileM (ev Γ c).b (evSs b) Wb
  | .for_ t it b => forM (evI Γ it) t.f (evSs b)
def evSs : Ss → M Fl
  | .nil => M.pure .next
  | .cons s ss => seqS (evS s) (evSs ss)
end
end
end Pv
namespace Pv
open PySem PySem.Spec PyProof.Rows L2

/-! ### a text has this shape -/
structure Gn where
  fn : List Str
  con : List (Str × Int) := []
  mth : List (Str × String) := []
  tab : List (Str × List (String × Option Int)) := []
structure Sc where
  N : List Str
  sc : Scope
  fn : Str → Bool
def visB (sc : Scope) (x : Str) : Bool := match sc.names.lookup x with
  | some .local | some .cell | some .free => true
  | _ => false
def locB (s : Sc) (x : Str) : Bool := match s.sc.names.lookup x with
  | some .local => true
  | some .cell => s.fn x
  | _ => false
def lclB (s : Sc) (x : Str) : Bool := match s.sc.names.lookup x with
  | some .local => true
  | _ => false
def glB (sc : Scope) (x : Str) : Bool := match sc.names.lookup x with
  | some .globalImplicit => true
  | _ => false
def ckN (s : Sc) (i : Nat) (x : Str) : Bool := decide (s.N[i]? = some x) && visB s.sc x
def ckL (s : Sc) (i : Nat) (x : Str) : Bool := decide (s.N[i]? = some x) && locB s x
def Bop.ok : Bop → Operator → Bool
  | .add, .Add => true
  | .sub, .Sub => true
  | .mul, .Mult => true
  | .div, .FloorDiv => true
  | .mod, .Mod => true
  | .pow, .Pow => true
  | _, _ => false
def Cop.ok : Cop → CmpOp → Bool
  | .eq, .Eq => true
  | .ne, .NotEq => true
  | .lt, .Lt => true
  | .le, .LtE => true
  | .gt, .Gt => true
  | .ge, .GtE => true
  | .is, .Is => true
  | .isn, .IsNot => true
  | .inn, .In => true
  | .nin, .NotIn => true
  | _, _ => false
def Bif.name : Bif → String
  | .len => "len" | .abs => "abs" | .int => "int" | .max => "max" | .min => "min" | .all => "all" | .any => "any" | .sum => "sum" | .tuple => "tuple" | .list => "list" | .sorted => "sorted"
def nSet : Expr → Bool
  | .Set .. => false
  | _ => true
def nStar : Expr → Bool
  | .Starred .. => false
  | _ => true
def nSlice : Expr → Bool
  | .Slice .. => false
  | _ => true
/-- no super() -/
def nCall : Expr → Bool
  | .Call (.Name _ _) [] [] _ => false
  | _ => true
def nComp : Expr → Bool
  | .ListComp .. => false
  | .SetComp .. => false
  | .DictComp .. => false
  | _ => true
def plainT : Expr → Bool
  | .UnaryOp .Not _ _ => false
  | .BoolOp .. => false
  | .IfExp .. => false
  | .Compare .. => false
  | _ => true
def ckK : K → Const → Bool
  | .non, .none => true
  | .bl b, .bool b' => b == b'
  | .int i, .int j => decide (i = j)
  | .str x, .str y => decide (Str.ofString x = y)
  | _, _ => false
def ckTys (sc : Scope) : List String → List Expr → Bool
  | [], [] => true
  | t :: ts, .Name y _ :: es => decide (y = Str.ofString t) && glB sc y && tyAsk t && ckTys sc ts es
  | _, _ => false
def ownOf (N : List Str) (scope : Scope) : List (Str × Nat) := scope.names.filterMap fun (n, k) => if k == .local || k == .cell then (N.findIdx? fun y => decide (y = n)).map fun i => (n, i) else none
def nmE (s : String) (x : Str) (sc : Scope) : Bool := decide (x = Str.ofString s) && glB sc x
mutual
def ckT : T → Sc → Expr → Bool
  | .nm i, s, e => match e with
    | .Name x _ => ckL s i x
    | _ => false
  | .tup ts, s, e => match e with
    | .Tuple es _ _ => ckTs ts s es
    | _ => false
def ckTs : Ts → Sc → List Expr → Bool
  | .nil, s, es => match es with
    | [] => true
    | _ => false
  | .cons t ts, s, es => match es with
    | e :: es => nStar e && ckT t s e && ckTs ts s es
    | [] => false
end
def Sc.blk (s : Sc) (scope : Scope) : Sc := ⟨s.N, relS scope s.sc, fun x => scope.names.lookup x == some .cell⟩
def nDbg (x : Str) : Bool := !(x == ("__debug__" : Str))
theorem nDbg_ok {x : Str} (h : nDbg x = true) : (x == ("__debug__" : Str)) = false := by
  unfold nDbg at h
  simpa using h
variable (FN : Gn)
mutual
def ckE : E → Sc → Expr → Bool
  | .k d, s, e => match e with
    | .Constant c _ _ => ckK d c
    | _ => false
  | .v i, s, e => match e with
    | .Name x _ => ckN s i x
    | _ => false
  | .mv i, s, e => match e with
    | .Name x _ => ckN s i x
    | _ => false
  | .op o a b, s, e => match e with
    | .BinOp e1 o' e2 _ => o.ok o' && ckE a s e1 && ckE b s e2
    | _ => false
  | .neg a, s, e => match e with
    | .UnaryOp .USub e1 _ => ckE a s e1
    | _ => false
  | .cmp o a b, s, e => match e with
    | .Compare e1 [o'] [e2] _ => o.ok o' && nSet e2 && ckE a s e1 && ckE b s e2
    | _ => false
  | .ch o p a b c, s, e => match e with
    | .Compare e1 [o', p'] [e2, e3] _ => o.ok o' && p.ok p' && nSet e3 && ckE a s e1 && ckE b s e2 && ckE c s e3
    | _ => false
  | .nt a, s, e => match e with
    | .UnaryOp .Not e1 _ => ckE a s e1
    | _ => false
  | .an a b, s, e => match e with
    | .BoolOp .And [e1, e2] _ => ckE a s e1 && ckE b s e2
    | .BoolOp .And (e1 :: e2 :: es) p => ckE a s e1 && ckE b s (.BoolOp .And (e2 :: es) p)
    | _ => false
  | .or a b, s, e => match e with
    | .BoolOp .Or [e1, e2] _ => ckE a s e1 && ckE b s e2
    | .BoolOp .Or (e1 :: e2 :: es) p => ckE a s e1 && ckE b s (.BoolOp .Or (e2 :: es) p)
    | _ => false
  | .ite c a b, s, e => match e with
    | .IfExp e1 e2 e3 _ => ckE c s e1 && ckE a s e2 && ckE b s e3
    | _ => false
  | .tup es, s, e => match e with
    | .Tuple l _ _ => ckEs es s l
    | _ => false
  | .lst es, s, e => match e with
    | .List l _ => ckEs es s l
    | _ => false
  | .bi f es, s, e => match e with
    | .Call (.Name x _) (e1 :: l) [] _ => nmE f.name x s.sc && nStar e1 && (l.all nStar) && ckEs es s (e1 :: l)
    | _ => false
  | .ix a b, s, e => match e with
    | .Subscript e1 e2 _ => nSlice e2 && ckE a s e1 && ckE b s e2
    | _ => false
  | .sl a lo hi, s, e => match e with
    | .Subscript e1 (.Slice l h none _) _ => ckE a s e1 && ckO lo s l && ckO hi s h
    | _ => false
  | .rev a, s, e => match e with
    | .Subscript e1 (.Slice none none (some (.UnaryOp .USub (.Constant (.int 1) _ _) _)) _) _ => ckE a s e1
    | _ => false
  | .isi a t, s, e => match e with
    | .Call (.Name x _) [e1, .Name y _] [] _ => nmE "isinstance" x s.sc && nStar e1 && ckTys s.sc [t] [.Name y ⟨0, 0, 0, 0⟩] && ckE a s e1
    | _ => false
  | .isiT a ts, s, e => match e with
    | .Call (.Name x _) [e1, .Tuple l _ _] [] _ => nmE "isinstance" x s.sc && nStar e1 && decide (ts.length ≤ 100) && ckTys s.sc ts l && ckE a s e1
    | _ => false
  | .app i a, s, e => match e with
    | .Call (.Attribute (.Name x _) m ap) [e1] [] cp => decide (m = Str.ofString "append") && ckN s i x && nStar e1 && (ap.endLine == cp.line) && ckE a s e1
    | _ => false
  | .ext i a, s, e => match e with
    | .Call (.Attribute (.Name x _) m ap) [e1] [] cp => decide (m = Str.ofString "extend") && ckN s i x && nStar e1 && (ap.endLine == cp.line) && ckE a s e1
    | _ => false
  | .pop i a, s, e => match e with
    | .Call (.Attribute (.Name x _) m ap) [e1] [] cp => decide (m = Str.ofString "pop") && ckN s i x && nStar e1 && (ap.endLine == cp.line) && ckE a s e1
    | _ => false
  | .pop0 i, s, e => match e with
    | .Call (.Attribute (.Name x _) m ap) [] [] cp => decide (m = Str.ofString "pop") && ckN s i x && (ap.endLine == cp.line)
    | _ => false
  | .idx o a, s, e => match e with
    | .Call (.Attribute e0 m ap) [e1] [] cp => decide (m = Str.ofString "index") && nCall e0 && nStar e1 && (ap.endLine == cp.line) && ckE o s e0 && ckE a s e1
    | _ => false
  | .lc vs t it ifs a, s, e => match e with
    | .ListComp elt [⟨tg, iter, l, 0⟩] scope _ => decide (vs = (ownOf s.N scope).map (·.2)) && blkC s.N s.sc scope (ownOf s.N scope) && (t.vs.all fun v => decide (v ∈ vs)) && nSet iter && ckT t (s.blk scope) tg && ckI it s tg iter && ckQ ifs (s.blk scope) l && ckE a (s.blk scope) elt
    | _ => false
  | .lc2 vs vs1 t it ifs t1 it1 ifs1 a, s, e => match e with
    | .ListComp elt [⟨tg, iter, l, 0⟩, ⟨tg1, iter1, l1, 0⟩] scope _ => decide (vs = (ownOf s.N scope).map (·.2)) && blkC s.N s.sc scope (ownOf s.N scope) && (t.vs.all fun v => decide (v ∈ vs)) && (t1.vs.all fun v => decide (v ∈ vs1)) && (vs1.all fun v => decide (v ∈ vs)) && nSet iter && nSet iter1 &&
        ckT t (s.blk scope) tg && ckI it s tg iter && ckQ ifs (s.blk scope) l && ckT t1 (s.blk scope) tg1 && ckI it1 (s.blk scope) tg1 iter1 && ckQ ifs1 (s.blk scope) l1 && ckE a (s.blk scope) elt
    | _ => false
  | .call f es, s, e => match e with
    | .Call (.Name x _) (e1 :: l) [] _ => decide (FN.fn[f]? = some x) && glB s.sc x && nStar e1 && (l.all nStar) && ckEs es s (e1 :: l)
    | _ => false
  | .cell a, s, e => plainT e && ckE a s e
  | .con i, s, e => match e with
    | .Name x _ => decide (FN.con.lookup x = some i) && glB s.sc x && nDbg x
    | _ => false
  | .mth f es, s, e => match e with
    | .Call (.Name x _) (e1 :: l) [] _ => decide (FN.mth.lookup x = some f.id) && glB s.sc x && nDbg x && nStar e1 && (l.all nStar) && ckEs es s (e1 :: l)
    | _ => false
  | .tget kvs a, s, e => match e with
    | .Call (.Attribute (.Name x _) m ap) [e1] [] cp => decide (m = Str.ofString "get") && decide (FN.tab.lookup x = some kvs) && glB s.sc x && nDbg x && nStar e1 && (ap.endLine == cp.line) && ckE a s e1
    | _ => false
  | .sset a, s, e => match e with
    | .Call (.Name x _) [.Call (.Name y _) [e1] [] _] [] _ => nmE "sorted" x s.sc && nmE "set" y s.sc && nStar e1 && ckE a s e1
    | _ => false
  | .lr1 a, s, e => match e with
    | .Call (.Name x _) [.Call (.Name y _) [e1] [] _] [] _ => nmE "list" x s.sc && nmE "range" y s.sc && nStar e1 && ckE a s e1
    | _ => false
  | .lr2 a b, s, e => match e with
    | .Call (.Name x _) [.Call (.Name y _) [e1, e2] [] _] [] _ => nmE "list" x s.sc && nmE "range" y s.sc && nStar e1 && nStar e2 && ckE a s e1 && ckE b s e2
    | _ => false
  | .lr3 a b c, s, e => match e with
    | .Call (.Name x _) [.Call (.Name y _) [e1, e2, e3] [] _] [] _ => nmE "list" x s.sc && nmE "range" y s.sc && nStar e1 && nStar e2 && nStar e3 && ckE a s e1 && ckE b s e2 && ckE c s e3
    | _ => false
def ckEs : Es → Sc → List Expr → Bool
  | .nil, s, l => match l with
    | [] => true
    | _ => false
  | .cons a es, s, l => match l with
    | e :: l => nStar e && ckE a s e && ckEs es s l
    | [] => false
  | .star a es, s, l => match l with
    | .Starred e _ :: l => ckE a s e && ckEs es s l
    | _ => false
def ckO : Oe → Sc → Option Expr → Bool
  | .non, s, o => match o with
    | none => true
    | _ => false
  | .som a, s, o => match o with
    | some e => ckE a s e
    | _ => false
def ckQ : Oe → Sc → List Expr → Bool
  | .non, s, o => match o with
    | [] => true
    | _ => false
  | .som a, s, o => match o with
    | [e] => ckE a s e
    | _ => false
def ckI : It → Sc → Expr → Expr → Bool
  | .seq a, s, tg, e => ckE a s e
  | .rg1 a, s, tg, e => match e with
    | .Call (.Name x _) [e1] [] _ => nmE "range" x s.sc && nStar e1 && ckE a s e1
    | _ => false
  | .rg2 a b, s, tg, e => match e with
    | .Call (.Name x _) [e1, e2] [] _ => nmE "range" x s.sc && nStar e1 && nStar e2 && ckE a s e1 && ckE b s e2
    | _ => false
  | .rg3 a b c, s, tg, e => match e with
    | .Call (.Name x _) [e1, e2, e3] [] _ => nmE "range" x s.sc && nStar e1 && nStar e2 && nStar e3 && ckE a s e1 && ckE b s e2 && ckE c s e3
    | _ => false
  | .enum a, s, tg, e => match tg, e with
    | .Tuple _ _ _, .Call (.Name x _) [e1] [] _ => nmE "enumerate" x s.sc && nStar e1 && ckE a s e1
    | _, _ => false
  | .zip a b, s, tg, e => match tg, e with
    | .Tuple _ _ _, .Call (.Name x _) [e1, e2] [] _ => nmE "zip" x s.sc && nStar e1 && nStar e2 && ckE a s e1 && ckE b s e2
    | _, _ => false
end

/-! ### where it stands -/
structure Glob where
  P : Program
  w : World
  K : PySem.W.Frag
  mg : Str → Option Value
  base : Heap
  b : Cn
  FN : Gn
structure ConsOk (G : Glob) : Prop where
  con : ∀ x i, G.FN.con.lookup x = some i → ∃ t, G.mg x = some (.int i t)
  mth : ∀ x n, G.FN.mth.lookup x = some n → G.mg x = some (.builtin n)
  tab : ∀ x kvs, G.FN.tab.lookup x = some kvs → ∃ a, G.mg x = some (.ref a) ∧ TabAt G.K G.w a kvs
def blts : List Str := ["len", "abs", "int", "max", "min", "all", "any", "sum", "tuple", "list", "sorted", "isinstance", "bool", "str", "range", "enumerate", "zip", "set"].map Str.ofString
structure FnsOk (G : Glob) (k : Nat) (Γ : Nat → Nat × Fn) : Prop where
  at_ : ∀ i x, G.FN.fn[i]? = some x → ∃ f fd ps, ps.length = (Γ i).1 ∧ FnOk G.P G.w G.K G.mg G.base (L2.CX G.P G.w) k f fd ps (spF G.b ps.length (Γ i).2) ∧ G.mg x = some (.ref f) ∧ PySem.W.keepIn G.K (.ref f) = true ∧ L2.Binds G.K fd ps []
  dbg : ∀ x ∈ G.FN.fn, (x == ("__debug__" : Str)) = false
structure EnvOk (G : Glob) (k : Nat) (Γ : Nat → Nat × Fn) (s : Sc) (X : Cx) (c : Cn) (W : WX) : Prop where
  P : X.prog = G.P
  w : X.w = G.w
  K : X.K = G.K
  mg : X.mg = G.mg
  base : X.base = G.base
  kin : Kin G.b c
  bK : G.b.K = G.K
  xm : XMono G.b
  N : X.N = s.N
  nd : s.N.Nodup
  dbg : ∀ x ∈ s.N, (x == ("__debug__" : Str)) = false ∧ (x == ("__classdict__" : Str)) = false
  sc : X.env.scope = s.sc
  fn : X.fn = s.fn
  calm : X.calm = true
  tk : Takes X W
  room : Room k X.A
  fns : FnsOk G k Γ
  nob : ∀ x ∈ blts, G.mg x = none
  cons : ConsOk G
def nBool : Expr → Bool
  | .BoolOp .. => false
  | _ => true
structure SE (X : Cx) (c : Cn) (W : WX) (e : Expr) (v : Ev) : Prop where
  r : DE X c W e v.r
  t : DT X c W e v.b
  g : DG X c W e v.g
  w : nBool e = false → DW X c W e v.b
section
variable {G : Glob} {k : Nat} {Γ : Nat → Nat × Fn} {s : Sc} {X : Cx} {c : Cn} {W : WX} {e a b : Expr} {pos : Pos} {x : Str} {i : Nat}
theorem EnvOk.hK (I : EnvOk G k Γ s X c W) : X.K = c.K := I.K.trans (I.bK.symm.trans I.kin.K)
theorem EnvOk.small (I : EnvOk G k Γ s X c W) : Small X := by have := I.room.un; unfold Small; omega
theorem EnvOk.vis (I : EnvOk G k Γ s X c W) (h : visB s.sc x = true) : Vis X.env.scope x := by
  rw [I.sc]
  unfold visB at h
  split at h
  · exact .inl (by assumption)
  · exact .inr (.inl (by assumption))
  · exact .inr (.inr (by assumption))
  · cases h
theorem EnvOk.gl (I : EnvOk G k Γ s X c W) (h : glB s.sc x = true) : Gl X x := by
  unfold glB at h
  split at h
  · show X.env.scope.names.lookup x = _
    rw [I.sc]; assumption
  · cases h
theorem EnvOk.loc (I : EnvOk G k Γ s X c W) (h : locB s x = true) : Loc X.env.scope x ∧ (X.fn x = true ∨ X.env.scope.names.lookup x = some .local) := by
  rw [I.sc, I.fn]
  unfold locB at h
  split at h
  · exact ⟨.inl (by assumption), .inr (by assumption)⟩
  · exact ⟨.inr (by assumption), .inl h⟩
  · cases h
theorem EnvOk.nm (I : EnvOk G k Γ s X c W) (h : ckN s i x = true) : X.N[i]? = some x ∧ Vis X.env.scope x ∧ (x == ("__debug__" : Str)) = false ∧ (x == ("__classdict__" : Str)) = false := by
  unfold ckN at h
  simp only [Bool.and_eq_true, decide_eq_true_eq] at h
  have h1 := h.1
  obtain ⟨d1, d2⟩ := I.dbg x (List.mem_of_getElem? h1)
  exact ⟨by rw [I.N]; exact h1, I.vis h.2, d1, d2⟩
theorem EnvOk.lc (I : EnvOk G k Γ s X c W) (h : ckL s i x = true) : X.N[i]? = some x ∧ Loc X.env.scope x ∧ (X.fn x = true ∨ X.env.scope.names.lookup x = some .local) := by
  unfold ckL at h
  simp only [Bool.and_eq_true, decide_eq_true_eq] at h
  exact ⟨by rw [I.N]; exact h.1, I.loc h.2⟩
theorem EnvOk.blt (I : EnvOk G k Γ s X c W) {n : String} (h : nmE n x s.sc = true) (hb : Str.ofString n ∈ blts) : x = Str.ofString n ∧ Gl X (Str.ofString n) ∧ X.mg (Str.ofString n) = none := by
  unfold nmE at h
  simp only [Bool.and_eq_true, decide_eq_true_eq] at h
  obtain ⟨rfl, h2⟩ := h
  exact ⟨rfl, I.gl h2, by rw [I.mg]; exact I.nob _ hb⟩
theorem EnvOk.blk (I : EnvOk G k Γ s X c W) (scope : Scope) (sh : Shared) (H : Hp) (C : Addr) (cl : List (Str × Addr)) (fp : List Addr) : EnvOk G k Γ (s.blk scope) (X.blk sh H scope (compEnvC scope cl C X.env) fp) c noX where
  P := I.P
  w := I.w
  K := I.K
  mg := I.mg
  base := I.base
  kin := I.kin
  bK := I.bK
  xm := I.xm
  N := I.N
  nd := I.nd
  dbg := I.dbg
  sc := by
    show relS scope X.env.scope = relS scope s.sc
    rw [I.sc]
  fn := rfl
  calm := I.calm
  tk := fun u s' ⟨_, _, _, _, _, _, _, _, _, _, _, _, _, _, _, _, w⟩ => w.elim
  room := I.room
  fns := I.fns
  nob := I.nob
  cons := I.cons
/-! targets -/
theorem assign_star {es : List Expr} (h : nStar e = true) : assignEach (e :: es) X.env = (false, assign e X.env) :: assignEach es X.env := by
  cases e <;> first | rfl | cases h
theorem star_star {es : List Expr} (h : nStar e = true) : starEach (e :: es) X.env = (false, eval e X.env) :: starEach es X.env := by
  cases e <;> first | rfl | cases h
theorem stars_any : ∀ {es : List Expr}, es.all nStar = true → (backTo pos (starEach es X.env)).any (·.1) = false
  | [], _ => rfl
  | e :: es, h => by
    simp only [List.all_cons, Bool.and_eq_true] at h
    rw [star_star h.1]
    show (false || (backTo pos (starEach es X.env)).any (·.1)) = false
    rw [stars_any h.2]; rfl
mutual
theorem ckT_ok (I : EnvOk G k Γ s X c W) : ∀ (t : T) (e : Expr), ckT t s e = true → DTg X c t.vs e t.f
  | .nm i, e, h => by
    unfold ckT at h
    split at h
    · obtain ⟨h1, h2, h3⟩ := I.lc h
      exact dg_name (by rw [I.N]; exact I.nd) h1 h2 h3
    · cases h
  | .tup ts, e, h => by
    unfold ckT at h
    split at h
    · obtain ⟨h1, h2, h3⟩ := ckTs_ok I ts _ ts.vs h (fun _ h => h)
      exact dg_tup I.hK I.calm h1 h2 h3
    · cases h
theorem ckTs_ok (I : EnvOk G k Γ s X c W) : ∀ (ts : Ts) (es : List Expr) (vs : List Nat), ckTs ts s es = true → (∀ v ∈ ts.vs, v ∈ vs) → DTgs X c vs es ts.f ∧ (assignEach es X.env).length = ts.n ∧ (assignEach es X.env).findIdx? (·.1) = none
  | .nil, es, vs, h, hv => by
    unfold ckTs at h
    split at h
    · exact ⟨dgs_nil, rfl, rfl⟩
    · cases h
  | .cons t ts, es, vs, h, hv => by
    unfold ckTs at h
    split at h
    · rename_i e es
      simp only [Bool.and_eq_true] at h
      have e1 := assign_star (X := X) (es := es) h.1.1
      obtain ⟨h1, h2, h3⟩ := ckTs_ok I ts es vs h.2 fun v q => hv v (List.mem_append_right _ q)
      refine ⟨dgs_cons (ckT_ok I t e h.1.2) h1 (fun v q => hv v (List.mem_append_left _ q)) (by rw [e1]; rfl), by rw [e1]; simp [Ts.n, h2], ?_⟩
      rw [e1, List.findIdx?_cons]
      simp [h3]
    · cases h
end
end
end Pv
namespace Pv
open PySem PySem.Spec PyProof.Rows L2
section
variable {Gb : Glob} {k : Nat} {Γ : Nat → Nat × Fn} {s : Sc} {X : Cx} {c : Cn} {W : WX} {e a b : Expr} {pos p : Pos} {x : Str} {i : Nat}
theorem truth_plain (e : Expr) (env : Env) (whole : Sem Value) (h : plainT e = true) :
    isTrue e env whole = (do let v ← whole; standAt e.pos; holding [v] (truthy v)) := by
  cases e <;> first | rfl | cases h | skip
  rename_i op _ _
  cases op <;> first | rfl | cases h
theorem SE.of (I : EnvOk Gb k Γ s X c W) {m : M R} (h : DE X c W e m) (q : plainT e = true) : SE X c W e (Ev.of m) :=
  ⟨h, dt_val I.hK h.val.g fun whole => truth_plain e _ whole q, h.val.g, fun z => by cases e <;> first | (cases z; done) | (cases q; done)⟩
theorem dt_fail : DT X c W e M.fail := ⟨fun pins s σ H Q I ⟨w, st, r, p⟩ => p.elim⟩
/-- the arguments, in each of three ways -/
structure SA (X : Cx) (c : Cn) (W : WX) (es : List Expr) (as : List Ar) : Prop where
  p : DGs X c W es (gsP as)
  v : DGs X c W es (gsV as)
  d : DA X c W es (dsA as)
  r : es.all nStar = true → DRs X c es (as.map fun a => a.2.r)
theorem Bop.sound (hK : X.K = c.K) : ∀ (o : Bop) (o' : Operator), o.ok o' = true → OpR X (binaryOp o') (P2 c o.g) := by
  intro o o' h
  cases o <;> cases o' <;> first | cases h | skip
  · exact o_add hK
  · exact o_sub
  · exact o_mul hK
  · exact o_div
  · exact o_mod
  · exact o_pow
theorem Cop.sound (hK : X.K = c.K) (hu : Small X) : ∀ (o : Cop) (o' : CmpOp), o.ok o' = true → OpR X (compareOp o') (P2 c o.g) := by
  intro o o' h
  cases o <;> cases o' <;> first | cases h | skip
  · exact o_eq hK hu
  · exact o_ne hK hu
  · exact o_lt hK hu
  · exact o_le hK hu
  · exact o_gt hK hu
  · exact o_ge hK hu
  · exact o_is
  · exact o_isnot
  · exact o_in hK hu
  · exact o_notin hK hu
theorem marks (o : Cop) (o' : CmpOp) (h : o.ok o' = true) (e : Expr) (q : nSet e = true) : behindInMarks o' e = false := by
  cases e <;> first | rfl | cases q
theorem Bif.sound (I : EnvOk Gb k Γ s X c W) (f : Bif) {es : List Expr} {ms : M (List Pv.G)} (hx : nmE f.name x s.sc = true) (h1 : nStar e = true) (h2 : es.all nStar = true) (h : DGs X c W (e :: es) ms) :
    DE X c W (.Call (.Name x p) (e :: es) [] pos) (callM f.g ms) := by
  have e1 := star_star (X := X) (es := es) h1
  have e2 := stars_any (X := X) (pos := pos) h2
  have hK := I.hK
  have hu := I.small
  have hc := I.calm
  cases f
  · obtain ⟨rfl, g1, g2⟩ := I.blt hx (by decide)
    exact pe_bi (id := "len") (tA := fun _ => tCB (Pn c lenD) tNil) (fun t ht => pe_callB (c_len hK) g1 g2 boot_len ht (he := e1) (hpl := e2)) h
  · obtain ⟨rfl, g1, g2⟩ := I.blt hx (by decide)
    exact pe_bi (id := "abs") (tA := fun _ => tCB (Pn c absD) tNil) (fun t ht => pe_callB c_abs g1 g2 boot_abs ht (he := e1) (hpl := e2)) h
  · obtain ⟨rfl, g1, g2⟩ := I.blt hx (by decide)
    exact pe_bi (id := "int") (tA := fun _ => tCB (Pn c intOf) tNil) (fun t ht => pe_callTy c_int g1 g2 PyProof.Rows.boot_int ht (he := e1) (hpl := e2)) h
  · obtain ⟨rfl, g1, g2⟩ := I.blt hx (by decide)
    exact pe_bi (id := "max") (tA := fun _ => tCB (Pn c maxOf) tNil) (fun t ht => pe_callB (c_max hK hu hc) g1 g2 boot_max ht (he := e1) (hpl := e2)) h
  · obtain ⟨rfl, g1, g2⟩ := I.blt hx (by decide)
    exact pe_bi (id := "min") (tA := fun _ => tCB (Pn c minOf) tNil) (fun t ht => pe_callB (c_min hK hu hc) g1 g2 boot_min ht (he := e1) (hpl := e2)) h
  · obtain ⟨rfl, g1, g2⟩ := I.blt hx (by decide)
    exact pe_bi (id := "all") (tA := fun _ => tCB (Pn c allOf) tNil) (fun t ht => pe_callB (c_all hK hc) g1 g2 boot_all ht (he := e1) (hpl := e2)) h
  · obtain ⟨rfl, g1, g2⟩ := I.blt hx (by decide)
    exact pe_bi (id := "any") (tA := fun _ => tCB (Pn c anyOf) tNil) (fun t ht => pe_callB (c_any hK hc) g1 g2 boot_any ht (he := e1) (hpl := e2)) h
  · obtain ⟨rfl, g1, g2⟩ := I.blt hx (by decide)
    exact pe_bi (id := "sum") (tA := fun _ => tCB (Pn c sumOf) tNil) (fun t ht => pe_callB (c_sum hK hc) g1 g2 boot_sum ht (he := e1) (hpl := e2)) h
  · obtain ⟨rfl, g1, g2⟩ := I.blt hx (by decide)
    exact pe_bi (id := "tuple") (tA := fun _ => tCB (Pn c tupOf) tNil) (fun t ht => pe_callTy (c_tuple hK) g1 g2 PyProof.Rows.boot_tuple ht (he := e1) (hpl := e2)) h
  · obtain ⟨rfl, g1, g2⟩ := I.blt hx (by decide)
    exact pe_bi (id := "list") (tA := fun _ => tCB (Pn c lstOf) tNil) (fun t ht => pe_callTy (c_list hK) g1 g2 PyProof.Rows.boot_list ht (he := e1) (hpl := e2)) h
  · obtain ⟨rfl, g1, g2⟩ := I.blt hx (by decide)
    exact pe_bi (id := "sorted") (tA := fun _ => tCB (Pn c sortedOf) tNil) (fun t ht => pe_callB (c_sorted hK hu) g1 g2 boot_sorted ht (he := e1) (hpl := e2)) h
theorem tyAsk_of {t : String} (h : tyAsk t = true) : t = "bool" ∨ t = "int" ∨ t = "str" ∨ t = "tuple" ∨ t = "list" := by
  unfold tyAsk at h
  simpa [or_assoc] using h
theorem pe_tyn (I : EnvOk Gb k Γ s X c W) {t : String} (hg : glB s.sc (Str.ofString t) = true) (h : tyAsk t = true) : PE X (.Name (Str.ofString t) pos) (tC (.ty t)) := by
  have g := I.gl hg
  rcases tyAsk_of h with rfl | rfl | rfl | rfl | rfl
  · exact ⟨fun _ _ _ H _ I' h => ld_blt I' g (by rw [I.mg]; exact I.nob _ (by decide)) PyProof.Rows.boot_bool ⟨.ty "bool", H, I', rfl, h⟩⟩
  · exact ⟨fun _ _ _ H _ I' h => ld_blt I' g (by rw [I.mg]; exact I.nob _ (by decide)) PyProof.Rows.boot_int ⟨.ty "int", H, I', rfl, h⟩⟩
  · exact ⟨fun _ _ _ H _ I' h => ld_blt I' g (by rw [I.mg]; exact I.nob _ (by decide)) PyProof.Rows.boot_str ⟨.ty "str", H, I', rfl, h⟩⟩
  · exact ⟨fun _ _ _ H _ I' h => ld_blt I' g (by rw [I.mg]; exact I.nob _ (by decide)) PyProof.Rows.boot_tuple ⟨.ty "tuple", H, I', rfl, h⟩⟩
  · exact ⟨fun _ _ _ H _ I' h => ld_blt I' g (by rw [I.mg]; exact I.nob _ (by decide)) PyProof.Rows.boot_list ⟨.ty "list", H, I', rfl, h⟩⟩
theorem ckTys_ok (I : EnvOk Gb k Γ s X c W) : ∀ (ts : List String) (es : List Expr), ckTys s.sc ts es = true → PA X es (tTys ts) ∧ ts.all tyAsk = true
  | [], [], _ => ⟨pa_ty0, rfl⟩
  | t :: ts, e :: es, h => by
    unfold ckTys at h
    split at h
    · rename_i h1 h2; cases h1
    · rename_i h1 h2
      cases h1; cases h2
      simp only [Bool.and_eq_true, decide_eq_true_eq] at h
      obtain ⟨⟨⟨rfl, h2⟩, h3⟩, h4⟩ := h
      obtain ⟨q1, q2⟩ := ckTys_ok I _ _ h4
      exact ⟨pa_ty (pe_tyn I h2 h3) q1, by simp [h3, q2]⟩
    · cases h
  | [], e :: es, h => by simp [ckTys] at h
  | t :: ts, [], h => by simp [ckTys] at h
end
end Pv
namespace Pv
open PySem PySem.Spec PyProof.Rows L2
section
variable {Gb : Glob} {k : Nat} {Γ : Nat → Nat × Fn}
theorem ckK_ok {X : Cx} {c : Cn} {W : WX} {d : K} {t : Const} {j : Nat} {pos : Pos} (h : ckK d t = true) : DE X c W (.Constant t j pos) (M.pure (d.d, false)) := by
  unfold ckK at h
  split at h
  · exact de_non
  · simp only [beq_iff_eq] at h; subst h; exact de_bl
  · simp only [decide_eq_true_eq] at h; subst h; exact de_int
  · simp only [decide_eq_true_eq] at h; subst h; exact de_str
  · cases h
theorem DTg.more {X : Cx} {c : Cn} {vs us : List Nat} {e : Expr} {t : Tf} (h : DTg X c vs e t) (hv : ∀ v ∈ vs, v ∈ us) : DTg X c us e t :=
  PG.less h fun v σ H Q ⟨w, st, d, r, q, st', e1, k⟩ => ⟨w, st, d, r, q, st', e1, fun σ' w' r' x' t' s' => k σ' w' r' x' t' (s'.more hv)⟩
theorem abase {o : Expr} {m : Str} {env : Env} {x : Str} {p : Pos} (h : o = .Name x p) : attributeBase o m env (eval o env) = eval o env := by subst h; rfl
theorem abase2 {o : Expr} {m : Str} {env : Env} (h : nCall o = true) : attributeBase o m env (eval o env) = eval o env := by
  unfold attributeBase
  split
  · cases h
  · rfl
theorem call1 {X : Cx} {e : Expr} {cpos : Pos} (h : nStar e = true) : ((backTo cpos (starEach [e] X.env)).all (fun x => !x.1) && (backToKw cpos (keywordEach [] X.env)).all (fun x => x.1.isSome) && decide ([e].length + ([] : List Keyword).length + (if ([] : List Keyword).isEmpty then 0 else 1) < 30)) = true := by
  rw [star_star h]; rfl
theorem fsi {iter : Expr} {env : Env} (h : nSet iter = true) : ∀ x, foldedSetIterable iter env x = pure x := by
  intro x
  cases iter <;> first | rfl | cases h
theorem SE.two {X : Cx} {c : Cn} {W : WX} {e : Expr} {m : M R} {bb : M Bool} (d : DE X c W e m) (t : DT X c W e bb) (w : nBool e = false → DW X c W e bb) : SE X c W e ⟨m, bb, m.val.inl⟩ := ⟨d, t, d.val.g, w⟩
mutual
theorem ckE_ok : ∀ (ir : E) {s : Sc} {X : Cx} {c : Cn} {W : WX} (e : Expr), EnvOk Gb k Γ s X c W → ckE Gb.FN ir s e = true → SE X c W e (ev Γ ir)
  | .k d, s, X, c, W, e, I, h => by
    unfold ckE at h
    split at h
    · exact .of I (ckK_ok h) rfl
    · cases h
  | .v i, s, X, c, W, e, I, h => by
    unfold ckE at h
    split at h
    · rename_i x pos
      obtain ⟨h1, h2, h3, h4⟩ := I.nm h
      have g : DG X c W (.Name x pos) (pkM i) := de_peek h1 h2 h3 h4
      exact ⟨de_var h1 h2 h3 h4, dt_val I.hK g fun _ => rfl, g, fun z => by cases z⟩
    · cases h
  | .mv i, s, X, c, W, e, I, h => by
    unfold ckE at h
    split at h
    · obtain ⟨h1, h2, h3, h4⟩ := I.nm h
      exact .of I (de_mov h1 h2 h3 h4) rfl
    · cases h
  | .op o a b, s, X, c, W, e, I, h => by
    unfold ckE at h
    split at h
    · simp only [Bool.and_eq_true] at h
      obtain ⟨⟨h1, h2⟩, h3⟩ := h
      exact .of I (de_op (Bop.sound I.hK _ _ h1) (ckE_ok a _ I h2).g (ckE_ok b _ I h3).g) rfl
    · cases h
  | .neg a, s, X, c, W, e, I, h => by
    unfold ckE at h
    split at h
    · exact .of I (de_un o_neg (ckE_ok a _ I h).g) rfl
    · cases h
  | .cmp o a b, s, X, c, W, e, I, h => by
    unfold ckE at h
    split at h
    · simp only [Bool.and_eq_true] at h
      obtain ⟨⟨⟨h1, h0⟩, h2⟩, h3⟩ := h
      have q := Cop.sound I.hK I.small _ _ h1
      have m := marks _ _ h1 _ h0
      exact .two (de_cmp q (ckE_ok a _ I h2).g (ckE_ok b _ I h3).g m) (dt_cmp q (ckE_ok a _ I h2).g (ckE_ok b _ I h3).g m) fun z => by cases z
    · cases h
  | .ch o p a b c', s, X, c, W, e, I, h => by
    unfold ckE at h
    split at h
    · simp only [Bool.and_eq_true] at h
      obtain ⟨⟨⟨⟨⟨h1, h1'⟩, h0⟩, h2⟩, h3⟩, h4⟩ := h
      have q := Cop.sound I.hK I.small _ _ h1
      have q' := Cop.sound I.hK I.small _ _ h1'
      have m := marks _ _ h1' _ h0
      exact .two (de_chain q q' (ckE_ok a _ I h2).r.val (ckE_ok b _ I h3).r.val (ckE_ok c' _ I h4).r.val m) (dt_chain q q' (ckE_ok a _ I h2).r.val (ckE_ok b _ I h3).r.val (ckE_ok c' _ I h4).r.val m) fun z => by cases z
    · cases h
  | .nt a, s, X, c, W, e, I, h => by
    unfold ckE at h
    split at h
    · have q := ckE_ok a _ I h
      exact .two (de_not I.hK q.r.val) (dt_not q.t) fun z => by cases z
    · cases h
  | .an a b, s, X, c, W, e, I, h => by
    unfold ckE at h
    split at h
    · simp only [Bool.and_eq_true] at h
      have q1 := ckE_ok a _ I h.1
      have q2 := ckE_ok b _ I h.2
      exact .two (de_and I.hK q1.r.val (de_one q2.r)) (dt_w (dw_and q1.t (dw_and1 q2.t))) fun _ => dw_and q1.t (dw_and1 q2.t)
    · simp only [Bool.and_eq_true] at h
      have q1 := ckE_ok a _ I h.1
      have q2 := ckE_ok b _ I h.2
      exact .two (de_and I.hK q1.r.val q2.r) (dt_w (dw_and q1.t (q2.w rfl))) fun _ => dw_and q1.t (q2.w rfl)
    · cases h
  | .or a b, s, X, c, W, e, I, h => by
    unfold ckE at h
    split at h
    · simp only [Bool.and_eq_true] at h
      have q1 := ckE_ok a _ I h.1
      have q2 := ckE_ok b _ I h.2
      exact .two (de_orR I.hK q1.r (de_one q2.r)) (dt_w (dw_or q1.t (dw_or1 q2.t))) fun _ => dw_or q1.t (dw_or1 q2.t)
    · simp only [Bool.and_eq_true] at h
      have q1 := ckE_ok a _ I h.1
      have q2 := ckE_ok b _ I h.2
      exact .two (de_orR I.hK q1.r q2.r) (dt_w (dw_or q1.t (q2.w rfl))) fun _ => dw_or q1.t (q2.w rfl)
    · cases h
  | .ite c' a b, s, X, c, W, e, I, h => by
    unfold ckE at h
    split at h
    · simp only [Bool.and_eq_true] at h
      exact .two (de_ite (ckE_ok c' _ I h.1.1).t (ckE_ok a _ I h.1.2).r (ckE_ok b _ I h.2).r) dt_fail fun z => by cases z
    · cases h
  | .tup es, s, X, c, W, e, I, h => by
    unfold ckE at h
    split at h
    · exact .of I (de_tup (ckEs_ok es _ I h).v) rfl
    · cases h
  | .lst es, s, X, c, W, e, I, h => by
    unfold ckE at h
    split at h
    · exact .of I (de_lst (ckEs_ok es _ I h).v) rfl
    · cases h
  | .bi f es, s, X, c, W, e, I, h => by
    unfold ckE at h
    split at h
    · simp only [Bool.and_eq_true] at h
      obtain ⟨⟨⟨h1, h2⟩, h3⟩, h4⟩ := h
      exact .of I (Bif.sound I f h1 h2 h3 (ckEs_ok es _ I h4).p) rfl
    · cases h
  | .ix a b, s, X, c, W, e, I, h => by
    unfold ckE at h
    split at h
    · rename_i e1 e2 _
      simp only [Bool.and_eq_true] at h
      obtain ⟨⟨h1, h2⟩, h3⟩ := h
      exact .of I (de_ix I.hK (ckE_ok a _ I h2).g (ckE_ok b _ I h3).g (fun o i => by cases e2 <;> first | rfl | cases h1)) rfl
    · cases h
  | .sl a lo hi, s, X, c, W, e, I, h => by
    unfold ckE at h
    split at h
    · simp only [Bool.and_eq_true] at h
      exact .of I (de_sl I.hK (ckE_ok a _ I h.1.1).g (ckO_ok lo _ I h.1.2) (ckO_ok hi _ I h.2)) rfl
    · cases h
  | .rev a, s, X, c, W, e, I, h => by
    unfold ckE at h
    split at h
    · exact .of I (de_rev I.hK (ckE_ok a _ I h).g) rfl
    · cases h
  | .isi a t, s, X, c, W, e, I, h => by
    unfold ckE at h
    split at h
    · simp only [Bool.and_eq_true] at h
      obtain ⟨⟨⟨h1, h2⟩, h3⟩, h4⟩ := h
      obtain ⟨rfl, g1, g2⟩ := I.blt h1 (by decide)
      simp only [ckTys, Bool.and_eq_true, decide_eq_true_eq] at h3
      obtain ⟨⟨⟨rfl, h5⟩, h6⟩, _⟩ := h3
      exact .of I (de_isi I.hK (ckE_ok a _ I h4).g (pe_tyn I h5 h6) h6 g1 g2 (star_star h2)) rfl
    · cases h
  | .isiT a ts, s, X, c, W, e, I, h => by
    unfold ckE at h
    split at h
    · simp only [Bool.and_eq_true, decide_eq_true_eq] at h
      obtain ⟨⟨⟨⟨h1, h2⟩, h0⟩, h3⟩, h4⟩ := h
      obtain ⟨rfl, g1, g2⟩ := I.blt h1 (by decide)
      obtain ⟨p1, p2⟩ := ckTys_ok I _ _ h3
      exact .of I (de_isiT I.hK (ckE_ok a _ I h4).g p1 p2 h0 g1 g2 (star_star h2)) rfl
    · cases h
  | .app i a, s, X, c, W, e, I, h => by
    unfold ckE at h
    split at h
    · simp only [Bool.and_eq_true, decide_eq_true_eq] at h
      obtain ⟨⟨⟨⟨rfl, h1⟩, h2⟩, h3⟩, h4⟩ := h
      obtain ⟨g1, g2, g3, g4⟩ := I.nm h1
      exact .of I (de_append I.hK g1 g2 g3 g4 (ckE_ok a _ I h4).r.val (abase rfl) (call1 h2) h3 (star_star h2)) rfl
    · cases h
  | .ext i a, s, X, c, W, e, I, h => by
    unfold ckE at h
    split at h
    · simp only [Bool.and_eq_true, decide_eq_true_eq] at h
      obtain ⟨⟨⟨⟨rfl, h1⟩, h2⟩, h3⟩, h4⟩ := h
      obtain ⟨g1, g2, g3, g4⟩ := I.nm h1
      exact .of I (de_extend I.hK g1 g2 g3 g4 (ckE_ok a _ I h4).g (abase rfl) (call1 h2) h3 (star_star h2)) rfl
    · cases h
  | .pop i a, s, X, c, W, e, I, h => by
    unfold ckE at h
    split at h
    · simp only [Bool.and_eq_true, decide_eq_true_eq] at h
      obtain ⟨⟨⟨⟨rfl, h1⟩, h2⟩, h3⟩, h4⟩ := h
      obtain ⟨g1, g2, g3, g4⟩ := I.nm h1
      exact .of I (de_pop I.hK g1 g2 g3 g4 (ckE_ok a _ I h4).r.val (abase rfl) (call1 h2) h3 (star_star h2)) rfl
    · cases h
  | .pop0 i, s, X, c, W, e, I, h => by
    unfold ckE at h
    split at h
    · simp only [Bool.and_eq_true, decide_eq_true_eq] at h
      obtain ⟨⟨rfl, h1⟩, h3⟩ := h
      obtain ⟨g1, g2, g3, g4⟩ := I.nm h1
      exact .of I (de_pop0 I.hK g1 g2 g3 g4 (abase rfl) h3) rfl
    · cases h
  | .idx o a, s, X, c, W, e, I, h => by
    unfold ckE at h
    split at h
    · simp only [Bool.and_eq_true, decide_eq_true_eq] at h
      obtain ⟨⟨⟨⟨⟨rfl, h0⟩, h2⟩, h3⟩, h1⟩, h4⟩ := h
      exact .of I (de_index I.hK I.small (ckE_ok o _ I h1).r.val (ckE_ok a _ I h4).r.val (abase2 h0) (call1 h2) h3 (star_star h2)) rfl
    · cases h
  | .lc vs t it ifs a, s, X, c, W, e, I, h => by
    unfold ckE at h
    split at h
    · rename_i elt tg iter l scope pos
      simp only [Bool.and_eq_true, decide_eq_true_eq] at h
      obtain ⟨⟨⟨⟨⟨⟨⟨rfl, h1⟩, h2⟩, h3⟩, h4⟩, h5⟩, h6⟩, h7⟩ := h
      have hv : ∀ v ∈ t.vs, v ∈ (ownOf s.N scope).map (·.2) := fun v hv => by
        have := List.all_eq_true.mp h2 v hv
        simpa using this
      refine .of I (de_lc I.calm (by rw [I.N]; exact I.nd) (ckI_ok it tg iter I h5) (by rw [I.N, I.sc]; exact blkOk_by h1) (fun sh H C cl fp => ?_) (fun sh H C cl fp => ckQ_ok ifs l (I.blk scope sh H C cl fp) h6) (fun sh H C cl fp => (ckE_ok a elt (I.blk scope sh H C cl fp) h7).r.val) (fsi h3)) rfl
      exact DTg.more (ckT_ok (I.blk scope sh H C cl fp) t tg h4) hv
    · cases h
  | .lc2 vs vs1 t it ifs t1 it1 ifs1 a, s, X, c, W, e, I, h => by
    unfold ckE at h
    split at h
    · rename_i elt tg iter l tg1 iter1 l1 scope pos
      simp only [Bool.and_eq_true, decide_eq_true_eq] at h
      obtain ⟨⟨⟨⟨⟨⟨⟨⟨⟨⟨⟨⟨⟨rfl, h1⟩, h2⟩, h2'⟩, h2''⟩, h3⟩, h3'⟩, h4⟩, h5⟩, h6⟩, h4'⟩, h5'⟩, h6'⟩, h7⟩ := h
      have hv : ∀ v ∈ t.vs, v ∈ (ownOf s.N scope).map (·.2) := fun v hv => by
        have := List.all_eq_true.mp h2 v hv
        simpa using this
      have hv1 : ∀ v ∈ t1.vs, v ∈ vs1 := fun v hv => by
        have := List.all_eq_true.mp h2' v hv
        simpa using this
      have hv2 : ∀ v ∈ vs1, v ∈ (ownOf s.N scope).map (·.2) := fun v hv => by
        have := List.all_eq_true.mp h2'' v hv
        simpa using this
      exact .of I (de_lc2 I.calm (by rw [I.N]; exact I.nd) (ckI_ok it tg iter I h5) (by rw [I.N, I.sc]; exact blkOk_by h1) hv2 (fun sh H C cl fp => DTg.more (ckT_ok (I.blk scope sh H C cl fp) t tg h4) hv) (fun sh H C cl fp => ckQ_ok ifs l (I.blk scope sh H C cl fp) h6)
        (fun sh H C cl fp => ckI_ok it1 tg1 iter1 (I.blk scope sh H C cl fp) h5') (fun sh H C cl fp => DTg.more (ckT_ok (I.blk scope sh H C cl fp) t1 tg1 h4') hv1) (fun sh H C cl fp => ckQ_ok ifs1 l1 (I.blk scope sh H C cl fp) h6') (fun sh H C cl fp => (ckE_ok a elt (I.blk scope sh H C cl fp) h7).r.val) (fsi h3) (fun env => fsi h3')) rfl
    · cases h
  | .call f es, s, X, c, W, e, I, h => by
    unfold ckE at h
    split at h
    · rename_i x p e1 l pos
      simp only [Bool.and_eq_true, decide_eq_true_eq] at h
      obtain ⟨⟨⟨⟨h1, h2⟩, h3⟩, h4⟩, h5⟩ := h
      obtain ⟨fa, fd, ps, hl, F, g1, g2, g3⟩ := I.fns.at_ f x h1
      have d := (ckEs_ok es _ I h5).d
      have key : DE X c W (.Call (.Name x p) (e1 :: l) [] pos) (callE ps.length (Γ f).2 (dsA (evs Γ es))) :=
        de_call I.kin I.xm I.tk (by rw [I.P, I.w, I.K, I.mg, I.base]; exact F) I.room (I.gl h2) (by rw [I.mg]; exact g1) (by rw [I.K]; exact g2) (by rw [I.K]; exact g3) d
          (I.fns.dbg _ (List.mem_of_getElem? h1)) (star_star h3) (stars_any h4)
      rw [hl] at key
      exact .of I key rfl
    · cases h
  | .cell a, s, X, c, W, e, I, h => by
    unfold ckE at h
    simp only [Bool.and_eq_true] at h
    exact .of I (de_cell (ckE_ok a e I h.2).r) h.1
  | .con i, s, X, c, W, e, I, h => by
    unfold ckE at h
    split at h
    · simp only [Bool.and_eq_true, decide_eq_true_eq] at h
      obtain ⟨⟨h1, h2⟩, h3⟩ := h
      exact .of I (de_con (I.gl h2) (by rw [I.mg]; exact I.cons.con _ _ h1) (nDbg_ok h3)) rfl
    · cases h
  | .mth f es, s, X, c, W, e, I, h => by
    unfold ckE at h
    split at h
    · rename_i x p e1 l pos
      simp only [Bool.and_eq_true, decide_eq_true_eq] at h
      obtain ⟨⟨⟨⟨⟨h1, h2⟩, h3⟩, h4⟩, h5⟩, h6⟩ := h
      have hm : X.mg x = some (.builtin f.id) := by rw [I.mg]; exact I.cons.mth _ _ h1
      have q := (ckEs_ok es _ I h6).p
      have key : CallR X (.builtin f.id) (Pn c f.g) := by
        cases f
        · exact c_gcd
        · exact c_lcm
      exact .of I (pe_bi (id := f.id) (tA := fun _ => tCB (Pn c f.g) tNil) (fun t ht => pe_callBfun key (I.gl h2) hm ht (nDbg_ok h3) (star_star h4) (stars_any h5)) q) rfl
    · cases h
  | .tget kvs a, s, X, c, W, e, I, h => by
    unfold ckE at h
    split at h
    · simp only [Bool.and_eq_true, decide_eq_true_eq] at h
      obtain ⟨⟨⟨⟨⟨⟨rfl, h1⟩, h2⟩, h3⟩, h4⟩, h5⟩, h6⟩ := h
      obtain ⟨A, hm, T⟩ := I.cons.tab _ _ h1
      exact .of I (de_tget (A := A) (by rw [I.K, I.w]; exact T) (I.gl h2) (by rw [I.mg]; exact hm) (nDbg_ok h3) (ckE_ok a _ I h6).r.val (abase rfl) (call1 h4) h5 (star_star h4)) rfl
    · cases h
  | .sset a, s, X, c, W, e, I, h => by
    unfold ckE at h
    split at h
    · simp only [Bool.and_eq_true] at h
      obtain ⟨⟨⟨h1, h2⟩, h3⟩, h4⟩ := h
      obtain ⟨rfl, g1, g2⟩ := I.blt h1 (by decide)
      obtain ⟨rfl, g3, g4⟩ := I.blt h2 (by decide)
      exact .of I (de_sset I.hK I.calm I.small g1 g2 g3 g4 (ckE_ok a _ I h4).r.val (star_star h3)) rfl
    · cases h
  | .lr1 a, s, X, c, W, e, I, h => by
    unfold ckE at h
    split at h
    · simp only [Bool.and_eq_true] at h
      obtain ⟨⟨⟨h1, h2⟩, h3⟩, h4⟩ := h
      obtain ⟨rfl, g1, g2⟩ := I.blt h1 (by decide)
      obtain ⟨rfl, g3, g4⟩ := I.blt h2 (by decide)
      exact .of I (de_lr I.calm g1 g2 (rg_make g3 g4 (da_cons (ckE_ok a _ I h4).r.val da_nil (star_star h3)) rgA1_ok rfl (star_star h3) rfl) rfl) rfl
    · cases h
  | .lr2 a b, s, X, c, W, e, I, h => by
    unfold ckE at h
    split at h
    · simp only [Bool.and_eq_true] at h
      obtain ⟨⟨⟨⟨⟨h1, h2⟩, h3⟩, h3'⟩, h4⟩, h5⟩ := h
      obtain ⟨rfl, g1, g2⟩ := I.blt h1 (by decide)
      obtain ⟨rfl, g3, g4⟩ := I.blt h2 (by decide)
      exact .of I (de_lr I.calm g1 g2 (rg_make g3 g4 (da_cons (ckE_ok a _ I h4).r.val (da_cons (ckE_ok b _ I h5).r.val da_nil (star_star h3')) (star_star h3)) rgA2_ok rfl (star_star h3) (by rw [star_star h3']; rfl)) rfl) rfl
    · cases h
  | .lr3 a b d, s, X, c, W, e, I, h => by
    unfold ckE at h
    split at h
    · simp only [Bool.and_eq_true] at h
      obtain ⟨⟨⟨⟨⟨⟨⟨h1, h2⟩, h3⟩, h3'⟩, h3''⟩, h4⟩, h5⟩, h6⟩ := h
      obtain ⟨rfl, g1, g2⟩ := I.blt h1 (by decide)
      obtain ⟨rfl, g3, g4⟩ := I.blt h2 (by decide)
      exact .of I (de_lr I.calm g1 g2 (rg_make g3 g4 (da_cons (ckE_ok a _ I h4).r.val (da_cons (ckE_ok b _ I h5).r.val (da_cons (ckE_ok d _ I h6).r.val da_nil (star_star h3'')) (star_star h3')) (star_star h3)) rgA3_ok rfl (star_star h3) (by rw [star_star h3', star_star h3'']; rfl)) rfl) rfl
    · cases h
theorem ckEs_ok : ∀ (ir : Es) {s : Sc} {X : Cx} {c : Cn} {W : WX} (es : List Expr), EnvOk Gb k Γ s X c W → ckEs Gb.FN ir s es = true → SA X c W es (evs Γ ir)
  | .nil, s, X, c, W, es, I, h => by
    unfold ckEs at h
    split at h
    · exact ⟨de_anil, de_anil, da_nil, fun _ => dr_nil⟩
    · cases h
  | .cons a as, s, X, c, W, es, I, h => by
    unfold ckEs at h
    split at h
    · rename_i e l
      simp only [Bool.and_eq_true] at h
      have q := ckE_ok a e I h.1.2
      have qs := ckEs_ok as l I h.2
      have h1 := star_star (X := X) (es := l) h.1.1
      exact ⟨de_acons q.g qs.p h1, de_acons q.r.val.g qs.v h1, da_cons q.r.val qs.d h1, fun z => by
        simp only [List.all_cons, Bool.and_eq_true] at z
        exact dr_cons q.r (qs.r z.2) h1⟩
    · cases h
  | .star a as, s, X, c, W, es, I, h => by
    unfold ckEs at h
    split at h
    · rename_i e p l
      simp only [Bool.and_eq_true] at h
      have q := ckE_ok a e I h.1
      have qs := ckEs_ok as l I h.2
      exact ⟨de_star I.hK q.g qs.p, de_star I.hK q.g qs.v, ⟨fun pos pins sh σ H Q _ ⟨w, st, r, p⟩ => p.elim⟩, fun z => by cases z⟩
    · cases h
theorem ckO_ok : ∀ (ir : Oe) {s : Sc} {X : Cx} {c : Cn} {W : WX} (o : Option Expr), EnvOk Gb k Γ s X c W → ckO Gb.FN ir s o = true → DO X c W o (evO Γ ir)
  | .non, s, X, c, W, o, I, h => by
    unfold ckO at h
    split at h
    · exact do_none
    · cases h
  | .som a, s, X, c, W, o, I, h => by
    unfold ckO at h
    split at h
    · exact do_some (ckE_ok a _ I h).r.val
    · cases h
theorem ckQ_ok : ∀ (ir : Oe) {s : Sc} {X : Cx} {c : Cn} {W : WX} (o : List Expr), EnvOk Gb k Γ s X c W → ckQ Gb.FN ir s o = true → DTs X c W o (evT Γ ir)
  | .non, s, X, c, W, o, I, h => by
    unfold ckQ at h
    split at h
    · exact dts_nil
    · cases h
  | .som a, s, X, c, W, o, I, h => by
    unfold ckQ at h
    split at h
    · exact dts_one (ckE_ok a _ I h).t
    · cases h
theorem ckI_ok : ∀ (ir : It) {s : Sc} {X : Cx} {c : Cn} {W : WX} (tg e : Expr), EnvOk Gb k Γ s X c W → ckI Gb.FN ir s tg e = true → DI X c W tg e (evI Γ ir)
  | .seq a, s, X, c, W, tg, e, I, h => di_seq I.hK (ckE_ok a e I h).r.val
  | .rg1 a, s, X, c, W, tg, e, I, h => by
    unfold ckI at h
    split at h
    · simp only [Bool.and_eq_true] at h
      obtain ⟨⟨h1, h2⟩, h3⟩ := h
      obtain ⟨rfl, g1, g2⟩ := I.blt h1 (by decide)
      exact di_rg1 g1 g2 (da_cons (ckE_ok a _ I h3).r.val da_nil (star_star h2)) (star_star h2)
    · cases h
  | .rg2 a b, s, X, c, W, tg, e, I, h => by
    unfold ckI at h
    split at h
    · simp only [Bool.and_eq_true] at h
      obtain ⟨⟨⟨⟨h1, h2⟩, h2'⟩, h3⟩, h4⟩ := h
      obtain ⟨rfl, g1, g2⟩ := I.blt h1 (by decide)
      exact di_rg2 g1 g2 (da_cons (ckE_ok a _ I h3).r.val (da_cons (ckE_ok b _ I h4).r.val da_nil (star_star h2')) (star_star h2)) (by rw [star_star h2, star_star h2']; rfl) (star_star h2')
    · cases h
  | .rg3 a b d, s, X, c, W, tg, e, I, h => by
    unfold ckI at h
    split at h
    · simp only [Bool.and_eq_true] at h
      obtain ⟨⟨⟨⟨⟨⟨h1, h2⟩, h2'⟩, h2''⟩, h3⟩, h4⟩, h5⟩ := h
      obtain ⟨rfl, g1, g2⟩ := I.blt h1 (by decide)
      exact di_rg3 g1 g2 (da_cons (ckE_ok a _ I h3).r.val (da_cons (ckE_ok b _ I h4).r.val (da_cons (ckE_ok d _ I h5).r.val da_nil (star_star h2'')) (star_star h2')) (star_star h2)) (star_star h2) (by rw [star_star h2', star_star h2'']; rfl)
    · cases h
  | .enum a, s, X, c, W, tg, e, I, h => by
    unfold ckI at h
    split at h
    · simp only [Bool.and_eq_true] at h
      obtain ⟨⟨h1, h2⟩, h3⟩ := h
      obtain ⟨rfl, g1, g2⟩ := I.blt h1 (by decide)
      exact di_enum I.hK g1 g2 (da_cons (ckE_ok a _ I h3).r.val da_nil (star_star h2)) (star_star h2)
    · cases h
  | .zip a b, s, X, c, W, tg, e, I, h => by
    unfold ckI at h
    split at h
    · simp only [Bool.and_eq_true] at h
      obtain ⟨⟨⟨⟨h1, h2⟩, h2'⟩, h3⟩, h4⟩ := h
      obtain ⟨rfl, g1, g2⟩ := I.blt h1 (by decide)
      exact di_zip I.hK g1 g2 (da_cons (ckE_ok a _ I h3).r.val (da_cons (ckE_ok b _ I h4).r.val da_nil (star_star h2')) (star_star h2)) (star_star h2) (by rw [star_star h2']; rfl)
    · cases h
end
end
end Pv
namespace Pv
open PySem PySem.Spec PyProof.Rows L2
/-! ### statements -/
section
variable {X : Cx} {c : Cn} {W : WX} {w : Wt} {st : Sto} {σ : Sv} {H H' : Hp} {elt tg iter : Expr} {ifs : List Expr} {pos px spos : Pos} {x : Str} {i : Nat}
theorem ds_setLc {m : M (List D)} {t : Tf} {tt : M Bool} {te : M D} {scope : Scope} {own : List (Str × Nat)} (hc : X.calm = true) (hN : X.N.Nodup) (hy : X.N[i]? = some x) (hyl : X.env.scope.names.lookup x = some .local)
    (hsw : swapsWith (.ListComp elt [⟨tg, iter, ifs, 0⟩] scope pos) (some (.Name x px)) spos.line X.env = pure true) (hi : DI X c W tg iter m) (ok : BlkOk X.N X.env.scope scope own)
    (hg : ∀ (s : Shared) (H : Hp) (C : Addr) (cl : List (Str × Addr)) (fp : List Addr), DTg (X.blk s H scope (compEnvC scope cl C X.env) fp) c (own.map (·.2)) tg t)
    (ht : ∀ (s : Shared) (H : Hp) (C : Addr) (cl : List (Str × Addr)) (fp : List Addr), DTs (X.blk s H scope (compEnvC scope cl C X.env) fp) c noX ifs tt)
    (he : ∀ (s : Shared) (H : Hp) (C : Addr) (cl : List (Str × Addr)) (fp : List Addr), DV (X.blk s H scope (compEnvC scope cl C X.env) fp) c noX elt te) (hs : ∀ x, foldedSetIterable iter X.env x = pure x) :
    DS X c W (.Assign [.Name x px] (.ListComp elt [⟨tg, iter, ifs, 0⟩] scope pos) spos) (setM i (lcM (own.map (·.2)) m t tt te)) := by
  refine PS.less (ps_setLc hc hN hy hyl hsw hi ok hg ht he hs) fun D σ H ⟨w, st, r, t0, p⟩ => ?_
  refine tlc_of ⟨w, st, r, (Sst.bind p t0).mono fun v1 H1 ⟨r0, w1, st1, r1, q1, x1, p1⟩ => ?_⟩
  rw [t0] at q1
  exact p1.store r1 q1
end
variable (FN : Gn)
def isName (s : Sc) : Expr → Bool
  | .Name x _ => lclB s x
  | _ => false
/-- these stores are not swapped -/
def noSw (s : Sc) (tg e : Expr) : Bool := match tg, e with
  | .Tuple ts _ _, .Tuple vs _ _ => !(ts.length == 2 || ts.length == 3) || vs.all (foldedForSure 8) || ts.any (fun t => !isName s t)
  | .List .., _ => false
  | _, _ => true
def isLc : E → Bool
  | .lc .. => true
  | .lc2 .. => true
  | _ => false
/-- what is asked of a comprehension that a name takes at once -/
def swB (s : Sc) (x : Str) (px pos : Pos) (scope : Scope) : Bool := lclB s x && (px.line == pos.line) && !(scope.names.any fun (n, k) => n == x && (k == .local || k == .cell))
def parNm (s : Sc) (l : Nat) : List Nat → List Expr → Option (List Str)
  | [], [] => some []
  | i :: is, .Name x px :: es => if decide (s.N[i]? = some x) && lclB s x && (px.line == l) then (parNm s l is es).map (x :: ·) else none
  | _, _ => none
def parG (s : Sc) : List Nat → List Expr → Bool
  | [], [] => true
  | i :: is, .Name x _ :: es => ckL s i x && parG s is es
  | _, _ => false
def nFold : List Expr → Bool := fun vs => !(vs.all (foldedForSure 8)) && !(vs.all (constantsAlone 8)) && vs.all nStar
mutual
def ckS : S → Sc → Stmt → Bool
  | .set i a, s, t => match t with
    | .Assign [.Name x px] e p => ckL s i x && (nComp e || isLc a) && ckE FN a s e
    | _ => false
  | .asg t a, s, st => match st with
    | .Assign [tg] e _ => nStar tg && noSw s tg e && nComp e && ckT t s tg && ckE FN a s e
    | _ => false
  | .par is es, s, st => match st with
    | .Assign [.Tuple tl k1 p1] (.Tuple l k2 p2) _ => (((match tl with | t :: _ => (match parNm s t.pos.line is tl with | some ns => decide (ns.Nodup) && (decide (tl.length = 2) || decide (tl.length = 3)) && decide (l.length = tl.length) | none => false) | [] => false) && nFold l) ||
        (parG s is tl && decide is.Nodup && decide (is.length ≤ 100) && l.all nStar && noSw s (.Tuple tl k1 p1) (.Tuple l k2 p2))) && ckEs FN es s l
    | _ => false
  | .six i k a, s, st => match st with
    | .Assign [.Subscript (.Name x _) e1 _] e2 _ => ckN s i x && nComp e2 && nSlice e1 && ckE FN k s e1 && ckE FN a s e2
    | _ => false
  | .aug i a, s, st => match st with
    | .AugAssign (.Name x _) .Add e _ => ckL s i x && ckE FN a s e
    | _ => false
  | .ret a, s, st => match st with
    | .Return (some e) _ => ckE FN a s e
    | _ => false
  | .retN, s, st => match st with
    | .Return none _ => true
    | _ => false
  | .ex a, s, st => match st with
    | .Expr e _ => nComp e && ckE FN a s e
    | _ => false
  | .pass, s, st => match st with
    | .Pass _ => true
    | _ => false
  | .brk, s, st => match st with
    | .Break _ => true
    | _ => false
  | .cont, s, st => match st with
    | .Continue _ => true
    | _ => false
  | .if_ c a b, s, st => match st with
    | .If e l m _ => ckE FN c s e && ckSs a s l && ckSs b s m
    | _ => false
  | .wh c b, s, st => match st with
    | .While e l [] _ => ckE FN c s e && ckSs b s l
    | _ => false
  | .for_ t it b, s, st => match st with
    | .For tg iter l [] _ => nSet iter && ckT t s tg && ckI FN it s tg iter && ckSs b s l
    | _ => false
def ckSs : Ss → Sc → List Stmt → Bool
  | .nil, s, l => match l with
    | [] => true
    | _ => false
  | .cons a as, s, l => match l with
    | t :: l => ckS a s t && ckSs as s l
    | [] => false
end
/-- where a body stands -/
structure StOk (G : Glob) (k : Nat) (Γ : Nat → Nat × Fn) (s : Sc) (X : Cx) (c : Cn) (W : WX) : Prop extends EnvOk G k Γ s X c W where
  hp : PassesOwn (model X.prog X.w) X.A X.env X.xe
  kind : s.sc.kind = .function
section
variable {Gb : Glob} {k : Nat} {Γ : Nat → Nat × Fn} {s : Sc} {X : Cx} {c : Cn} {W : WX} {e tg : Expr} {pos px py pz pt : Pos} {x y z : Str} {i j l kk : Nat} {vs : List Expr}
theorem StOk.block (I : StOk Gb k Γ s X c W) : X.env.blockKind = .function := by
  unfold Env.blockKind; rw [I.sc, I.kind]; rfl
theorem sw_no (h : nComp e = true) (t : Option Expr) (l : Nat) : swapsWith e t l X.env = pure false := by
  cases e <;> first | rfl | cases h
theorem sws_no (h : nComp e = true) (l : Nat) : swapsWithSole [tg] e l X.env = pure false := by
  cases e <;> first | rfl | cases h
theorem sw_lc (I : StOk Gb k Γ s X c W) {elt : Expr} {gs : List Comprehension} {scope : Scope} : swapsWith (.ListComp elt gs scope pos) (some (.Name x px)) l X.env = pure (lclB s x && (px.line == pos.line) && !(scope.names.any fun (n, k) => n == x && (k == .local || k == .cell))) := by
  have h1 := I.block
  have h2 : (X.env.kindOf x == some .local) = lclB s x := by
    show (X.env.scope.names.lookup x == some .local) = _
    rw [I.sc]; unfold lclB
    cases s.sc.names.lookup x with
    | none => rfl
    | some q => cases q <;> rfl
  unfold swapsWith
  simp only [h1, h2]
  simp [Expr.pos]
theorem kind_lcl (I : StOk Gb k Γ s X c W) (h : lclB s x = true) : X.env.kindOf x = some .local ∧ X.env.scope.names.lookup x = some .local := by
  have : X.env.scope.names.lookup x = some .local := by
    rw [I.sc]; unfold lclB at h
    split at h
    · assumption
    · cases h
  exact ⟨this, this⟩
theorem noSw_ok (I : StOk Gb k Γ s X c W) (h : noSw s tg e = true) : swappedStores [tg] e X.env = pure none := by
  unfold noSw at h
  split at h
  · rename_i ts k1 p1 vs k2 p2
    unfold swappedStores
    simp only
    split
    · rfl
    · rename_i h1
      split
      · rfl
      · split
        · rfl
        · split
          · rfl
          · rename_i h2 h3 h4
            exfalso
            simp only [Bool.or_eq_true, not_or] at h h1
            rcases h with (h | h) | h
            · exact h1.1.1 h
            · exact h4 h
            · obtain ⟨t, ht, hn⟩ := List.any_eq_true.mp h
              simp only [Bool.or_eq_true, not_or, bne_iff_ne, ne_eq, Decidable.not_not] at h3
              have q := List.filterMap_length_eq_length.mp h3.1 t ht
              cases t <;> first | (simp at q; done) | skip
              rename_i id pos
              have hl : lclB s id = false := by simpa [isName] using hn
              have hk : (X.env.kindOf id == some .local) = lclB s id := by
                show (X.env.scope.names.lookup id == some .local) = _
                rw [I.sc]; unfold lclB
                cases s.sc.names.lookup id with
                | none => rfl
                | some q => cases q <;> rfl
              rw [hl] at hk
              simp [hk] at q
  · cases h
  · rename_i n1 n2
    unfold swappedStores
    cases tg <;> first | rfl | skip
    · rename_i el ps
      exact (n1 el ps rfl).elim
    · cases e <;> first | rfl | skip
      exact (n2 _ _ _ _ _ _ rfl rfl).elim
end
end Pv
namespace Pv
open PySem PySem.Spec PyProof.Rows L2
section
variable {Gb : Glob} {k : Nat} {Γ : Nat → Nat × Fn} {s : Sc} {X : Cx} {c : Cn} {W : WX} {e tg : Expr} {pos px py pz pt pt2 : Pos} {x y z : Str} {i j l kk k2 : Nat} {vs : List Expr} {Wb : Nat}
theorem fold_ok (h : nFold vs = true) : vs.all (foldedForSure 8) = false ∧ vs.all (constantsAlone 8) = false ∧ vs.all nStar = true := by
  unfold nFold at h
  simp only [Bool.and_eq_true, Bool.not_eq_true'] at h
  exact ⟨h.1.1, h.1.2, h.2⟩
theorem any_star : ∀ {vs : List Expr}, vs.all nStar = true → (vs.any fun | .Starred .. => true | _ => false) = false
  | [], _ => rfl
  | e :: vs, h => by
    simp only [List.all_cons, Bool.and_eq_true] at h
    rw [List.any_cons, any_star h.2, Bool.or_false]
    cases e <;> first | rfl | cases h.1
theorem two_of {α : Type} : ∀ {l : List α}, l.length = 2 → ∃ a b, l = [a, b]
  | [a, b], _ => ⟨a, b, rfl⟩
  | [], h => by cases h
  | [_], h => by cases h
  | _ :: _ :: _ :: _, h => by simp at h
theorem three_of {α : Type} : ∀ {l : List α}, l.length = 3 → ∃ a b d, l = [a, b, d]
  | [a, b, d], _ => ⟨a, b, d, rfl⟩
  | [], h => by cases h
  | [_], h => by cases h
  | [_, _], h => by cases h
  | _ :: _ :: _ :: _ :: _, h => by simp at h
theorem sw2 (I : StOk Gb k Γ s X c W) {a b : Expr} (hx : lclB s x = true) (hy : lclB s y = true) (hl : (py.line == px.line) = true) (hn : x ≠ y) (hf : nFold [a, b] = true) :
    swappedStores [.Tuple [.Name x px, .Name y py] kk pt] (.Tuple [a, b] k2 pt2) X.env = pure (some [x, y]) := by
  obtain ⟨f1, f2, f3⟩ := fold_ok hf
  have hb := I.block
  obtain ⟨kx, _⟩ := kind_lcl I hx
  obtain ⟨ky, _⟩ := kind_lcl I hy
  have hl' : py.line = px.line := by simpa using hl
  unfold swappedStores
  simp only [f1, f2, any_star f3, hb]
  have hd : ([x, y] : List Str).eraseDups.length = 2 := by
    have : (y == x) = false := by simpa using Ne.symm hn
    simp [List.eraseDups_cons, this]
  simp [Expr.pos, kx, ky, hl', hd]
  intro hh
  exfalso
  simp only [List.all_cons, List.all_nil, Bool.and_true, Bool.and_eq_true] at f3
  rcases hh with hh | hh
  · obtain ⟨f3, _⟩ := f3; cases a <;> first | (cases hh; done) | (cases f3; done)
  · obtain ⟨_, f3⟩ := f3; cases b <;> first | (cases hh; done) | (cases f3; done)
theorem sw3 (I : StOk Gb k Γ s X c W) {a b d : Expr} (hx : lclB s x = true) (hy : lclB s y = true) (hz : lclB s z = true) (hl : (py.line == px.line) = true) (hl2 : (pz.line == px.line) = true) (hn : x ≠ y) (hn2 : x ≠ z) (hn3 : y ≠ z) (hf : nFold [a, b, d] = true) :
    swappedStores [.Tuple [.Name x px, .Name y py, .Name z pz] kk pt] (.Tuple [a, b, d] k2 pt2) X.env = pure (some [x, y, z]) := by
  obtain ⟨f1, f2, f3⟩ := fold_ok hf
  have hb := I.block
  obtain ⟨kx, _⟩ := kind_lcl I hx
  obtain ⟨ky, _⟩ := kind_lcl I hy
  obtain ⟨kz, _⟩ := kind_lcl I hz
  have hl' : py.line = px.line := by simpa using hl
  have hl2' : pz.line = px.line := by simpa using hl2
  unfold swappedStores
  simp only [f1, f2, any_star f3, hb]
  have hd : ([x, y, z] : List Str).eraseDups.length = 3 := by
    have h1 : (y == x) = false := by simpa using Ne.symm hn
    have h2 : (z == x) = false := by simpa using Ne.symm hn2
    have h3 : (z == y) = false := by simpa using Ne.symm hn3
    simp [List.eraseDups_cons, h1, h2, h3]
  simp [Expr.pos, kx, ky, kz, hl', hl2', hd]
  intro hh
  exfalso
  simp only [List.all_cons, List.all_nil, Bool.and_true, Bool.and_eq_true] at f3
  rcases hh with hh | hh | hh
  · obtain ⟨f3, _⟩ := f3; cases a <;> first | (cases hh; done) | (cases f3; done)
  · obtain ⟨_, f3, _⟩ := f3; cases b <;> first | (cases hh; done) | (cases f3; done)
  · obtain ⟨_, _, f3⟩ := f3; cases d <;> first | (cases hh; done) | (cases f3; done)
theorem ix_of (I : StOk Gb k Γ s X c W) (h : s.N[i]? = some x) : X.N[i]? = some x := by rw [I.N]; exact h
theorem parNm_cons {is : List Nat} {es : List Expr} {ns : List Str} (h : parNm s l (i :: is) es = some ns) : ∃ x px es' ns', es = .Name x px :: es' ∧ s.N[i]? = some x ∧ lclB s x = true ∧ (px.line == l) = true ∧ parNm s l is es' = some ns' ∧ ns = x :: ns' := by
  cases es with
  | nil => cases h
  | cons e es =>
    cases e <;> first | cases h | skip
    rename_i x px
    unfold parNm at h
    split at h
    · rename_i q
      simp only [Bool.and_eq_true, decide_eq_true_eq] at q
      obtain ⟨ns', h1, h2⟩ := Option.map_eq_some_iff.mp h
      exact ⟨x, px, es, ns', rfl, q.1.1, q.1.2, q.2, h1, h2.symm⟩
    · cases h
theorem parNm_nil {es : List Expr} {ns : List Str} (h : parNm s l [] es = some ns) : es = [] ∧ ns = [] := by
  cases es with
  | nil => cases h; exact ⟨rfl, rfl⟩
  | cons e es => cases h
theorem parNm_len : ∀ {is : List Nat} {es : List Expr} {ns : List Str}, parNm s l is es = some ns → is.length = es.length
  | [], es, ns, h => by rw [(parNm_nil h).1]; rfl
  | i :: is, es, ns, h => by
    obtain ⟨x, px, es', ns', rfl, _, _, _, h2, _⟩ := parNm_cons h
    simp [parNm_len h2]
theorem ne_ix (I : StOk Gb k Γ s X c W) (h1 : s.N[i]? = some x) (h2 : s.N[j]? = some y) (h : x ≠ y) : i ≠ j := fun q => h (by
  subst q; rw [h1] at h2; exact Option.some.inj h2)
theorem ds_parN (I : StOk Gb k Γ s X c W) {is : List Nat} {tl l : List Expr} {t : Expr} {tl' : List Expr} {ns : List Str} {ms : List (M R)} (ht : tl = t :: tl') (hp : parNm s t.pos.line is tl = some ns) (nd : ns.Nodup) (hl : tl.length = 2 ∨ tl.length = 3) (hll : l.length = tl.length) (hf : nFold l = true) (h : DRs X c l ms) :
    DS X c W (.Assign [.Tuple tl kk pt] (.Tuple l k2 pt2) pos) (parM is ms) := by
  have hN : X.N.Nodup := by rw [I.N]; exact I.nd
  rcases hl with h2 | h3
  · have hi := parNm_len hp
    rw [h2] at hi hll
    obtain ⟨i, j, rfl⟩ := two_of hi
    obtain ⟨e1, e2, rfl⟩ := two_of h2
    obtain ⟨a, b, rfl⟩ := two_of hll
    · obtain ⟨x, px, es1, ns1, e1', i1, l1, g1, hp1, rfl⟩ := parNm_cons hp
      cases e1'
      cases ht
      obtain ⟨y, py, es2, ns2, e2', i2, l2, g2, hp2, rfl⟩ := parNm_cons hp1
      cases e2'
      obtain ⟨_, rfl⟩ := parNm_nil hp2
      have hn : x ≠ y := by
        have := List.nodup_cons.mp nd
        simpa using this.1
      exact ds_par2 I.calm hN (ix_of I i1) (ix_of I i2) (ne_ix I i1 i2 hn) (kind_lcl I l1).2 (kind_lcl I l2).2 h (sw2 I l1 l2 g2 hn hf) rfl
  · have hi := parNm_len hp
    rw [h3] at hi hll
    obtain ⟨i, j, q, rfl⟩ := three_of hi
    obtain ⟨e1, e2, e3, rfl⟩ := three_of h3
    obtain ⟨a, b, d, rfl⟩ := three_of hll
    · obtain ⟨x, px, es1, ns1, e1', i1, l1, g1, hp1, rfl⟩ := parNm_cons hp
      cases e1'
      cases ht
      obtain ⟨y, py, es2, ns2, e2', i2, l2, g2, hp2, rfl⟩ := parNm_cons hp1
      cases e2'
      obtain ⟨z, pz, es3, ns3, e3', i3, l3, g3, hp3, rfl⟩ := parNm_cons hp2
      cases e3'
      obtain ⟨_, rfl⟩ := parNm_nil hp3
      have n1 := (List.nodup_cons.mp nd).1
      have n2 := (List.nodup_cons.mp (List.nodup_cons.mp nd).2).1
      have hn : x ≠ y := fun q => n1 (by simp [q])
      have hn2 : x ≠ z := fun q => n1 (by simp [q])
      have hn3 : y ≠ z := fun q => n2 (by simp [q])
      exact ds_par3 I.calm hN (ix_of I i1) (ix_of I i2) (ix_of I i3) (ne_ix I i1 i2 hn) (ne_ix I i1 i3 hn2) (ne_ix I i2 i3 hn3) (kind_lcl I l1).2 (kind_lcl I l2).2 (kind_lcl I l3).2 h (sw3 I l1 l2 l3 g2 g3 hn hn2 hn3 hf) rfl
theorem parG_ok (I : StOk Gb k Γ s X c W) : ∀ (is : List Nat) (es : List Expr), parG s is es = true → PGs X es (gNms is) ∧ (assignEach es X.env).length = is.length ∧ (assignEach es X.env).findIdx? (·.1) = none
  | [], [], _ => ⟨pgs_nil, rfl, rfl⟩
  | i :: is, e :: es, h => by
    cases e <;> first | cases h | skip
    rename_i x p
    simp only [parG, Bool.and_eq_true] at h
    obtain ⟨g1, g2, g3⟩ := I.toEnvOk.lc h.1
    obtain ⟨q1, q2, q3⟩ := parG_ok I is es h.2
    have e1 := assign_star (X := X) (e := .Name x p) (es := es) rfl
    refine ⟨pgs_cons (pg_name (by rw [I.N]; exact I.nd) g1 g2 g3) q1 rfl, by rw [e1]; simp [q2], ?_⟩
    rw [e1, List.findIdx?_cons]
    simp [q3]
  | [], e :: es, h => by simp [parG] at h
  | i :: is, [], h => by simp [parG] at h
mutual
theorem ckS_ok (I : StOk Gb k Γ s X c W) : ∀ (ir : S) (t : Stmt), ckS Gb.FN ir s t = true → DS X c W t (evS Γ Wb ir)
  | .set i a, t, h => by
    unfold ckS at h
    split at h
    · rename_i x px e p
      simp only [Bool.and_eq_true, Bool.or_eq_true] at h
      obtain ⟨⟨h1, h2⟩, h3⟩ := h
      obtain ⟨g1, g2, g3⟩ := I.toEnvOk.lc h1
      have hN : X.N.Nodup := by rw [I.N]; exact I.nd
      have q := (ckE_ok a e I.toEnvOk h3).r
      rcases h2 with h2 | h2
      · exact ds_set hN g1 g2 q (sw_no h2 _ _) g3
      · cases a <;> first | (cases h2; done) | skip
        · rename_i vs t it ifs a
          have h3' := h3
          unfold ckE at h3
          split at h3
          · rename_i elt tg iter l scope pos'
            simp only [Bool.and_eq_true, decide_eq_true_eq] at h3
            obtain ⟨⟨⟨⟨⟨⟨⟨rfl, c1⟩, c2⟩, c3⟩, c4⟩, c5⟩, c6⟩, c7⟩ := h3
            by_cases sw : (lclB s x && (px.line == pos'.line) && !(scope.names.any fun (n, k) => n == x && (k == .local || k == .cell))) = true
            · have hv : ∀ v ∈ t.vs, v ∈ (ownOf s.N scope).map (·.2) := fun v hv => by
                have := List.all_eq_true.mp c2 v hv
                simpa using this
              have sl : lclB s x = true := by
                simp only [Bool.and_eq_true] at sw; exact sw.1.1
              refine ds_setLc I.calm hN g1 (kind_lcl I sl).2 (by rw [sw_lc I, sw]) (ckI_ok it tg iter I.toEnvOk c5) (by rw [I.N, I.sc]; exact blkOk_by c1) (fun sh H C cl fp => ?_) (fun sh H C cl fp => ckQ_ok ifs l (I.toEnvOk.blk scope sh H C cl fp) c6) (fun sh H C cl fp => (ckE_ok a elt (I.toEnvOk.blk scope sh H C cl fp) c7).r.val) (fsi c3)
              exact DTg.more (ckT_ok (I.toEnvOk.blk scope sh H C cl fp) t tg c4) hv
            · exact ds_set hN g1 g2 q (by rw [sw_lc I]; rw [Bool.not_eq_true] at sw; rw [sw]) g3
          · cases h3
        · rename_i vs vs1 t it ifs t1 it1 ifs1 a
          have h3' := h3
          unfold ckE at h3
          split at h3
          · rename_i elt tg iter l tg1 iter1 l1 scope pos'
            simp only [Bool.and_eq_true, decide_eq_true_eq] at h3
            obtain ⟨⟨⟨⟨⟨⟨⟨⟨⟨⟨⟨⟨⟨rfl, c1⟩, c2⟩, c2'⟩, c2''⟩, c3⟩, c3'⟩, c4⟩, c5⟩, c6⟩, c4'⟩, c5'⟩, c6'⟩, c7⟩ := h3
            by_cases sw : (lclB s x && (px.line == pos'.line) && !(scope.names.any fun (n, k) => n == x && (k == .local || k == .cell))) = true
            · have hv : ∀ v ∈ t.vs, v ∈ (ownOf s.N scope).map (·.2) := fun v hv => by
                have := List.all_eq_true.mp c2 v hv
                simpa using this
              have hv1 : ∀ v ∈ t1.vs, v ∈ vs1 := fun v hv => by
                have := List.all_eq_true.mp c2' v hv
                simpa using this
              have hv2 : ∀ v ∈ vs1, v ∈ (ownOf s.N scope).map (·.2) := fun v hv => by
                have := List.all_eq_true.mp c2'' v hv
                simpa using this
              have sl : lclB s x = true := by
                simp only [Bool.and_eq_true] at sw; exact sw.1.1
              exact ds_setLc2 I.calm hN g1 (kind_lcl I sl).2 (by rw [sw_lc I, sw]) (ckI_ok it tg iter I.toEnvOk c5) (by rw [I.N, I.sc]; exact blkOk_by c1) hv2 (fun sh H C cl fp => DTg.more (ckT_ok (I.toEnvOk.blk scope sh H C cl fp) t tg c4) hv) (fun sh H C cl fp => ckQ_ok ifs l (I.toEnvOk.blk scope sh H C cl fp) c6)
                (fun sh H C cl fp => ckI_ok it1 tg1 iter1 (I.toEnvOk.blk scope sh H C cl fp) c5') (fun sh H C cl fp => DTg.more (ckT_ok (I.toEnvOk.blk scope sh H C cl fp) t1 tg1 c4') hv1) (fun sh H C cl fp => ckQ_ok ifs1 l1 (I.toEnvOk.blk scope sh H C cl fp) c6') (fun sh H C cl fp => (ckE_ok a elt (I.toEnvOk.blk scope sh H C cl fp) c7).r.val) (fsi c3) (fun env => fsi c3')
            · exact ds_set hN g1 g2 q (by rw [sw_lc I]; rw [Bool.not_eq_true] at sw; rw [sw]) g3
          · cases h3
    · cases h
  | .asg t a, st, h => by
    unfold ckS at h
    split at h
    · simp only [Bool.and_eq_true] at h
      obtain ⟨⟨⟨⟨h0, h1⟩, h2⟩, h3⟩, h4⟩ := h
      exact ds_asg (ckE_ok a _ I.toEnvOk h4).r.val (ckT_ok I.toEnvOk t _ h3) (sws_no h2 _) (noSw_ok I h1) (by rw [assign_star h0]; rfl)
    · cases h
  | .par is es, st, h => by
    unfold ckS at h
    split at h
    · simp only [Bool.and_eq_true] at h
      obtain ⟨h0, h3⟩ := h
      have hes := ckEs_ok es _ I.toEnvOk h3
      rcases Bool.or_eq_true_iff.mp h0 with h12 | hg
      · obtain ⟨h1, h2⟩ := Bool.and_eq_true_iff.mp h12
        split at h1
        · split at h1
          · rename_i ns hp
            simp only [Bool.and_eq_true, Bool.or_eq_true, decide_eq_true_eq] at h1
            exact ds_parN I rfl hp h1.1.1 h1.1.2 h1.2 h2 (hes.r (fold_ok h2).2.2)
          · cases h1
        · cases h1
      · simp only [Bool.and_eq_true, decide_eq_true_eq] at hg
        obtain ⟨⟨⟨⟨g1, g2⟩, g3⟩, g4⟩, g5⟩ := hg
        obtain ⟨q1, q2, q3⟩ := parG_ok I _ _ g1
        exact ds_parG I.toEnvOk.hK I.calm q1 q2 q3 g2 g3 (hes.r g4) rfl (noSw_ok I g5)
    · cases h
  | .six i kx a, st, h => by
    unfold ckS at h
    split at h
    · rename_i x p1 e1 p2 e2 p3
      simp only [Bool.and_eq_true] at h
      obtain ⟨⟨⟨⟨h1, h2⟩, h0⟩, h3⟩, h4⟩ := h
      obtain ⟨g1, g2, g3, g4⟩ := I.toEnvOk.nm h1
      exact ds_six g1 g2 g3 g4 (ckE_ok kx _ I.toEnvOk h3).r.val (ckE_ok a _ I.toEnvOk h4).r.val (sws_no h2 _) (noSw_ok (s := s) I (by cases e2 <;> rfl)) rfl (fun v => by cases e1 <;> first | rfl | cases h0)
    · cases h
  | .aug i a, st, h => by
    unfold ckS at h
    split at h
    · simp only [Bool.and_eq_true] at h
      obtain ⟨g1, g2, g3⟩ := I.toEnvOk.lc h.1
      exact ds_aug ip_add (by rw [I.N]; exact I.nd) g1 g2 (ckE_ok a _ I.toEnvOk h.2).r.val g3
    · cases h
  | .ret a, st, h => by
    unfold ckS at h
    split at h
    · exact ds_ret (ckE_ok a _ I.toEnvOk h).r
    · cases h
  | .retN, st, h => by
    unfold ckS at h
    split at h
    · exact ds_retN
    · cases h
  | .ex a, st, h => by
    unfold ckS at h
    split at h
    · simp only [Bool.and_eq_true] at h
      exact ds_expr (ckE_ok a _ I.toEnvOk h.2).r.val (sw_no h.1 _ _)
    · cases h
  | .pass, st, h => by
    unfold ckS at h
    split at h
    · exact ds_pass
    · cases h
  | .brk, st, h => by
    unfold ckS at h
    split at h
    · exact ds_break
    · cases h
  | .cont, st, h => by
    unfold ckS at h
    split at h
    · exact ds_cont
    · cases h
  | .if_ cc a b, st, h => by
    unfold ckS at h
    split at h
    · simp only [Bool.and_eq_true] at h
      exact ds_if (ckE_ok cc _ I.toEnvOk h.1.1).t (ckSs_ok I a _ h.1.2) (ckSs_ok I b _ h.2)
    · cases h
  | .wh cc b, st, h => by
    unfold ckS at h
    split at h
    · simp only [Bool.and_eq_true] at h
      exact ds_while I.hp (ckE_ok cc _ I.toEnvOk h.1).t (ckSs_ok I b _ h.2)
    · cases h
  | .for_ t it b, st, h => by
    unfold ckS at h
    split at h
    · simp only [Bool.and_eq_true] at h
      obtain ⟨⟨⟨h1, h2⟩, h3⟩, h4⟩ := h
      exact ds_for I.hp I.calm (ckI_ok it _ _ I.toEnvOk h3) (ckT_ok I.toEnvOk t _ h2) (ckSs_ok I b _ h4) (fsi h1)
    · cases h
theorem ckSs_ok (I : StOk Gb k Γ s X c W) : ∀ (ir : Ss) (t : List Stmt), ckSs Gb.FN ir s t = true → DSs X c W t (evSs Γ Wb ir)
  | .nil, t, h => by
    unfold ckSs at h
    split at h
    · exact ds_nil
    · cases h
  | .cons a as, t, h => by
    unfold ckSs at h
    split at h
    · simp only [Bool.and_eq_true] at h
      exact ds_cons (ckS_ok I a _ h.1) (ckSs_ok I as _ h.2)
    · cases h
end
end
end Pv
namespace Pv
open PySem PySem.Spec PyProof.Rows L2
/-! ### the functions of a program -/
structure FD where
  ps : List Str
  N : List Str
  body : Ss
def npOf (tbl : List FD) (i : Nat) : Nat := match tbl[i]? with
  | some fd => fd.ps.length
  | none => 0
def fnAt (tbl : List FD) (Wb : Nat) : Nat → Nat → Nat × Fn
  | 0, i => (npOf tbl i, fun _ _ => .stuck)
  | k + 1, i => (npOf tbl i, match tbl[i]? with
    | some fd => callF fd.N.length (evSs (fnAt tbl Wb k) Wb fd.body)
    | none => fun _ _ => .stuck)
/-- a def of the text, as it stands -/
structure FnIn (G : Glob) (x : Str) (fd : FD) : Prop where
  ex : ∃ (qual : Str) (params : Arguments) (body : List Stmt) (scope : Scope) (f : Addr) (fdt : FuncData), L2.FunD G.K x qual params body scope [] [] f fdt ∧ FnScope fd.N fd.ps scope ∧ L2.Binds G.K fdt fd.ps [] ∧ G.mg x = some (.ref f) ∧ ckSs G.FN fd.body ⟨fd.N, scope, fun _ => true⟩ body = true
structure TblOk (G : Glob) (tbl : List FD) : Prop where
  len : G.FN.fn.length = tbl.length
  each : ∀ (i : Nat) (x : Str) (fd : FD), G.FN.fn[i]? = some x → tbl[i]? = some fd → FnIn G x fd
  dbgF : ∀ x ∈ G.FN.fn, (x == ("__debug__" : Str)) = false
  dbgN : ∀ fd ∈ tbl, ∀ x ∈ fd.N, (x == ("__debug__" : Str)) = false ∧ (x == ("__classdict__" : Str)) = false
  bK : G.b.K = G.K
  xm : XMono G.b
  nob : ∀ x ∈ blts, G.mg x = none
  cons : ConsOk G
section
variable {G : Glob} {tbl : List FD} {Wb : Nat}
theorem spF_len {b : Cn} {n : Nat} {fn : Fn} {vs : List V} {H : Hp} {Q : VK} {E : XK} (h : spF b n fn vs H Q E) : vs.length = n := h.1
theorem fn_step (T : TblOk G tbl) {k : Nat} (ih : FnsOk G k (fnAt tbl Wb k)) {fd : FD} (hm : fd ∈ tbl) {x qual : Str} {params : Arguments} {body : List Stmt} {scope : Scope} {f : Addr} {fdt : FuncData}
    (F : FunD G.K x qual params body scope [] [] f fdt) (S : FnScope fd.N fd.ps scope) (ck : ckSs G.FN fd.body ⟨fd.N, scope, fun _ => true⟩ body = true) :
    FnOk G.P G.w G.K G.mg G.base (L2.CX G.P G.w) (k + 1) f fdt fd.ps (spF G.b fd.ps.length (callF fd.N.length (evSs (fnAt tbl Wb k) Wb fd.body))) := by
  refine F.ok S (fun vs H Q E h => spF_len h) fun cdv A outer sh H vs Q E hr h => ?_
  obtain ⟨hl, cs, S', Av, ds, sh', rp, h⟩ := h
  have hle : vs.length ≤ fd.N.length := by
    have := congrArg List.length S.pre
    rw [List.length_take] at this
    omega
  refine ⟨tSt (G.b.at H cs Av) (fun cls d _ H => E cls d H) (evSs (fnAt tbl Wb k) Wb fd.body), ?_, body_ok T.xm sh' rp hle h⟩
  exact ckSs_ok ⟨⟨rfl, rfl, rfl, rfl, rfl, Cn.at_kin _ _ _ _, T.bK, T.xm, rfl, S.nd, T.dbgN _ hm, rfl, rfl, rfl, takes_of rfl rfl rfl rfl, hr, ih, T.nob, T.cons⟩, passes_of rfl, S.kind⟩ _ _ ck
theorem fnAt_succ {k i : Nat} {fd : FD} (h : tbl[i]? = some fd) : (fnAt tbl Wb (k + 1) i).2 = callF fd.N.length (evSs (fnAt tbl Wb k) Wb fd.body) := by
  show (match tbl[i]? with
    | some fd => callF fd.N.length (evSs (fnAt tbl Wb k) Wb fd.body)
    | none => fun _ _ => .stuck) = _
  rw [h]
theorem fnAt_np {k i : Nat} {fd : FD} (h : tbl[i]? = some fd) : (fnAt tbl Wb k i).1 = fd.ps.length := by
  have e : (fnAt tbl Wb k i).1 = npOf tbl i := by cases k <;> rfl
  rw [e]; unfold npOf; rw [h]
theorem fns_ok (T : TblOk G tbl) : ∀ k, FnsOk G k (fnAt tbl Wb k)
  | 0 => by
    refine ⟨fun i x hx => ?_, T.dbgF⟩
    have hi : i < tbl.length := by rw [← T.len]; exact (List.getElem?_eq_some_iff.mp hx).1
    have ht : tbl[i]? = some tbl[i] := List.getElem?_eq_getElem hi
    obtain ⟨qual, params, body, scope, f, fdt, F, S, B, m, ck⟩ := (T.each i x _ hx ht).ex
    refine ⟨f, fdt, tbl[i].ps, (fnAt_np ht).symm, ⟨fun vs H Q E h => spF_len h, fun A outer sh H args us vs Q E _ _ _ _ h => ?_⟩, m, F.kp, B⟩
    obtain ⟨_, cs, S', Av, ds, _, _, h⟩ := h
    exact h.elim
  | k + 1 => by
    have ih := fns_ok T k
    refine ⟨fun i x hx => ?_, T.dbgF⟩
    have hi : i < tbl.length := by rw [← T.len]; exact (List.getElem?_eq_some_iff.mp hx).1
    have ht : tbl[i]? = some tbl[i] := List.getElem?_eq_getElem hi
    obtain ⟨qual, params, body, scope, f, fdt, F, S, B, m, ck⟩ := (T.each i x _ hx ht).ex
    exact ⟨f, fdt, tbl[i].ps, (fnAt_np ht).symm, by rw [fnAt_succ ht]; exact fn_step T ih (List.getElem_mem hi) F S ck, m, F.kp, B⟩
end
end Pv
namespace Pv
open PySem PySem.Spec PyProof.Rows L2
/-! ### a program's head -/
def cn0 (w : World) (K : PySem.W.Frag) : Cn := ⟨w, K, fun _ => none, [], fun _ => False, fun _ _ => False, fun _ _ _ _ _ _ => False⟩
section
variable {G : Glob} {h : Heap} {fas : List He.Fa} {dds : List He.DefD}
theorem FnIn.of (X : G.K.In h) (M : h.Ns mainGlobals G.mg) (c : He.SaysD fas dds G.K) {fd : FD} {x : Str} (i : Nat) {d : He.DefD} (hd : dds[i]? = some d) (ha : d.at_ = (x, none)) (h2 : d = ⟨(x, none), x, x, d.params, d.body, d.scope, [], []⟩)
    (hg : (He.Fa.glo x).ok G.K = true) (S : FnScope fd.N fd.ps d.scope)
    (hb : ∀ (kV doc pm : Value) (an : Option Addr) (cdv ct : Value) (us : List Value), us.length = fd.ps.length → bindArgs (PySem.W.fnOf x x d.params d.body d.scope .none kV doc pm an cdv ct) ⟨us, []⟩ = pure (fd.ps.zip us))
    (ck : ckSs G.FN fd.body ⟨fd.N, d.scope, fun _ => true⟩ d.body = true) : FnIn G x fd := by
  obtain ⟨fdt, F⟩ := c.def_ i hd
  have g := He.glo_ok X M hg
  rw [h2] at F
  refine ⟨⟨x, d.params, d.body, d.scope, _, fdt, F, S, ?_, g, ck⟩⟩
  exact F.bindsN hb
theorem TblOk.of {FN : Gn} {tbl : List FD} (hF : G.FN = FN) (hl : FN.fn.length = tbl.length) (each : ∀ p ∈ FN.fn.zip tbl, FnIn G p.1 p.2) (d1 : ∀ x ∈ FN.fn, (x == ("__debug__" : Str)) = false)
    (d2 : ∀ fd ∈ tbl, ∀ x ∈ fd.N, (x == ("__debug__" : Str)) = false ∧ (x == ("__classdict__" : Str)) = false) (hb : G.b = cn0 G.w G.K) (nob : ∀ x ∈ blts, G.mg x = none) (cons : ConsOk G) : TblOk G tbl where
  len := by rw [hF]; exact hl
  each := fun i x fd h1 h2 => by
    rw [hF] at h1
    refine each (x, fd) ?_
    obtain ⟨a1, a2⟩ := List.getElem?_eq_some_iff.mp h1
    obtain ⟨b1, b2⟩ := List.getElem?_eq_some_iff.mp h2
    rw [List.mem_iff_getElem]
    exact ⟨i, by simp; omega, by simp [a2, b2]⟩
  dbgF := by rw [hF]; exact d1
  dbgN := d2
  bK := by rw [hb]; rfl
  xm := by rw [hb]; exact fun _ _ _ _ _ _ _ _ h => h
  nob := nob
  cons := cons
theorem free_all (X : G.K.In h) (M : h.Ns mainGlobals G.mg) (c : He.SaysD fas dds G.K) (n m : Nat) (hf : (fas.drop n).take m = blts.map He.Fa.free) : ∀ x ∈ blts, G.mg x = none := by
  intro x hx
  have hm : He.Fa.free x ∈ fas := by
    have : He.Fa.free x ∈ (fas.drop n).take m := by rw [hf]; exact List.mem_map.mpr ⟨x, hx, rfl⟩
    exact List.mem_of_mem_drop (List.mem_of_mem_take this)
  obtain ⟨i, hi, e⟩ := List.mem_iff_getElem.mp hm
  exact He.free_ok X M (c.fact i (by rw [List.getElem?_eq_getElem hi, e]))
/-! ### the hook: tables, names of math -/
abbrev Tabs := List (Str × List (String × Option Int))
def tabKeys (t : Str × List (String × Option Int)) : He.Tab := (fun K => He.ga K t.1, t.2.filterMap fun q => q.2.map fun _ => Str.ofString q.1)
def mthB (ms : List (Str × String)) (K : PySem.W.Frag) : Bool := ms.all fun p => He.eqO (PySem.W.nsIn K mainGlobals p.1) (some (some (.builtin p.2)))
def cellB (o : Option Int) (v : Option (Option Value)) : Bool := match o, v with
  | some i, some (some (.int j _)) => decide (j = i)
  | none, some none => true
  | _, _ => false
def tabB (ts : Tabs) (K : PySem.W.Frag) : Bool := ts.all fun t => He.eqO (PySem.W.nsIn K mainGlobals t.1) (some (some (.ref (He.ga K t.1)))) && t.2.all fun q => cellB q.2 (PySem.W.nsIn K (He.ga K t.1) (Str.ofString q.1))
abbrev AlP : Type := He.AlT × Bool
def obsP (fa : List He.Fa) (fn : List He.DefD) (ms : List (Str × String)) (ts : Tabs) (K : PySem.W.Frag) : AlP := (He.obsT fa fn (ts.map tabKeys) K, mthB ms K && tabB ts K)
def valP (fn : List He.DefD) (ts : Tabs) (w : World) : AlP := (He.valT fn (ts.map tabKeys) w, true)
def obsPG (n : Nat) (fa : List He.Fa) (fn : List He.DefD) (ms : List (Str × String)) (ts : Tabs) (g : Addr → Option Obj) : AlP := obsP fa fn ms ts (He.frG g (He.asD g n))
def SaysP (fa : List He.Fa) (fn : List He.DefD) (ms : List (Str × String)) (ts : Tabs) (w : World) (K : PySem.W.Frag) : Prop := obsP fa fn ms ts K = valP fn ts w
def hookP (n : Nat) (fa : List He.Fa) (fn : List He.DefD) (ms : List (Str × String)) (ts : Tabs) : PySem.W.Hook where
  α := AlP
  obs := fun s => obsPG n fa fn ms ts s.heap.get?
  val := fun w => valP fn ts w
  says := fun w h => ∃ K : PySem.W.Frag, K.In h ∧ SaysP fa fn ms ts w K
  of := fun _ _ e => ⟨_, He.frG_in, e⟩
  keeps := fun _ _ _ ⟨K, hK, c⟩ k => ⟨K, PySem.W.Frag.In.keeps hK k, c⟩
theorem obsPG_eq {n : Nat} {fa : List He.Fa} {fn : List He.DefD} {ms : List (Str × String)} {ts : Tabs} {g : Addr → Option Obj} {s : Shared} (h : ∀ a, g a = s.heap.get? a) : obsPG n fa fn ms ts g = (hookP n fa fn ms ts).obs s := by
  have e : g = s.heap.get? := funext h
  rw [e] <;> rfl
section
variable {ms : List (Str × String)} {ts : Tabs} {w : World}
theorem SaysP.t {K : PySem.W.Frag} (c : SaysP fas dds ms ts w K) : He.SaysT fas dds (ts.map tabKeys) w K := congrArg (fun z : AlP => z.1) c
theorem SaysP.d {K : PySem.W.Frag} (c : SaysP fas dds ms ts w K) : He.SaysD fas dds K := c.t.d
theorem SaysP.mth (X : G.K.In h) (M : h.Ns mainGlobals G.mg) (c : SaysP fas dds ms ts w G.K) {x : Str} {n : String} (hx : (x, n) ∈ ms) : G.mg x = some (.builtin n) := by
  have e := (Bool.and_eq_true_iff.mp (congrArg (fun z : AlP => z.2) c : (mthB ms G.K && tabB ts G.K) = true)).1
  have e2 := List.all_eq_true.mp e _ hx
  exact PySem.W.mg_of X M (He.eqO_ok e2)
theorem cellB_some {i : Int} {v : Option (Option Value)} (h : cellB (some i) v = true) : ∃ t, v = some (some (.int i t)) := by
  unfold cellB at h
  split at h
  · rename_i e
    cases e
    have := of_decide_eq_true h
    subst this
    exact ⟨_, rfl⟩
  · rename_i e; cases e
  · cases h
theorem cellB_none {v : Option (Option Value)} (h : cellB none v = true) : v = some none := by
  unfold cellB at h
  split at h
  · rename_i e; cases e
  · rfl
  · cases h
theorem SaysP.tab (X : G.K.In h) (M : h.Ns mainGlobals G.mg) (c : SaysP fas dds ms ts w G.K) {x : Str} {kvs : List (String × Option Int)} (hx : (x, kvs) ∈ ts) : ∃ a, G.mg x = some (.ref a) ∧ TabAt G.K w a kvs := by
  have e := (Bool.and_eq_true_iff.mp (congrArg (fun z : AlP => z.2) c : (mthB ms G.K && tabB ts G.K) = true)).2
  have e2 := Bool.and_eq_true_iff.mp (List.all_eq_true.mp e _ hx)
  refine ⟨He.ga G.K x, PySem.W.mg_of X M (He.eqO_ok e2.1), ?_, fun q hq => by
    have hb := List.all_eq_true.mp e2.2 q hq
    revert hb
    obtain ⟨q1, q2⟩ := q
    cases q2 with
    | some i => intro hb; exact cellB_some hb
    | none => intro hb; exact cellB_none hb⟩
  obtain ⟨i, hi, e3⟩ := List.mem_iff_getElem.mp hx
  exact c.t.tab i (t := tabKeys (x, kvs)) (by rw [List.getElem?_map, List.getElem?_eq_getElem hi, e3]; rfl)
theorem lookup_mem' {α : Type} {x : Str} {v : α} : ∀ {l : List (Str × α)}, l.lookup x = some v → (x, v) ∈ l
  | [], h => by cases h
  | (y, u) :: r, h => by
    rw [List.lookup_cons] at h
    split at h
    · rename_i q
      cases h
      rw [eq_of_beq q]
      exact List.mem_cons_self
    · exact List.mem_cons_of_mem _ (lookup_mem' h)
theorem ConsOk.of {FN : Gn} (hF : G.FN = FN) (hw : G.w = w) (X : G.K.In h) (M : h.Ns mainGlobals G.mg) (c : SaysP fas dds FN.mth FN.tab w G.K) (n : Nat) (hf : (fas.drop n).take FN.con.length = FN.con.map fun q => He.Fa.int q.1 q.2) : ConsOk G where
  con := fun x i hx => by
    rw [hF] at hx
    have hm : He.Fa.int x i ∈ fas := List.mem_of_mem_drop (List.mem_of_mem_take (hf ▸ List.mem_map.mpr ⟨(x, i), lookup_mem' hx, rfl⟩))
    obtain ⟨j, hj, e⟩ := List.mem_iff_getElem.mp hm
    exact He.int_ok X M (c.d.fact j (by rw [List.getElem?_eq_getElem hj, e]))
  mth := fun x n hx => by
    rw [hF] at hx
    exact c.mth X M (lookup_mem' hx)
  tab := fun x kvs hx => by
    rw [hF] at hx
    rw [hw]
    exact c.tab X M (lookup_mem' hx)
end
/-- a law's def -/
theorem law_fn {tbl : List FD} {Wb k i : Nat} {f : Addr} {fd : FD} {qual : Str} {params : Arguments} {body : List Stmt} {scope : Scope} {fdt : FuncData} (T : TblOk G tbl) (hi : tbl[i]? = some fd) (hps : fd.ps = [("script" : Str)]) (F : FunD G.K "law" qual params body scope [] [] f fdt) (S : FnScope fd.N fd.ps scope)
    (ck : ckSs G.FN fd.body ⟨fd.N, scope, fun _ => true⟩ body = true) : FnOk G.P G.w G.K G.mg G.base (L2.CX G.P G.w) (k + 1) f fdt ["script"] (spF G.b 1 (fnAt tbl Wb (k + 1) i).2) := by
  have q := fn_step (Wb := Wb) T (fns_ok T k) (List.mem_of_getElem? hi) F S ck
  rw [← fnAt_succ hi] at q
  rw [hps] at q
  exact q
theorem law_true {b : Cn} {fn : Fn} {H : Hp} {a : Addr} {ns : List Int} (O : Only H) (hS : SqL b.K H a (ns.map V.int)) (h : ∃ S, fn [.scr ns] [] = .ok (.bl true, false) S) :
    spF b 1 fn [.ref a] H (fun v _ => v = .bl true) fun _ _ _ => False := by
  obtain ⟨S, h⟩ := h
  have hs : NdS b.K H (fun _ => False) a ns := by
    rcases hS with (hS | ⟨o, hS⟩) | hS
    · rcases O a with q | ⟨o, xs, q⟩ <;> rw [hS] at q <;> cases q
    · exact .inl ⟨fun z => z, o, hS⟩
    · exact .inr hS
  refine ⟨rfl, [], [], fun _ => False, [.scr ns], ⟨List.nodup_nil, rfl, fun k cell a h1 h2 => by simp at h1, fun a h => h.elim, fun a h => by cases h⟩, .cons (.scr hs) .nil, ?_⟩
  rw [h]
  intro v H' cs' A r
  cases (show Rep b cs' (avs (fun _ => False) cs') H' v (.bl true) from r)
  rfl
theorem cx_end {P : Program} {w : World} (H : Hp) (s : Shared) (e : Value) (s' : Shared) (h : L2.CX P w [] H s (fun _ _ _ => False) e s') : False := by
  obtain ⟨_, _, _, _, _, _, _, _, _, _, _, _, h⟩ := h
  exact h
theorem walk_ofP {l : PySem.W.OpenLaw} {n k : Nat} {q : Program} {loose : List Str} {XP : (Str → Option Value) → Heap → Prop} {YP : World → Heap → Prop} {d : DefRec} {CX : World → CXT} {x : Str}
    (hn : l.most = some n) (hn2 : n ≤ sizeLine) (hdf : d.params.defaults = []) (hr : Room k callerA)
    (F : ∀ (w : World) (mg : Str → Option Value) (fa : Addr) (h : Heap), YP w h → h.Ns mainGlobals mg → mg d.name = some (.ref fa) →
      ∃ (K : PySem.W.Frag) (fd : FuncData) (sp : Sp), K.In h ∧ (∀ (s : Shared) (u : Value), BindsTo s fd ⟨[u], []⟩ [(x, u)]) ∧
        (∀ (H : Hp) (a : Addr) (ns : List Int), ns.length ≤ n → (∀ z ∈ ns, Builtin.Int.intBits z ≤ 1048576) → Only H → SqL K H a (ns.map V.int) → sp [.ref a] H (fun v _ => v = .bl true) fun _ _ _ => False) ∧
        ∀ base : Heap, K.In base → base.Ns mainGlobals mg → FnOk l.prog w K mg base (CX w) k fa fd [x] sp)
    (hCX : ∀ (w : World) (H : Hp) (s : Shared) (e : Value) (s' : Shared), CX w [] H s (fun _ _ _ => False) e s' → False) :
    PySem.W.WalkO q loose XP YP l.row.toRowW d [] (fun f vs => PySem.call f vs) := by
  refine Att.attach_callB hn hdf fun w s₀ s₁ mg mb fa o pm cd doc a vs ns G Y ho hd hcd hmg hobj hints hlen hbits hg => ?_
  obtain ⟨K, fd, sp, KX, hb, hsp, hF⟩ := F w mg fa _ Y G.T.g hmg
  exact law_call KX G.T.g G.T.b G.T.builtins G.T.nolimit hg hobj hints (Nat.le_trans hlen hn2) hr hF hb (fun H hO hS => hsp H a ns hlen hbits hO hS) fun H e s' => hCX w H s₁ e s'
end
end Pv
namespace Pv
open PySem PySem.Spec PyProof.Rows L2
/-! ### running -/
def Out.bnd {α β : Type} (o : Out α) (f : α → M β) : Out β := match o with
  | .ok a s => f a s
  | .err x s => .err x s
  | .stuck => .stuck
theorem Out.bnd_congr {α β : Type} {o o' : Out α} {f : α → M β} (h : o = o') : Out.bnd o f = Out.bnd o' f := by rw [h]
section
variable {α β : Type} {m : M α} {f : α → M β} {st : Sto} {a : α} {x : Exn}
theorem bnd_ok : Out.bnd (.ok a st) f = f a st := rfl
theorem bnd_err : Out.bnd (.err x st) f = .err x st := rfl
theorem bnd_stuck : Out.bnd .stuck f = .stuck := rfl
theorem r_bind : M.bind m f st = Out.bnd (m st) f := rfl
theorem r_pure : (M.pure a : M α) st = .ok a st := rfl
theorem r_fail : (M.fail : M α) st = .stuck := rfl
theorem r_lift_s : (M.lift (some a) : M α) st = .ok a st := rfl
theorem r_lift_n : (M.lift none : M α) st = .stuck := rfl
def Out.val (o : Out R) : Out D := match o with
  | .ok a s => .ok a.1 s
  | .err x s => .err x s
  | .stuck => .stuck
def Out.inl (o : Out D) : Out G := match o with
  | .ok a s => .ok (.inl a) s
  | .err x s => .err x s
  | .stuck => .stuck
theorem r_val {m : M R} : m.val st = Out.val (m st) := rfl
theorem r_inl {m : M D} : m.inl st = Out.inl (m st) := rfl
theorem val_ok {r : R} : Out.val (.ok r st) = .ok r.1 st := rfl
theorem val_err : Out.val (.err x st) = .err x st := rfl
theorem val_stuck : Out.val .stuck = .stuck := rfl
theorem inl_ok {d : D} : Out.inl (.ok d st) = .ok (.inl d) st := rfl
theorem inl_err : Out.inl (.err x st) = .err x st := rfl
theorem inl_stuck : Out.inl .stuck = .stuck := rfl
theorem res_l {d : D} : res (.inl d) st = .ok d st := rfl
theorem res_r {i : Nat} : res (.inr i) st = peekM i st := rfl
/-! names -/
def nowS : Option Sl → Option D
  | some (.sh d) => some d
  | some (.ow d) => some d
  | _ => none
theorem r_var_sh {i : Nat} {d : D} {ρ : List Sl} {S : List Cell} (h : ρ[i]? = some (.sh d)) : varM i ⟨ρ, S⟩ = .ok (d, false) ⟨ρ, S⟩ := by unfold varM; simp only [h]
theorem r_var_ow {i : Nat} {d : D} {ρ : List Sl} {S : List Cell} (h : ρ[i]? = some (.ow d)) : varM i ⟨ρ, S⟩ = .ok (d, false) ⟨ρ.set i (.sh d), S⟩ := by unfold varM; simp only [h]
theorem r_mov_sh {i : Nat} {d : D} {ρ : List Sl} {S : List Cell} (h : ρ[i]? = some (.sh d)) : movM i ⟨ρ, S⟩ = .ok (d, false) ⟨ρ, S⟩ := by unfold movM; simp only [h]
theorem r_mov_ow {i : Nat} {d : D} {ρ : List Sl} {S : List Cell} (h : ρ[i]? = some (.ow d)) : movM i ⟨ρ, S⟩ = .ok (d, true) ⟨ρ.set i .no, S⟩ := by unfold movM; simp only [h]
theorem r_pk_sh {i : Nat} {d : D} {ρ : List Sl} {S : List Cell} (h : ρ[i]? = some (.sh d)) : pkM i ⟨ρ, S⟩ = .ok (.inr i) ⟨ρ, S⟩ := by unfold pkM; simp only [h]
theorem r_pk_ow {i : Nat} {d : D} {ρ : List Sl} {S : List Cell} (h : ρ[i]? = some (.ow d)) : pkM i ⟨ρ, S⟩ = .ok (.inr i) ⟨ρ, S⟩ := by unfold pkM; simp only [h]
theorem r_peek_sh {i : Nat} {d : D} {ρ : List Sl} {S : List Cell} (h : ρ[i]? = some (.sh d)) : peekM i ⟨ρ, S⟩ = .ok d ⟨ρ, S⟩ := by unfold peekM; simp only [h]
theorem r_peek_ow {i : Nat} {d : D} {ρ : List Sl} {S : List Cell} (h : ρ[i]? = some (.ow d)) : peekM i ⟨ρ, S⟩ = .ok d ⟨ρ, S⟩ := by unfold peekM; simp only [h]
/-! statements -/
def contS (n : M Fl) : Fl → M Fl
  | .next => n
  | f => M.pure f
theorem r_seq {m n : M Fl} : seqS m n st = Out.bnd (m st) (contS n) := rfl
theorem cont_next {n : M Fl} : contS n .next st = n st := rfl
theorem cont_ret {n : M Fl} {r : R} : contS n (.ret r) st = .ok (.ret r) st := rfl
theorem cont_brk {n : M Fl} : contS n .brk st = .ok .brk st := rfl
theorem cont_cont {n : M Fl} : contS n .cont st = .ok .cont st := rfl
def sel {α : Type} (x y : M α) (b : Bool) : M α := if b then x else y
theorem r_ite {c : M Bool} {x y : M α} : iteM c x y st = Out.bnd (c st) (sel x y) := rfl
theorem sel_t {x y : M α} : sel x y true st = x st := rfl
theorem sel_f {x y : M α} : sel x y false st = y st := rfl
theorem r_andB {x y : M Bool} : andB x y st = Out.bnd (x st) (sel y (M.pure false)) := rfl
theorem r_orB {x y : M Bool} : orB x y st = Out.bnd (x st) (sel (M.pure true) y) := rfl
theorem r_notB {x : M Bool} : notB x st = Out.bnd (x st) fun b => M.pure (!b) := rfl
theorem r_andM {x : M D} {y : M R} : andM x y st = Out.bnd (x st) fun d => M.bind (M.lift (truthD d)) (sel y (M.pure (d, false))) := rfl
theorem r_orR {x : M R} {y : M R} : orR x y st = Out.bnd (x st) fun r => M.bind (M.lift (truthD r.1)) (sel (M.pure r) y) := rfl
theorem r_notM {x : M D} : notM x st = Out.bnd (x st) fun d => M.lift ((truthD d).map fun b => blD (!b)) := rfl
theorem r_put {i : Nat} {r : R} {ρ : List Sl} {S : List Cell} (h : i < ρ.length) : Pv.putF i r ⟨ρ, S⟩ = .ok .next ⟨ρ.set i (slOf r), S⟩ := if_pos h
theorem r_set {i : Nat} {m : M R} : setM i m st = Out.bnd (m st) (Pv.putF i) := rfl
def retK (r : R) : M Fl := M.pure (.ret r)
theorem r_ret {m : M R} : retM m st = Out.bnd (m st) retK := rfl
theorem retK_ap {r : R} : retK r st = .ok (.ret r) st := rfl
def nextK {α : Type} (_ : α) : M Fl := M.pure .next
theorem nextK_ap : (nextK a : M Fl) st = .ok .next st := rfl
theorem r_drop {m : M D} : dropM m st = Out.bnd (m st) nextK := rfl
def asgK (t : Tf) (d : D) : M Fl := fun st => match t d st with
  | some s => .ok .next s
  | none => .stuck
theorem r_asg {m : M D} {t : Tf} : asgM m t st = Out.bnd (m st) (asgK t) := by
  unfold asgM asgK
  show Out.bnd (m st) _ = _
  cases m st with
  | ok d s =>
    show Out.bnd (M.to (t d) s) (fun _ => M.pure Fl.next) = (match t d s with | some s => Out.ok Fl.next s | none => Out.stuck)
    unfold M.to
    cases t d s <;> rfl
  | err x s => rfl
  | stuck => rfl
theorem asgK_s {t : Tf} {d : D} {s : Sto} (h : t d st = some s) : asgK t d st = .ok .next s := by unfold asgK; rw [h]
/-! operations -/
def opK2 (g : D → D → Option R) (x y : G) : M R := M.bind (res x) fun d => M.bind (res y) fun e => M.lift (g d e)
def opK (g : D → D → Option R) (mb : M G) (x : G) : M R := M.bind mb (opK2 g x)
theorem r_op {g : D → D → Option R} {ma mb : M G} : opM g ma mb st = Out.bnd (ma st) (opK g mb) := rfl
theorem opK_ap {g : D → D → Option R} {mb : M G} {x : G} : opK g mb x st = Out.bnd (mb st) (opK2 g x) := rfl
theorem opK2_ap {g : D → D → Option R} {x y : G} : opK2 g x y st = Out.bnd (res x st) fun d => M.bind (res y) fun e => M.lift (g d e) := rfl
def opBK2 (g : D → D → Option R) (x y : G) : M Bool := M.bind (res x) fun d => M.bind (res y) fun e => M.lift ((g d e).bind blOf)
def opBK (g : D → D → Option R) (mb : M G) (x : G) : M Bool := M.bind mb (opBK2 g x)
theorem r_opB {g : D → D → Option R} {ma mb : M G} : opB g ma mb st = Out.bnd (ma st) (opBK g mb) := rfl
theorem opBK_ap {g : D → D → Option R} {mb : M G} {x : G} : opBK g mb x st = Out.bnd (mb st) (opBK2 g x) := rfl
theorem opBK2_ap {g : D → D → Option R} {x y : G} : opBK2 g x y st = Out.bnd (res x st) fun d => M.bind (res y) fun e => M.lift ((g d e).bind blOf) := rfl
def unK (g : D → Option R) (x : G) : M R := M.bind (res x) fun d => M.lift (g d)
theorem r_un {g : D → Option R} {m : M G} : unM g m st = Out.bnd (m st) (unK g) := rfl
theorem unK_ap {g : D → Option R} {x : G} : unK g x st = Out.bnd (res x st) fun d => M.lift (g d) := rfl
def trK (x : G) : M Bool := M.bind (res x) fun d => M.lift (truthD d)
theorem r_truth {m : M G} : truthM m st = Out.bnd (m st) trK := rfl
theorem trK_ap {x : G} : trK x st = Out.bnd (res x st) fun d => M.lift (truthD d) := rfl
def ixK2 (x y : G) : M R := M.bind (res x) fun d => M.bind (res y) fun e => M.look (ixS d e)
def ixK (mb : M G) (x : G) : M R := M.bind mb (ixK2 x)
theorem r_ix {ma mb : M G} : ixM ma mb st = Out.bnd (ma st) (ixK mb) := rfl
theorem ixK_ap {mb : M G} {x : G} : ixK mb x st = Out.bnd (mb st) (ixK2 x) := rfl
theorem ixK2_ap {x y : G} : ixK2 x y st = Out.bnd (res x st) fun d => M.bind (res y) fun e => M.look (ixS d e) := rfl
theorem r_look_s {g : Sto → Option α} (h : g st = some a) : M.look g st = .ok a st := by unfold M.look; rw [h]
def consK2 (x : G) (xs : List G) : M (List G) := M.pure (x :: xs)
def consK (ms : M (List G)) (x : G) : M (List G) := M.bind ms (consK2 x)
theorem r_cons {m : M G} {ms : M (List G)} : consM m ms st = Out.bnd (m st) (consK ms) := rfl
theorem consK_ap {ms : M (List G)} {x : G} : consK ms x st = Out.bnd (ms st) (consK2 x) := rfl
theorem consK2_ap {x : G} {xs : List G} : consK2 x xs st = .ok (x :: xs) st := rfl
def conK2 (x : D) (xs : List D) : M (List D) := M.pure (x :: xs)
def conK (ms : M (List D)) (x : D) : M (List D) := M.bind ms (conK2 x)
theorem r_con {m : M D} {ms : M (List D)} : conM m ms st = Out.bnd (m st) (conK ms) := rfl
theorem conK_ap {ms : M (List D)} {x : D} : conK ms x st = Out.bnd (ms st) (conK2 x) := rfl
theorem conK2_ap {x : D} {xs : List D} : conK2 x xs st = .ok (x :: xs) st := rfl
def callK (g : List D → Option R) (gs : List G) : M R := M.bind (ress gs) fun ds => M.lift (g ds)
theorem r_callM {g : List D → Option R} {ms : M (List G)} : callM g ms st = Out.bnd (ms st) (callK g) := rfl
theorem callK_ap {g : List D → Option R} {gs : List G} : callK g gs st = Out.bnd (ress gs st) fun ds => M.lift (g ds) := rfl
theorem ress_nil : ress [] st = .ok [] st := rfl
theorem ress_cons {g : G} {gs : List G} : ress (g :: gs) st = Out.bnd (res g st) fun d => M.bind (ress gs) fun ds => M.pure (d :: ds) := rfl
def seqK (mk : List D → R) (gs : List G) : M R := M.bind (M.lift (onlyV gs)) fun ds => M.lift (if ds.length ≤ sizeLine then some (mk ds) else none)
theorem r_seqM {mk : List D → R} {ms : M (List G)} : seqM mk ms st = Out.bnd (ms st) (seqK mk) := rfl
theorem onlyV_nil : onlyV [] = some [] := rfl
theorem onlyV_cons {d : D} {gs : List G} : onlyV (.inl d :: gs) = (onlyV gs).map (d :: ·) := rfl
theorem onlyV_inl : ∀ ds : List D, onlyV (ds.map .inl) = some ds
  | [] => rfl
  | d :: ds => by rw [List.map_cons, onlyV_cons, onlyV_inl ds]; rfl
theorem seqK_ap {mk : List D → R} {gs : List G} {ds : List D} (h : onlyV gs = some ds) (hl : ds.length ≤ sizeLine) : seqK mk gs st = .ok (mk ds) st := by
  unfold seqK
  show Out.bnd (M.lift (onlyV gs) st) _ = _
  rw [h]
  show M.lift (if ds.length ≤ sizeLine then some (mk ds) else none) st = _
  rw [if_pos hl]; rfl
theorem r_call {n : Nat} {fn : Fn} {ms : M (List D)} : callE n fn ms st = Out.bnd (ms st) (runF n fn) := rfl
def outS (ρ : List Sl) (f : FOut) : Out R := match f with
  | .ok r S' => .ok r ⟨ρ, S'⟩
  | .err x S' => .err x ⟨ρ, S'⟩
  | .stuck => .stuck
theorem runF_ap {n : Nat} {fn : Fn} {ds : List D} {ρ : List Sl} {S : List Cell} (h : ds.length = n) : runF n fn ds ⟨ρ, S⟩ = outS ρ (fn ds S) := by
  unfold runF
  rw [if_pos h]
  cases fn ds S <;> rfl
theorem outS_ok {ρ : List Sl} {r : R} {S : List Cell} : outS ρ (.ok r S) = .ok r ⟨ρ, S⟩ := rfl
/-! a def -/
def Out.fin (o : Out Fl) : FOut := match o with
  | .ok (.ret r) st' => .ok r st'.S
  | .ok .next st' => .ok (.non, false) st'.S
  | .ok _ _ => .stuck
  | .err x st' => .err x st'.S
  | .stuck => .stuck
theorem r_callF {n : Nat} {m : M Fl} {ds : List D} {S : List Cell} : callF n m ds S = Out.fin (m ⟨ds.map .sh ++ List.replicate (n - ds.length) .no, S⟩) := rfl
theorem fin_ret {r : R} {ρ : List Sl} {S : List Cell} : Out.fin (.ok (.ret r) ⟨ρ, S⟩) = .ok r S := rfl
theorem fin_next {ρ : List Sl} {S : List Cell} : Out.fin (.ok .next ⟨ρ, S⟩) = .ok (.non, false) S := rfl
/-! places -/
def sixK3 (i : Nat) (d k : D) : M Fl := fun st => match setAt i k d st with
  | some s => .ok .next s
  | none => .stuck
def sixK (i : Nat) (mk : M D) (d : D) : M Fl := fun st => match nowS st.ρ[i]? with
  | some _ => Out.bnd (mk st) (sixK3 i d)
  | none => .stuck
theorem r_six {i : Nat} {mk m : M D} : sixM i mk m st = Out.bnd (m st) (sixK i mk) := by
  unfold sixM
  show Out.bnd (m st) _ = _
  cases m st with
  | err x s => rfl
  | stuck => rfl
  | ok d s =>
    show Out.bnd (M.look (fun st => match st.ρ[i]? with | some (.ow _) | some (.sh _) => some () | _ => none) s) _ = sixK i mk d s
    unfold sixK M.look
    cases e : s.ρ[i]? with
    | none => simp only [e, nowS]; rfl
    | some sl =>
      have main : Out.bnd (mk s) (fun k => M.bind (M.to (setAt i k d)) fun _ => M.pure .next) = Out.bnd (mk s) (sixK3 i d) := by
        cases mk s with
        | err x s => rfl
        | stuck => rfl
        | ok k s2 =>
          show Out.bnd (M.to (setAt i k d) s2) _ = sixK3 i d k s2
          unfold M.to sixK3
          cases setAt i k d s2 <;> rfl
      cases sl with
      | no => simp only [e, nowS]; rfl
      | sh d => simp only [e, nowS]; exact main
      | ow d => simp only [e, nowS]; exact main
theorem sixK_ap {i : Nat} {mk : M D} {d d0 : D} {ρ : List Sl} {S : List Cell} (h : nowS ρ[i]? = some d0) : sixK i mk d ⟨ρ, S⟩ = Out.bnd (mk ⟨ρ, S⟩) (sixK3 i d) := by
  unfold sixK; simp only [h]
theorem sixK3_ap {i : Nat} {d k : D} {s : Sto} (h : setAt i k d st = some s) : sixK3 i d k st = .ok .next s := by unfold sixK3; rw [h]
end
end Pv
namespace Pv
open PySem PySem.Spec PyProof.Rows L2
/-! ### comprehensions and loops, run -/
theorem r_lc {vs : List Nat} {m : M (List D)} {t : Tf} {tt : M Bool} {te : M D} {st : Sto} : lcM vs m t tt te st = Out.bnd (m st) (lcF vs t tt te) := rfl
theorem r_for {m : M (List D)} {t : Tf} {b : M Fl} {st : Sto} : forM m t b st = Out.bnd (m st) (loopM t b) := rfl
def itK (d : D) : M (List D) := M.lift (seqD d)
theorem r_it {m : M D} {st : Sto} : itM m st = Out.bnd (m st) itK := rfl
theorem itK_ap {d : D} {ds : List D} {st : Sto} (h : seqD d = some ds) : itK d st = .ok ds st := by unfold itK; rw [h]; rfl
def sqK (g : List D → Option (List D)) (ds : List D) : M (List D) := M.lift (g ds)
theorem r_sq {g : List D → Option (List D)} {ms : M (List D)} {st : Sto} : seqM2 g ms st = Out.bnd (ms st) (sqK g) := rfl
theorem sqK_ap {g : List D → Option (List D)} {ds ds' : List D} {st : Sto} (h : g ds = some ds') : sqK g ds st = .ok ds' st := by unfold sqK; rw [h]; rfl
theorem rg1_ok {j : Int} (h : sm62 j = true) : rg1D [.int j] = some (intsFrom 0 j.toNat) := by simp [rg1D, h]
theorem rg2_ok {i j : Int} (h : sm62 i = true) (h2 : sm62 j = true) : rg2D [.int i, .int j] = some (intsFrom i (j - i).toNat) := by simp [rg2D, h, h2]
theorem en_tup {ds : List D} : en1D [.tup ds] = some (enumD 0 ds) := rfl
theorem en_lst {ds : List D} : en1D [.lst ds] = some (enumD 0 ds) := rfl
theorem sure_ok {α : Type} {m : M α} {st st' : Sto} {a : α} (h : m st = .ok a st') : m.sure st = some (a, st') := by unfold M.sure; rw [h]
theorem restR_wipe {ρ : List Sl} {vs : List Nat} : restR ρ (wipeR ρ vs) vs = ρ := by
  apply List.ext_getElem?
  intro i
  rw [restR_get, wipeR_length, wipeR_get]
  by_cases h : i ∈ vs ∧ i < ρ.length
  · rw [if_pos h]
    rw [List.getElem?_eq_getElem h.2]; rfl
  · rw [if_neg h, if_neg h]
def addO (acc : List D) : Option D → List D
  | some y => acc ++ [y]
  | none => acc
theorem lcL_rel {vs : List Nat} {t : Tf} {tt : M Bool} {te : M D} {ρ : List Sl} (ds : List D) (P : Nat → List D → List Cell → Prop)
    (hs : ∀ i acc S d, ds[i]? = some d → P i acc S → ∃ o S', lcT vs t tt te d ⟨ρ, S⟩ = some (o, ⟨ρ, S'⟩) ∧ P (i + 1) (addO acc o) S') (hz : ds.length ≤ sizeLine) :
    ∀ (n i : Nat) (acc : List D) (S : List Cell), n = ds.length - i → i ≤ ds.length → acc.length ≤ i → P i acc S → ∃ acc' S', lcL vs t tt te (ds.drop i) acc ⟨ρ, S⟩ = some (acc', ⟨ρ, S'⟩) ∧ P ds.length acc' S' := by
  intro n
  induction n with
  | zero =>
    intro i acc S hn hi ha h
    have e : i = ds.length := by omega
    subst e
    rw [List.drop_length]
    exact ⟨acc, S, rfl, h⟩
  | succ n ih =>
    intro i acc S hn hi ha h
    have hl : i < ds.length := by omega
    obtain ⟨o, S', e1, h1⟩ := hs i acc S ds[i] (List.getElem?_eq_getElem hl) h
    have ha' : (addO acc o).length ≤ i + 1 := by cases o <;> simp [addO] <;> omega
    obtain ⟨acc', S2, e2, h2⟩ := ih (i + 1) _ S' (by omega) hl ha' h1
    refine ⟨acc', S2, ?_, h2⟩
    rw [List.drop_eq_getElem_cons hl]
    unfold lcL
    rw [e1]
    cases o with
    | none => exact e2
    | some y =>
      show (if acc.length < sizeLine then _ else _) = _
      rw [if_pos (by omega)]
      exact e2
theorem lcF_rel {vs : List Nat} {t : Tf} {tt : M Bool} {te : M D} {ρ : List Sl} {S : List Cell} (ds : List D) (P : Nat → List D → List Cell → Prop) (hw : (vs.all fun v => noOw ρ[v]?) = true) (h0 : P 0 [] S)
    (hs : ∀ i acc S d, ds[i]? = some d → P i acc S → ∃ o S', lcT vs t tt te d ⟨wipeR ρ vs, S⟩ = some (o, ⟨wipeR ρ vs, S'⟩) ∧ P (i + 1) (addO acc o) S') (hz : ds.length ≤ sizeLine) :
    ∃ acc S', lcF vs t tt te ds ⟨ρ, S⟩ = .ok (.lst acc, true) ⟨ρ, S'⟩ ∧ P ds.length acc S' := by
  obtain ⟨acc, S', e, h⟩ := lcL_rel ds P hs hz ds.length 0 [] S (by omega) (Nat.zero_le _) (Nat.le_refl _) h0
  refine ⟨acc, S', ?_, h⟩
  unfold lcF
  have e0 : wipeF vs ⟨ρ, S⟩ = some ⟨wipeR ρ vs, S⟩ := if_pos hw
  rw [e0]
  rw [List.drop_zero] at e
  simp only [Option.bind_some, e, restR_wipe]
theorem lcF_map {vs : List Nat} {t : Tf} {tt : M Bool} {te : M D} {ρ : List Sl} {S : List Cell} {ds : List D} (o : D → Option D) (hw : (vs.all fun v => noOw ρ[v]?) = true)
    (hs : ∀ d ∈ ds, lcT vs t tt te d ⟨wipeR ρ vs, S⟩ = some (o d, ⟨wipeR ρ vs, S⟩)) (hz : ds.length ≤ sizeLine) : lcF vs t tt te ds ⟨ρ, S⟩ = .ok (.lst (ds.filterMap o), true) ⟨ρ, S⟩ := by
  obtain ⟨acc, S', e, h1, h2⟩ := lcF_rel (ρ := ρ) (S := S) ds (fun i acc S' => acc = (ds.take i).filterMap o ∧ S' = S) hw (by simp) (fun i acc S' d hd ⟨h1, h2⟩ => by
    subst h1 h2
    refine ⟨o d, _, hs d (List.mem_of_getElem? hd), ?_, rfl⟩
    obtain ⟨hi, rfl⟩ := List.getElem?_eq_some_iff.mp hd
    rw [List.take_succ, List.getElem?_eq_getElem hi]
    simp only [Option.toList_some, List.filterMap_append, List.filterMap_cons, List.filterMap_nil]
    cases e : o ds[i] <;> simp [addO]) hz
  rw [e, h1, h2, List.take_length]
theorem loop_rel {t : Tf} {b : M Fl} (ds : List D) (P : Nat → Sto → Prop) (hs : ∀ i d st, ds[i]? = some d → P i st → ∃ st1 st2, t d st = some st1 ∧ (b st1 = .ok .next st2 ∨ b st1 = .ok .cont st2) ∧ P (i + 1) st2) :
    ∀ (n i : Nat) (st : Sto), n = ds.length - i → i ≤ ds.length → P i st → ∃ st', loopM t b (ds.drop i) st = .ok .next st' ∧ P ds.length st' := by
  intro n
  induction n with
  | zero =>
    intro i st hn hi h
    have e : i = ds.length := by omega
    subst e
    rw [List.drop_length]
    exact ⟨st, rfl, h⟩
  | succ n ih =>
    intro i st hn hi h
    have hl : i < ds.length := by omega
    obtain ⟨st1, st2, e1, e2, h1⟩ := hs i ds[i] st (List.getElem?_eq_getElem hl) h
    obtain ⟨st', e3, h3⟩ := ih (i + 1) st2 (by omega) hl h1
    refine ⟨st', ?_, h3⟩
    rw [List.drop_eq_getElem_cons hl]
    unfold loopM
    have q : M.to (t ds[i]) st = .ok () st1 := by unfold M.to; rw [e1]
    rw [M.bind_ok q]
    rcases e2 with e2 | e2
    · rw [M.bind_ok e2]; exact e3
    · rw [M.bind_ok e2]; exact e3
theorem loop_run {t : Tf} {b : M Fl} {st : Sto} (ds : List D) (P : Nat → Sto → Prop) (h0 : P 0 st) (hs : ∀ i d st, ds[i]? = some d → P i st → ∃ st1 st2, t d st = some st1 ∧ (b st1 = .ok .next st2 ∨ b st1 = .ok .cont st2) ∧ P (i + 1) st2) :
    ∃ st', loopM t b ds st = .ok .next st' ∧ P ds.length st' := by
  have := loop_rel ds P hs ds.length 0 st (by omega) (Nat.zero_le _) h0
  rwa [List.drop_zero] at this
theorem intsFrom_get {lo : Int} {n i : Nat} {d : D} (h : (intsFrom lo n)[i]? = some d) : i < n ∧ d = .int (lo + i) := by
  unfold intsFrom at h
  rw [List.getElem?_map] at h
  obtain ⟨j, e1, rfl⟩ := Option.map_eq_some_iff.mp h
  obtain ⟨h1, h2⟩ := List.getElem?_eq_some_iff.mp e1
  have hj : i < n := by simpa using h1
  have ej : j = i := by rw [← h2]; simp
  exact ⟨hj, by rw [ej]⟩
theorem intsFrom_length (lo : Int) (n : Nat) : (intsFrom lo n).length = n := by simp [intsFrom]
theorem intsFrom_mem {lo : Int} {n : Nat} {d : D} (h : d ∈ intsFrom lo n) : ∃ i : Nat, i < n ∧ d = .int (lo + i) := by
  obtain ⟨i, hi⟩ := List.mem_iff_getElem?.mp h
  exact ⟨i, intsFrom_get hi⟩
theorem tnF_ap {i : Nat} {d : D} {ρ : List Sl} {S : List Cell} (h : i < ρ.length) : tnF i d ⟨ρ, S⟩ = some ⟨ρ.set i (.sh d), S⟩ := if_pos h
theorem intsD_ints : ∀ l : List Int, intsD (l.map .int) = some l
  | [] => rfl
  | a :: l => by simp [intsD, intsD_ints l]
theorem F_ok {tbl : List FD} {Wb k i : Nat} {fd : FD} {ds : List D} {S : List Cell} {o : FOut} (h : tbl[i]? = some fd) (e : Out.fin (evSs (fnAt tbl Wb k) Wb fd.body ⟨ds.map .sh ++ List.replicate (fd.N.length - ds.length) .no, S⟩) = o) : (fnAt tbl Wb (k + 1) i).2 ds S = o := by
  rw [fnAt_succ h, r_callF]; exact e
theorem eqR_int (i j : Int) : eqR (.int i) (.int j) = some (blD (decide (i = j))) := by
  simp [eqR, eqD, toP, dep, PyData.depth, PyData.eqv]; rfl
theorem neR_int (i j : Int) : neR (.int i) (.int j) = some (blD (!decide (i = j))) := by
  simp [neR, eqD, toP, dep, PyData.depth, PyData.eqv]; rfl
theorem eqR_bl (i j : Bool) : eqR (.bl i) (.bl j) = some (blD (decide (i = j))) := by
  cases i <;> cases j <;> simp [eqR, eqD, toP, dep, PyData.depth, PyData.eqv]
theorem neR_bl (i j : Bool) : neR (.bl i) (.bl j) = some (blD (!decide (i = j))) := by
  cases i <;> cases j <;> simp [neR, eqD, toP, dep, PyData.depth, PyData.eqv]
theorem dep_nil : dep (.list []) = true := by simp [dep, PyData.depth, PyData.depthAll]
theorem eqD_lst0 {l : List D} {ps : List PyData} (h : toPs l = some ps) : eqD (.lst l) (.lst []) = some l.isEmpty := by
  have e : toP (.lst l) = some (.list ps) := by show (toPs l).map PyData.list = _; rw [h]; rfl
  have e0 : toP (.lst []) = some (.list []) := rfl
  unfold eqD
  rw [e, e0]
  show (if dep (.list ps) || dep (.list []) then some (PyData.eqv (.list ps) (.list [])) else none) = _
  rw [dep_nil, Bool.or_true, if_pos rfl]
  cases l with
  | nil => cases h; simp [PyData.eqv, PyData.eqvAll]
  | cons d l =>
    cases ps with
    | nil =>
      unfold toPs at h
      split at h <;> cases h
    | cons p ps => simp [PyData.eqv, PyData.eqvAll]
theorem neR_lst0 {l : List D} {ps : List PyData} (h : toPs l = some ps) : neR (.lst l) (.lst []) = some (blD (!l.isEmpty)) := by
  unfold neR; rw [eqD_lst0 h]; rfl
theorem eqR_lst0 {l : List D} {ps : List PyData} (h : toPs l = some ps) : eqR (.lst l) (.lst []) = some (blD l.isEmpty) := by
  unfold eqR; rw [eqD_lst0 h]; rfl
def appK (i : Nat) (d : D) : M R := appF i d
theorem r_app {i : Nat} {m : M D} {ρ : List Sl} {S : List Cell} {ds : List D} (h : ρ[i]? = some (.ow (.lst ds))) : appM i m ⟨ρ, S⟩ = Out.bnd (m ⟨ρ, S⟩) (appK i) := by
  unfold appM
  have e : ownL i (⟨ρ, S⟩ : Sto) = some ds := by unfold ownL; simp only [h]
  show Out.bnd (M.look (ownL i) ⟨ρ, S⟩) _ = _
  rw [r_look_s e]
  rfl
theorem appK_ap {i : Nat} {d : D} {ρ : List Sl} {S : List Cell} {ds : List D} (h : ρ[i]? = some (.ow (.lst ds))) (hl : ds.length < 16777216) : appK i d ⟨ρ, S⟩ = .ok (.non, false) ⟨ρ.set i (.ow (.lst (ds ++ [d]))), S⟩ := by
  have e : ownL i (⟨ρ, S⟩ : Sto) = some ds := by unfold ownL; simp only [h]
  unfold appK appF
  have hl' : ds.length < sizeLine := by rw [sizeLine_eq]; exact hl
  simp only [e, if_pos hl', setOw]
theorem seqK_run {mk : List D → R} {gs : List G} {st : Sto} : seqK mk gs st = match onlyV gs with
    | some ds => if ds.length ≤ 16777216 then .ok (mk ds) st else .stuck
    | none => .stuck := by
  unfold seqK
  show Out.bnd (M.lift (onlyV gs) st) _ = _
  cases onlyV gs with
  | none => rfl
  | some ds =>
    show M.lift (if ds.length ≤ sizeLine then some (mk ds) else none) st = (if ds.length ≤ 16777216 then Out.ok (mk ds) st else Out.stuck)
    rw [sizeLine_eq]
    by_cases h : ds.length ≤ 16777216
    · rw [if_pos h, if_pos h]; rfl
    · rw [if_neg h, if_neg h]; rfl
theorem loop_cons {t : Tf} {b : M Fl} {d : D} {ds : List D} {st st1 st2 : Sto} (h : t d st = some st1) (h2 : b st1 = .ok .next st2) : loopM t b (d :: ds) st = loopM t b ds st2 := by
  have q : M.to (t d) st = .ok () st1 := by unfold M.to; rw [h]
  show M.bind (M.to (t d)) _ st = _
  rw [M.bind_ok q, M.bind_ok h2]
theorem loop_nil {t : Tf} {b : M Fl} {st : Sto} : loopM t b [] st = .ok .next st := rfl
theorem eqR_non : eqR .non .non = some (blD true) := by
  simp [eqR, eqD, toP, dep, PyData.depth, PyData.eqv]
def slK2 (x : G) (lo hi : Option Int) : M R := M.bind (res x) fun d => M.lift (slD d lo hi)
theorem r_sl {m : M G} {ml mh : M (Option Int)} {st : Sto} : slM m ml mh st = Out.bnd (m st) fun x => M.bind ml fun lo => M.bind mh (slK2 x lo) := rfl
theorem slK2_ap {x : G} {lo hi : Option Int} {st : Sto} : slK2 x lo hi st = Out.bnd (res x st) fun d => M.lift (slD d lo hi) := rfl
def intK (d : D) : M (Option Int) := M.lift (match d with | .int i => some (some i) | _ => none)
theorem r_int {m : M D} {st : Sto} : intM m st = Out.bnd (m st) intK := rfl
theorem intK_ap {i : Int} {st : Sto} : intK (.int i) st = .ok (some i) st := rfl
def cellO (o : Out R) : Out R := match o with
  | .ok (.lst ds, true) st' => .ok (.ref st'.S.length, false) ⟨st'.ρ, st'.S ++ [.lst ds]⟩
  | .err x st' => .err x st'
  | _ => .stuck
theorem r_cell {m : M R} {st : Sto} : cellM m st = cellO (m st) := rfl
theorem cellO_ok {ds : List D} {ρ : List Sl} {S : List Cell} : cellO (.ok (.lst ds, true) ⟨ρ, S⟩) = .ok (.ref S.length, false) ⟨ρ, S ++ [.lst ds]⟩ := rfl
theorem seq_next {Γ : Nat → Nat × Fn} {Wb : Nat} {s : Pv.S} {ss : Ss} {st st1 : Sto} (h : evS Γ Wb s st = .ok .next st1) : evSs Γ Wb (.cons s ss) st = evSs Γ Wb ss st1 := by
  show seqS (evS Γ Wb s) (evSs Γ Wb ss) st = _
  rw [r_seq, h]; rfl
theorem seq_ret {Γ : Nat → Nat × Fn} {Wb : Nat} {s : Pv.S} {ss : Ss} {st st1 : Sto} {r : R} (h : evS Γ Wb s st = .ok (.ret r) st1) : evSs Γ Wb (.cons s ss) st = .ok (.ret r) st1 := by
  show seqS (evS Γ Wb s) (evSs Γ Wb ss) st = _
  rw [r_seq, h]; rfl
theorem seq_nil {Γ : Nat → Nat × Fn} {Wb : Nat} {st : Sto} : evSs Γ Wb .nil st = .ok .next st := rfl
def idxK2 (ds : List D) (y : D) : M R := M.lift (idxD ds y)
def idxK (m : M D) (x : D) : M R := M.bind (M.lift (lstE x)) fun ds => M.bind m (idxK2 ds.2)
theorem r_idx {mo m : M D} {st : Sto} : idxM mo m st = Out.bnd (mo st) (idxK m) := rfl
theorem idxK_ap {m : M D} {ds : List D} {st : Sto} : idxK m (.lst ds) st = Out.bnd (m st) (idxK2 ds) := rfl
theorem idxK_apT {m : M D} {ds : List D} {st : Sto} : idxK m (.tup ds) st = Out.bnd (m st) (idxK2 ds) := rfl
theorem idxK2_ap {ds : List D} {y : D} {r : R} {st : Sto} (h : idxD ds y = some r) : idxK2 ds y st = .ok r st := by unfold idxK2; rw [h]; rfl
end Pv
namespace Law
open PySem PySem.Spec PyProof.Rows L2 Pv

def top (i : Nat) : Stmt := PySem.Challenge.pw_loopplaces_k19_loops_beside_one_another.main.body.getD i (.Pass ⟨0, 0, 0, 0⟩)
abbrev i_tupled : Nat := 0
abbrev i_rounds_between : Nat := 1
abbrev i_load : Nat := 2
abbrev i_loads : Nat := 3
abbrev i_peak : Nat := 4
abbrev i_shifted : Nat := 5
abbrev i_written_out : Nat := 6
abbrev i_joined : Nat := 7
abbrev i_shared_peak : Nat := 8
abbrev i_phase_peaks : Nat := 9
abbrev i_best_phase : Nat := 10
abbrev i_never_shares : Nat := 11
abbrev i_peak_ticks : Nat := 12
abbrev i_least_peak : Nat := 13
abbrev i_even_births : Nat := 14
abbrev i__law_box : Nat := 15
abbrev i__law_take : Nat := 16
abbrev i__law_cells : Nat := 17
abbrev i__law_mixed : Nat := 18
abbrev i__law_same : Nat := 19
abbrev i__law_copies : Nat := 20
abbrev i__law_loads : Nat := 21
abbrev i__law_wide : Nat := 22
abbrev i__law_shared : Nat := 23
abbrev i_law : Nat := 24
def lt_tupled_0 : T := (.nm 1)
def lq_tupled_0 : Oe := .non
def le_tupled_0 : E := (.call i_tupled (.cons (.v 1) .nil))
def ir_tupled : Ss := (.cons (.if_ (.isiT (.v 0) ["list", "tuple"]) (.cons (.ret (.bi .tuple (.cons (.lc [1] lt_tupled_0 (.seq (.v 0)) lq_tupled_0 le_tupled_0) .nil)))
    .nil) .nil)
    (.cons (.ret (.mv 0))
    .nil))
def fd_tupled : FD := ⟨["thing"], ["thing", "part"], ir_tupled⟩
def dd_tupled : He.DefD := ⟨("tupled", none), "tupled", "tupled", defArgs (top 2), defBody (top 2), defScope (top 2), [], []⟩
def ir_rounds_between : Ss := (.cons (.ret (.bi .max (.cons (.k (.int 0)) (.cons (.op .sub (.op .div (.v 1) (.v 2)) (.op .div (.op .sub (.v 0) (.k (.int 1))) (.v 2))) .nil))))
    .nil)
def fd_rounds_between : FD := ⟨["first", "last", "beat"], ["first", "last", "beat"], ir_rounds_between⟩
def dd_rounds_between : He.DefD := ⟨("rounds_between", none), "rounds_between", "rounds_between", defArgs (top 4), defBody (top 4), defScope (top 4), [], []⟩
def lt_load_0 : T := (.tup (.cons (.nm 2) (.cons (.nm 3) .nil)))
def lq_load_0 : Oe := .non
def le_load_0 : E := (.call i_rounds_between (.cons (.op .add (.op .sub (.op .sub (.v 1) (.v 2)) (.v 3)) (.k (.int 1))) (.cons (.op .sub (.v 1) (.v 2)) (.cons (.ix (.v 0) (.k (.int 0))) .nil))))
def ir_load : Ss := (.cons (.ret (.bi .sum (.cons (.lc [2, 3] lt_load_0 (.seq (.ix (.v 0) (.k (.int 1)))) lq_load_0 le_load_0) .nil)))
    .nil)
def fd_load : FD := ⟨["loop", "tick"], ["loop", "tick", "born", "long"], ir_load⟩
def dd_load : He.DefD := ⟨("load", none), "load", "load", defArgs (top 5), defBody (top 5), defScope (top 5), [], []⟩
def lt_loads_0 : T := (.nm 1)
def lq_loads_0 : Oe := .non
def le_loads_0 : E := (.call i_load (.cons (.v 0) (.cons (.v 1) .nil)))
def ir_loads : Ss := (.cons (.ret (.bi .tuple (.cons (.lc [1] lt_loads_0 (.rg1 (.ix (.v 0) (.k (.int 0)))) lq_loads_0 le_loads_0) .nil)))
    .nil)
def fd_loads : FD := ⟨["loop"], ["loop", "tick"], ir_loads⟩
def dd_loads : He.DefD := ⟨("loads", none), "loads", "loads", defArgs (top 6), defBody (top 6), defScope (top 6), [], []⟩
def ir_peak : Ss := (.cons (.ret (.bi .max (.cons (.call i_loads (.cons (.v 0) .nil)) .nil)))
    .nil)
def fd_peak : FD := ⟨["loop"], ["loop"], ir_peak⟩
def dd_peak : He.DefD := ⟨("peak", none), "peak", "peak", defArgs (top 7), defBody (top 7), defScope (top 7), [], []⟩
def lt_shifted_0 : T := (.tup (.cons (.nm 2) (.cons (.nm 3) .nil)))
def lq_shifted_0 : Oe := .non
def le_shifted_0 : E := (.tup (.cons (.op .mod (.op .add (.v 2) (.v 1)) (.ix (.v 0) (.k (.int 0)))) (.cons (.v 3) .nil)))
def ir_shifted : Ss := (.cons (.ret (.tup (.cons (.ix (.v 0) (.k (.int 0))) (.cons (.bi .tuple (.cons (.lc [2, 3] lt_shifted_0 (.seq (.ix (.v 0) (.k (.int 1)))) lq_shifted_0 le_shifted_0) .nil)) .nil))))
    .nil)
def fd_shifted : FD := ⟨["loop", "ticks"], ["loop", "ticks", "born", "long"], ir_shifted⟩
def dd_shifted : He.DefD := ⟨("shifted", none), "shifted", "shifted", defArgs (top 8), defBody (top 8), defScope (top 8), [], []⟩
def lt_written_out_0 : T := (.tup (.cons (.nm 5) (.cons (.nm 6) .nil)))
def lq_written_out_0 : Oe := .non
def lt1_written_out_0 : T := (.nm 4)
def li1_written_out_0 : Pv.It := (.rg1 (.v 1))
def lq1_written_out_0 : Oe := .non
def le_written_out_0 : E := (.tup (.cons (.op .add (.v 5) (.op .mul (.v 4) (.v 2))) (.cons (.v 6) .nil)))
def ir_written_out : Ss := (.cons (.asg (.tup (.cons (.nm 2) (.cons (.nm 3) .nil))) (.call i_tupled (.cons (.v 0) .nil)))
    (.cons (.ret (.tup (.cons (.op .mul (.v 2) (.v 1)) (.cons (.bi .tuple (.cons (.lc2 [5, 6, 4] [4] lt_written_out_0 (.seq (.v 3)) lq_written_out_0 lt1_written_out_0 li1_written_out_0 lq1_written_out_0 le_written_out_0) .nil)) .nil))))
    .nil))
def fd_written_out : FD := ⟨["loop", "rounds"], ["loop", "rounds", "beat", "lives", "turn", "born", "long"], ir_written_out⟩
def dd_written_out : He.DefD := ⟨("written_out", none), "written_out", "written_out", defArgs (top 9), defBody (top 9), defScope (top 9), [], []⟩
def ir_joined : Ss := (.cons (.set 2 (.mth .lcm (.cons (.ix (.v 0) (.k (.int 0))) (.cons (.ix (.v 1) (.k (.int 0))) .nil))))
    (.cons (.ret (.tup (.cons (.v 2) (.cons (.op .add (.ix (.call i_written_out (.cons (.v 0) (.cons (.op .div (.v 2) (.ix (.v 0) (.k (.int 0)))) .nil))) (.k (.int 1))) (.ix (.call i_written_out (.cons (.v 1) (.cons (.op .div (.v 2) (.ix (.v 1) (.k (.int 0)))) .nil))) (.k (.int 1)))) .nil))))
    .nil))
def fd_joined : FD := ⟨["one", "other"], ["one", "other", "wide"], ir_joined⟩
def dd_joined : He.DefD := ⟨("joined", none), "joined", "joined", defArgs (top 10), defBody (top 10), defScope (top 10), [], []⟩
def ir_shared_peak : Ss := (.cons (.ret (.call i_peak (.cons (.call i_joined (.cons (.v 0) (.cons (.call i_shifted (.cons (.v 1) (.cons (.v 2) .nil))) .nil))) .nil)))
    .nil)
def fd_shared_peak : FD := ⟨["one", "other", "phase"], ["one", "other", "phase"], ir_shared_peak⟩
def dd_shared_peak : He.DefD := ⟨("shared_peak", none), "shared_peak", "shared_peak", defArgs (top 12), defBody (top 12), defScope (top 12), [], []⟩
def lt_phase_peaks_0 : T := (.nm 2)
def lq_phase_peaks_0 : Oe := .non
def le_phase_peaks_0 : E := (.call i_shared_peak (.cons (.v 0) (.cons (.v 1) (.cons (.v 2) .nil))))
def ir_phase_peaks : Ss := (.cons (.ret (.bi .tuple (.cons (.lc [2] lt_phase_peaks_0 (.rg1 (.mth .gcd (.cons (.ix (.v 0) (.k (.int 0))) (.cons (.ix (.v 1) (.k (.int 0))) .nil)))) lq_phase_peaks_0 le_phase_peaks_0) .nil)))
    .nil)
def fd_phase_peaks : FD := ⟨["one", "other"], ["one", "other", "phase"], ir_phase_peaks⟩
def dd_phase_peaks : He.DefD := ⟨("phase_peaks", none), "phase_peaks", "phase_peaks", defArgs (top 13), defBody (top 13), defScope (top 13), [], []⟩
def ir_best_phase : Ss := (.cons (.set 2 (.call i_phase_peaks (.cons (.v 0) (.cons (.v 1) .nil))))
    (.cons (.ret (.idx (.v 2) (.bi .min (.cons (.v 2) .nil))))
    .nil))
def fd_best_phase : FD := ⟨["one", "other"], ["one", "other", "found"], ir_best_phase⟩
def dd_best_phase : He.DefD := ⟨("best_phase", none), "best_phase", "best_phase", defArgs (top 14), defBody (top 14), defScope (top 14), [], []⟩
def ir_never_shares : Ss := (.cons (.ret (.cmp .eq (.bi .min (.cons (.call i_phase_peaks (.cons (.v 0) (.cons (.v 1) .nil))) .nil)) (.op .add (.call i_peak (.cons (.v 0) .nil)) (.call i_peak (.cons (.v 1) .nil)))))
    .nil)
def fd_never_shares : FD := ⟨["one", "other"], ["one", "other"], ir_never_shares⟩
def dd_never_shares : He.DefD := ⟨("never_shares", none), "never_shares", "never_shares", defArgs (top 15), defBody (top 15), defScope (top 15), [], []⟩
def lt_peak_ticks_0 : T := (.tup (.cons (.nm 2) (.cons (.nm 3) .nil)))
def lq_peak_ticks_0 : Oe := (.som (.cmp .eq (.v 3) (.bi .max (.cons (.v 1) .nil))))
def le_peak_ticks_0 : E := (.v 2)
def ir_peak_ticks : Ss := (.cons (.set 1 (.call i_loads (.cons (.v 0) .nil)))
    (.cons (.ret (.bi .tuple (.cons (.lc [2, 3] lt_peak_ticks_0 (.enum (.v 1)) lq_peak_ticks_0 le_peak_ticks_0) .nil)))
    .nil))
def fd_peak_ticks : FD := ⟨["loop"], ["loop", "found", "tick", "many"], ir_peak_ticks⟩
def dd_peak_ticks : He.DefD := ⟨("peak_ticks", none), "peak_ticks", "peak_ticks", defArgs (top 16), defBody (top 16), defScope (top 16), [], []⟩
def ir_least_peak : Ss := (.cons (.ret (.op .div (.op .sub (.op .add (.bi .sum (.cons (.v 1) .nil)) (.v 0)) (.k (.int 1))) (.v 0)))
    .nil)
def fd_least_peak : FD := ⟨["beat", "longs"], ["beat", "longs"], ir_least_peak⟩
def dd_least_peak : He.DefD := ⟨("least_peak", none), "least_peak", "least_peak", defArgs (top 17), defBody (top 17), defScope (top 17), [], []⟩
def ir_even_births : Ss := (.cons (.set 1 (.call i_loads (.cons (.v 0) .nil)))
    (.cons (.ret (.cmp .le (.op .sub (.bi .max (.cons (.v 1) .nil)) (.bi .min (.cons (.v 1) .nil))) (.k (.int 1))))
    .nil))
def fd_even_births : FD := ⟨["loop"], ["loop", "found"], ir_even_births⟩
def dd_even_births : He.DefD := ⟨("even_births", none), "even_births", "even_births", defArgs (top 18), defBody (top 18), defScope (top 18), [], []⟩
def ir__law_box : Ss := (.cons (.set 2 (.ite (.cmp .lt (.v 1) (.bi .len (.cons (.v 0) .nil))) (.ix (.v 0) (.v 1)) (.k (.int 0))))
    (.cons (.ret (.lst (.cons (.op .mul (.bi .abs (.cons (.v 2) .nil)) (.bi .int (.cons (.cmp .ge (.bi .abs (.cons (.v 2) .nil)) (.op .pow (.k (.int 10)) (.k (.int 18)))) .nil))) (.cons (.op .add (.op .add (.op .mod (.bi .int (.cons (.v 2) .nil)) (.k (.int 2305843009213693951))) (.op .mul (.k (.int 39373)) (.v 1))) (.k (.int 2325001))) (.cons (.k (.int 0)) .nil)))))
    .nil))
def fd__law_box : FD := ⟨["script", "k"], ["script", "k", "cell"], ir__law_box⟩
def dd__law_box : He.DefD := ⟨("_law_box", none), "_law_box", "_law_box", defArgs (top 20), defBody (top 20), defScope (top 20), [], []⟩
def ir__law_take : Ss := (.cons (.if_ (.cmp .gt (.ix (.v 0) (.k (.int 0))) (.k (.int 0))) (.cons (.set 5 (.op .mod (.bi .int (.cons (.ix (.v 0) (.k (.int 0))) .nil)) (.v 1)))
    (.cons (.six 0 (.k (.int 0)) (.op .div (.ix (.v 0) (.k (.int 0))) (.v 1)))
    (.cons (.ret (.mv 5))
    .nil))) .nil)
    (.cons (.six 0 (.k (.int 2)) (.op .add (.ix (.v 0) (.k (.int 2))) (.k (.int 1))))
    (.cons (.set 2 (.op .mod (.bi .int (.cons (.op .mul (.op .add (.ix (.v 0) (.k (.int 1))) (.op .mul (.k (.int 48271)) (.ix (.v 0) (.k (.int 2))))) (.op .add (.k (.int 39373)) (.ix (.v 0) (.k (.int 2))))) .nil)) (.k (.int 2147483647))))
    (.cons (.set 3 (.op .add (.op .mod (.bi .int (.cons (.v 2) .nil)) (.k (.int 40009))) (.k (.int 7))))
    (.cons (.set 4 (.op .mod (.bi .int (.cons (.op .mul (.op .add (.op .add (.v 2) (.ix (.v 0) (.k (.int 2)))) (.op .div (.ix (.v 0) (.k (.int 1))) (.k (.int 1000003)))) (.v 3)) .nil)) (.k (.int 2147483629))))
    (.cons (.ret (.op .mod (.bi .int (.cons (.op .div (.op .mod (.bi .int (.cons (.op .add (.op .mul (.v 4) (.k (.int 48271))) (.v 2)) .nil)) (.k (.int 2147483587))) (.k (.int 64))) .nil)) (.v 1)))
    .nil))))))
def fd__law_take : FD := ⟨["urn", "below"], ["urn", "below", "once", "far", "twice", "own"], ir__law_take⟩
def dd__law_take : He.DefD := ⟨("_law_take", none), "_law_take", "_law_take", defArgs (top 21), defBody (top 21), defScope (top 21), [], []⟩
def ft__law_cells_0 : T := (.tup (.cons (.nm 3) (.cons (.nm 4) .nil)))
def fb__law_cells_0 : Ss := (.cons (.set 5 (.op .mod (.bi .int (.cons (.v 3) .nil)) (.v 1)))
    (.cons (.six 2 (.v 5) (.op .add (.ix (.v 2) (.v 5)) (.op .mul (.v 4) (.op .add (.v 3) (.k (.int 2))))))
    .nil))
def ir__law_cells : Ss := (.cons (.set 2 (.or (.bi .list (.cons (.sl (.v 0) .non (.som (.v 1))) .nil)) (.lst (.cons (.k (.int 0)) .nil))))
    (.cons (.for_ ft__law_cells_0 (.enum (.sl (.v 0) (.som (.v 1)) (.som (.k (.int 63))))) fb__law_cells_0)
    (.cons (.ret (.mv 2))
    .nil)))
def fd__law_cells : FD := ⟨["script", "many"], ["script", "many", "cells", "k", "cell", "at"], ir__law_cells⟩
def dd__law_cells : He.DefD := ⟨("_law_cells", none), "_law_cells", "_law_cells", defArgs (top 22), defBody (top 22), defScope (top 22), [], []⟩
def lt__law_mixed_0 : T := (.nm 3)
def lq__law_mixed_0 : Oe := .non
def le__law_mixed_0 : E := (.call i__law_mixed (.cons (.v 0) (.cons (.v 3) .nil)))
def ir__law_mixed : Ss := (.cons (.if_ (.nt (.isiT (.v 1) ["list", "tuple"])) (.cons (.ret (.mv 1))
    .nil) .nil)
    (.cons (.set 2 (.lc [3] lt__law_mixed_0 (.seq (.v 1)) lq__law_mixed_0 le__law_mixed_0))
    (.cons (.ret (.ite (.cmp .eq (.call i__law_take (.cons (.v 0) (.cons (.k (.int 2)) .nil))) (.k (.int 0))) (.mv 2) (.bi .tuple (.cons (.v 2) .nil))))
    .nil)))
def fd__law_mixed : FD := ⟨["urn", "matter"], ["urn", "matter", "parts", "own"], ir__law_mixed⟩
def dd__law_mixed : He.DefD := ⟨("_law_mixed", none), "_law_mixed", "_law_mixed", defArgs (top 23), defBody (top 23), defScope (top 23), [], []⟩
def lt__law_same_0 : T := (.tup (.cons (.nm 2) (.cons (.nm 3) .nil)))
def lq__law_same_0 : Oe := .non
def le__law_same_0 : E := (.call i__law_same (.cons (.v 2) (.cons (.v 3) .nil)))
def ir__law_same : Ss := (.cons (.if_ (.isiT (.v 1) ["list", "tuple"]) (.cons (.if_ (.or (.cmp .ne (.isi (.v 0) "list") (.isi (.v 1) "list")) (.cmp .ne (.isi (.v 0) "tuple") (.isi (.v 1) "tuple"))) (.cons (.ret (.k (.bl false)))
    .nil) .nil)
    (.cons (.ret (.an (.cmp .eq (.bi .len (.cons (.v 0) .nil)) (.bi .len (.cons (.v 1) .nil))) (.bi .all (.cons (.lc [2, 3] lt__law_same_0 (.zip (.v 0) (.v 1)) lq__law_same_0 le__law_same_0) .nil))))
    .nil)) .nil)
    (.cons (.if_ (.or (.cmp .is (.v 1) (.k .non)) (.or (.cmp .is (.v 0) (.k .non)) (.or (.isi (.v 1) "bool") (.isi (.v 0) "bool")))) (.cons (.ret (.an (.cmp .eq (.cmp .is (.v 1) (.k .non)) (.cmp .is (.v 0) (.k .non))) (.an (.cmp .eq (.isi (.v 0) "bool") (.isi (.v 1) "bool")) (.cmp .eq (.v 0) (.v 1)))))
    .nil) .nil)
    (.cons (.if_ (.isi (.v 1) "str") (.cons (.ret (.an (.isi (.v 0) "str") (.cmp .eq (.v 0) (.v 1))))
    .nil) .nil)
    (.cons (.ret (.an (.isi (.v 0) "int") (.cmp .eq (.v 0) (.v 1))))
    .nil))))
def fd__law_same : FD := ⟨["got", "due"], ["got", "due", "mine", "own"], ir__law_same⟩
def dd__law_same : He.DefD := ⟨("_law_same", none), "_law_same", "_law_same", defArgs (top 24), defBody (top 24), defScope (top 24), [], []⟩
def ft__law_copies_1 : T := (.nm 5)
def fb__law_copies_1 : Ss := (.cons (.if_ (.ch .le .lt (.op .add (.v 6) (.op .mul (.v 5) (.v 2))) (.v 1) (.op .add (.op .add (.v 6) (.op .mul (.v 5) (.v 2))) (.v 7))) (.cons (.ex (.app 3 (.tup (.cons (.v 4) (.cons (.v 5) .nil)))))
    .nil) .nil)
    .nil)
def ft__law_copies_0 : T := (.tup (.cons (.nm 4) (.cons (.tup (.cons (.nm 6) (.cons (.nm 7) .nil))) .nil)))
def fb__law_copies_0 : Ss := (.cons (.for_ ft__law_copies_1 (.rg2 (.op .sub (.op .div (.bi .int (.cons (.op .sub (.op .sub (.v 1) (.v 6)) (.v 7)) .nil)) (.v 2)) (.k (.int 1))) (.op .add (.op .div (.bi .int (.cons (.op .sub (.v 1) (.v 6)) .nil)) (.v 2)) (.k (.int 2)))) fb__law_copies_1)
    .nil)
def ir__law_copies : Ss := (.cons (.par [2, 3] (.cons (.ix (.v 0) (.k (.int 0))) (.cons (.lst .nil) .nil)))
    (.cons (.for_ ft__law_copies_0 (.enum (.ix (.v 0) (.k (.int 1)))) fb__law_copies_0)
    (.cons (.ret (.bi .sorted (.cons (.v 3) .nil)))
    .nil)))
def fd__law_copies : FD := ⟨["loop", "tick"], ["loop", "tick", "beat", "found", "value", "turn", "born", "long"], ir__law_copies⟩
def dd__law_copies : He.DefD := ⟨("_law_copies", none), "_law_copies", "_law_copies", defArgs (top 25), defBody (top 25), defScope (top 25), [], []⟩
def lt__law_loads_0 : T := (.nm 1)
def lq__law_loads_0 : Oe := .non
def le__law_loads_0 : E := (.bi .len (.cons (.call i__law_copies (.cons (.v 0) (.cons (.v 1) .nil))) .nil))
def ir__law_loads : Ss := (.cons (.ret (.lc [1] lt__law_loads_0 (.rg1 (.ix (.v 0) (.k (.int 0)))) lq__law_loads_0 le__law_loads_0))
    .nil)
def fd__law_loads : FD := ⟨["loop"], ["loop", "tick"], ir__law_loads⟩
def dd__law_loads : He.DefD := ⟨("_law_loads", none), "_law_loads", "_law_loads", defArgs (top 26), defBody (top 26), defScope (top 26), [], []⟩
def ft__law_wide_0 : T := (.nm 1)
def fb__law_wide_0 : Ss := (.cons (.ex (.app 3 (.tup (.cons (.call i__law_take (.cons (.v 0) (.cons (.v 2) .nil))) (.cons (.op .add (.k (.int 1)) (.call i__law_take (.cons (.v 0) (.cons (.k (.int 9)) .nil)))) .nil)))))
    .nil)
def ir__law_wide : Ss := (.cons (.par [2, 3] (.cons (.op .add (.k (.int 1)) (.call i__law_take (.cons (.v 0) (.cons (.k (.int 6)) .nil)))) (.cons (.lst .nil) .nil)))
    (.cons (.for_ ft__law_wide_0 (.rg1 (.call i__law_take (.cons (.v 0) (.cons (.k (.int 5)) .nil)))) fb__law_wide_0)
    (.cons (.ret (.tup (.cons (.v 2) (.cons (.bi .tuple (.cons (.v 3) .nil)) .nil))))
    .nil)))
def fd__law_wide : FD := ⟨["urn"], ["urn", "lap", "beat", "lives"], ir__law_wide⟩
def dd__law_wide : He.DefD := ⟨("_law_wide", none), "_law_wide", "_law_wide", defArgs (top 27), defBody (top 27), defScope (top 27), [], []⟩
def lt__law_shared_0 : T := (.nm 4)
def lq__law_shared_0 : Oe := .non
def le__law_shared_0 : E := (.op .add (.bi .len (.cons (.call i__law_copies (.cons (.v 0) (.cons (.v 4) .nil))) .nil)) (.bi .len (.cons (.call i__law_copies (.cons (.v 1) (.cons (.op .sub (.v 4) (.v 2)) .nil))) .nil)))
def ir__law_shared : Ss := (.cons (.set 3 (.op .mul (.ix (.v 0) (.k (.int 0))) (.ix (.v 1) (.k (.int 0)))))
    (.cons (.ret (.bi .max (.cons (.lc [4] lt__law_shared_0 (.rg1 (.v 3)) lq__law_shared_0 le__law_shared_0) .nil)))
    .nil))
def fd__law_shared : FD := ⟨["one", "other", "phase"], ["one", "other", "phase", "width", "tick"], ir__law_shared⟩
def dd__law_shared : He.DefD := ⟨("_law_shared", none), "_law_shared", "_law_shared", defArgs (top 28), defBody (top 28), defScope (top 28), [], []⟩
def lt_law_0 : T := (.nm 17)
def lq_law_0 : Oe := (.som (.an (.cmp .eq (.op .mod (.bi .int (.cons (.ix (.v 8) (.k (.int 0))) .nil)) (.v 17)) (.k (.int 0))) (.cmp .eq (.op .mod (.bi .int (.cons (.ix (.v 9) (.k (.int 0))) .nil)) (.v 17)) (.k (.int 0)))))
def le_law_0 : E := (.v 17)
def lt_law_1 : T := (.nm 16)
def lq_law_1 : Oe := .non
def le_law_1 : E := (.call i__law_shared (.cons (.v 8) (.cons (.v 9) (.cons (.v 16) .nil))))
def lt_law_2 : T := (.tup (.cons (.nm 19) (.cons (.nm 20) .nil)))
def lq_law_2 : Oe := (.som (.cmp .eq (.v 20) (.bi .max (.cons (.v 12) .nil))))
def le_law_2 : E := (.v 19)
def lt_law_3 : T := (.tup (.cons (.nm 19) (.cons (.nm 20) .nil)))
def lq_law_3 : Oe := (.som (.cmp .eq (.v 20) (.bi .max (.cons (.v 13) .nil))))
def le_law_3 : E := (.v 19)
def lt_law_6 : T := (.nm 17)
def lq_law_6 : Oe := (.som (.cmp .eq (.op .mod (.bi .int (.cons (.op .sub (.op .add (.v 17) (.v 16)) (.v 19)) .nil)) (.v 2)) (.k (.int 0))))
def le_law_6 : E := (.k (.int 1))
def lt_law_5 : T := (.nm 19)
def lq_law_5 : Oe := (.som (.cmp .ne (.lc [17] lt_law_6 (.seq (.v 15)) lq_law_6 le_law_6) (.lst .nil)))
def le_law_5 : E := (.k (.int 1))
def lt_law_4 : T := (.nm 16)
def lq_law_4 : Oe := .non
def le_law_4 : E := (.cmp .ne (.lc [19] lt_law_5 (.seq (.v 14)) lq_law_5 le_law_5) (.lst .nil))
def lt_law_7 : T := (.nm 16)
def lq_law_7 : Oe := .non
def le_law_7 : E := (.ix (.v 3) (.op .mod (.bi .int (.cons (.neg (.v 16)) .nil)) (.v 2)))
def lt_law_8 : T := (.nm 18)
def lq_law_8 : Oe := .non
def le_law_8 : E := (.op .add (.k (.int 1)) (.call i__law_take (.cons (.v 1) (.cons (.k (.int 12)) .nil))))
def ir_law : Ss := (.cons (.set 1 (.cell (.call i__law_box (.cons (.call i__law_cells (.cons (.v 0) (.cons (.k (.int 1)) .nil))) (.cons (.k (.int 0)) .nil)))))
    (.cons (.par [8, 9] (.cons (.call i__law_wide (.cons (.v 1) .nil)) (.cons (.call i__law_wide (.cons (.v 1) .nil)) .nil)))
    (.cons (.par [10, 11] (.cons (.call i__law_mixed (.cons (.v 1) (.cons (.v 8) .nil))) (.cons (.call i__law_mixed (.cons (.v 1) (.cons (.v 9) .nil))) .nil)))
    (.cons (.set 2 (.ix (.lc [17] lt_law_0 (.rg2 (.k (.int 1)) (.k (.int 7))) lq_law_0 le_law_0) (.neg (.k (.int 1)))))
    (.cons (.set 3 (.lc [16] lt_law_1 (.rg1 (.v 2)) lq_law_1 le_law_1))
    (.cons (.set 4 (.op .sub (.call i__law_take (.cons (.v 1) (.cons (.k (.int 60)) .nil))) (.k (.int 30))))
    (.cons (.set 5 (.lst (.cons (.call i_phase_peaks (.cons (.v 10) (.cons (.v 11) .nil))) (.cons (.call i_best_phase (.cons (.v 10) (.cons (.v 11) .nil))) (.cons (.call i_shared_peak (.cons (.v 10) (.cons (.v 11) (.cons (.v 4) .nil)))) (.cons (.call i_shared_peak (.cons (.v 10) (.cons (.v 11) (.cons (.op .add (.v 4) (.op .mul (.v 2) (.k (.int 7)))) .nil)))) .nil))))))
    (.cons (.if_ (.nt (.call i__law_same (.cons (.v 5) (.cons (.lst (.cons (.bi .tuple (.cons (.v 3) .nil)) (.cons (.idx (.v 3) (.bi .min (.cons (.v 3) .nil))) (.cons (.ix (.v 3) (.op .mod (.bi .int (.cons (.v 4) .nil)) (.v 2))) (.cons (.ix (.v 3) (.op .mod (.bi .int (.cons (.v 4) .nil)) (.v 2))) .nil))))) .nil)))) (.cons (.ret (.k (.bl false)))
    .nil) .nil)
    (.cons (.par [12, 13] (.cons (.call i__law_loads (.cons (.v 8) .nil)) (.cons (.call i__law_loads (.cons (.v 9) .nil)) .nil)))
    (.cons (.par [14, 15] (.cons (.lc [19, 20] lt_law_2 (.enum (.v 12)) lq_law_2 le_law_2) (.cons (.lc [19, 20] lt_law_3 (.enum (.v 13)) lq_law_3 le_law_3) .nil)))
    (.cons (.set 6 (.lc [16] lt_law_4 (.rg1 (.v 2)) lq_law_4 le_law_4))
    (.cons (.if_ (.nt (.call i__law_same (.cons (.lst (.cons (.call i_never_shares (.cons (.v 10) (.cons (.v 11) .nil))) (.cons (.call i_peak_ticks (.cons (.v 10) .nil)) (.cons (.call i_peak_ticks (.cons (.v 11) .nil)) (.cons (.call i_even_births (.cons (.v 10) .nil)) .nil))))) (.cons (.lst (.cons (.cmp .nin (.k (.bl false)) (.v 6)) (.cons (.bi .tuple (.cons (.v 14) .nil)) (.cons (.bi .tuple (.cons (.v 15) .nil)) (.cons (.cmp .le (.op .sub (.bi .max (.cons (.v 12) .nil)) (.bi .min (.cons (.v 12) .nil))) (.k (.int 1))) .nil))))) .nil)))) (.cons (.ret (.k (.bl false)))
    .nil) .nil)
    (.cons (.if_ (.or (.cmp .ne (.call i_never_shares (.cons (.v 10) (.cons (.v 11) .nil))) (.cmp .eq (.bi .min (.cons (.v 3) .nil)) (.op .add (.call i_peak (.cons (.v 8) .nil)) (.call i_peak (.cons (.v 9) .nil))))) (.cmp .ne (.call i_phase_peaks (.cons (.v 11) (.cons (.v 10) .nil))) (.bi .tuple (.cons (.lc [16] lt_law_7 (.rg1 (.v 2)) lq_law_7 le_law_7) .nil)))) (.cons (.ret (.k (.bl false)))
    .nil) .nil)
    (.cons (.set 7 (.bi .tuple (.cons (.lc [18] lt_law_8 (.rg1 (.call i__law_take (.cons (.v 1) (.cons (.k (.int 6)) .nil)))) lq_law_8 le_law_8) .nil)))
    (.cons (.ret (.call i__law_same (.cons (.call i_least_peak (.cons (.ix (.v 8) (.k (.int 0))) (.cons (.call i__law_mixed (.cons (.v 1) (.cons (.v 7) .nil))) .nil))) (.cons (.bi .len (.cons (.lr3 (.k (.int 0)) (.bi .sum (.cons (.v 7) .nil)) (.ix (.v 8) (.k (.int 0)))) .nil)) .nil))))
    .nil)))))))))))))))
def fd_law : FD := ⟨["script"], ["script", "urn", "common", "peaks", "far", "got", "meets", "longs", "one", "other", "mine", "its", "rows", "own_rows", "ticks", "own_ticks", "phase", "own", "lap", "tick", "many"], ir_law⟩
def dd_law : He.DefD := ⟨("law", none), "law", "law", defArgs (top 29), defBody (top 29), defScope (top 29), [], []⟩
def FNl : List Str := ["tupled", "rounds_between", "load", "loads", "peak", "shifted", "written_out", "joined", "shared_peak", "phase_peaks", "best_phase", "never_shares", "peak_ticks", "least_peak", "even_births", "_law_box", "_law_take", "_law_cells", "_law_mixed", "_law_same", "_law_copies", "_law_loads", "_law_wide", "_law_shared", "law"]
def mths : List (Str × String) := [("gcd", "math.gcd"), ("lcm", "math.lcm")]
def cons : List (Str × Int) := []
def tabs : Tabs := []
def FN : Gn := ⟨FNl, cons, mths, tabs⟩
def tbl : List FD := [fd_tupled, fd_rounds_between, fd_load, fd_loads, fd_peak, fd_shifted, fd_written_out, fd_joined, fd_shared_peak, fd_phase_peaks, fd_best_phase, fd_never_shares, fd_peak_ticks, fd_least_peak, fd_even_births, fd__law_box, fd__law_take, fd__law_cells, fd__law_mixed, fd__law_same, fd__law_copies, fd__law_loads, fd__law_wide, fd__law_shared, fd_law]
def dds : List He.DefD := [dd_tupled, dd_rounds_between, dd_load, dd_loads, dd_peak, dd_shifted, dd_written_out, dd_joined, dd_shared_peak, dd_phase_peaks, dd_best_phase, dd_never_shares, dd_peak_ticks, dd_least_peak, dd_even_births, dd__law_box, dd__law_take, dd__law_cells, dd__law_mixed, dd__law_same, dd__law_copies, dd__law_loads, dd__law_wide, dd__law_shared, dd_law]
def fas : List He.Fa := [.glo "tupled", .glo "rounds_between", .glo "load", .glo "loads", .glo "peak", .glo "shifted", .glo "written_out", .glo "joined", .glo "shared_peak", .glo "phase_peaks", .glo "best_phase", .glo "never_shares", .glo "peak_ticks", .glo "least_peak", .glo "even_births", .glo "_law_box", .glo "_law_take", .glo "_law_cells", .glo "_law_mixed", .glo "_law_same", .glo "_law_copies", .glo "_law_loads", .glo "_law_wide", .glo "_law_shared", .glo "law", .free "len", .free "abs", .free "int", .free "max", .free "min", .free "all", .free "any", .free "sum", .free "tuple", .free "list", .free "sorted", .free "isinstance", .free "bool", .free "str", .free "range", .free "enumerate", .free "zip", .free "set"]
theorem ck_tupled : ckSs FN ir_tupled ⟨fd_tupled.N, defScope (top 2), fun _ => true⟩ (defBody (top 2)) = true := by kernel_rfl
theorem sc_tupled : FnScope fd_tupled.N fd_tupled.ps (defScope (top 2)) := ⟨rfl, rfl, rfl, by decide +kernel, rfl, by decide +kernel, by decide +kernel⟩
theorem ck_rounds_between : ckSs FN ir_rounds_between ⟨fd_rounds_between.N, defScope (top 4), fun _ => true⟩ (defBody (top 4)) = true := by kernel_rfl
theorem sc_rounds_between : FnScope fd_rounds_between.N fd_rounds_between.ps (defScope (top 4)) := ⟨rfl, rfl, rfl, by decide +kernel, rfl, by decide +kernel, by decide +kernel⟩
theorem ck_load : ckSs FN ir_load ⟨fd_load.N, defScope (top 5), fun _ => true⟩ (defBody (top 5)) = true := by kernel_rfl
theorem sc_load : FnScope fd_load.N fd_load.ps (defScope (top 5)) := ⟨rfl, rfl, rfl, by decide +kernel, rfl, by decide +kernel, by decide +kernel⟩
theorem ck_loads : ckSs FN ir_loads ⟨fd_loads.N, defScope (top 6), fun _ => true⟩ (defBody (top 6)) = true := by kernel_rfl
theorem sc_loads : FnScope fd_loads.N fd_loads.ps (defScope (top 6)) := ⟨rfl, rfl, rfl, by decide +kernel, rfl, by decide +kernel, by decide +kernel⟩
theorem ck_peak : ckSs FN ir_peak ⟨fd_peak.N, defScope (top 7), fun _ => true⟩ (defBody (top 7)) = true := by kernel_rfl
theorem sc_peak : FnScope fd_peak.N fd_peak.ps (defScope (top 7)) := ⟨rfl, rfl, rfl, by decide +kernel, rfl, by decide +kernel, by decide +kernel⟩
theorem ck_shifted : ckSs FN ir_shifted ⟨fd_shifted.N, defScope (top 8), fun _ => true⟩ (defBody (top 8)) = true := by kernel_rfl
theorem sc_shifted : FnScope fd_shifted.N fd_shifted.ps (defScope (top 8)) := ⟨rfl, rfl, rfl, by decide +kernel, rfl, by decide +kernel, by decide +kernel⟩
theorem ck_written_out : ckSs FN ir_written_out ⟨fd_written_out.N, defScope (top 9), fun _ => true⟩ (defBody (top 9)) = true := by kernel_rfl
theorem sc_written_out : FnScope fd_written_out.N fd_written_out.ps (defScope (top 9)) := ⟨rfl, rfl, rfl, by decide +kernel, rfl, by decide +kernel, by decide +kernel⟩
theorem ck_joined : ckSs FN ir_joined ⟨fd_joined.N, defScope (top 10), fun _ => true⟩ (defBody (top 10)) = true := by kernel_rfl
theorem sc_joined : FnScope fd_joined.N fd_joined.ps (defScope (top 10)) := ⟨rfl, rfl, rfl, by decide +kernel, rfl, by decide +kernel, by decide +kernel⟩
theorem ck_shared_peak : ckSs FN ir_shared_peak ⟨fd_shared_peak.N, defScope (top 12), fun _ => true⟩ (defBody (top 12)) = true := by kernel_rfl
theorem sc_shared_peak : FnScope fd_shared_peak.N fd_shared_peak.ps (defScope (top 12)) := ⟨rfl, rfl, rfl, by decide +kernel, rfl, by decide +kernel, by decide +kernel⟩
theorem ck_phase_peaks : ckSs FN ir_phase_peaks ⟨fd_phase_peaks.N, defScope (top 13), fun _ => true⟩ (defBody (top 13)) = true := by kernel_rfl
theorem sc_phase_peaks : FnScope fd_phase_peaks.N fd_phase_peaks.ps (defScope (top 13)) := ⟨rfl, rfl, rfl, by decide +kernel, rfl, by decide +kernel, by decide +kernel⟩
theorem ck_best_phase : ckSs FN ir_best_phase ⟨fd_best_phase.N, defScope (top 14), fun _ => true⟩ (defBody (top 14)) = true := by kernel_rfl
theorem sc_best_phase : FnScope fd_best_phase.N fd_best_phase.ps (defScope (top 14)) := ⟨rfl, rfl, rfl, by decide +kernel, rfl, by decide +kernel, by decide +kernel⟩
theorem ck_never_shares : ckSs FN ir_never_shares ⟨fd_never_shares.N, defScope (top 15), fun _ => true⟩ (defBody (top 15)) = true := by kernel_rfl
theorem sc_never_shares : FnScope fd_never_shares.N fd_never_shares.ps (defScope (top 15)) := ⟨rfl, rfl, rfl, by decide +kernel, rfl, by decide +kernel, by decide +kernel⟩
theorem ck_peak_ticks : ckSs FN ir_peak_ticks ⟨fd_peak_ticks.N, defScope (top 16), fun _ => true⟩ (defBody (top 16)) = true := by kernel_rfl
theorem sc_peak_ticks : FnScope fd_peak_ticks.N fd_peak_ticks.ps (defScope (top 16)) := ⟨rfl, rfl, rfl, by decide +kernel, rfl, by decide +kernel, by decide +kernel⟩
theorem ck_least_peak : ckSs FN ir_least_peak ⟨fd_least_peak.N, defScope (top 17), fun _ => true⟩ (defBody (top 17)) = true := by kernel_rfl
theorem sc_least_peak : FnScope fd_least_peak.N fd_least_peak.ps (defScope (top 17)) := ⟨rfl, rfl, rfl, by decide +kernel, rfl, by decide +kernel, by decide +kernel⟩
theorem ck_even_births : ckSs FN ir_even_births ⟨fd_even_births.N, defScope (top 18), fun _ => true⟩ (defBody (top 18)) = true := by kernel_rfl
theorem sc_even_births : FnScope fd_even_births.N fd_even_births.ps (defScope (top 18)) := ⟨rfl, rfl, rfl, by decide +kernel, rfl, by decide +kernel, by decide +kernel⟩
theorem ck__law_box : ckSs FN ir__law_box ⟨fd__law_box.N, defScope (top 20), fun _ => true⟩ (defBody (top 20)) = true := by kernel_rfl
theorem sc__law_box : FnScope fd__law_box.N fd__law_box.ps (defScope (top 20)) := ⟨rfl, rfl, rfl, by decide +kernel, rfl, by decide +kernel, by decide +kernel⟩
theorem ck__law_take : ckSs FN ir__law_take ⟨fd__law_take.N, defScope (top 21), fun _ => true⟩ (defBody (top 21)) = true := by kernel_rfl
theorem sc__law_take : FnScope fd__law_take.N fd__law_take.ps (defScope (top 21)) := ⟨rfl, rfl, rfl, by decide +kernel, rfl, by decide +kernel, by decide +kernel⟩
theorem ck__law_cells : ckSs FN ir__law_cells ⟨fd__law_cells.N, defScope (top 22), fun _ => true⟩ (defBody (top 22)) = true := by kernel_rfl
theorem sc__law_cells : FnScope fd__law_cells.N fd__law_cells.ps (defScope (top 22)) := ⟨rfl, rfl, rfl, by decide +kernel, rfl, by decide +kernel, by decide +kernel⟩
theorem ck__law_mixed : ckSs FN ir__law_mixed ⟨fd__law_mixed.N, defScope (top 23), fun _ => true⟩ (defBody (top 23)) = true := by kernel_rfl
theorem sc__law_mixed : FnScope fd__law_mixed.N fd__law_mixed.ps (defScope (top 23)) := ⟨rfl, rfl, rfl, by decide +kernel, rfl, by decide +kernel, by decide +kernel⟩
theorem ck__law_same : ckSs FN ir__law_same ⟨fd__law_same.N, defScope (top 24), fun _ => true⟩ (defBody (top 24)) = true := by kernel_rfl
theorem sc__law_same : FnScope fd__law_same.N fd__law_same.ps (defScope (top 24)) := ⟨rfl, rfl, rfl, by decide +kernel, rfl, by decide +kernel, by decide +kernel⟩
theorem ck__law_copies : ckSs FN ir__law_copies ⟨fd__law_copies.N, defScope (top 25), fun _ => true⟩ (defBody (top 25)) = true := by kernel_rfl
theorem sc__law_copies : FnScope fd__law_copies.N fd__law_copies.ps (defScope (top 25)) := ⟨rfl, rfl, rfl, by decide +kernel, rfl, by decide +kernel, by decide +kernel⟩
theorem ck__law_loads : ckSs FN ir__law_loads ⟨fd__law_loads.N, defScope (top 26), fun _ => true⟩ (defBody (top 26)) = true := by kernel_rfl
theorem sc__law_loads : FnScope fd__law_loads.N fd__law_loads.ps (defScope (top 26)) := ⟨rfl, rfl, rfl, by decide +kernel, rfl, by decide +kernel, by decide +kernel⟩
theorem ck__law_wide : ckSs FN ir__law_wide ⟨fd__law_wide.N, defScope (top 27), fun _ => true⟩ (defBody (top 27)) = true := by kernel_rfl
theorem sc__law_wide : FnScope fd__law_wide.N fd__law_wide.ps (defScope (top 27)) := ⟨rfl, rfl, rfl, by decide +kernel, rfl, by decide +kernel, by decide +kernel⟩
theorem ck__law_shared : ckSs FN ir__law_shared ⟨fd__law_shared.N, defScope (top 28), fun _ => true⟩ (defBody (top 28)) = true := by kernel_rfl
theorem sc__law_shared : FnScope fd__law_shared.N fd__law_shared.ps (defScope (top 28)) := ⟨rfl, rfl, rfl, by decide +kernel, rfl, by decide +kernel, by decide +kernel⟩
theorem ck_law : ckSs FN ir_law ⟨fd_law.N, defScope (top 29), fun _ => true⟩ (defBody (top 29)) = true := by kernel_rfl
theorem sc_law : FnScope fd_law.N fd_law.ps (defScope (top 29)) := ⟨rfl, rfl, rfl, by decide +kernel, rfl, by decide +kernel, by decide +kernel⟩
abbrev F (k i : Nat) : Fn := (fnAt tbl 100000 k i).2
theorem np_tupled (k : Nat) : (fnAt tbl 100000 k i_tupled).1 = 1 := (fnAt_np (fd := fd_tupled) rfl).trans rfl
theorem np_rounds_between (k : Nat) : (fnAt tbl 100000 k i_rounds_between).1 = 3 := (fnAt_np (fd := fd_rounds_between) rfl).trans rfl
theorem np_load (k : Nat) : (fnAt tbl 100000 k i_load).1 = 2 := (fnAt_np (fd := fd_load) rfl).trans rfl
theorem np_loads (k : Nat) : (fnAt tbl 100000 k i_loads).1 = 1 := (fnAt_np (fd := fd_loads) rfl).trans rfl
theorem np_peak (k : Nat) : (fnAt tbl 100000 k i_peak).1 = 1 := (fnAt_np (fd := fd_peak) rfl).trans rfl
theorem np_shifted (k : Nat) : (fnAt tbl 100000 k i_shifted).1 = 2 := (fnAt_np (fd := fd_shifted) rfl).trans rfl
theorem np_written_out (k : Nat) : (fnAt tbl 100000 k i_written_out).1 = 2 := (fnAt_np (fd := fd_written_out) rfl).trans rfl
theorem np_joined (k : Nat) : (fnAt tbl 100000 k i_joined).1 = 2 := (fnAt_np (fd := fd_joined) rfl).trans rfl
theorem np_shared_peak (k : Nat) : (fnAt tbl 100000 k i_shared_peak).1 = 3 := (fnAt_np (fd := fd_shared_peak) rfl).trans rfl
theorem np_phase_peaks (k : Nat) : (fnAt tbl 100000 k i_phase_peaks).1 = 2 := (fnAt_np (fd := fd_phase_peaks) rfl).trans rfl
theorem np_best_phase (k : Nat) : (fnAt tbl 100000 k i_best_phase).1 = 2 := (fnAt_np (fd := fd_best_phase) rfl).trans rfl
theorem np_never_shares (k : Nat) : (fnAt tbl 100000 k i_never_shares).1 = 2 := (fnAt_np (fd := fd_never_shares) rfl).trans rfl
theorem np_peak_ticks (k : Nat) : (fnAt tbl 100000 k i_peak_ticks).1 = 1 := (fnAt_np (fd := fd_peak_ticks) rfl).trans rfl
theorem np_least_peak (k : Nat) : (fnAt tbl 100000 k i_least_peak).1 = 2 := (fnAt_np (fd := fd_least_peak) rfl).trans rfl
theorem np_even_births (k : Nat) : (fnAt tbl 100000 k i_even_births).1 = 1 := (fnAt_np (fd := fd_even_births) rfl).trans rfl
theorem np__law_box (k : Nat) : (fnAt tbl 100000 k i__law_box).1 = 2 := (fnAt_np (fd := fd__law_box) rfl).trans rfl
theorem np__law_take (k : Nat) : (fnAt tbl 100000 k i__law_take).1 = 2 := (fnAt_np (fd := fd__law_take) rfl).trans rfl
theorem np__law_cells (k : Nat) : (fnAt tbl 100000 k i__law_cells).1 = 2 := (fnAt_np (fd := fd__law_cells) rfl).trans rfl
theorem np__law_mixed (k : Nat) : (fnAt tbl 100000 k i__law_mixed).1 = 2 := (fnAt_np (fd := fd__law_mixed) rfl).trans rfl
theorem np__law_same (k : Nat) : (fnAt tbl 100000 k i__law_same).1 = 2 := (fnAt_np (fd := fd__law_same) rfl).trans rfl
theorem np__law_copies (k : Nat) : (fnAt tbl 100000 k i__law_copies).1 = 2 := (fnAt_np (fd := fd__law_copies) rfl).trans rfl
theorem np__law_loads (k : Nat) : (fnAt tbl 100000 k i__law_loads).1 = 1 := (fnAt_np (fd := fd__law_loads) rfl).trans rfl
theorem np__law_wide (k : Nat) : (fnAt tbl 100000 k i__law_wide).1 = 1 := (fnAt_np (fd := fd__law_wide) rfl).trans rfl
theorem np__law_shared (k : Nat) : (fnAt tbl 100000 k i__law_shared).1 = 3 := (fnAt_np (fd := fd__law_shared) rfl).trans rfl
theorem np_law (k : Nat) : (fnAt tbl 100000 k i_law).1 = 1 := (fnAt_np (fd := fd_law) rfl).trans rfl
abbrev Rw : PySem.W.OpenRow := PySem.W.OpenLaw.row PySem.Challenge.rw_loopplaces_k19_loops_beside_one_another
section
variable {G : Glob} {h : Heap}
theorem in_tupled (X : G.K.In h) (M : h.Ns mainGlobals G.mg) (hF : G.FN = FN) (c : He.SaysD fas dds G.K) : FnIn G "tupled" fd_tupled := FnIn.of X M c 0 (d := dd_tupled) rfl rfl rfl (c.fact 0 (f := .glo "tupled") rfl) sc_tupled (fun _ _ _ _ _ _ us hl => match us, hl with | [_], _ => rfl) (by rw [hF]; exact ck_tupled)
theorem in_rounds_between (X : G.K.In h) (M : h.Ns mainGlobals G.mg) (hF : G.FN = FN) (c : He.SaysD fas dds G.K) : FnIn G "rounds_between" fd_rounds_between := FnIn.of X M c 1 (d := dd_rounds_between) rfl rfl rfl (c.fact 1 (f := .glo "rounds_between") rfl) sc_rounds_between (fun _ _ _ _ _ _ us hl => match us, hl with | [_, _, _], _ => rfl) (by rw [hF]; exact ck_rounds_between)
theorem in_load (X : G.K.In h) (M : h.Ns mainGlobals G.mg) (hF : G.FN = FN) (c : He.SaysD fas dds G.K) : FnIn G "load" fd_load := FnIn.of X M c 2 (d := dd_load) rfl rfl rfl (c.fact 2 (f := .glo "load") rfl) sc_load (fun _ _ _ _ _ _ us hl => match us, hl with | [_, _], _ => rfl) (by rw [hF]; exact ck_load)
theorem in_loads (X : G.K.In h) (M : h.Ns mainGlobals G.mg) (hF : G.FN = FN) (c : He.SaysD fas dds G.K) : FnIn G "loads" fd_loads := FnIn.of X M c 3 (d := dd_loads) rfl rfl rfl (c.fact 3 (f := .glo "loads") rfl) sc_loads (fun _ _ _ _ _ _ us hl => match us, hl with | [_], _ => rfl) (by rw [hF]; exact ck_loads)
theorem in_peak (X : G.K.In h) (M : h.Ns mainGlobals G.mg) (hF : G.FN = FN) (c : He.SaysD fas dds G.K) : FnIn G "peak" fd_peak := FnIn.of X M c 4 (d := dd_peak) rfl rfl rfl (c.fact 4 (f := .glo "peak") rfl) sc_peak (fun _ _ _ _ _ _ us hl => match us, hl with | [_], _ => rfl) (by rw [hF]; exact ck_peak)
theorem in_shifted (X : G.K.In h) (M : h.Ns mainGlobals G.mg) (hF : G.FN = FN) (c : He.SaysD fas dds G.K) : FnIn G "shifted" fd_shifted := FnIn.of X M c 5 (d := dd_shifted) rfl rfl rfl (c.fact 5 (f := .glo "shifted") rfl) sc_shifted (fun _ _ _ _ _ _ us hl => match us, hl with | [_, _], _ => rfl) (by rw [hF]; exact ck_shifted)
theorem in_written_out (X : G.K.In h) (M : h.Ns mainGlobals G.mg) (hF : G.FN = FN) (c : He.SaysD fas dds G.K) : FnIn G "written_out" fd_written_out := FnIn.of X M c 6 (d := dd_written_out) rfl rfl rfl (c.fact 6 (f := .glo "written_out") rfl) sc_written_out (fun _ _ _ _ _ _ us hl => match us, hl with | [_, _], _ => rfl) (by rw [hF]; exact ck_written_out)
theorem in_joined (X : G.K.In h) (M : h.Ns mainGlobals G.mg) (hF : G.FN = FN) (c : He.SaysD fas dds G.K) : FnIn G "joined" fd_joined := FnIn.of X M c 7 (d := dd_joined) rfl rfl rfl (c.fact 7 (f := .glo "joined") rfl) sc_joined (fun _ _ _ _ _ _ us hl => match us, hl with | [_, _], _ => rfl) (by rw [hF]; exact ck_joined)
theorem in_shared_peak (X : G.K.In h) (M : h.Ns mainGlobals G.mg) (hF : G.FN = FN) (c : He.SaysD fas dds G.K) : FnIn G "shared_peak" fd_shared_peak := FnIn.of X M c 8 (d := dd_shared_peak) rfl rfl rfl (c.fact 8 (f := .glo "shared_peak") rfl) sc_shared_peak (fun _ _ _ _ _ _ us hl => match us, hl with | [_, _, _], _ => rfl) (by rw [hF]; exact ck_shared_peak)
theorem in_phase_peaks (X : G.K.In h) (M : h.Ns mainGlobals G.mg) (hF : G.FN = FN) (c : He.SaysD fas dds G.K) : FnIn G "phase_peaks" fd_phase_peaks := FnIn.of X M c 9 (d := dd_phase_peaks) rfl rfl rfl (c.fact 9 (f := .glo "phase_peaks") rfl) sc_phase_peaks (fun _ _ _ _ _ _ us hl => match us, hl with | [_, _], _ => rfl) (by rw [hF]; exact ck_phase_peaks)
theorem in_best_phase (X : G.K.In h) (M : h.Ns mainGlobals G.mg) (hF : G.FN = FN) (c : He.SaysD fas dds G.K) : FnIn G "best_phase" fd_best_phase := FnIn.of X M c 10 (d := dd_best_phase) rfl rfl rfl (c.fact 10 (f := .glo "best_phase") rfl) sc_best_phase (fun _ _ _ _ _ _ us hl => match us, hl with | [_, _], _ => rfl) (by rw [hF]; exact ck_best_phase)
theorem in_never_shares (X : G.K.In h) (M : h.Ns mainGlobals G.mg) (hF : G.FN = FN) (c : He.SaysD fas dds G.K) : FnIn G "never_shares" fd_never_shares := FnIn.of X M c 11 (d := dd_never_shares) rfl rfl rfl (c.fact 11 (f := .glo "never_shares") rfl) sc_never_shares (fun _ _ _ _ _ _ us hl => match us, hl with | [_, _], _ => rfl) (by rw [hF]; exact ck_never_shares)
theorem in_peak_ticks (X : G.K.In h) (M : h.Ns mainGlobals G.mg) (hF : G.FN = FN) (c : He.SaysD fas dds G.K) : FnIn G "peak_ticks" fd_peak_ticks := FnIn.of X M c 12 (d := dd_peak_ticks) rfl rfl rfl (c.fact 12 (f := .glo "peak_ticks") rfl) sc_peak_ticks (fun _ _ _ _ _ _ us hl => match us, hl with | [_], _ => rfl) (by rw [hF]; exact ck_peak_ticks)
theorem in_least_peak (X : G.K.In h) (M : h.Ns mainGlobals G.mg) (hF : G.FN = FN) (c : He.SaysD fas dds G.K) : FnIn G "least_peak" fd_least_peak := FnIn.of X M c 13 (d := dd_least_peak) rfl rfl rfl (c.fact 13 (f := .glo "least_peak") rfl) sc_least_peak (fun _ _ _ _ _ _ us hl => match us, hl with | [_, _], _ => rfl) (by rw [hF]; exact ck_least_peak)
theorem in_even_births (X : G.K.In h) (M : h.Ns mainGlobals G.mg) (hF : G.FN = FN) (c : He.SaysD fas dds G.K) : FnIn G "even_births" fd_even_births := FnIn.of X M c 14 (d := dd_even_births) rfl rfl rfl (c.fact 14 (f := .glo "even_births") rfl) sc_even_births (fun _ _ _ _ _ _ us hl => match us, hl with | [_], _ => rfl) (by rw [hF]; exact ck_even_births)
theorem in__law_box (X : G.K.In h) (M : h.Ns mainGlobals G.mg) (hF : G.FN = FN) (c : He.SaysD fas dds G.K) : FnIn G "_law_box" fd__law_box := FnIn.of X M c 15 (d := dd__law_box) rfl rfl rfl (c.fact 15 (f := .glo "_law_box") rfl) sc__law_box (fun _ _ _ _ _ _ us hl => match us, hl with | [_, _], _ => rfl) (by rw [hF]; exact ck__law_box)
theorem in__law_take (X : G.K.In h) (M : h.Ns mainGlobals G.mg) (hF : G.FN = FN) (c : He.SaysD fas dds G.K) : FnIn G "_law_take" fd__law_take := FnIn.of X M c 16 (d := dd__law_take) rfl rfl rfl (c.fact 16 (f := .glo "_law_take") rfl) sc__law_take (fun _ _ _ _ _ _ us hl => match us, hl with | [_, _], _ => rfl) (by rw [hF]; exact ck__law_take)
theorem in__law_cells (X : G.K.In h) (M : h.Ns mainGlobals G.mg) (hF : G.FN = FN) (c : He.SaysD fas dds G.K) : FnIn G "_law_cells" fd__law_cells := FnIn.of X M c 17 (d := dd__law_cells) rfl rfl rfl (c.fact 17 (f := .glo "_law_cells") rfl) sc__law_cells (fun _ _ _ _ _ _ us hl => match us, hl with | [_, _], _ => rfl) (by rw [hF]; exact ck__law_cells)
theorem in__law_mixed (X : G.K.In h) (M : h.Ns mainGlobals G.mg) (hF : G.FN = FN) (c : He.SaysD fas dds G.K) : FnIn G "_law_mixed" fd__law_mixed := FnIn.of X M c 18 (d := dd__law_mixed) rfl rfl rfl (c.fact 18 (f := .glo "_law_mixed") rfl) sc__law_mixed (fun _ _ _ _ _ _ us hl => match us, hl with | [_, _], _ => rfl) (by rw [hF]; exact ck__law_mixed)
theorem in__law_same (X : G.K.In h) (M : h.Ns mainGlobals G.mg) (hF : G.FN = FN) (c : He.SaysD fas dds G.K) : FnIn G "_law_same" fd__law_same := FnIn.of X M c 19 (d := dd__law_same) rfl rfl rfl (c.fact 19 (f := .glo "_law_same") rfl) sc__law_same (fun _ _ _ _ _ _ us hl => match us, hl with | [_, _], _ => rfl) (by rw [hF]; exact ck__law_same)
theorem in__law_copies (X : G.K.In h) (M : h.Ns mainGlobals G.mg) (hF : G.FN = FN) (c : He.SaysD fas dds G.K) : FnIn G "_law_copies" fd__law_copies := FnIn.of X M c 20 (d := dd__law_copies) rfl rfl rfl (c.fact 20 (f := .glo "_law_copies") rfl) sc__law_copies (fun _ _ _ _ _ _ us hl => match us, hl with | [_, _], _ => rfl) (by rw [hF]; exact ck__law_copies)
theorem in__law_loads (X : G.K.In h) (M : h.Ns mainGlobals G.mg) (hF : G.FN = FN) (c : He.SaysD fas dds G.K) : FnIn G "_law_loads" fd__law_loads := FnIn.of X M c 21 (d := dd__law_loads) rfl rfl rfl (c.fact 21 (f := .glo "_law_loads") rfl) sc__law_loads (fun _ _ _ _ _ _ us hl => match us, hl with | [_], _ => rfl) (by rw [hF]; exact ck__law_loads)
theorem in__law_wide (X : G.K.In h) (M : h.Ns mainGlobals G.mg) (hF : G.FN = FN) (c : He.SaysD fas dds G.K) : FnIn G "_law_wide" fd__law_wide := FnIn.of X M c 22 (d := dd__law_wide) rfl rfl rfl (c.fact 22 (f := .glo "_law_wide") rfl) sc__law_wide (fun _ _ _ _ _ _ us hl => match us, hl with | [_], _ => rfl) (by rw [hF]; exact ck__law_wide)
theorem in__law_shared (X : G.K.In h) (M : h.Ns mainGlobals G.mg) (hF : G.FN = FN) (c : He.SaysD fas dds G.K) : FnIn G "_law_shared" fd__law_shared := FnIn.of X M c 23 (d := dd__law_shared) rfl rfl rfl (c.fact 23 (f := .glo "_law_shared") rfl) sc__law_shared (fun _ _ _ _ _ _ us hl => match us, hl with | [_, _, _], _ => rfl) (by rw [hF]; exact ck__law_shared)
theorem in_law (X : G.K.In h) (M : h.Ns mainGlobals G.mg) (hF : G.FN = FN) (c : He.SaysD fas dds G.K) : FnIn G "law" fd_law := FnIn.of X M c 24 (d := dd_law) rfl rfl rfl (c.fact 24 (f := .glo "law") rfl) sc_law (fun _ _ _ _ _ _ us hl => match us, hl with | [_], _ => rfl) (by rw [hF]; exact ck_law)
theorem tblOk (X : G.K.In h) (M : h.Ns mainGlobals G.mg) (hF : G.FN = FN) (c0 : SaysP fas dds mths tabs G.w G.K) (hb : G.b = cn0 G.w G.K) : TblOk G tbl := by
  have c := c0.d
  refine TblOk.of hF rfl ?_ (by decide +kernel) (by decide +kernel) hb ?_ (ConsOk.of (FN := FN) hF rfl X M c0 43 rfl)
  · intro p hp
    have hp : p ∈ [(("tupled" : Str), fd_tupled), (("rounds_between" : Str), fd_rounds_between), (("load" : Str), fd_load), (("loads" : Str), fd_loads), (("peak" : Str), fd_peak), (("shifted" : Str), fd_shifted), (("written_out" : Str), fd_written_out), (("joined" : Str), fd_joined), (("shared_peak" : Str), fd_shared_peak), (("phase_peaks" : Str), fd_phase_peaks), (("best_phase" : Str), fd_best_phase), (("never_shares" : Str), fd_never_shares), (("peak_ticks" : Str), fd_peak_ticks), (("least_peak" : Str), fd_least_peak), (("even_births" : Str), fd_even_births), (("_law_box" : Str), fd__law_box), (("_law_take" : Str), fd__law_take), (("_law_cells" : Str), fd__law_cells), (("_law_mixed" : Str), fd__law_mixed), (("_law_same" : Str), fd__law_same), (("_law_copies" : Str), fd__law_copies), (("_law_loads" : Str), fd__law_loads), (("_law_wide" : Str), fd__law_wide), (("_law_shared" : Str), fd__law_shared), (("law" : Str), fd_law)] := hp
    simp only [List.mem_cons, List.not_mem_nil, or_false] at hp
    rcases hp with rfl | rfl | rfl | rfl | rfl | rfl | rfl | rfl | rfl | rfl | rfl | rfl | rfl | rfl | rfl | rfl | rfl | rfl | rfl | rfl | rfl | rfl | rfl | rfl | rfl
    · exact in_tupled X M hF c
    · exact in_rounds_between X M hF c
    · exact in_load X M hF c
    · exact in_loads X M hF c
    · exact in_peak X M hF c
    · exact in_shifted X M hF c
    · exact in_written_out X M hF c
    · exact in_joined X M hF c
    · exact in_shared_peak X M hF c
    · exact in_phase_peaks X M hF c
    · exact in_best_phase X M hF c
    · exact in_never_shares X M hF c
    · exact in_peak_ticks X M hF c
    · exact in_least_peak X M hF c
    · exact in_even_births X M hF c
    · exact in__law_box X M hF c
    · exact in__law_take X M hF c
    · exact in__law_cells X M hF c
    · exact in__law_mixed X M hF c
    · exact in__law_same X M hF c
    · exact in__law_copies X M hF c
    · exact in__law_loads X M hF c
    · exact in__law_wide X M hF c
    · exact in__law_shared X M hF c
    · exact in_law X M hF c
  · exact free_all X M c 25 18 rfl
end
end Law

namespace Law
open PySem L2 Pv
def isI : D → Bool
  | .int _ => true
  | _ => false
def fromB (d : D) (m : Int) : Bool := match d with
  | .int i => !decide (i < m)
  | _ => false
def belowB (d : D) (m : Int) : Bool := match d with
  | .int i => !decide (i < 0) && decide (i < m)
  | _ => false
def tupB (d : D) (m : Int) : Bool := match d with
  | .tup l => decide ((l.length : Int) = m)
  | _ => false
local macro_rules | `(tactic| trivial) => `(tactic| simp [evSs, evS, ev, evs, evO, evT, evI, Ev.of, bnd_ok, r_bind, r_pure, r_lift_s, r_val, r_inl, val_ok, inl_ok, res_l, res_r, r_var_sh, r_var_ow, r_mov_sh, r_mov_ow, r_pk_sh, r_pk_ow, r_peek_sh, r_peek_ow, r_seq, cont_next, cont_ret, r_ite, sel_t, sel_f, r_andB, r_orB, r_notB, r_andM, r_orR, r_notM, r_put, r_set, r_ret, retK_ap, r_drop, nextK_ap, r_asg, r_op, opK_ap, opK2_ap, r_opB, opBK_ap, opBK2_ap, r_un, unK_ap, r_truth, trK_ap, r_ix, ixK_ap, ixK2_ap, r_look_s, r_cons, consK_ap, consK2_ap, r_con, conK_ap, conK2_ap, r_callM, callK_ap, ress_nil, ress_cons, r_seqM, onlyV_nil, onlyV_cons, seqK_run, r_call, runF_ap, outS_ok, r_callF, fin_ret, fin_next, r_six, sixK_ap, sixK3_ap, nowS, gsP, gsV, dsA, Bop.g, Cop.g, Bif.g, K.d, addD, subD, mulD, divD, modD, negD, p64, intD, gtR, ltR, leR, geR, ltD, blD, blOf, M.look, ixS, ixD, cellAt, slOf, setAt, setOw, intOf, absD, lenD, ixN, atI, List.set, truthD, isiD, tyD, isTy, maxOf, chM, chB, r_lc, r_for, r_it, itK_ap, r_sq, sqK_ap,  eqR_int, eqR_non, neR_int, eqR_bl, neR_bl, Option.map_some, Out.val, Out.inl, T.f, Ts.f, Ts.n, tupF, tcons, tnil, tnF_ap, lcT, sure_ok, M.sure, wipeF, wipeR, noOw, putR, r_sl, slK2_ap, slD, r_int, intK_ap, r_cell, cellO_ok, powD, parM, rsF, putAll, en_tup, en_lst, rg1_ok, rg2_ok, asgK_s, sumOf, intsD_ints, tupOf, lstOf, seqD, mkT, mkL, isI, fromB, belowB, tupB, np_tupled, np_rounds_between, np_load, np_loads, np_peak, np_shifted, np_written_out, np_joined, np_shared_peak, np_phase_peaks, np_best_phase, np_never_shares, np_peak_ticks, np_least_peak, np_even_births, np__law_box, np__law_take, np__law_cells, np__law_mixed, np__law_same, np__law_copies, np__law_loads, np__law_wide, np__law_shared, np_law, *])
def rndI (first last beat : Int) : Int := max 0 (last.fdiv beat - (first - 1).fdiv beat)
theorem max_if (j i : Int) : (if j > i then j else i) = max i j := by
  by_cases h : j > i
  · rw [if_pos h]; omega
  · rw [if_neg h]; omega
theorem f_rounds (k : Nat) (a b beat : Int) (S : List Cell) (h : beat ≠ 0) (h2 : beat.natAbs < 1073741824) : F (k+1) i_rounds_between [.int a, .int b, .int beat] S = .ok (.int (rndI a b beat), false) S := by
  refine F_ok (fd := fd_rounds_between) rfl ?_
  unfold fd_rounds_between ir_rounds_between
  unfold rndI
  rw [← max_if]
  trivial
def Urn (S : List Cell) (n : Nat) : Prop := ∃ a s m : Int, S = [.lst [.int a, .int s, .int m]] ∧ 0 ≤ a ∧ 0 ≤ s ∧ s < 2^62 ∧ 0 ≤ m ∧ m ≤ n
theorem f_take (k : Nat) (below : Int) (S : List Cell) (n : Nat) (h0 : 0 < below) (h1 : below < 2^30) (hU : Urn S n) (hn : n < 2^40) :
    ∃ v S', F (k+1) i__law_take [.ref 0, .int below] S = .ok (.int v, false) S' ∧ 0 ≤ v ∧ v < below ∧ Urn S' (n+1) := by
  obtain ⟨a, s, m, rfl, ha, hs, hs2, hm, hm2⟩ := hU
  have hb : below.natAbs < 1073741824 := by omega
  have hb0 : ¬ below = 0 := by omega
  by_cases h : 0 < a
  · refine ⟨a.fmod below, _, F_ok (fd := fd__law_take) rfl (o := .ok (.int (a.fmod below), false) [.lst [.int (a.fdiv below), .int s, .int m]]) (by unfold fd__law_take ir__law_take; trivial), ?_, ?_, ?_⟩
    · exact Int.fmod_nonneg_of_pos _ h0
    · exact Int.fmod_lt_of_pos _ h0
    · exact ⟨_, _, _, rfl, Int.fdiv_nonneg ha (by omega), hs, hs2, hm, by omega⟩
  · have q1 : -18446744073709551616 < 39373 + (m + 1) ∧ 39373 + (m + 1) < 18446744073709551616 := by omega
    have q2 : ∀ z : Int, -18446744073709551616 < z.fmod 40009 + 7 ∧ z.fmod 40009 + 7 < 18446744073709551616 := fun z => by
      have := Int.fmod_nonneg_of_pos z (show (0:Int) < 40009 by decide)
      have := Int.fmod_lt_of_pos z (show (0:Int) < 40009 by decide)
      omega
    have ha0 : a = 0 := by omega
    subst ha0
    have key : ∀ once far twice : Int, once = ((s + 48271 * (m + 1)) * (39373 + (m + 1))).fmod 2147483647 → far = once.fmod 40009 + 7 → twice = ((once + (m + 1) + s.fdiv 1000003) * far).fmod 2147483629 →
      F (k+1) i__law_take [.ref 0, .int below] [.lst [.int 0, .int s, .int m]] = .ok (.int ((((twice * 48271 + once).fmod 2147483587).fdiv 64).fmod below), false) [.lst [.int 0, .int s, .int (m + 1)]] := by
      intro once far twice e1 e2 e3
      refine F_ok (fd := fd__law_take) rfl ?_
      unfold fd__law_take ir__law_take
      subst e3 e2 e1
      trivial
    refine ⟨_, _, key _ _ _ rfl rfl rfl, Int.fmod_nonneg_of_pos _ h0, Int.fmod_lt_of_pos _ h0, ?_⟩
    exact ⟨_, _, _, rfl, by omega, hs, hs2, by omega, by omega⟩
local macro_rules | `(tactic| trivial) => `(tactic| simp [evSs, evS, ev, evs, evO, evT, evI, Ev.of, bnd_ok, r_bind, r_pure, r_lift_s, r_val, r_inl, val_ok, inl_ok, res_l, res_r, r_var_sh, r_var_ow, r_mov_sh, r_mov_ow, r_pk_sh, r_pk_ow, r_peek_sh, r_peek_ow, r_seq, cont_next, cont_ret, r_ite, sel_t, sel_f, r_andB, r_orB, r_notB, r_andM, r_orR, r_notM, r_put, r_set, r_ret, retK_ap, r_drop, nextK_ap, r_asg, r_op, opK_ap, opK2_ap, r_opB, opBK_ap, opBK2_ap, r_un, unK_ap, r_truth, trK_ap, r_ix, ixK_ap, ixK2_ap, r_look_s, r_cons, consK_ap, consK2_ap, r_con, conK_ap, conK2_ap, r_callM, callK_ap, ress_nil, ress_cons, r_seqM, onlyV_nil, onlyV_cons, seqK_run, r_call, runF_ap, outS_ok, r_callF, fin_ret, fin_next, r_six, sixK_ap, sixK3_ap, nowS, gsP, gsV, dsA, Bop.g, Cop.g, Bif.g, K.d, addD, subD, mulD, divD, modD, negD, p64, intD, gtR, ltR, leR, geR, ltD, blD, blOf, M.look, ixS, ixD, cellAt, slOf, setAt, setOw, intOf, absD, lenD, ixN, atI, List.set, truthD, isiD, tyD, isTy, maxOf, chM, chB, r_lc, r_for, r_it, itK_ap, r_sq, sqK_ap,  eqR_int, eqR_non, neR_int, eqR_bl, neR_bl, Option.map_some, Out.val, Out.inl, T.f, Ts.f, Ts.n, tupF, tcons, tnil, tnF_ap, lcT, sure_ok, M.sure, wipeF, wipeR, noOw, putR, r_sl, slK2_ap, slD, r_int, intK_ap, r_cell, cellO_ok, powD, parM, rsF, putAll, en_tup, en_lst, rg1_ok, rg2_ok, asgK_s, sumOf, intsD_ints, tupOf, lstOf, seqD, mkT, mkL, np_tupled, np_rounds_between, np_load, np_loads, np_peak, np_shifted, np_written_out, np_joined, np_shared_peak, np_phase_peaks, np_best_phase, np_never_shares, np_peak_ticks, np_least_peak, np_even_births, np__law_box, np__law_take, np__law_cells, np__law_mixed, np__law_same, np__law_copies, np__law_loads, np__law_wide, np__law_shared, np_law, *])
def sq (k : Bool) (l : List D) : D := match k with
  | true => .lst l
  | false => .tup l
def encP (p : Int × Int) : D := .tup [.int p.1, .int p.2]
/-- a life, as a list or as a tuple -/
def isP (p : Int × Int) (d : D) : Prop := ∃ k, d = sq k [.int p.1, .int p.2]
inductive Lvs : List (Int × Int) → List D → Prop
  | nil : Lvs [] []
  | cons {p : Int × Int} {d : D} {ps : List (Int × Int)} {ds : List D} : isP p d → Lvs ps ds → Lvs (p :: ps) (d :: ds)
theorem Lvs.length {ps : List (Int × Int)} {ds : List D} (h : Lvs ps ds) : ds.length = ps.length := by
  induction h with
  | nil => rfl
  | cons _ _ ih => simp [ih]
theorem Lvs.mem {ps : List (Int × Int)} {ds : List D} (h : Lvs ps ds) {d : D} (hd : d ∈ ds) : ∃ p ∈ ps, isP p d := by
  induction h with
  | nil => cases hd
  | cons h1 h2 ih =>
    rcases List.mem_cons.mp hd with e | e
    · subst e; exact ⟨_, List.mem_cons_self, h1⟩
    · obtain ⟨p, hp, q⟩ := ih e; exact ⟨p, List.mem_cons_of_mem _ hp, q⟩
/-- what is told of one life -/
def prOf : D → Int × Int
  | .tup [.int a, .int b] => (a, b)
  | .lst [.int a, .int b] => (a, b)
  | _ => (0, 0)
theorem prOf_is {p : Int × Int} {d : D} (h : isP p d) : prOf d = p := by
  obtain ⟨k, rfl⟩ := h
  cases k <;> rfl
theorem Lvs.pr {ps : List (Int × Int)} {ds : List D} (h : Lvs ps ds) : ds.map prOf = ps := by
  induction h with
  | nil => rfl
  | cons h1 _ ih => simp [prOf_is h1, ih]
def loadI (beat : Int) (ps : List (Int × Int)) (tick : Int) : Int := (ps.map fun p => rndI (tick - p.1 - p.2 + 1) (tick - p.1) beat).sum
theorem h_load (k : Nat) (beat tick : Int) (d2 : D) (k1 : Bool) (ds : List D) (ps : List (Int × Int)) (S : List Cell) (h : beat ≠ 0) (h2 : beat.natAbs < 1073741824) (hl : Lvs ps ds) (hz : ds.length ≤ 1000) :
    lcF [2, 3] lt_load_0.f (evT (fnAt tbl 100000 (k+1)) lq_load_0) (ev (fnAt tbl 100000 (k+1)) le_load_0).r.val ds ⟨[.sh (sq k1 [.int beat, d2]), .sh (.int tick), .no, .no], S⟩ =
      .ok (.lst ((ps.map fun p => rndI (tick - p.1 - p.2 + 1) (tick - p.1) beat).map .int), true) ⟨[.sh (sq k1 [.int beat, d2]), .sh (.int tick), .no, .no], S⟩ := by
  rw [lcF_map (fun d => some (.int (rndI (tick - (prOf d).1 - (prOf d).2 + 1) (tick - (prOf d).1) beat))) rfl (fun d hd => ?_) (by rw [sizeLine_eq]; omega)]
  · rw [← hl.pr]
    simp [Function.comp_def]
  · obtain ⟨p, _, kd, rfl⟩ := hl.mem hd
    have e := fun a b => f_rounds k a b beat S h h2
    have q : prOf (sq kd [.int p.1, .int p.2]) = p := prOf_is ⟨kd, rfl⟩
    rw [q]
    simp only [lt_load_0, lq_load_0, le_load_0]
    cases k1 <;> cases kd <;> simp only [sq] <;> trivial
theorem f_load (k : Nat) (beat tick : Int) (k1 k2 : Bool) (ds : List D) (ps : List (Int × Int)) (S : List Cell) (h : beat ≠ 0) (h2 : beat.natAbs < 1073741824) (hl : Lvs ps ds) (hz : ds.length ≤ 1000) :
    F (k+2) i_load [sq k1 [.int beat, sq k2 ds], .int tick] S = .ok (.int (loadI beat ps tick), false) S := by
  refine F_ok (fd := fd_load) rfl ?_
  have e := h_load k beat tick (sq k2 ds) k1 ds ps S h h2 hl hz
  unfold fd_load ir_load loadI
  generalize (ps.map fun p => rndI (tick - p.1 - p.2 + 1) (tick - p.1) beat) = vs at e ⊢
  cases k1 <;> cases k2 <;> simp only [sq] at e ⊢ <;> trivial
def intE : D → Int
  | .int i => i
  | _ => 0
def loadsI (beat : Int) (ps : List (Int × Int)) : List Int := (List.range beat.toNat).map fun i => loadI beat ps (i : Nat)
theorem h_loads (k : Nat) (beat : Int) (k1 k2 : Bool) (ds : List D) (ps : List (Int × Int)) (S : List Cell) (h : beat ≠ 0) (h2 : beat.natAbs < 1073741824) (hl : Lvs ps ds) (hz : ds.length ≤ 1000) (hb : beat ≤ 1000) :
    lcF [1] lt_loads_0.f (evT (fnAt tbl 100000 (k+2)) lq_loads_0) (ev (fnAt tbl 100000 (k+2)) le_loads_0).r.val (intsFrom 0 beat.toNat) ⟨[.sh (sq k1 [.int beat, sq k2 ds]), .no], S⟩ =
      .ok (.lst ((loadsI beat ps).map .int), true) ⟨[.sh (sq k1 [.int beat, sq k2 ds]), .no], S⟩ := by
  rw [lcF_map (fun d => some (.int (loadI beat ps (intE d)))) rfl (fun d hd => ?_) (by rw [sizeLine_eq, intsFrom_length]; omega)]
  · congr 2
    simp [loadsI, Pv.intsFrom, intE, Function.comp_def]
  · obtain ⟨i, hi, rfl⟩ := intsFrom_mem hd
    have e := fun t => f_load k beat t k1 k2 ds ps S h h2 hl hz
    simp only [lt_loads_0, lq_loads_0, le_loads_0, intE]
    trivial
theorem f_loads (k : Nat) (beat : Int) (k1 k2 : Bool) (ds : List D) (ps : List (Int × Int)) (S : List Cell) (h : beat ≠ 0) (h2 : beat.natAbs < 1073741824) (hl : Lvs ps ds) (hz : ds.length ≤ 1000) (hb : beat ≤ 1000) :
    F (k+3) i_loads [sq k1 [.int beat, sq k2 ds]] S = .ok (.tup ((loadsI beat ps).map .int), false) S := by
  refine F_ok (fd := fd_loads) rfl ?_
  have e := h_loads k beat k1 k2 ds ps S h h2 hl hz hb
  have sm : sm62 beat = true := by unfold sm62; simp; omega
  unfold fd_loads ir_loads
  generalize loadsI beat ps = vs at e ⊢
  cases k1 <;> simp only [sq] at e ⊢ <;> trivial
def maxI : List Int → Int
  | [] => 0
  | n :: ns => ns.foldl max n
theorem maxOf_tup {l : List Int} (h : l ≠ []) : maxOf [.tup (l.map .int)] = some (intD (maxI l)) := by
  unfold maxOf
  simp only [intsD_ints]
  cases l with
  | nil => exact absurd rfl h
  | cons n ns => rfl
theorem maxOf_lst {l : List Int} (h : l ≠ []) : maxOf [.lst (l.map .int)] = some (intD (maxI l)) := by
  unfold maxOf
  simp only [intsD_ints]
  cases l with
  | nil => exact absurd rfl h
  | cons n ns => rfl
theorem loadsI_ne {beat : Int} {ps : List (Int × Int)} (h : 0 < beat) : loadsI beat ps ≠ [] := by
  intro q
  have := congrArg List.length q
  simp [loadsI] at this
  omega
theorem f_peak (k : Nat) (beat : Int) (k1 k2 : Bool) (ds : List D) (ps : List (Int × Int)) (S : List Cell) (h : 0 < beat) (hl : Lvs ps ds) (hz : ds.length ≤ 1000) (hb : beat ≤ 1000) :
    F (k+4) i_peak [sq k1 [.int beat, sq k2 ds]] S = .ok (.int (maxI (loadsI beat ps)), false) S := by
  refine F_ok (fd := fd_peak) rfl ?_
  have e := f_loads k beat k1 k2 ds ps S (by omega) (by omega) hl hz hb
  have m := loadsI_ne (ps := ps) h
  unfold fd_peak ir_peak
  generalize loadsI beat ps = vs at e m ⊢
  cases vs with
  | nil => exact absurd rfl m
  | cons n ns =>
    have i := intsD_ints (n :: ns)
    rw [List.map_cons] at i
    unfold maxI
    trivial
/-- the places of what holds -/
def selI (c : Int × Int → Bool) : Nat → List (Int × Int) → List Int
  | _, [] => []
  | k, p :: ps => if c p then (k : Int) :: selI c (k + 1) ps else selI c (k + 1) ps
def selO (c : Int × Int → Bool) : D → Option D
  | .pr [i, d] => if c (prOf d) then some i else none
  | _ => none
theorem sel_enum (c : Int × Int → Bool) {ps : List (Int × Int)} {ds : List D} (h : Lvs ps ds) : ∀ k, (enumD k ds).filterMap (selO c) = (selI c k ps).map .int := by
  induction h with
  | nil => intro k; rfl
  | cons h1 h2 ih =>
    intro k
    unfold enumD selI
    rw [List.filterMap_cons]
    simp only [selO, Pv.prD, prOf_is h1]
    split <;> simp_all
theorem enum_mem {ps : List (Int × Int)} {ds : List D} (h : Lvs ps ds) {d : D} {k : Nat} (hd : d ∈ enumD k ds) : ∃ (i : Int) (p : Int × Int) (b : Bool), d = .pr [.int i, sq b [.int p.1, .int p.2]] := by
  obtain ⟨i, hi⟩ := List.mem_iff_getElem?.mp hd
  obtain ⟨e, h1, rfl⟩ := enumD_get _ _ _ _ hi
  obtain ⟨p, _, b, rfl⟩ := h.mem (List.mem_of_getElem? h1)
  exact ⟨_, p, b, rfl⟩
local macro_rules | `(tactic| trivial) => `(tactic| simp [evSs, evS, ev, evs, evO, evT, evI, Ev.of, bnd_ok, r_bind, r_pure, r_lift_s, r_val, r_inl, val_ok, inl_ok, res_l, res_r, r_var_sh, r_var_ow, r_mov_sh, r_mov_ow, r_pk_sh, r_pk_ow, r_peek_sh, r_peek_ow, r_seq, cont_next, cont_ret, r_ite, sel_t, sel_f, r_andB, r_orB, r_notB, r_andM, r_orR, r_notM, r_put, r_set, r_ret, retK_ap, r_drop, nextK_ap, r_asg, r_op, opK_ap, opK2_ap, r_opB, opBK_ap, opBK2_ap, r_un, unK_ap, r_truth, trK_ap, r_ix, ixK_ap, ixK2_ap, r_look_s, r_cons, consK_ap, consK2_ap, r_con, conK_ap, conK2_ap, r_callM, callK_ap, ress_nil, ress_cons, r_seqM, onlyV_nil, onlyV_cons, seqK_run, r_call, runF_ap, outS_ok, r_callF, fin_ret, fin_next, r_six, sixK_ap, sixK3_ap, nowS, gsP, gsV, dsA, Bop.g, Cop.g, Bif.g, K.d, addD, subD, mulD, divD, modD, negD, p64, intD, gtR, ltR, leR, geR, ltD, blD, blOf, M.look, ixS, ixD, cellAt, slOf, setAt, setOw, intOf, absD, lenD, ixN, atI, List.set, truthD, isiD, tyD, isTy, maxOf, chM, chB, r_lc, r_for, r_it, itK_ap, r_sq, sqK_ap,  eqR_int, eqR_non, neR_int, eqR_bl, neR_bl, Option.map_some, Out.val, Out.inl, T.f, Ts.f, Ts.n, tupF, tcons, tnil, tnF_ap, lcT, sure_ok, M.sure, wipeF, wipeR, noOw, putR, r_sl, slK2_ap, slD, r_int, intK_ap, r_cell, cellO_ok, powD, parM, rsF, putAll, en_tup, en_lst, rg1_ok, rg2_ok, asgK_s, sumOf, intsD_ints, tupOf, lstOf, seqD, mkT, mkL, isI, fromB, belowB, tupB, allOf, np_tupled, np_rounds_between, np_load, np_loads, np_peak, np_shifted, np_written_out, np_joined, np_shared_peak, np_phase_peaks, np_best_phase, np_never_shares, np_peak_ticks, np_least_peak, np_even_births, np__law_box, np__law_take, np__law_cells, np__law_mixed, np__law_same, np__law_copies, np__law_loads, np__law_wide, np__law_shared, np_law, *])
theorem blsD_bls : ∀ l : List Bool, blsD (l.map .bl) = some l
  | [] => rfl
  | a :: l => by simp [blsD, blsD_bls l]
def encL (beat : Int) (ps : List (Int × Int)) : D := .tup [.int beat, .tup (ps.map encP)]
theorem lvs_enc : ∀ ps : List (Int × Int), Lvs ps (ps.map encP)
  | [] => .nil
  | p :: ps => .cons ⟨false, rfl⟩ (lvs_enc ps)
local macro_rules | `(tactic| trivial) => `(tactic| simp [evSs, evS, ev, evs, evO, evT, evI, Ev.of, bnd_ok, r_bind, r_pure, r_lift_s, r_val, r_inl, val_ok, inl_ok, res_l, res_r, r_var_sh, r_var_ow, r_mov_sh, r_mov_ow, r_pk_sh, r_pk_ow, r_peek_sh, r_peek_ow, r_seq, cont_next, cont_ret, r_ite, sel_t, sel_f, r_andB, r_orB, r_notB, r_andM, r_orR, r_notM, r_put, r_set, r_ret, retK_ap, r_drop, nextK_ap, r_asg, r_op, opK_ap, opK2_ap, r_opB, opBK_ap, opBK2_ap, r_un, unK_ap, r_truth, trK_ap, r_ix, ixK_ap, ixK2_ap, r_look_s, r_cons, consK_ap, consK2_ap, r_con, conK_ap, conK2_ap, r_callM, callK_ap, ress_nil, ress_cons, r_seqM, onlyV_nil, onlyV_cons, seqK_run, r_call, runF_ap, outS_ok, r_callF, fin_ret, fin_next, r_six, sixK_ap, sixK3_ap, nowS, gsP, gsV, dsA, Bop.g, Cop.g, Bif.g, K.d, addD, subD, mulD, divD, modD, negD, p64, intD, gtR, ltR, leR, geR, ltD, blD, blOf, M.look, ixS, ixD, cellAt, slOf, setAt, setOw, intOf, absD, lenD, ixN, atI, List.set, truthD, isiD, tyD, isTy, maxOf, chM, chB, r_lc, r_for, r_it, itK_ap, r_sq, sqK_ap,  eqR_int, eqR_non, neR_int, eqR_bl, neR_bl, Option.map_some, Out.val, Out.inl, T.f, Ts.f, Ts.n, tupF, tcons, tnil, tnF_ap, lcT, sure_ok, M.sure, wipeF, wipeR, noOw, putR, r_sl, slK2_ap, slD, r_int, intK_ap, r_cell, cellO_ok, powD, parM, rsF, putAll, en_tup, en_lst, rg1_ok, rg2_ok, asgK_s, sumOf, intsD_ints, tupOf, lstOf, seqD, mkT, mkL, r_app, appK_ap, np_tupled, np_rounds_between, np_load, np_loads, np_peak, np_shifted, np_written_out, np_joined, np_shared_peak, np_phase_peaks, np_best_phase, np_never_shares, np_peak_ticks, np_least_peak, np_even_births, np__law_box, np__law_take, np__law_cells, np__law_mixed, np__law_same, np__law_copies, np__law_loads, np__law_wide, np__law_shared, np_law, *])
def liv (beat tick : Int) (p : Int × Int) (t : Int) : Bool := !decide (tick < p.1 + t * beat) && decide (tick < p.1 + t * beat + p.2)
def cpyL (beat tick : Int) (v : Int) (p : Int × Int) (lo : Int) (n : Nat) : List D := ((List.range n).filter fun i => liv beat tick p (lo + (i : Nat))).map fun i => .tup [.int v, .int (lo + (i : Nat))]
theorem cpyL_succ (beat tick v : Int) (p : Int × Int) (lo : Int) (n : Nat) : cpyL beat tick v p lo (n + 1) = cpyL beat tick v p lo n ++ (if liv beat tick p (lo + (n : Nat)) then [.tup [.int v, .int (lo + (n : Nat))]] else []) := by
  unfold cpyL
  rw [List.range_succ, List.filter_append, List.map_append]
  congr 1
  by_cases h : liv beat tick p (lo + (n : Nat)) <;> simp [h]
theorem cpyL_length (beat tick v : Int) (p : Int × Int) (lo : Int) (n : Nat) : (cpyL beat tick v p lo n).length ≤ n := by
  unfold cpyL
  rw [List.length_map]
  exact Nat.le_trans (List.length_filter_le _ _) (by simp)
theorem h_in (k : Nat) (L : D) (beat tick v : Int) (p : Int × Int) (lo : Int) (n : Nat) (acc : List D) (x5 : Sl) (S : List Cell) (hz : acc.length + n < 1000000) (hb : -(2^60) < beat ∧ beat < 2^60) :
    ∃ x, loopM ft__law_copies_1.f (evSs (fnAt tbl 100000 k) 100000 fb__law_copies_1) (Pv.intsFrom lo n) ⟨[.sh L, .sh (.int tick), .sh (.int beat), .ow (.lst acc), .sh (.int v), x5, .sh (.int p.1), .sh (.int p.2)], S⟩ =
      .ok .next ⟨[.sh L, .sh (.int tick), .sh (.int beat), .ow (.lst (acc ++ cpyL beat tick v p lo n)), .sh (.int v), x, .sh (.int p.1), .sh (.int p.2)], S⟩ := by
  obtain ⟨st', e, x, h⟩ := loop_run (t := ft__law_copies_1.f) (b := evSs (fnAt tbl 100000 k) 100000 fb__law_copies_1) (st := ⟨[.sh L, .sh (.int tick), .sh (.int beat), .ow (.lst acc), .sh (.int v), x5, .sh (.int p.1), .sh (.int p.2)], S⟩) (Pv.intsFrom lo n)
    (fun i st => ∃ x, st = ⟨[.sh L, .sh (.int tick), .sh (.int beat), .ow (.lst (acc ++ cpyL beat tick v p lo i)), .sh (.int v), x, .sh (.int p.1), .sh (.int p.2)], S⟩) ⟨x5, by simp [cpyL]⟩ (fun i d st hd ⟨x, hx⟩ => by
      obtain ⟨hi, rfl⟩ := intsFrom_get hd
      subst hx
      refine ⟨⟨[.sh L, .sh (.int tick), .sh (.int beat), .ow (.lst (acc ++ cpyL beat tick v p lo i)), .sh (.int v), .sh (.int (lo + i)), .sh (.int p.1), .sh (.int p.2)], S⟩, ⟨[.sh L, .sh (.int tick), .sh (.int beat), .ow (.lst (acc ++ cpyL beat tick v p lo (i + 1))), .sh (.int v), .sh (.int (lo + i)), .sh (.int p.1), .sh (.int p.2)], S⟩, ?_, .inl ?_, _, rfl⟩
      · simp only [ft__law_copies_1]; trivial
      · have hl : (acc ++ cpyL beat tick v p lo i).length < 16777216 := by
          have := cpyL_length beat tick v p lo i
          rw [List.length_append]; omega
        rw [cpyL_succ]
        generalize hc : cpyL beat tick v p lo i = c1 at hl ⊢
        have hb1 := hb.1
        have hb2 := hb.2
        have m : ((-18446744073709551616 < lo + (i:Int) ∧ lo + (i:Int) < 18446744073709551616) ∨ (-18446744073709551616 < beat ∧ beat < 18446744073709551616)) := by omega
        rw [List.length_append] at hl
        simp only [fb__law_copies_1, liv]
        by_cases q1 : tick < p.1 + (lo + i) * beat
        · trivial
        · by_cases q2 : tick < p.1 + (lo + i) * beat + p.2
          · trivial
          · trivial)
  rw [intsFrom_length] at h
  exact ⟨x, by rw [e, h]⟩
local macro_rules | `(tactic| trivial) => `(tactic| simp [evSs, evS, ev, evs, evO, evT, evI, Ev.of, bnd_ok, r_bind, r_pure, r_lift_s, r_val, r_inl, val_ok, inl_ok, res_l, res_r, r_var_sh, r_var_ow, r_mov_sh, r_mov_ow, r_pk_sh, r_pk_ow, r_peek_sh, r_peek_ow, r_seq, cont_next, cont_ret, r_ite, sel_t, sel_f, r_andB, r_orB, r_notB, r_andM, r_orR, r_notM, r_put, r_set, r_ret, retK_ap, r_drop, nextK_ap, r_asg, r_op, opK_ap, opK2_ap, r_opB, opBK_ap, opBK2_ap, r_un, unK_ap, r_truth, trK_ap, r_ix, ixK_ap, ixK2_ap, r_look_s, r_cons, consK_ap, consK2_ap, r_con, conK_ap, conK2_ap, r_callM, callK_ap, ress_nil, ress_cons, r_seqM, onlyV_nil, onlyV_cons, seqK_run, r_call, runF_ap, outS_ok, r_callF, fin_ret, fin_next, r_six, sixK_ap, sixK3_ap, nowS, gsP, gsV, dsA, Bop.g, Cop.g, Bif.g, K.d, addD, subD, mulD, divD, modD, negD, p64, intD, gtR, ltR, leR, geR, ltD, blD, blOf, M.look, ixS, ixD, cellAt, slOf, setAt, setOw, intOf, absD, lenD, ixN, atI, List.set, truthD, isiD, tyD, isTy, maxOf, chM, chB, r_lc, r_for, r_it, itK_ap, r_sq, sqK_ap,  eqR_int, eqR_non, neR_int, eqR_bl, neR_bl, Option.map_some, Out.val, Out.inl, T.f, Ts.f, Ts.n, tupF, tcons, tnil, tnF_ap, lcT, sure_ok, M.sure, wipeF, wipeR, noOw, putR, r_sl, slK2_ap, slD, r_int, intK_ap, r_cell, cellO_ok, powD, parM, rsF, putAll, en_tup, en_lst, rg1_ok, rg2_ok, asgK_s, sumOf, intsD_ints, tupOf, lstOf, seqD, mkT, mkL, r_app, appK_ap, np_tupled, np_rounds_between, np_load, np_loads, np_peak, np_shifted, np_written_out, np_joined, np_shared_peak, np_phase_peaks, np_best_phase, np_never_shares, np_peak_ticks, np_least_peak, np_even_births, np__law_box, np__law_take, np__law_cells, np__law_mixed, np__law_same, np__law_copies, np__law_loads, np__law_wide, np__law_shared, np_law, *])
def good (beat : Int) (p : Int × Int) : Prop := 0 ≤ p.1 ∧ p.1 < beat ∧ 1 ≤ p.2 ∧ (p.2 ≤ 24 ∧ p.2 ≤ 24)
def loT (beat tick : Int) (p : Int × Int) : Int := (tick - p.1 - p.2).fdiv beat - 1
def nT (beat tick : Int) (p : Int × Int) : Nat := ((tick - p.1).fdiv beat + 2 - loT beat tick p).toNat
def foundL (beat tick : Int) : Nat → List (Int × Int) → List D
  | _, [] => []
  | k, p :: ps => cpyL beat tick k p (loT beat tick p) (nT beat tick p) ++ foundL beat tick (k + 1) ps
theorem fdiv_sm {x b : Int} (hb : 1 ≤ b) (h : -(2^52) ≤ x ∧ x ≤ 2^52) : -(2^52) ≤ x.fdiv b ∧ x.fdiv b ≤ 2^52 := by
  rw [Int.fdiv_eq_ediv_of_nonneg _ (by omega)]
  constructor
  · refine (Int.le_ediv_iff_mul_le (by omega)).mpr ?_
    have := Int.mul_le_mul_of_nonneg_left hb (show (0 : Int) ≤ 2^52 by decide)
    rw [Int.neg_mul]; omega
  · refine Int.ediv_le_of_le_mul (by omega) ?_
    have : 2^52 * 1 ≤ 2^52 * b := Int.mul_le_mul_of_nonneg_left hb (by decide)
    omega
theorem fdiv_near {x b l : Int} (hb : 1 ≤ b) (hl : 0 ≤ l) : (x - l).fdiv b ≤ x.fdiv b ∧ x.fdiv b ≤ (x - l).fdiv b + l := by
  rw [Int.fdiv_eq_ediv_of_nonneg _ (by omega), Int.fdiv_eq_ediv_of_nonneg _ (by omega)]
  constructor
  · exact Int.ediv_le_ediv (by omega) (by omega)
  · have h1 : x - l * b ≤ x - l := by
      have : l * 1 ≤ l * b := Int.mul_le_mul_of_nonneg_left hb hl
      omega
    have h2 : (x - l * b) / b ≤ (x - l) / b := Int.ediv_le_ediv (by omega) h1
    have h3 : (x - l * b) / b = x / b - l := by
      rw [Int.sub_eq_add_neg, ← Int.neg_mul, Int.add_mul_ediv_right _ _ (by omega)]; omega
    omega
theorem nT_le {beat tick : Int} {p : Int × Int} (hb : 1 ≤ beat) (hp : good beat p) : nT beat tick p ≤ 27 := by
  obtain ⟨h1, h2, h3, h4⟩ := hp
  have := (fdiv_near (x := tick - p.1) hb (show 0 ≤ p.2 by omega)).2
  unfold nT loT
  omega
theorem h_out (k : Nat) (L : D) (beat tick : Int) (S : List Cell) (hb : 1 ≤ beat) (hb2 : beat ≤ 1000) (ht : -(2^50) ≤ tick ∧ tick ≤ 2^50) {ps : List (Int × Int)} {ds : List D} (hl : Lvs ps ds) : (∀ p ∈ ps, good beat p) → ∀ (k0 : Nat) (acc : List D) (x4 x5 x6 x7 : Sl), acc.length + 104 * ds.length < 900000 →
    ∃ y4 y5 y6 y7, loopM ft__law_copies_0.f (evSs (fnAt tbl 100000 k) 100000 fb__law_copies_0) (enumD k0 ds) ⟨[.sh L, .sh (.int tick), .sh (.int beat), .ow (.lst acc), x4, x5, x6, x7], S⟩ =
      .ok .next ⟨[.sh L, .sh (.int tick), .sh (.int beat), .ow (.lst (acc ++ foundL beat tick k0 ps)), y4, y5, y6, y7], S⟩ := by
  induction hl with
  | nil =>
    intro _ k0 acc x4 x5 x6 x7 _
    exact ⟨x4, x5, x6, x7, by simp [enumD, foundL, loopM, M.pure]⟩
  | cons h1 h2 ih =>
    rename_i p d ps ds
    intro hg k0 acc x4 x5 x6 x7 hz
    obtain ⟨b, rfl⟩ := h1
    have gp := hg p List.mem_cons_self
    have hn := nT_le (tick := tick) hb gp
    have hc := cpyL_length beat tick k0 p (loT beat tick p) (nT beat tick p)
    rw [List.length_cons] at hz
    obtain ⟨y5, e⟩ := h_in k L beat tick k0 p (loT beat tick p) (nT beat tick p) acc x5 S (by omega) (by omega)
    obtain ⟨z4, z5, z6, z7, e2⟩ := ih (fun q hq => hg q (List.mem_cons_of_mem _ hq)) (k0 + 1) (acc ++ cpyL beat tick k0 p (loT beat tick p) (nT beat tick p)) (.sh (.int k0)) y5 (.sh (.int p.1)) (.sh (.int p.2)) (by rw [List.length_append]; omega)
    refine ⟨z4, z5, z6, z7, ?_⟩
    unfold enumD foundL
    rw [← List.append_assoc, ← e2]
    have t1 : ft__law_copies_0.f (Pv.prD (.int (k0 : Nat)) (sq b [.int p.1, .int p.2])) ⟨[.sh L, .sh (.int tick), .sh (.int beat), .ow (.lst acc), x4, x5, x6, x7], S⟩ = some ⟨[.sh L, .sh (.int tick), .sh (.int beat), .ow (.lst acc), .sh (.int k0), x5, .sh (.int p.1), .sh (.int p.2)], S⟩ := by
      simp only [ft__law_copies_0, Pv.prD]
      cases b <;> simp only [sq] <;> trivial
    have body : evSs (fnAt tbl 100000 k) 100000 fb__law_copies_0 ⟨[.sh L, .sh (.int tick), .sh (.int beat), .ow (.lst acc), .sh (.int k0), x5, .sh (.int p.1), .sh (.int p.2)], S⟩ =
        .ok .next ⟨[.sh L, .sh (.int tick), .sh (.int beat), .ow (.lst (acc ++ cpyL beat tick k0 p (loT beat tick p) (nT beat tick p))), .sh (.int k0), y5, .sh (.int p.1), .sh (.int p.2)], S⟩ := by
      obtain ⟨g1, g2, g3, g4⟩ := gp
      have b1 := fdiv_sm (x := tick - p.1 - p.2) hb (by omega)
      have b2 := fdiv_sm (x := tick - p.1) hb (by omega)
      have s1 : sm62 ((tick - p.1 - p.2).fdiv beat - 1) = true := by unfold sm62; simp; omega
      have s2 : sm62 ((tick - p.1).fdiv beat + 2) = true := by unfold sm62; simp; omega
      have c1 : beat.natAbs < 1073741824 := by omega
      have c2 : ¬ beat = 0 := by omega
      simp only [fb__law_copies_0]
      unfold loT nT loT at e
      unfold loT nT loT
      generalize cpyL beat tick k0 p ((tick - p.1 - p.2).fdiv beat - 1) (((tick - p.1).fdiv beat + 2 - ((tick - p.1 - p.2).fdiv beat - 1)).toNat) = cc at e ⊢
      trivial
    exact loop_cons t1 body
local macro_rules | `(tactic| trivial) => `(tactic| simp [evSs, evS, ev, evs, evO, evT, evI, Ev.of, bnd_ok, r_bind, r_pure, r_lift_s, r_val, r_inl, val_ok, inl_ok, res_l, res_r, r_var_sh, r_var_ow, r_mov_sh, r_mov_ow, r_pk_sh, r_pk_ow, r_peek_sh, r_peek_ow, r_seq, cont_next, cont_ret, r_ite, sel_t, sel_f, r_andB, r_orB, r_notB, r_andM, r_orR, r_notM, r_put, r_set, r_ret, retK_ap, r_drop, nextK_ap, r_asg, r_op, opK_ap, opK2_ap, r_opB, opBK_ap, opBK2_ap, r_un, unK_ap, r_truth, trK_ap, r_ix, ixK_ap, ixK2_ap, r_look_s, r_cons, consK_ap, consK2_ap, r_con, conK_ap, conK2_ap, r_callM, callK_ap, ress_nil, ress_cons, r_seqM, onlyV_nil, onlyV_cons, seqK_run, r_call, runF_ap, outS_ok, r_callF, fin_ret, fin_next, r_six, sixK_ap, sixK3_ap, nowS, gsP, gsV, dsA, Bop.g, Cop.g, Bif.g, K.d, addD, subD, mulD, divD, modD, negD, p64, intD, gtR, ltR, leR, geR, ltD, blD, blOf, M.look, ixS, ixD, cellAt, slOf, setAt, setOw, intOf, absD, lenD, ixN, atI, List.set, truthD, isiD, tyD, isTy, maxOf, chM, chB, r_lc, r_for, r_it, itK_ap, r_sq, sqK_ap,  eqR_int, eqR_non, neR_int, eqR_bl, neR_bl, Option.map_some, Out.val, Out.inl, T.f, Ts.f, Ts.n, tupF, tcons, tnil, tnF_ap, lcT, sure_ok, M.sure, wipeF, wipeR, noOw, putR, r_sl, slK2_ap, slD, r_int, intK_ap, r_cell, cellO_ok, powD, parM, rsF, putAll, en_tup, en_lst, rg1_ok, rg2_ok, asgK_s, sumOf, intsD_ints, tupOf, lstOf, seqD, mkT, mkL, r_app, appK_ap, sortedOf, np_tupled, np_rounds_between, np_load, np_loads, np_peak, np_shifted, np_written_out, np_joined, np_shared_peak, np_phase_peaks, np_best_phase, np_never_shares, np_peak_ticks, np_least_peak, np_even_births, np__law_box, np__law_take, np__law_cells, np__law_mixed, np__law_same, np__law_copies, np__law_loads, np__law_wide, np__law_shared, np_law, *])
def prs (l : List (Int × Int)) : List D := l.map encP
theorem toPs_prs : ∀ l : List (Int × Int), toPs (prs l) = some (l.map fun p => .tuple [.int p.1, .int p.2])
  | [] => rfl
  | p :: l => by
    show (match toP (encP p), toPs (prs l) with | some a, some b => some (a :: b) | _, _ => none) = _
    rw [toPs_prs l]
    rfl
theorem sort_prs (l : List (Int × Int)) : ∃ l', sortD (prs l) = some l' ∧ l'.length = l.length := by
  unfold sortD
  rw [toPs_prs]
  have h : (allAlikeB (l.map fun p => PyData.tuple [.int p.1, .int p.2]) && ((l.map fun p => PyData.tuple [.int p.1, .int p.2]).all someTup || (l.map fun p => PyData.tuple [.int p.1, .int p.2]).all noTup) && (l.map fun p => PyData.tuple [.int p.1, .int p.2]).all dep) = true := by
    have h1 : allAlikeB (l.map fun p => PyData.tuple [.int p.1, .int p.2]) = true := by
      unfold allAlikeB
      simp [List.all_map, PySem.W.alike, PySem.W.alikeAll]
    have h2 : (l.map fun p => PyData.tuple [.int p.1, .int p.2]).all someTup = true := by
      simp [List.all_map, someTup]
    have h3 : (l.map fun p => PyData.tuple [.int p.1, .int p.2]).all dep = true := by
      simp [List.all_map, dep, PyData.depth, PyData.depthAll]
    rw [h1, h2, h3]; rfl
  refine ⟨_, if_pos h, ?_⟩
  unfold sortP
  rw [List.length_map, (List.mergeSort_perm _ _).length_eq]
  simp [prs]
/-- the copies as pairs -/
def cpyP (beat tick : Int) (v : Int) (p : Int × Int) (lo : Int) (n : Nat) : List (Int × Int) := ((List.range n).filter fun i => liv beat tick p (lo + (i : Nat))).map fun i => (v, lo + (i : Nat))
def foundP (beat tick : Int) : Nat → List (Int × Int) → List (Int × Int)
  | _, [] => []
  | k, p :: ps => cpyP beat tick k p (loT beat tick p) (nT beat tick p) ++ foundP beat tick (k + 1) ps
theorem foundL_prs (beat tick : Int) : ∀ (ps : List (Int × Int)) (k : Nat), foundL beat tick k ps = prs (foundP beat tick k ps)
  | [], _ => rfl
  | p :: ps, k => by
    unfold foundL foundP
    rw [foundL_prs beat tick ps]
    unfold cpyL cpyP prs
    rw [List.map_append, List.map_map]
    rfl
theorem cnt_mid : ∀ m : Nat, ((List.range (m + 2)).filter fun i => decide (2 ≤ i)).length = m
  | 0 => rfl
  | m + 1 => by
    rw [List.range_succ, List.filter_append, List.length_append, cnt_mid m]
    have : decide (2 ≤ m + 2) = true := by simp
    simp [this]
theorem liv_iff {beat tick t : Int} {p : Int × Int} (hb : 1 ≤ beat) : liv beat tick p t = true ↔ (tick - p.1 - p.2).fdiv beat < t ∧ t ≤ (tick - p.1).fdiv beat := by
  unfold liv
  simp only [Bool.and_eq_true, Bool.not_eq_true', decide_eq_false_iff_not, decide_eq_true_eq]
  rw [Int.fdiv_eq_ediv_of_nonneg _ (by omega), Int.fdiv_eq_ediv_of_nonneg _ (by omega)]
  rw [Int.le_ediv_iff_mul_le (by omega), Int.ediv_lt_iff_lt_mul (by omega)]
  omega
theorem cpy_count {beat tick : Int} {v : Int} {p : Int × Int} (hb : 1 ≤ beat) (hp : good beat p) : ((cpyP beat tick v p (loT beat tick p) (nT beat tick p)).length : Int) = rndI (tick - p.1 - p.2 + 1) (tick - p.1) beat := by
  obtain ⟨h1, h2, h3, h4⟩ := hp
  obtain ⟨q1, q2⟩ := fdiv_near (x := tick - p.1) hb (show 0 ≤ p.2 by omega)
  unfold rndI
  rw [show tick - p.1 - p.2 + 1 - 1 = tick - p.1 - p.2 by omega]
  obtain ⟨m, hm⟩ : ∃ m : Nat, (tick - p.1).fdiv beat - (tick - p.1 - p.2).fdiv beat = m := ⟨((tick - p.1).fdiv beat - (tick - p.1 - p.2).fdiv beat).toNat, by omega⟩
  have hn : nT beat tick p = m + 3 := by unfold nT loT; omega
  unfold cpyP
  rw [List.length_map, hn]
  have e : ((List.range (m + 3)).filter fun i => liv beat tick p (loT beat tick p + (i : Nat))) = (List.range (m + 2)).filter fun i => decide (2 ≤ i) := by
    rw [List.range_succ, List.filter_append]
    have l0 : liv beat tick p (loT beat tick p + ((m + 2 : Nat) : Int)) = false := by
      rw [← Bool.not_eq_true, liv_iff hb]
      unfold loT; omega
    simp only [List.filter_cons, l0, List.filter_nil, Bool.false_eq_true, if_false, List.append_nil]
    refine List.filter_congr fun i hi => ?_
    have hi' : i < m + 2 := by simpa using hi
    rw [Bool.eq_iff_iff, liv_iff hb, decide_eq_true_eq]
    unfold loT; omega
  rw [e, cnt_mid, hm]
  omega
theorem found_count {beat tick : Int} (hb : 1 ≤ beat) : ∀ (ps : List (Int × Int)) (k : Nat), (∀ p ∈ ps, good beat p) → ((foundP beat tick k ps).length : Int) = loadI beat ps tick
  | [], _, _ => rfl
  | p :: ps, k, h => by
    unfold foundP loadI
    rw [List.length_append, List.map_cons, List.sum_cons, Int.natCast_add, cpy_count hb (h p List.mem_cons_self), found_count hb ps _ fun q hq => h q (List.mem_cons_of_mem _ hq)]
    rfl
theorem f_copies (k : Nat) (beat tick : Int) (k1 k2 : Bool) (ds : List D) (ps : List (Int × Int)) (S : List Cell) (hb : 1 ≤ beat) (hb2 : beat ≤ 1000) (ht : -(2^50) ≤ tick ∧ tick ≤ 2^50) (hl : Lvs ps ds) (hg : ∀ p ∈ ps, good beat p) (hz : ds.length ≤ 1000) :
    ∃ l, F (k+1) i__law_copies [sq k1 [.int beat, sq k2 ds], .int tick] S = .ok (.lst l, true) S ∧ (l.length : Int) = loadI beat ps tick := by
  obtain ⟨l, e1, e2⟩ := sort_prs (foundP beat tick 0 ps)
  refine ⟨l, F_ok (fd := fd__law_copies) rfl ?_, by rw [e2, found_count hb ps 0 hg]⟩
  obtain ⟨y4, y5, y6, y7, e⟩ := h_out k (sq k1 [.int beat, sq k2 ds]) beat tick S hb hb2 ht hl hg 0 [] .no .no .no .no (by simp; omega)
  rw [List.nil_append, foundL_prs] at e
  unfold fd__law_copies ir__law_copies
  generalize prs (foundP beat tick 0 ps) = fs at e e1
  cases k1 <;> cases k2 <;> simp only [sq] at e ⊢ <;> trivial
local macro_rules | `(tactic| trivial) => `(tactic| simp [evSs, evS, ev, evs, evO, evT, evI, Ev.of, bnd_ok, r_bind, r_pure, r_lift_s, r_val, r_inl, val_ok, inl_ok, res_l, res_r, r_var_sh, r_var_ow, r_mov_sh, r_mov_ow, r_pk_sh, r_pk_ow, r_peek_sh, r_peek_ow, r_seq, cont_next, cont_ret, r_ite, sel_t, sel_f, r_andB, r_orB, r_notB, r_andM, r_orR, r_notM, r_put, r_set, r_ret, retK_ap, r_drop, nextK_ap, r_asg, r_op, opK_ap, opK2_ap, r_opB, opBK_ap, opBK2_ap, r_un, unK_ap, r_truth, trK_ap, r_ix, ixK_ap, ixK2_ap, r_look_s, r_cons, consK_ap, consK2_ap, r_con, conK_ap, conK2_ap, r_callM, callK_ap, ress_nil, ress_cons, r_seqM, onlyV_nil, onlyV_cons, seqK_run, r_call, runF_ap, outS_ok, r_callF, fin_ret, fin_next, r_six, sixK_ap, sixK3_ap, nowS, gsP, gsV, dsA, Bop.g, Cop.g, Bif.g, K.d, addD, subD, mulD, divD, modD, negD, p64, intD, gtR, ltR, leR, geR, ltD, blD, blOf, M.look, ixS, ixD, cellAt, slOf, setAt, setOw, intOf, absD, lenD, ixN, atI, List.set, truthD, isiD, tyD, isTy, maxOf, chM, chB, r_lc, r_for, r_it, itK_ap, r_sq, sqK_ap,  eqR_int, eqR_non, neR_int, eqR_bl, neR_bl, Option.map_some, Out.val, Out.inl, T.f, Ts.f, Ts.n, tupF, tcons, tnil, tnF_ap, lcT, sure_ok, M.sure, wipeF, wipeR, noOw, putR, r_sl, slK2_ap, slD, r_int, intK_ap, r_cell, cellO_ok, powD, parM, rsF, putAll, en_tup, en_lst, rg1_ok, rg2_ok, asgK_s, sumOf, intsD_ints, tupOf, lstOf, seqD, mkT, mkL, r_app, appK_ap, isD, allOf, zip2D, isTy, np_tupled, np_rounds_between, np_load, np_loads, np_peak, np_shifted, np_written_out, np_joined, np_shared_peak, np_phase_peaks, np_best_phase, np_never_shares, np_peak_ticks, np_least_peak, np_even_births, np__law_box, np__law_take, np__law_cells, np__law_mixed, np__law_same, np__law_copies, np__law_loads, np__law_wide, np__law_shared, np_law, *])
theorem h_lloads (k : Nat) (beat : Int) (k1 k2 : Bool) (ds : List D) (ps : List (Int × Int)) (S : List Cell) (hb : 1 ≤ beat) (hb2 : beat ≤ 1000) (hl : Lvs ps ds) (hg : ∀ p ∈ ps, good beat p) (hz : ds.length ≤ 1000) :
    lcF [1] lt__law_loads_0.f (evT (fnAt tbl 100000 (k+1)) lq__law_loads_0) (ev (fnAt tbl 100000 (k+1)) le__law_loads_0).r.val (Pv.intsFrom 0 beat.toNat) ⟨[.sh (sq k1 [.int beat, sq k2 ds]), .no], S⟩ =
      .ok (.lst ((loadsI beat ps).map .int), true) ⟨[.sh (sq k1 [.int beat, sq k2 ds]), .no], S⟩ := by
  rw [lcF_map (fun d => some (.int (loadI beat ps (intE d)))) rfl (fun d hd => ?_) (by rw [sizeLine_eq, intsFrom_length]; omega)]
  · congr 2
    simp [loadsI, Pv.intsFrom, intE, Function.comp_def]
  · obtain ⟨i, hi, rfl⟩ := intsFrom_mem hd
    obtain ⟨l, e, hlen⟩ := f_copies k beat (0 + i) k1 k2 ds ps S hb hb2 (by omega) hl hg hz
    rw [Int.zero_add] at e hlen
    simp only [lt__law_loads_0, lq__law_loads_0, le__law_loads_0, intE, Int.zero_add]
    rw [← hlen]
    trivial
theorem f_lloads (k : Nat) (beat : Int) (k1 k2 : Bool) (ds : List D) (ps : List (Int × Int)) (S : List Cell) (hb : 1 ≤ beat) (hb2 : beat ≤ 1000) (hl : Lvs ps ds) (hg : ∀ p ∈ ps, good beat p) (hz : ds.length ≤ 1000) :
    F (k+2) i__law_loads [sq k1 [.int beat, sq k2 ds]] S = .ok (.lst ((loadsI beat ps).map .int), true) S := by
  refine F_ok (fd := fd__law_loads) rfl ?_
  have e := h_lloads k beat k1 k2 ds ps S hb hb2 hl hg hz
  have sm : sm62 beat = true := by unfold sm62; simp; omega
  unfold fd__law_loads ir__law_loads
  generalize loadsI beat ps = vs at e ⊢
  cases k1 <;> simp only [sq] at e ⊢ <;> trivial
/-- plain data, at most n deep -/
inductive Pl : Nat → D → Prop
  | non (n : Nat) : Pl n .non
  | bl (n : Nat) (b : Bool) : Pl n (.bl b)
  | int (n : Nat) (i : Int) : Pl n (.int i)
  | tup (n : Nat) (l : List D) : (∀ d ∈ l, Pl n d) → l.length ≤ 1000000 → Pl (n + 1) (.tup l)
  | lst (n : Nat) (l : List D) : (∀ d ∈ l, Pl n d) → l.length ≤ 1000000 → Pl (n + 1) (.lst l)
theorem zipD_mem {l : List D} {d : D} (h : d ∈ zipD l l) : ∃ x ∈ l, d = Pv.prD x x := by
  obtain ⟨i, hi⟩ := List.mem_iff_getElem?.mp h
  obtain ⟨x, y, h1, h2, rfl⟩ := zipD_get _ _ _ _ hi
  rw [h1] at h2; cases h2
  exact ⟨x, List.mem_of_getElem? h1, rfl⟩
theorem filterMap_some_true : ∀ l : List D, l.filterMap (fun _ => some (D.bl true)) = (l.map fun _ => true).map .bl
  | [] => rfl
  | _ :: l => by simp [filterMap_some_true l]
theorem h_same (k n : Nat) (l : List D) (L1 L2 : D) (S : List Cell) (ih : ∀ d ∈ l, F k i__law_same [d, d] S = .ok (.bl true, false) S) (hz : l.length ≤ 1000000) :
    lcF [2, 3] lt__law_same_0.f (evT (fnAt tbl 100000 k) lq__law_same_0) (ev (fnAt tbl 100000 k) le__law_same_0).r.val (zipD l l) ⟨[.sh L1, .sh L2, .no, .no], S⟩ =
      .ok (.lst (((zipD l l).map fun _ => true).map .bl), true) ⟨[.sh L1, .sh L2, .no, .no], S⟩ := by
  rw [lcF_map (fun d => some (.bl true)) rfl (fun d hd => ?_) (by rw [sizeLine_eq, zipD_length]; omega), filterMap_some_true]
  obtain ⟨x, hx, rfl⟩ := zipD_mem hd
  have e := ih x hx
  simp only [lt__law_same_0, lq__law_same_0, le__law_same_0, Pv.prD]
  trivial
theorem f_same (k : Nat) (S : List Cell) : ∀ (n : Nat) (d : D), Pl n d → F (k + n + 1) i__law_same [d, d] S = .ok (.bl true, false) S
  | n, _, .non _ => by
    refine F_ok (fd := fd__law_same) rfl ?_
    unfold fd__law_same ir__law_same
    trivial
  | n, _, .bl _ b => by
    refine F_ok (fd := fd__law_same) rfl ?_
    unfold fd__law_same ir__law_same
    trivial
  | n, _, .int _ b => by
    refine F_ok (fd := fd__law_same) rfl ?_
    unfold fd__law_same ir__law_same
    trivial
  | n + 1, _, .tup _ l h hz => by
    refine F_ok (fd := fd__law_same) rfl ?_
    have e := h_same (k + n + 1) n l (.tup l) (.tup l) S (fun d hd => f_same k S n d (h d hd)) hz
    have b := blsD_bls ((zipD l l).map fun _ => true)
    have a : ((zipD l l).map fun _ => true).all id = true := by simp
    generalize ((zipD l l).map fun _ => true) = bs at e a b
    rw [show k + (n + 1) = k + n + 1 by omega]
    unfold fd__law_same ir__law_same
    trivial
  | n + 1, _, .lst _ l h hz => by
    refine F_ok (fd := fd__law_same) rfl ?_
    have e := h_same (k + n + 1) n l (.lst l) (.lst l) S (fun d hd => f_same k S n d (h d hd)) hz
    have b := blsD_bls ((zipD l l).map fun _ => true)
    have a : ((zipD l l).map fun _ => true).all id = true := by simp
    generalize ((zipD l l).map fun _ => true) = bs at e a b
    rw [show k + (n + 1) = k + n + 1 by omega]
    unfold fd__law_same ir__law_same
    trivial
local macro_rules | `(tactic| trivial) => `(tactic| simp [evSs, evS, ev, evs, evO, evT, evI, Ev.of, bnd_ok, r_bind, r_pure, r_lift_s, r_val, r_inl, val_ok, inl_ok, res_l, res_r, r_var_sh, r_var_ow, r_mov_sh, r_mov_ow, r_pk_sh, r_pk_ow, r_peek_sh, r_peek_ow, r_seq, cont_next, cont_ret, r_ite, sel_t, sel_f, r_andB, r_orB, r_notB, r_andM, r_orR, r_notM, r_put, r_set, r_ret, retK_ap, r_drop, nextK_ap, r_asg, r_op, opK_ap, opK2_ap, r_opB, opBK_ap, opBK2_ap, r_un, unK_ap, r_truth, trK_ap, r_ix, ixK_ap, ixK2_ap, r_look_s, r_cons, consK_ap, consK2_ap, r_con, conK_ap, conK2_ap, r_callM, callK_ap, ress_nil, ress_cons, r_seqM, onlyV_nil, onlyV_cons, seqK_run, r_call, runF_ap, outS_ok, r_callF, fin_ret, fin_next, r_six, sixK_ap, sixK3_ap, nowS, gsP, gsV, dsA, Bop.g, Cop.g, Bif.g, K.d, addD, subD, mulD, divD, modD, negD, p64, intD, gtR, ltR, leR, geR, ltD, blD, blOf, M.look, ixS, ixD, cellAt, slOf, setAt, setOw, intOf, absD, lenD, ixN, atI, List.set, truthD, isiD, tyD, isTy, maxOf, chM, chB, r_lc, r_for, r_it, itK_ap, r_sq, sqK_ap,  eqR_int, eqR_non, neR_int, eqR_bl, neR_bl, Option.map_some, Out.val, Out.inl, T.f, Ts.f, Ts.n, tupF, tcons, tnil, tnF_ap, lcT, sure_ok, M.sure, wipeF, wipeR, noOw, putR, r_sl, slK2_ap, slD, r_int, intK_ap, r_cell, cellO_ok, powD, parM, rsF, putAll, en_tup, en_lst, rg1_ok, rg2_ok, asgK_s, sumOf, intsD_ints, tupOf, lstOf, seqD, mkT, mkL, r_app, appK_ap, isD, allOf, zip2D, isTy, np_tupled, np_rounds_between, np_load, np_loads, np_peak, np_shifted, np_written_out, np_joined, np_shared_peak, np_phase_peaks, np_best_phase, np_never_shares, np_peak_ticks, np_least_peak, np_even_births, np__law_box, np__law_take, np__law_cells, np__law_mixed, np__law_same, np__law_copies, np__law_loads, np__law_wide, np__law_shared, np_law, *])
mutual
inductive Soft : D → D → Prop
  | non : Soft .non .non
  | bl (b : Bool) : Soft (.bl b) (.bl b)
  | int (i : Int) : Soft (.int i) (.int i)
  | tup {l l' : List D} (k : Bool) : Softs l l' → Soft (.tup l) (sq k l')
  | lst {l l' : List D} (k : Bool) : Softs l l' → Soft (.lst l) (sq k l')
inductive Softs : List D → List D → Prop
  | nil : Softs [] []
  | cons {d d' : D} {l l' : List D} : Soft d d' → Softs l l' → Softs (d :: l) (d' :: l')
end
theorem Softs.snoc {l l' : List D} {d d' : D} (h : Softs l l') (q : Soft d d') : Softs (l ++ [d]) (l' ++ [d']) := by
  induction l generalizing l' with
  | nil => cases h; exact .cons q .nil
  | cons x l ih => cases h with | cons h1 h2 => exact .cons h1 (ih h2)
theorem Softs.length {l l' : List D} (h : Softs l l') : l'.length = l.length := by
  induction l generalizing l' with
  | nil => cases h; rfl
  | cons x l ih => cases h with | cons h1 h2 => simp [ih h2]
/-- plain data, at most n deep, at most L wide -/
inductive Pw (L : Nat) : Nat → D → Prop
  | non (n : Nat) : Pw L n .non
  | bl (n : Nat) (b : Bool) : Pw L n (.bl b)
  | int (n : Nat) (i : Int) : Pw L n (.int i)
  | tup (n : Nat) (l : List D) : (∀ d ∈ l, Pw L n d) → l.length ≤ L → Pw L (n + 1) (.tup l)
  | lst (n : Nat) (l : List D) : (∀ d ∈ l, Pw L n d) → l.length ≤ L → Pw L (n + 1) (.lst l)
def cost (L : Nat) : Nat → Nat
  | 0 => 0
  | n + 1 => 1 + L * cost L n
theorem Urn.mono {S : List Cell} {n m : Nat} (h : Urn S n) (hm : n ≤ m) : Urn S m := by
  obtain ⟨a, s, x, e, h1, h2, h3, h4, h5⟩ := h
  exact ⟨a, s, x, e, h1, h2, h3, h4, by omega⟩
def Mixes (L k n : Nat) (d : D) : Prop := ∀ (S : List Cell) (m : Nat), Urn S m → m + cost L n < 2^39 → ∃ d' fr S', F k i__law_mixed [.ref 0, d] S = .ok (d', fr) S' ∧ Soft d d' ∧ (fr = true → ∃ l, d' = .lst l) ∧ Urn S' (m + cost L n)
theorem h_mixed (L k n : Nat) (l : List D) (L1 : D) (S : List Cell) (m : Nat) (hU : Urn S m) (ih : ∀ d ∈ l, Mixes L k n d) (hz : l.length ≤ L) (hL : L ≤ 1000000) (hm : m + L * cost L n < 2^39) :
    ∃ l' S', lcF [3] lt__law_mixed_0.f (evT (fnAt tbl 100000 k) lq__law_mixed_0) (ev (fnAt tbl 100000 k) le__law_mixed_0).r.val l ⟨[.sh (.ref 0), .sh L1, .no, .no], S⟩ =
      .ok (.lst l', true) ⟨[.sh (.ref 0), .sh L1, .no, .no], S'⟩ ∧ Softs l l' ∧ Urn S' (m + L * cost L n) := by
  obtain ⟨acc, S', e, h1, h2⟩ := lcF_rel (vs := [3]) (t := lt__law_mixed_0.f) (tt := evT (fnAt tbl 100000 k) lq__law_mixed_0) (te := (ev (fnAt tbl 100000 k) le__law_mixed_0).r.val) (ρ := [.sh (.ref 0), .sh L1, .no, .no]) (S := S) l
    (fun i acc S' => Softs (l.take i) acc ∧ Urn S' (m + i * cost L n)) rfl ⟨.nil, by simpa using hU⟩ (fun i acc S1 d hd ⟨q1, q2⟩ => by
      have hi : i < l.length := (List.getElem?_eq_some_iff.mp hd).1
      have hb : i * cost L n + cost L n ≤ L * cost L n := by
        rw [← Nat.succ_mul]; exact Nat.mul_le_mul_right _ (by omega)
      obtain ⟨d', fr, S2, e, s, _, u⟩ := ih d (List.mem_of_getElem? hd) S1 _ q2 (by omega)
      refine ⟨some d', S2, ?_, ?_, by rw [Nat.succ_mul]; exact u.mono (by omega)⟩
      · simp only [lt__law_mixed_0, lq__law_mixed_0, le__law_mixed_0]
        trivial
      · rw [List.take_succ, hd]
        exact q1.snoc s) (by rw [sizeLine_eq]; omega)
  rw [List.take_length] at h1
  refine ⟨acc, S', e, h1, h2.mono ?_⟩
  have : l.length * cost L n ≤ L * cost L n := Nat.mul_le_mul_right _ hz
  omega
theorem f_mixed (L k : Nat) (hL : L ≤ 1000000) : ∀ (n : Nat) (d : D), Pw L n d → Mixes L (k + n + 1) n d
  | n, _, .non _ => fun S m hU _ => ⟨.non, false, S, by
      refine F_ok (fd := fd__law_mixed) rfl ?_
      unfold fd__law_mixed ir__law_mixed
      trivial, .non, fun h => (nomatch h), hU.mono (by omega)⟩
  | n, _, .bl _ b => fun S m hU _ => ⟨.bl b, false, S, by
      refine F_ok (fd := fd__law_mixed) rfl ?_
      unfold fd__law_mixed ir__law_mixed
      trivial, .bl b, fun h => (nomatch h), hU.mono (by omega)⟩
  | n, _, .int _ i => fun S m hU _ => ⟨.int i, false, S, by
      refine F_ok (fd := fd__law_mixed) rfl ?_
      unfold fd__law_mixed ir__law_mixed
      trivial, .int i, fun h => (nomatch h), hU.mono (by omega)⟩
  | n + 1, _, .tup _ l h hz => fun S m hU hm => by
      have hc : cost L (n + 1) = 1 + L * cost L n := rfl
      obtain ⟨l', S1, e, s, u⟩ := h_mixed L (k + n + 1) n l (.tup l) S m hU (fun d hd => f_mixed L k hL n d (h d hd)) hz hL (by omega)
      obtain ⟨v, S2, e2, v0, v1, u2⟩ := f_take (k + n) 2 S1 _ (by decide) (by decide) u (by omega)
      rw [show k + (n + 1) + 1 = (k + n + 1) + 1 by omega]
      have hl : l'.length ≤ 16777216 := by rw [s.length]; omega
      by_cases hv : v = 0
      · refine ⟨.lst l', true, S2, F_ok (fd := fd__law_mixed) rfl ?_, .tup true s, fun _ => ⟨_, rfl⟩, u2.mono (by omega)⟩
        unfold fd__law_mixed ir__law_mixed
        trivial
      · refine ⟨.tup l', false, S2, F_ok (fd := fd__law_mixed) rfl ?_, .tup false s, fun h => (nomatch h), u2.mono (by omega)⟩
        unfold fd__law_mixed ir__law_mixed
        trivial
  | n + 1, _, .lst _ l h hz => fun S m hU hm => by
      have hc : cost L (n + 1) = 1 + L * cost L n := rfl
      obtain ⟨l', S1, e, s, u⟩ := h_mixed L (k + n + 1) n l (.lst l) S m hU (fun d hd => f_mixed L k hL n d (h d hd)) hz hL (by omega)
      obtain ⟨v, S2, e2, v0, v1, u2⟩ := f_take (k + n) 2 S1 _ (by decide) (by decide) u (by omega)
      rw [show k + (n + 1) + 1 = (k + n + 1) + 1 by omega]
      have hl : l'.length ≤ 16777216 := by rw [s.length]; omega
      by_cases hv : v = 0
      · refine ⟨.lst l', true, S2, F_ok (fd := fd__law_mixed) rfl ?_, .lst true s, fun _ => ⟨_, rfl⟩, u2.mono (by omega)⟩
        unfold fd__law_mixed ir__law_mixed
        trivial
      · refine ⟨.tup l', false, S2, F_ok (fd := fd__law_mixed) rfl ?_, .lst false s, fun h => (nomatch h), u2.mono (by omega)⟩
        unfold fd__law_mixed ir__law_mixed
        trivial
local macro_rules | `(tactic| trivial) => `(tactic| simp [evSs, evS, ev, evs, evO, evT, evI, Ev.of, bnd_ok, r_bind, r_pure, r_lift_s, r_val, r_inl, val_ok, inl_ok, res_l, res_r, r_var_sh, r_var_ow, r_mov_sh, r_mov_ow, r_pk_sh, r_pk_ow, r_peek_sh, r_peek_ow, r_seq, cont_next, cont_ret, r_ite, sel_t, sel_f, r_andB, r_orB, r_notB, r_andM, r_orR, r_notM, r_put, r_set, r_ret, retK_ap, r_drop, nextK_ap, r_asg, r_op, opK_ap, opK2_ap, r_opB, opBK_ap, opBK2_ap, r_un, unK_ap, r_truth, trK_ap, r_ix, ixK_ap, ixK2_ap, r_look_s, r_cons, consK_ap, consK2_ap, r_con, conK_ap, conK2_ap, r_callM, callK_ap, ress_nil, ress_cons, r_seqM, onlyV_nil, onlyV_cons, seqK_run, r_call, runF_ap, outS_ok, r_callF, fin_ret, fin_next, r_six, sixK_ap, sixK3_ap, nowS, gsP, gsV, dsA, Bop.g, Cop.g, Bif.g, K.d, addD, subD, mulD, divD, modD, negD, p64, intD, gtR, ltR, leR, geR, ltD, blD, blOf, M.look, ixS, ixD, cellAt, slOf, setAt, setOw, intOf, absD, lenD, ixN, atI, List.set, truthD, isiD, tyD, isTy, maxOf, chM, chB, r_lc, r_for, r_it, itK_ap, r_sq, sqK_ap,  eqR_int, eqR_non, neR_int, eqR_bl, neR_bl, Option.map_some, Out.val, Out.inl, T.f, Ts.f, Ts.n, tupF, tcons, tnil, tnF_ap, lcT, sure_ok, M.sure, wipeF, wipeR, noOw, putR, r_sl, slK2_ap, slD, r_int, intK_ap, r_cell, cellO_ok, powD, parM, rsF, putAll, en_tup, en_lst, rg1_ok, rg2_ok, asgK_s, sumOf, intsD_ints, tupOf, lstOf, seqD, mkT, mkL, r_app, appK_ap, isD, allOf, zip2D, isTy, np_tupled, np_rounds_between, np_load, np_loads, np_peak, np_shifted, np_written_out, np_joined, np_shared_peak, np_phase_peaks, np_best_phase, np_never_shares, np_peak_ticks, np_least_peak, np_even_births, np__law_box, np__law_take, np__law_cells, np__law_mixed, np__law_same, np__law_copies, np__law_loads, np__law_wide, np__law_shared, np_law, *])
theorem h_cells (k : Nat) (ns : List Int) (S : List Cell) : ∀ (l : List Int) (k0 : Nat) (z : Int) (x3 x4 x5 : Sl), k0 + l.length ≤ 1000 →
    ∃ z' y3 y4 y5, loopM ft__law_cells_0.f (evSs (fnAt tbl 100000 k) 100000 fb__law_cells_0) (enumD k0 (l.map .int)) ⟨[.sh (.scr ns), .sh (.int 1), .ow (.lst [.int z]), x3, x4, x5], S⟩ =
      .ok .next ⟨[.sh (.scr ns), .sh (.int 1), .ow (.lst [.int z']), y3, y4, y5], S⟩
  | [], k0, z, x3, x4, x5, _ => ⟨z, x3, x4, x5, rfl⟩
  | c :: l, k0, z, x3, x4, x5, hz => by
    rw [List.length_cons] at hz
    obtain ⟨z', y3, y4, y5, e⟩ := h_cells k ns S l (k0 + 1) (z + c * ((k0 : Int) + 2)) (.sh (.int k0)) (.sh (.int c)) (.sh (.int 0)) (by omega)
    refine ⟨z', y3, y4, y5, ?_⟩
    rw [← e]
    show loopM _ _ (Pv.prD (.int (k0 : Nat)) (.int c) :: enumD (k0 + 1) (l.map .int)) _ = _
    refine loop_cons (st1 := ⟨[.sh (.scr ns), .sh (.int 1), .ow (.lst [.int z]), .sh (.int k0), .sh (.int c), x5], S⟩) ?_ ?_
    · simp only [ft__law_cells_0, Pv.prD]
      trivial
    · have q0 : (k0 : Int).fmod 1 = 0 := by simp
      have q1 : -18446744073709551616 < (k0 : Int) + 2 ∧ (k0 : Int) + 2 < 18446744073709551616 := by omega
      have q2 : (-18446744073709551616 < c ∧ c < 18446744073709551616) ∨ (-18446744073709551616 < (k0 : Int) + 2 ∧ (k0 : Int) + 2 < 18446744073709551616) := .inr q1
      simp only [fb__law_cells_0]
      trivial
theorem cut1 (ns : List Int) : cutI ns none (some 1) = [] ∨ ∃ c, cutI ns none (some 1) = [c] := by
  have h : (cutI ns none (some 1)).length ≤ 1 := by
    unfold cutI HT.sIx
    simp
    omega
  match hc : cutI ns none (some 1), h with
  | [], _ => exact .inl rfl
  | [c], _ => exact .inr ⟨c, rfl⟩
theorem f_cells (k : Nat) (ns : List Int) (S : List Cell) (hl : ns.length ≤ 63) : ∃ z, F (k+1) i__law_cells [.scr ns, .int 1] S = .ok (.lst [.int z], true) S := by
  have h2 : (cutI ns (some 1) (some 63)).length ≤ 63 := by
    unfold cutI HT.sIx
    simp
    omega
  generalize hc2 : cutI ns (some 1) (some 63) = l2 at h2
  rcases cut1 ns with hc | ⟨c, hc⟩
  · obtain ⟨z', y3, y4, y5, e⟩ := h_cells k ns S l2 0 0 .no .no .no (by omega)
    refine ⟨z', F_ok (fd := fd__law_cells) rfl ?_⟩
    unfold fd__law_cells ir__law_cells
    trivial
  · obtain ⟨z', y3, y4, y5, e⟩ := h_cells k ns S l2 0 c .no .no .no (by omega)
    refine ⟨z', F_ok (fd := fd__law_cells) rfl ?_⟩
    unfold fd__law_cells ir__law_cells
    trivial
theorem f_box (k : Nat) (z : Int) (S : List Cell) : ∃ a s, F (k+1) i__law_box [.lst [.int z], .int 0] S = .ok (.lst [.int a, .int s, .int 0], true) S ∧ 0 ≤ a ∧ 0 ≤ s ∧ s < 2^62 := by
  have m0 := Int.fmod_nonneg_of_pos z (show (0:Int) < 2305843009213693951 by decide)
  have m1 := Int.fmod_lt_of_pos z (show (0:Int) < 2305843009213693951 by decide)
  have ha : 0 ≤ (if z < 0 then -z else z) := by split <;> omega
  by_cases h : (if z < 0 then -z else z) < 1000000000000000000
  · refine ⟨0, z.fmod 2305843009213693951 + 2325001, F_ok (fd := fd__law_box) rfl ?_, by omega, by omega, by omega⟩
    generalize hz : (if z < 0 then -z else z) = az at h ha
    unfold fd__law_box ir__law_box
    trivial
  · refine ⟨(if z < 0 then -z else z), z.fmod 2305843009213693951 + 2325001, F_ok (fd := fd__law_box) rfl ?_, ha, by omega, by omega⟩
    generalize hz : (if z < 0 then -z else z) = az at h ha
    unfold fd__law_box ir__law_box
    trivial
local macro_rules | `(tactic| trivial) => `(tactic| simp [evSs, evS, ev, evs, evO, evT, evI, Ev.of, bnd_ok, r_bind, r_pure, r_lift_s, r_val, r_inl, val_ok, inl_ok, res_l, res_r, r_var_sh, r_var_ow, r_mov_sh, r_mov_ow, r_pk_sh, r_pk_ow, r_peek_sh, r_peek_ow, r_seq, cont_next, cont_ret, r_ite, sel_t, sel_f, r_andB, r_orB, r_notB, r_andM, r_orR, r_notM, r_put, r_set, r_ret, retK_ap, r_drop, nextK_ap, r_asg, r_op, opK_ap, opK2_ap, r_opB, opBK_ap, opBK2_ap, r_un, unK_ap, r_truth, trK_ap, r_ix, ixK_ap, ixK2_ap, r_look_s, r_cons, consK_ap, consK2_ap, r_con, conK_ap, conK2_ap, r_callM, callK_ap, ress_nil, ress_cons, r_seqM, onlyV_nil, onlyV_cons, seqK_run, r_call, runF_ap, outS_ok, r_callF, fin_ret, fin_next, r_six, sixK_ap, sixK3_ap, nowS, gsP, gsV, dsA, Bop.g, Cop.g, Bif.g, K.d, addD, subD, mulD, divD, modD, negD, p64, intD, gtR, ltR, leR, geR, ltD, blD, blOf, M.look, ixS, ixD, cellAt, slOf, setAt, setOw, intOf, absD, lenD, ixN, atI, List.set, truthD, isiD, tyD, isTy, maxOf, chM, chB, r_lc, r_for, r_it, itK_ap, r_sq, sqK_ap,  eqR_int, eqR_non, neR_int, eqR_bl, neR_bl, Option.map_some, Out.val, Out.inl, T.f, Ts.f, Ts.n, tupF, tcons, tnil, tnF_ap, lcT, sure_ok, M.sure, wipeF, wipeR, noOw, putR, r_sl, slK2_ap, slD, r_int, intK_ap, r_cell, cellO_ok, powD, parM, rsF, putAll, en_tup, en_lst, rg1_ok, rg2_ok, asgK_s, sumOf, intsD_ints, tupOf, lstOf, seqD, mkT, mkL, r_app, appK_ap, isD, allOf, zip2D, isTy, np_tupled, np_rounds_between, np_load, np_loads, np_peak, np_shifted, np_written_out, np_joined, np_shared_peak, np_phase_peaks, np_best_phase, np_never_shares, np_peak_ticks, np_least_peak, np_even_births, np__law_box, np__law_take, np__law_cells, np__law_mixed, np__law_same, np__law_copies, np__law_loads, np__law_wide, np__law_shared, np_law, *])
theorem prs_len (l : List (Int × Int)) : (prs l).length = l.length := by simp [prs]
theorem prs_snoc (l : List (Int × Int)) (p : Int × Int) : prs l ++ [.tup [.int p.1, .int p.2]] = prs (l ++ [p]) := by simp [prs, encP]
theorem prs_get {l : List (Int × Int)} {i : Nat} (h : i < l.length) : ∃ p ∈ l, (prs l)[i]? = some (.tup [.int p.1, .int p.2]) := by
  refine ⟨l[i], List.getElem_mem h, ?_⟩
  unfold prs
  rw [List.getElem?_map, List.getElem?_eq_getElem h]; rfl
theorem f_ll (k : Nat) (beat : Int) (ps : List (Int × Int)) (S : List Cell) (hb : 1 ≤ beat) (hb2 : beat ≤ 1000) (hg : ∀ p ∈ ps, good beat p) (hz : ps.length ≤ 1000) :
    ∃ n ns, F (k+2) i__law_loads [.tup [.int beat, .lst (prs ps)]] S = .ok (.lst (.int n :: ns.map .int), true) S ∧ loadsI beat ps = n :: ns := by
  have e := f_lloads k beat false true (prs ps) ps S hb hb2 (lvs_enc ps) hg (by rw [prs_len]; exact hz)
  cases h : loadsI beat ps with
  | nil => exact absurd h (loadsI_ne (by omega))
  | cons n ns =>
    rw [h] at e
    exact ⟨n, ns, e, rfl⟩
/-- the end of a lap: the life is put, or not -/
theorem h_put (k : Nat) (most peak beat : Int) (ps : List (Int × Int)) (p : Int × Int) (lap long kind born : Int) (S : List Cell) (hb : 1 ≤ beat) (hb2 : beat ≤ 4) (hg : ∀ p ∈ ps, good beat p) (hp : good beat p) (hz : ps.length ≤ 100) :
    ∃ ps', (∀ p ∈ ps', good beat p) ∧ ps'.length ≤ ps.length + 1 ∧
      evS (fnAt tbl 100000 (k+2)) 100000 (.if_ (.cmp .le (.bi .max (.cons (.call i__law_loads (.cons (.tup (.cons (.v 4) (.cons (.op .add (.v 5) (.lst (.cons (.v 7) .nil))) .nil))) .nil)) .nil)) (.v 2)) (.cons (.ex (.app 5 (.v 7))) .nil) .nil)
        ⟨[.sh (.ref 0), .sh (.int most), .sh (.int peak), .sh (.int lap), .sh (.int beat), .ow (.lst (prs ps)), .sh (.int long), .sh (.tup [.int p.1, .int p.2]), .sh (.int kind), .sh (.int born)], S⟩ =
        .ok .next ⟨[.sh (.ref 0), .sh (.int most), .sh (.int peak), .sh (.int lap), .sh (.int beat), .ow (.lst (prs ps')), .sh (.int long), .sh (.tup [.int p.1, .int p.2]), .sh (.int kind), .sh (.int born)], S⟩ := by
  have hg' : ∀ q ∈ ps ++ [p], good beat q := fun q hq => by
    rcases List.mem_append.mp hq with h | h
    · exact hg q h
    · rw [List.mem_singleton.mp h]; exact hp
  obtain ⟨n, ns, e, _⟩ := f_ll k beat (ps ++ [p]) S hb (by omega) hg' (by simp; omega)
  rw [← prs_snoc] at e
  have i := intsD_ints (n :: ns)
  rw [List.map_cons] at i
  have hl : (prs ps).length ≤ 1000 := by rw [prs_len]; omega
  have hl2 : (prs ps).length + 1 ≤ sizeLine := by rw [sizeLine_eq]; omega
  by_cases c : peak < ns.foldl max n
  · refine ⟨ps, hg, by omega, ?_⟩
    generalize prs ps = cs at e hl hl2 ⊢
    trivial
  · refine ⟨ps ++ [p], hg', by simp, ?_⟩
    rw [← prs_snoc]
    have hl3 : (prs ps).length < 16777216 := by omega
    generalize prs ps = cs at e hl hl2 hl3 ⊢
    trivial
local macro_rules | `(tactic| trivial) => `(tactic| simp [evSs, evS, ev, evs, evO, evT, evI, Ev.of, bnd_ok, r_bind, r_pure, r_lift_s, r_val, r_inl, val_ok, inl_ok, res_l, res_r, r_var_sh, r_var_ow, r_mov_sh, r_mov_ow, r_pk_sh, r_pk_ow, r_peek_sh, r_peek_ow, r_seq, cont_next, cont_ret, r_ite, sel_t, sel_f, r_andB, r_orB, r_notB, r_andM, r_orR, r_notM, r_put, r_set, r_ret, retK_ap, r_drop, nextK_ap, r_asg, r_op, opK_ap, opK2_ap, r_opB, opBK_ap, opBK2_ap, r_un, unK_ap, r_truth, trK_ap, r_ix, ixK_ap, ixK2_ap, r_look_s, r_cons, consK_ap, consK2_ap, r_con, conK_ap, conK2_ap, r_callM, callK_ap, ress_nil, ress_cons, r_seqM, onlyV_nil, onlyV_cons, seqK_run, r_call, runF_ap, outS_ok, r_callF, fin_ret, fin_next, r_six, sixK_ap, sixK3_ap, nowS, gsP, gsV, dsA, Bop.g, Cop.g, Bif.g, K.d, addD, subD, mulD, divD, modD, negD, p64, intD, gtR, ltR, leR, geR, ltD, blD, blOf, M.look, ixS, ixD, cellAt, slOf, setAt, setOw, intOf, absD, lenD, ixN, atI, List.set, truthD, isiD, tyD, isTy, maxOf, chM, chB, r_lc, r_for, r_it, itK_ap, r_sq, sqK_ap,  eqR_int, eqR_non, neR_int, eqR_bl, neR_bl, Option.map_some, Out.val, Out.inl, T.f, Ts.f, Ts.n, tupF, tcons, tnil, tnF_ap, lcT, sure_ok, M.sure, wipeF, wipeR, noOw, putR, r_sl, slK2_ap, slD, r_int, intK_ap, r_cell, cellO_ok, powD, parM, rsF, putAll, en_tup, en_lst, rg1_ok, rg2_ok, asgK_s, sumOf, intsD_ints, tupOf, lstOf, seqD, mkT, mkL, r_app, appK_ap, isD, allOf, zip2D, isTy, np_tupled, np_rounds_between, np_load, np_loads, np_peak, np_shifted, np_written_out, np_joined, np_shared_peak, np_phase_peaks, np_best_phase, np_never_shares, np_peak_ticks, np_least_peak, np_even_births, np__law_box, np__law_take, np__law_cells, np__law_mixed, np__law_same, np__law_copies, np__law_loads, np__law_wide, np__law_shared, np_law, *])
theorem toPs_ex (ps : List (Int × Int)) : ∃ q, toPs (prs ps) = some q := ⟨_, toPs_prs ps⟩
local macro_rules | `(tactic| trivial) => `(tactic| simp [evSs, evS, ev, evs, evO, evT, evI, Ev.of, bnd_ok, r_bind, r_pure, r_lift_s, r_val, r_inl, val_ok, inl_ok, res_l, res_r, r_var_sh, r_var_ow, r_mov_sh, r_mov_ow, r_pk_sh, r_pk_ow, r_peek_sh, r_peek_ow, r_seq, cont_next, cont_ret, r_ite, sel_t, sel_f, r_andB, r_orB, r_notB, r_andM, r_orR, r_notM, r_put, r_set, r_ret, retK_ap, r_drop, nextK_ap, r_asg, r_op, opK_ap, opK2_ap, r_opB, opBK_ap, opBK2_ap, r_un, unK_ap, r_truth, trK_ap, r_ix, ixK_ap, ixK2_ap, r_look_s, r_cons, consK_ap, consK2_ap, r_con, conK_ap, conK2_ap, r_callM, callK_ap, ress_nil, ress_cons, r_seqM, onlyV_nil, onlyV_cons, seqK_run, r_call, runF_ap, outS_ok, r_callF, fin_ret, fin_next, r_six, sixK_ap, sixK3_ap, nowS, gsP, gsV, dsA, Bop.g, Cop.g, Bif.g, K.d, addD, subD, mulD, divD, modD, negD, p64, intD, gtR, ltR, leR, geR, ltD, blD, blOf, M.look, ixS, ixD, cellAt, slOf, setAt, setOw, intOf, absD, lenD, ixN, atI, List.set, truthD, isiD, tyD, isTy, maxOf, chM, chB, r_lc, r_for, r_it, itK_ap, r_sq, sqK_ap,  eqR_int, eqR_non, neR_int, eqR_bl, neR_bl, Option.map_some, Out.val, Out.inl, T.f, Ts.f, Ts.n, tupF, tcons, tnil, tnF_ap, lcT, sure_ok, M.sure, wipeF, wipeR, noOw, putR, r_sl, slK2_ap, slD, r_int, intK_ap, r_cell, cellO_ok, powD, parM, rsF, putAll, en_tup, en_lst, rg1_ok, rg2_ok, asgK_s, sumOf, intsD_ints, tupOf, lstOf, seqD, mkT, mkL, r_app, appK_ap, isD, allOf, zip2D, isTy, np_tupled, np_rounds_between, np_load, np_loads, np_peak, np_shifted, np_written_out, np_joined, np_shared_peak, np_phase_peaks, np_best_phase, np_never_shares, np_peak_ticks, np_least_peak, np_even_births, np__law_box, np__law_take, np__law_cells, np__law_mixed, np__law_same, np__law_copies, np__law_loads, np__law_wide, np__law_shared, np_law, *])
local macro_rules | `(tactic| trivial) => `(tactic| simp [evSs, evS, ev, evs, evO, evT, evI, Ev.of, bnd_ok, r_bind, r_pure, r_lift_s, r_val, r_inl, val_ok, inl_ok, res_l, res_r, r_var_sh, r_var_ow, r_mov_sh, r_mov_ow, r_pk_sh, r_pk_ow, r_peek_sh, r_peek_ow, r_seq, cont_next, cont_ret, r_ite, sel_t, sel_f, r_andB, r_orB, r_notB, r_andM, r_orR, r_notM, r_put, r_set, r_ret, retK_ap, r_drop, nextK_ap, r_asg, r_op, opK_ap, opK2_ap, r_opB, opBK_ap, opBK2_ap, r_un, unK_ap, r_truth, trK_ap, r_ix, ixK_ap, ixK2_ap, r_look_s, r_cons, consK_ap, consK2_ap, r_con, conK_ap, conK2_ap, r_callM, callK_ap, ress_nil, ress_cons, r_seqM, onlyV_nil, onlyV_cons, seqK_run, r_call, runF_ap, outS_ok, r_callF, fin_ret, fin_next, r_six, sixK_ap, sixK3_ap, nowS, gsP, gsV, dsA, Bop.g, Cop.g, Bif.g, K.d, addD, subD, mulD, divD, modD, negD, p64, intD, gtR, ltR, leR, geR, ltD, blD, blOf, M.look, ixS, ixD, cellAt, slOf, setAt, setOw, intOf, absD, lenD, ixN, atI, List.set, truthD, isiD, tyD, isTy, maxOf, chM, chB, r_lc, r_for, r_it, itK_ap, r_sq, sqK_ap,  eqR_int, eqR_non, neR_int, eqR_bl, neR_bl, Option.map_some, Out.val, Out.inl, T.f, Ts.f, Ts.n, tupF, tcons, tnil, tnF_ap, lcT, sure_ok, M.sure, wipeF, wipeR, noOw, putR, r_sl, slK2_ap, slD, r_int, intK_ap, r_cell, cellO_ok, powD, parM, rsF, putAll, en_tup, en_lst, rg1_ok, rg2_ok, asgK_s, sumOf, intsD_ints, tupOf, lstOf, seqD, mkT, mkL, r_app, appK_ap, isD, allOf, zip2D, isTy, np_tupled, np_rounds_between, np_load, np_loads, np_peak, np_shifted, np_written_out, np_joined, np_shared_peak, np_phase_peaks, np_best_phase, np_never_shares, np_peak_ticks, np_least_peak, np_even_births, np__law_box, np__law_take, np__law_cells, np__law_mixed, np__law_same, np__law_copies, np__law_loads, np__law_wide, np__law_shared, np_law, *])
theorem fdiv_step {x b : Int} (hb : 1 ≤ b) : x.fdiv b - (x - 1).fdiv b = if x.fmod b = 0 then 1 else 0 := by
  rw [Int.fdiv_eq_ediv_of_nonneg _ (by omega), Int.fdiv_eq_ediv_of_nonneg _ (by omega), Int.fmod_eq_emod_of_nonneg _ (by omega)]
  have h1 := Int.emod_nonneg x (show b ≠ 0 by omega)
  have h2 := Int.emod_lt_of_pos x (show 0 < b by omega)
  have h3 := Int.emod_add_mul_ediv x b
  by_cases h : x % b = 0
  · rw [if_pos h]
    have := ((Int.ediv_emod_unique (a := x - 1) (b := b) (r := b - 1) (q := x / b - 1) (by omega)).mpr ⟨by rw [Int.mul_sub]; omega, by omega, by omega⟩).1
    omega
  · rw [if_neg h]
    have := ((Int.ediv_emod_unique (a := x - 1) (b := b) (r := x % b - 1) (q := x / b) (by omega)).mpr ⟨by omega, by omega, by omega⟩).1
    omega
theorem rnd_eq {beat t : Int} {p : Int × Int} (hb : 1 ≤ beat) (hp : good beat p) : rndI (t - p.1 - p.2 + 1) (t - p.1) beat = (t - p.1).fdiv beat - (t - p.1 - p.2).fdiv beat := by
  have := (fdiv_near (x := t - p.1) hb (show 0 ≤ p.2 by have := hp.2.2.1; omega)).1
  unfold rndI
  rw [show t - p.1 - p.2 + 1 - 1 = t - p.1 - p.2 by omega]
  omega
theorem load_diff {beat t : Int} (hb : 1 ≤ beat) : ∀ (ps : List (Int × Int)) (k : Nat), (∀ p ∈ ps, good beat p) →
    loadI beat ps t - loadI beat ps (t - 1) = ((selI (fun p => decide ((t - p.1).fmod beat = 0)) k ps).length : Int) - ((selI (fun p => decide ((t - p.1 - p.2).fmod beat = 0)) k ps).length : Int)
  | [], _, _ => rfl
  | p :: ps, k, h => by
    have ih := load_diff hb (t := t) ps (k + 1) fun q hq => h q (List.mem_cons_of_mem _ hq)
    have gp := h p List.mem_cons_self
    have e1 := rnd_eq (t := t) hb gp
    have e2 := rnd_eq (t := t - 1) hb gp
    have s1 := fdiv_step (x := t - p.1) hb
    have s2 := fdiv_step (x := t - p.1 - p.2) hb
    rw [show t - 1 - p.1 = t - p.1 - 1 by omega] at e2
    rw [show t - p.1 - 1 - p.2 = t - p.1 - p.2 - 1 by omega] at e2
    unfold loadI at ih ⊢
    unfold selI
    rw [List.map_cons, List.map_cons, List.sum_cons, List.sum_cons]
    rw [e1, show t - 1 - p.1 = t - p.1 - 1 by omega, show t - p.1 - 1 - p.2 = t - p.1 - p.2 - 1 by omega, e2]
    by_cases c1 : (t - p.1).fmod beat = 0 <;> by_cases c2 : (t - p.1 - p.2).fmod beat = 0 <;> simp only [c1, c2, decide_true, decide_false, if_true, if_false, List.length_cons, Bool.false_eq_true] at s1 s2 ⊢ <;> omega
theorem soft_inv {beat : Int} {ps : List (Int × Int)} {d : D} (h : Soft (encL beat ps) d) : ∃ k1 k2 ds, d = sq k1 [.int beat, sq k2 ds] ∧ Lvs ps ds := by
  unfold encL at h
  cases h with
  | tup k1 h =>
    cases h with
    | cons a b =>
      cases a
      cases b with
      | cons c e =>
        cases e
        cases c with
        | tup k2 h =>
          refine ⟨k1, k2, _, rfl, ?_⟩
          rename_i ds
          clear k1 k2
          induction ps generalizing ds with
          | nil => cases h; exact .nil
          | cons p ps ih =>
            cases h with
            | cons x y =>
              refine .cons ?_ (ih y)
              cases x with
              | tup k z =>
                cases z with
                | cons z1 z2 =>
                  cases z1
                  cases z2 with
                  | cons z3 z4 =>
                    cases z3; cases z4
                    exact ⟨k, rfl⟩
theorem pw_enc {beat : Int} {ps : List (Int × Int)} (h : ps.length ≤ 10) : Pw 10 3 (encL beat ps) := by
  refine .tup _ _ (fun d hd => ?_) (by simp)
  simp only [List.mem_cons, List.not_mem_nil, or_false] at hd
  rcases hd with rfl | rfl
  · exact .int _ _
  · refine .tup _ _ (fun d hd => ?_) (by simpa using h)
    obtain ⟨p, _, rfl⟩ := List.mem_map.mp hd
    refine .tup _ _ (fun d hd => ?_) (by simp)
    simp only [List.mem_cons, List.not_mem_nil, or_false] at hd
    rcases hd with rfl | rfl <;> exact .int _ _
theorem pl_ints (l : List Int) (h : l.length ≤ 1000000) : Pl 1 (.tup (l.map .int)) := .tup _ _ (fun d hd => by
  obtain ⟨i, _, rfl⟩ := List.mem_map.mp hd
  exact .int _ _) (by simpa using h)
theorem selI_len (c : Int × Int → Bool) : ∀ (ps : List (Int × Int)) (k : Nat), (selI c k ps).length ≤ ps.length
  | [], _ => Nat.le_refl _
  | p :: ps, k => by
    have := selI_len c ps (k + 1)
    unfold selI
    split <;> simp <;> omega
end Law
namespace Law
open PySem L2 Pv
/-! ### loads of what is made of others -/
def dI (b t : Int) (p : Int × Int) : Int := (t - p.1).fdiv b - (t - p.1 - p.2).fdiv b
theorem rnd_dI {b t : Int} {p : Int × Int} (hb : 1 ≤ b) (hp : 0 ≤ p.2) : rndI (t - p.1 - p.2 + 1) (t - p.1) b = dI b t p := by
  have := (fdiv_near (x := t - p.1) hb hp).1
  unfold rndI dI
  rw [show t - p.1 - p.2 + 1 - 1 = t - p.1 - p.2 by omega]
  omega
theorem load_dI {b t : Int} {ps : List (Int × Int)} (hb : 1 ≤ b) (hp : ∀ p ∈ ps, 0 ≤ p.2) : loadI b ps t = (ps.map (dI b t)).sum := by
  unfold loadI
  congr 1
  exact List.map_congr_left fun p h => rnd_dI hb (hp p h)
theorem fdiv_add {x b k : Int} (hb : 1 ≤ b) : (x + k * b).fdiv b = x.fdiv b + k := by
  rw [Int.fdiv_eq_ediv_of_nonneg _ (by omega), Int.fdiv_eq_ediv_of_nonneg _ (by omega), Int.add_mul_ediv_right _ _ (by omega)]
theorem load_per {b : Int} {ps : List (Int × Int)} (hb : 1 ≤ b) (hp : ∀ p ∈ ps, 0 ≤ p.2) (t k : Int) : loadI b ps (t + k * b) = loadI b ps t := by
  rw [load_dI hb hp, load_dI hb hp]
  congr 1
  refine List.map_congr_left fun p _ => ?_
  unfold dI
  rw [show t + k * b - p.1 = t - p.1 + k * b by omega, show t - p.1 + k * b - p.2 = t - p.1 - p.2 + k * b by omega, fdiv_add hb, fdiv_add hb]
  omega
def shiftL (b ph : Int) (ps : List (Int × Int)) : List (Int × Int) := ps.map fun p => ((p.1 + ph).fmod b, p.2)
theorem load_shift {b : Int} {ps : List (Int × Int)} (hb : 1 ≤ b) (hp : ∀ p ∈ ps, 0 ≤ p.2) (ph t : Int) : loadI b (shiftL b ph ps) t = loadI b ps (t - ph) := by
  have hs : ∀ q ∈ shiftL b ph ps, 0 ≤ q.2 := fun q hq => by
    obtain ⟨p, h, rfl⟩ := List.mem_map.mp hq
    exact hp p h
  rw [load_dI hb hs, load_dI hb hp]
  unfold shiftL
  rw [List.map_map]
  congr 1
  refine List.map_congr_left fun p _ => ?_
  show dI b t ((p.1 + ph).fmod b, p.2) = dI b (t - ph) p
  unfold dI
  have e := Int.mul_fdiv_add_fmod (p.1 + ph) b
  rw [Int.mul_comm] at e
  generalize (p.1 + ph).fdiv b = q at e
  generalize (p.1 + ph).fmod b = m at e ⊢
  rw [show t - m = t - ph - p.1 + q * b by omega, show t - ph - p.1 + q * b - p.2 = t - ph - p.1 - p.2 + q * b by omega, fdiv_add hb, fdiv_add hb]
  omega
def writeL (b : Int) (r : Nat) (ps : List (Int × Int)) : List (Int × Int) := ps.flatMap fun p => (List.range r).map fun (j : Nat) => (p.1 + (j : Int) * b, p.2)
theorem tele (f : Int → Int) (y : Int) : ∀ n : Nat, ((List.range n).map fun (j : Nat) => f (y + 1 - (j : Int))).sum = ((List.range n).map fun (j : Nat) => f (y - (j : Int))).sum + f (y + 1) - f (y + 1 - (n : Int))
  | 0 => by simp
  | n + 1 => by
    rw [List.range_succ, List.map_append, List.map_append, List.sum_append_int, List.sum_append_int, tele f y n]
    simp only [List.map_cons, List.map_nil, List.sum_cons, List.sum_nil]
    rw [show y + 1 - ((n + 1 : Nat) : Int) = y - (n : Int) by omega]
    omega
theorem herm (r : Nat) (hr : 1 ≤ r) (y : Int) : ((List.range r).map fun (j : Nat) => (y + 1 - (j : Int)).fdiv r).sum = ((List.range r).map fun (j : Nat) => (y - (j : Int)).fdiv r).sum + 1 := by
  rw [tele (fun z => z.fdiv r) y r]
  have e := fdiv_add (x := y + 1 - (r : Int)) (b := (r : Int)) (k := 1) (by omega)
  rw [show y + 1 - (r : Int) + 1 * (r : Int) = y + 1 by omega] at e
  omega
def hs (r : Nat) (y : Int) : Int := ((List.range r).map fun (j : Nat) => (y - (j : Int)).fdiv r).sum
theorem hs_nat (r : Nat) (hr : 1 ≤ r) (y : Int) : ∀ n : Nat, hs r (y + (n : Int)) = hs r y + n
  | 0 => by simp
  | n + 1 => by
    have e := herm r hr (y + (n : Int))
    have ih := hs_nat r hr y n
    have e2 : hs r (y + (n : Int) + 1) = hs r (y + (n : Int)) + 1 := e
    rw [show y + ((n + 1 : Nat) : Int) = y + (n : Int) + 1 by omega, e2, ih]
    omega
theorem hs_sub (r : Nat) (hr : 1 ≤ r) (x y : Int) (h : y ≤ x) : hs r x - hs r y = x - y := by
  have e := hs_nat r hr y (x - y).toNat
  rw [show y + (((x - y).toNat : Nat) : Int) = x by omega] at e
  omega
theorem fdiv_fdiv {x b : Int} {r : Nat} (hb : 1 ≤ b) (j : Nat) : (x - (j : Int) * b).fdiv (b * r) = (x.fdiv b - (j : Int)).fdiv r := by
  have e : (x - (j : Int) * b).fdiv b = x.fdiv b - (j : Int) := by
    have := fdiv_add (x := x) (k := -(j : Int)) hb
    rw [show x + -(j : Int) * b = x - (j : Int) * b by rw [Int.neg_mul]; omega] at this
    omega
  rw [← e]
  have hbr : 0 ≤ b * (r : Int) := Int.mul_nonneg (by omega) (by omega)
  rw [Int.fdiv_eq_ediv_of_nonneg _ hbr, Int.fdiv_eq_ediv_of_nonneg _ (show (0 : Int) ≤ b by omega), Int.fdiv_eq_ediv_of_nonneg _ (show (0 : Int) ≤ (r : Int) by omega), Int.ediv_ediv_of_nonneg (by omega)]
theorem sum_sub (f g : Nat → Int) : ∀ l : List Nat, (l.map fun j => f j - g j).sum = (l.map f).sum - (l.map g).sum
  | [] => rfl
  | a :: l => by simp only [List.map_cons, List.sum_cons, sum_sub f g l]; omega
theorem write_one {b t : Int} {r : Nat} {p : Int × Int} (hb : 1 ≤ b) (hr : 1 ≤ r) (hp : 0 ≤ p.2) : (((List.range r).map fun (j : Nat) => (p.1 + (j : Int) * b, p.2)).map (dI (b * r) t)).sum = dI b t p := by
  rw [List.map_map]
  have e : ((List.range r).map ((dI (b * r) t) ∘ fun (j : Nat) => (p.1 + (j : Int) * b, p.2))) = (List.range r).map fun (j : Nat) => ((t - p.1).fdiv b - (j : Int)).fdiv r - ((t - p.1 - p.2).fdiv b - (j : Int)).fdiv r := by
    refine List.map_congr_left fun j _ => ?_
    show dI (b * r) t (p.1 + (j : Int) * b, p.2) = _
    unfold dI
    show (t - (p.1 + (j : Int) * b)).fdiv (b * r) - (t - (p.1 + (j : Int) * b) - p.2).fdiv (b * r) = _
    rw [show t - (p.1 + (j : Int) * b) = t - p.1 - (j : Int) * b by omega, show t - p.1 - (j : Int) * b - p.2 = t - p.1 - p.2 - (j : Int) * b by omega, fdiv_fdiv hb, fdiv_fdiv hb]
  rw [e, sum_sub (fun (j : Nat) => ((t - p.1).fdiv b - (j : Int)).fdiv r) (fun (j : Nat) => ((t - p.1 - p.2).fdiv b - (j : Int)).fdiv r)]
  have le := (fdiv_near (x := t - p.1) hb hp).1
  exact hs_sub r hr _ _ le
theorem write_pos {b : Int} {r : Nat} {ps : List (Int × Int)} (hp : ∀ p ∈ ps, 0 ≤ p.2) : ∀ q ∈ writeL b r ps, 0 ≤ q.2 := fun q hq => by
  obtain ⟨p, h1, h2⟩ := List.mem_flatMap.mp hq
  obtain ⟨j, _, rfl⟩ := List.mem_map.mp h2
  exact hp p h1
theorem load_write {b t : Int} {r : Nat} (hb : 1 ≤ b) (hr : 1 ≤ r) : ∀ {ps : List (Int × Int)}, (∀ p ∈ ps, 0 ≤ p.2) → loadI (b * r) (writeL b r ps) t = loadI b ps t := fun {ps} hp => by
  have hbr : 1 ≤ b * (r : Int) := by
    have := Int.mul_le_mul hb (show (1 : Int) ≤ (r : Int) by omega) (by omega) (by omega)
    omega
  rw [load_dI hbr (write_pos hp), load_dI hb hp]
  unfold writeL
  induction ps with
  | nil => rfl
  | cons p ps ih =>
    rw [List.flatMap_cons, List.map_append, List.sum_append_int, List.map_cons, List.sum_cons, write_one hb hr (hp p List.mem_cons_self), ih fun q hq => hp q (List.mem_cons_of_mem _ hq)]
theorem load_app (b t : Int) (l m : List (Int × Int)) : loadI b (l ++ m) t = loadI b l t + loadI b m t := by
  unfold loadI
  rw [List.map_append, List.sum_append_int]
/-! ### the greatest -/
def IsMax (f : Int → Int) (M : Int) : Prop := (∃ t, f t = M) ∧ ∀ t, f t ≤ M
theorem IsMax.uniq {f : Int → Int} {M N : Int} (h : IsMax f M) (k : IsMax f N) : M = N := by
  obtain ⟨⟨t, h1⟩, h2⟩ := h
  obtain ⟨⟨u, k1⟩, k2⟩ := k
  have := h2 u
  have := k2 t
  omega
theorem IsMax.of {f g : Int → Int} {M : Int} (h : IsMax f M) (a : ∀ t, ∃ u, g u = f t) (b : ∀ u, ∃ t, f t = g u) : IsMax g M := by
  obtain ⟨⟨t, h1⟩, h2⟩ := h
  obtain ⟨u, hu⟩ := a t
  refine ⟨⟨u, hu.trans h1⟩, fun v => ?_⟩
  obtain ⟨s, hs⟩ := b v
  rw [← hs]; exact h2 s
theorem maxI_mem {l : List Int} (h : l ≠ []) : maxI l ∈ l ∧ ∀ x ∈ l, x ≤ maxI l := by
  cases l with
  | nil => exact absurd rfl h
  | cons n ns => exact foldl_max_mem ns n
theorem max_per {f : Int → Int} {W : Int} (hW : 1 ≤ W) (per : ∀ t k, f (t + k * W) = f t) {N : Nat} (hN : W ≤ N) : IsMax f (maxI ((List.range N).map fun (i : Nat) => f (i : Int))) := by
  have ne : ((List.range N).map fun (i : Nat) => f (i : Int)) ≠ [] := by
    intro h
    have := congrArg List.length h
    simp at this
    omega
  obtain ⟨h1, h2⟩ := maxI_mem ne
  obtain ⟨i, _, hi⟩ := List.mem_map.mp h1
  refine ⟨⟨(i : Int), hi⟩, fun t => ?_⟩
  have e := Int.mul_fdiv_add_fmod t W
  have m0 := Int.fmod_nonneg_of_pos t (show 0 < W by omega)
  have m1 := Int.fmod_lt_of_pos t (show 0 < W by omega)
  rw [Int.mul_comm] at e
  have e2 : f t = f (t.fmod W) := by
    rw [← per (t.fmod W) (t.fdiv W)]
    congr 1; omega
  rw [e2]
  refine h2 _ (List.mem_map.mpr ⟨(t.fmod W).toNat, by rw [List.mem_range]; omega, ?_⟩)
  congr 1; omega
end Law
namespace Law
open PySem L2 Pv
/-! ### numbers of at most six -/
theorem bez_all : ∀ a ∈ List.range 7, ∀ b ∈ List.range 7, 1 ≤ a → 1 ≤ b → ∃ u ∈ List.range 13, ∃ v ∈ List.range 13, ((Nat.gcd a b : Nat) : Int) = ((u : Int) - 6) * (a : Int) + ((v : Int) - 6) * (b : Int) := by decide +kernel
theorem bez {a b : Int} (ha : 1 ≤ a ∧ a ≤ 6) (hb : 1 ≤ b ∧ b ≤ 6) : ∃ u v : Int, ((Nat.gcd a.natAbs b.natAbs : Nat) : Int) = u * a + v * b := by
  obtain ⟨u, _, v, _, e⟩ := bez_all a.natAbs (by rw [List.mem_range]; omega) b.natAbs (by rw [List.mem_range]; omega) (by omega) (by omega)
  refine ⟨(u : Int) - 6, (v : Int) - 6, ?_⟩
  rw [e, show ((a.natAbs : Nat) : Int) = a by omega, show ((b.natAbs : Nat) : Int) = b by omega]
def gI (a b : Int) : Int := ((Nat.gcd a.natAbs b.natAbs : Nat) : Int)
def lI (a b : Int) : Int := ((Nat.lcm a.natAbs b.natAbs : Nat) : Int)
def cmn (a b : Int) : List Int := ([1, 2, 3, 4, 5, 6] : List Int).filter fun o => decide (a.fmod o = 0) && decide (b.fmod o = 0)
theorem six_all : ∀ a ∈ List.range 7, ∀ b ∈ List.range 7, 1 ≤ a → 1 ≤ b → (cmn (a : Int) (b : Int)).getLast? = some ((Nat.gcd a b : Nat) : Int) ∧ 1 ≤ Nat.gcd a b ∧ Nat.gcd a b ≤ 6 ∧ 1 ≤ Nat.lcm a b ∧ Nat.lcm a b ≤ 30 ∧ Nat.lcm a b ≤ a * b ∧ Nat.lcm a b % a = 0 ∧ Nat.lcm a b % b = 0 ∧ a % Nat.gcd a b = 0 ∧ b % Nat.gcd a b = 0 := by decide +kernel
structure Six (a b : Int) : Prop where
  c : (cmn a b).getLast? = some (gI a b)
  g1 : 1 ≤ gI a b
  g6 : gI a b ≤ 6
  l1 : 1 ≤ lI a b
  l30 : lI a b ≤ 30
  lab : lI a b ≤ a * b
  la : ∃ k, lI a b = a * k ∧ 1 ≤ k ∧ k ≤ 30
  lb : ∃ k, lI a b = b * k ∧ 1 ≤ k ∧ k ≤ 30
  ga : ∃ k, a = gI a b * k
  gb : ∃ k, b = gI a b * k
theorem six {a b : Int} (ha : 1 ≤ a ∧ a ≤ 6) (hb : 1 ≤ b ∧ b ≤ 6) : Six a b := by
  obtain ⟨n, rfl⟩ : ∃ n : Nat, a = n := ⟨a.toNat, by omega⟩
  obtain ⟨m, rfl⟩ : ∃ m : Nat, b = m := ⟨b.toNat, by omega⟩
  obtain ⟨h1, h2, h3, h4, h5, h6, h7, h8, h9, h10⟩ := six_all n (by rw [List.mem_range]; omega) m (by rw [List.mem_range]; omega) (by omega) (by omega)
  have dv : ∀ x y : Nat, 1 ≤ x → 1 ≤ y → y ≤ 30 → y % x = 0 → ∃ k : Int, (y : Int) = (x : Int) * k ∧ 1 ≤ k ∧ k ≤ 30 := fun x y hx hy hy2 h => by
    have e := Nat.div_add_mod y x
    rw [h, Nat.add_zero] at e
    have le : y / x ≤ y := Nat.div_le_self _ _
    generalize y / x = z at e le
    refine ⟨(z : Int), by rw [← Int.natCast_mul, e], ?_, by omega⟩
    have : z ≠ 0 := fun q => by rw [q] at e; simp at e; omega
    omega
  have dg : ∀ x y : Nat, y % x = 0 → ∃ k : Int, (y : Int) = (x : Int) * k := fun x y h => by
    have e := Nat.div_add_mod y x
    rw [h, Nat.add_zero] at e
    exact ⟨((y / x : Nat) : Int), by rw [← Int.natCast_mul, e]⟩
  have gE : gI (n : Int) (m : Int) = ((Nat.gcd n m : Nat) : Int) := rfl
  have lE : lI (n : Int) (m : Int) = ((Nat.lcm n m : Nat) : Int) := rfl
  exact ⟨by rw [gE]; exact h1, by rw [gE]; omega, by rw [gE]; omega, by rw [lE]; omega, by rw [lE]; omega, by rw [lE, ← Int.natCast_mul]; omega, by rw [lE]; exact dv n _ (by omega) h4 h5 h7, by rw [lE]; exact dv m _ (by omega) h4 h5 h8, by rw [gE]; exact dg _ _ h9, by rw [gE]; exact dg _ _ h10⟩
/-! ### two loops beside one another -/
def posL (ps : List (Int × Int)) : Prop := ∀ p ∈ ps, 0 ≤ p.2
def fP (a b : Int) (ps qs : List (Int × Int)) (ph t : Int) : Int := loadI a ps t + loadI b qs (t - ph)
def joinL (a b ph : Int) (ps qs : List (Int × Int)) : List (Int × Int) := writeL a (lI a b / a).toNat ps ++ writeL b (lI a b / b).toNat (shiftL b ph qs)
theorem shift_pos {b ph : Int} {qs : List (Int × Int)} (h : posL qs) : posL (shiftL b ph qs) := fun q hq => by
  obtain ⟨p, h1, rfl⟩ := List.mem_map.mp hq
  exact h p h1
theorem load_join {a b : Int} (ha : 1 ≤ a ∧ a ≤ 6) (hb : 1 ≤ b ∧ b ≤ 6) {ps qs : List (Int × Int)} (hp : posL ps) (hq : posL qs) (ph t : Int) : loadI (lI a b) (joinL a b ph ps qs) t = fP a b ps qs ph t := by
  have S := six ha hb
  obtain ⟨k, e1, k1, _⟩ := S.la
  obtain ⟨m, e2, m1, _⟩ := S.lb
  have d1 : lI a b / a = k := by rw [e1, Int.mul_ediv_cancel_left _ (by omega)]
  have d2 : lI a b / b = m := by rw [e2, Int.mul_ediv_cancel_left _ (by omega)]
  unfold joinL fP
  rw [load_app, d1, d2]
  have w1 := load_write (b := a) (t := t) (r := k.toNat) (by omega) (by omega) hp
  have w2 := load_write (b := b) (t := t) (r := m.toNat) (by omega) (by omega) (shift_pos (b := b) (ph := ph) hq)
  rw [show ((k.toNat : Nat) : Int) = k by omega, ← e1] at w1
  rw [show ((m.toNat : Nat) : Int) = m by omega, ← e2] at w2
  rw [w1, w2, load_shift (by omega) hq]
def pkP (a b ph : Int) (ps qs : List (Int × Int)) : Int := maxI (loadsI (lI a b) (joinL a b ph ps qs))
section
variable {a b : Int} (ha : 1 ≤ a ∧ a ≤ 6) (hb : 1 ≤ b ∧ b ≤ 6) {ps qs : List (Int × Int)} (hp : posL ps) (hq : posL qs)
include ha hb hp hq
theorem fP_per (ph t k : Int) : fP a b ps qs ph (t + k * lI a b) = fP a b ps qs ph t := by
  have S := six ha hb
  obtain ⟨x, e1, _⟩ := S.la
  obtain ⟨y, e2, _⟩ := S.lb
  unfold fP
  have h1 := load_per (b := a) (by omega) hp t (k * x)
  have h2 := load_per (b := b) (by omega) hq (t - ph) (k * y)
  rw [show t + k * x * a = t + k * lI a b by rw [e1, Int.mul_assoc, Int.mul_comm x a]] at h1
  rw [show t - ph + k * y * b = t + k * lI a b - ph by rw [e2, Int.mul_assoc, Int.mul_comm y b]; omega] at h2
  rw [h1, h2]
theorem pk_max (ph : Int) : IsMax (fP a b ps qs ph) (pkP a b ph ps qs) := by
  have S := six ha hb
  unfold pkP loadsI
  rw [show ((List.range (lI a b).toNat).map fun (i : Nat) => loadI (lI a b) (joinL a b ph ps qs) (i : Int)) = (List.range (lI a b).toNat).map fun (i : Nat) => fP a b ps qs ph (i : Int) from List.map_congr_left fun i _ => load_join ha hb hp hq ph _]
  exact max_per S.l1 (fP_per ha hb hp hq ph) (by omega)
/-- the law's way: over all ticks of both -/
def sharedI (a b ph : Int) (ps qs : List (Int × Int)) : Int := maxI ((List.range (a * b).toNat).map fun (i : Nat) => loadI a ps (i : Int) + loadI b qs ((i : Int) - ph))
theorem shared_eq (ph : Int) : sharedI a b ph ps qs = pkP a b ph ps qs := by
  have S := six ha hb
  have := S.lab
  have h : IsMax (fP a b ps qs ph) (sharedI a b ph ps qs) := max_per S.l1 (fP_per ha hb hp hq ph) (by omega)
  exact h.uniq (pk_max ha hb hp hq ph)
/-- phases that differ by a common divisor's multiple -/
theorem pk_mod (ph m : Int) : pkP a b (ph + m * gI a b) ps qs = pkP a b ph ps qs := by
  obtain ⟨u, v, e⟩ := bez ha hb
  have e : gI a b = u * a + v * b := e
  have h := pk_max ha hb hp hq ph
  refine ((pk_max ha hb hp hq (ph + m * gI a b)).of (g := fP a b ps qs ph) (fun t => ⟨t - m * u * a, ?_⟩) fun t => ⟨t + m * u * a, ?_⟩).uniq h
  · unfold fP
    have h1 := load_per (b := a) (by omega) hp t (-(m * u))
    have h2 := load_per (b := b) (by omega) hq (t - (ph + m * gI a b)) (m * v)
    rw [show t + -(m * u) * a = t - m * u * a by rw [Int.neg_mul]; omega] at h1
    rw [show t - (ph + m * gI a b) + m * v * b = t - m * u * a - ph by rw [e, Int.mul_add, ← Int.mul_assoc, ← Int.mul_assoc]; omega] at h2
    rw [h1, h2]
  · unfold fP
    have h1 := load_per (b := a) (by omega) hp t (m * u)
    have h2 := load_per (b := b) (by omega) hq (t - ph) (-(m * v))
    rw [show t - ph + -(m * v) * b = t + m * u * a - (ph + m * gI a b) by rw [e, Int.mul_add, ← Int.mul_assoc, ← Int.mul_assoc, Int.neg_mul]; omega] at h2
    rw [h1, h2]
theorem pk_fmod (ph : Int) : pkP a b (ph.fmod (gI a b)) ps qs = pkP a b ph ps qs := by
  have e := Int.mul_fdiv_add_fmod ph (gI a b)
  have h := pk_mod ha hb hp hq (ph.fmod (gI a b)) (ph.fdiv (gI a b))
  rw [show ph.fmod (gI a b) + ph.fdiv (gI a b) * gI a b = ph by rw [Int.mul_comm (ph.fdiv (gI a b))]; omega] at h
  exact h.symm
theorem pk_swap (ph : Int) : pkP b a ph qs ps = pkP a b (-ph) ps qs := by
  refine ((pk_max hb ha hq hp ph).of (g := fP a b ps qs (-ph)) (fun t => ⟨t - ph, ?_⟩) fun t => ⟨t + ph, ?_⟩).uniq (pk_max ha hb hp hq (-ph))
  · unfold fP
    rw [show t - ph - -ph = t by omega]; omega
  · unfold fP
    rw [show t + ph - ph = t by omega, show t - -ph = t + ph by omega]; omega
end
theorem load_max {a : Int} (ha : 1 ≤ a) {ps : List (Int × Int)} (hp : posL ps) : IsMax (loadI a ps) (maxI (loadsI a ps)) := by
  unfold loadsI
  exact max_per ha (fun t k => load_per ha hp t k) (by omega)
theorem gI_comm (a b : Int) : gI a b = gI b a := by unfold gI; rw [Nat.gcd_comm]
end Law
namespace Law
open PySem L2 Pv
local macro_rules | `(tactic| trivial) => `(tactic| simp [evSs, evS, ev, evs, evO, evT, evI, Ev.of, bnd_ok, r_bind, r_pure, r_lift_s, r_val, r_inl, val_ok, inl_ok, res_l, res_r, r_var_sh, r_var_ow, r_mov_sh, r_mov_ow, r_pk_sh, r_pk_ow, r_peek_sh, r_peek_ow, r_seq, cont_next, cont_ret, r_ite, sel_t, sel_f, r_andB, r_orB, r_notB, r_andM, r_orR, r_notM, r_put, r_set, r_ret, retK_ap, r_drop, nextK_ap, r_asg, r_op, opK_ap, opK2_ap, r_opB, opBK_ap, opBK2_ap, r_un, unK_ap, r_truth, trK_ap, r_ix, ixK_ap, ixK2_ap, r_look_s, r_cons, consK_ap, consK2_ap, r_con, conK_ap, conK2_ap, r_callM, callK_ap, ress_nil, ress_cons, r_seqM, onlyV_nil, onlyV_cons, seqK_run, r_call, runF_ap, outS_ok, r_callF, fin_ret, fin_next, r_six, sixK_ap, sixK3_ap, nowS, gsP, gsV, dsA, Bop.g, Cop.g, Bif.g, K.d, addD, subD, divD, modD, negD, p64, intD, gtR, ltR, leR, geR, ltD, blD, blOf, M.look, ixS, ixD, cellAt, slOf, setAt, setOw, intOf, absD, lenD, ixN, atI, List.set, truthD, isiD, tyD, isTy, maxOf, chM, chB, r_lc, r_for, r_it, itK_ap, r_sq, sqK_ap,  eqR_int, eqR_non, neR_int, eqR_bl, neR_bl, Option.map_some, Out.val, Out.inl, T.f, Ts.f, Ts.n, tupF, tcons, tnil, tnF_ap, lcT, sure_ok, M.sure, wipeF, wipeR, noOw, putR, r_sl, slK2_ap, slD, r_int, intK_ap, r_cell, cellO_ok, powD, parM, rsF, putAll, en_tup, en_lst, rg1_ok, rg2_ok, asgK_s, sumOf, intsD_ints, tupOf, lstOf, seqD, mkT, mkL, r_app, appK_ap, isD, isTy, allOf, Mth.g, np_tupled, np_rounds_between, np_load, np_loads, np_peak, np_shifted, np_written_out, np_joined, np_shared_peak, np_phase_peaks, np_best_phase, np_never_shares, np_peak_ticks, np_least_peak, np_even_births, np__law_box, np__law_take, np__law_cells, np__law_mixed, np__law_same, np__law_copies, np__law_loads, np__law_wide, np__law_shared, np_law, *])
theorem mulD_small (a b : Int) (h : -1000 < b ∧ b < 1000) : mulD (.int a) (.int b) = some (.int (a * b), false) := by
  have q : (-p64 < a ∧ a < p64) ∨ (-p64 < b ∧ b < p64) := .inr (by
    have e : p64 = 18446744073709551616 := rfl
    rw [e]; omega)
  exact if_pos q
/-! ### comprehensions of two clauses, run -/
theorem lcL_map {vs : List Nat} {t : Tf} {tt : M Bool} {te : M D} {ρ : List Sl} {S : List Cell} (h : D → D) : ∀ (ds acc : List D), acc.length + ds.length ≤ 16777216 → (∀ d ∈ ds, lcT vs t tt te d ⟨ρ, S⟩ = some (some (h d), ⟨ρ, S⟩)) →
    lcL vs t tt te ds acc ⟨ρ, S⟩ = some (acc ++ ds.map h, ⟨ρ, S⟩)
  | [], acc, _, _ => by simp [lcL]
  | d :: ds, acc, hz, hs => by
    unfold lcL
    rw [hs d List.mem_cons_self]
    rw [List.length_cons] at hz
    show (if acc.length < sizeLine then _ else _) = _
    rw [if_pos (by rw [sizeLine_eq]; omega), lcL_map h ds (acc ++ [h d]) (by simp; omega) fun e he => hs e (List.mem_cons_of_mem _ he)]
    simp
theorem lc2L_run {vs vs1 : List Nat} {t : Tf} {tt : M Bool} {m1 : M (List D)} {t1 : Tf} {tt1 : M Bool} {te : M D} {ρ : List Sl} {S : List Cell} (o : D → List D) (n : Nat) : ∀ (ds acc : List D), acc.length + n * ds.length ≤ 16777216 →
    (∀ d ∈ ds, ∃ ρ1 ρ2 ds1 h, t d ⟨ρ, S⟩ = some ⟨ρ1, S⟩ ∧ tt.sure ⟨ρ1, S⟩ = some (true, ⟨ρ1, S⟩) ∧ m1.sure ⟨ρ1, S⟩ = some (ds1, ⟨ρ1, S⟩) ∧ wipeF vs1 ⟨ρ1, S⟩ = some ⟨ρ2, S⟩ ∧ (∀ x ∈ ds1, lcT vs1 t1 tt1 te x ⟨ρ2, S⟩ = some (some (h x), ⟨ρ2, S⟩)) ∧ wipeF vs ⟨ρ2, S⟩ = some ⟨ρ, S⟩ ∧ ds1.map h = o d ∧ ds1.length ≤ n) →
    lc2L vs vs1 t tt m1 t1 tt1 te ds acc ⟨ρ, S⟩ = some (acc ++ ds.flatMap o, ⟨ρ, S⟩)
  | [], acc, _, _ => by simp [lc2L]
  | d :: ds, acc, hz, hs => by
    obtain ⟨ρ1, ρ2, ds1, h, e1, e2, e3, e4, e5, e6, e7, e8⟩ := hs d List.mem_cons_self
    rw [List.length_cons, Nat.mul_succ] at hz
    have e9 := lcL_map h ds1 acc (by omega) e5
    unfold lc2L
    simp only [e1, e2, e3, e4, e9, e6, Option.bind_some, if_true]
    rw [lc2L_run o n ds _ (by rw [List.length_append, List.length_map]; omega) fun x hx => hs x (List.mem_cons_of_mem _ hx), e7]
    simp
/-! ### tupled -/
theorem t_int (k : Nat) (i : Int) (S : List Cell) : F (k+1) i_tupled [.int i] S = .ok (.int i, false) S := by
  refine F_ok (fd := fd_tupled) rfl ?_
  unfold fd_tupled ir_tupled
  trivial
theorem t_list (k : Nat) (b : Bool) (ds : List D) (h : D → D) (S : List Cell) (hs : ∀ d ∈ ds, F k i_tupled [d] S = .ok (h d, false) S) (hz : ds.length ≤ 1000) : F (k+1) i_tupled [sq b ds] S = .ok (.tup (ds.map h), false) S := by
  have e : lcF [1] lt_tupled_0.f (evT (fnAt tbl 100000 k) lq_tupled_0) (ev (fnAt tbl 100000 k) le_tupled_0).r.val ds ⟨[.sh (sq b ds), .no], S⟩ = .ok (.lst (ds.map h), true) ⟨[.sh (sq b ds), .no], S⟩ := by
    rw [lcF_map (fun d => some (h d)) rfl (fun d hd => ?_) (by rw [sizeLine_eq]; omega)]
    · simp
    · have e := hs d hd
      simp only [lt_tupled_0, lq_tupled_0, le_tupled_0]
      generalize sq b ds = L
      trivial
  refine F_ok (fd := fd_tupled) rfl ?_
  unfold fd_tupled ir_tupled
  generalize ds.map h = es at e ⊢
  cases b <;> simp only [sq] at e ⊢ <;> trivial
def hP (d : D) : D := encP (prOf d)
theorem t_life (k : Nat) (p : Int × Int) (d : D) (S : List Cell) (h : isP p d) : F (k+2) i_tupled [d] S = .ok (encP p, false) S := by
  obtain ⟨b, rfl⟩ := h
  have e := t_list (k+1) b [.int p.1, .int p.2] id S (fun d hd => by
    simp only [List.mem_cons, List.not_mem_nil, or_false] at hd
    rcases hd with rfl | rfl <;> exact t_int k _ S) (by simp)
  exact e
theorem t_lives (k : Nat) (b : Bool) (ps : List (Int × Int)) (ds : List D) (S : List Cell) (hl : Lvs ps ds) (hz : ds.length ≤ 1000) : F (k+3) i_tupled [sq b ds] S = .ok (.tup (ps.map encP), false) S := by
  have e := t_list (k+2) b ds hP S (fun d hd => by
    obtain ⟨p, _, hp⟩ := hl.mem hd
    unfold hP
    rw [prOf_is hp]
    exact t_life k p d S hp) hz
  rw [← hl.pr, List.map_map]
  exact e
theorem t_loop (k : Nat) (beat : Int) (k1 k2 : Bool) (ps : List (Int × Int)) (ds : List D) (S : List Cell) (hl : Lvs ps ds) (hz : ds.length ≤ 1000) : F (k+4) i_tupled [sq k1 [.int beat, sq k2 ds]] S = .ok (encL beat ps, false) S := by
  have e := t_list (k+3) k1 [.int beat, sq k2 ds] (fun d => match d with
    | .int i => .int i
    | _ => .tup (ps.map encP)) S (fun d hd => by
    simp only [List.mem_cons, List.not_mem_nil, or_false] at hd
    rcases hd with rfl | rfl
    · exact t_int (k+2) _ S
    · have := t_lives k k2 ps ds S hl hz
      cases k2 <;> exact this) (by simp)
  have q : ([.int beat, sq k2 ds].map fun (d : D) => (match d with
    | .int i => D.int i
    | _ => .tup (ps.map encP))) = [.int beat, .tup (ps.map encP)] := by cases k2 <;> rfl
  rw [q] at e
  exact e
/-! ### shifted -/
theorem f_shifted (k : Nat) (b ph : Int) (k1 k2 : Bool) (ps : List (Int × Int)) (ds : List D) (S : List Cell) (hb : 1 ≤ b) (hl : Lvs ps ds) (hz : ds.length ≤ 1000) : F (k+1) i_shifted [sq k1 [.int b, sq k2 ds], .int ph] S = .ok (encL b (shiftL b ph ps), false) S := by
  have e : lcF [2, 3] lt_shifted_0.f (evT (fnAt tbl 100000 k) lq_shifted_0) (ev (fnAt tbl 100000 k) le_shifted_0).r.val ds ⟨[.sh (sq k1 [.int b, sq k2 ds]), .sh (.int ph), .no, .no], S⟩ = .ok (.lst ((shiftL b ph ps).map encP), true) ⟨[.sh (sq k1 [.int b, sq k2 ds]), .sh (.int ph), .no, .no], S⟩ := by
    rw [lcF_map (fun d => some (encP (((prOf d).1 + ph).fmod b, (prOf d).2))) rfl (fun d hd => ?_) (by rw [sizeLine_eq]; omega)]
    · unfold shiftL
      rw [← hl.pr]
      simp [Function.comp_def]
    · obtain ⟨p, _, kd, rfl⟩ := hl.mem hd
      have q : prOf (sq kd [.int p.1, .int p.2]) = p := prOf_is ⟨kd, rfl⟩
      have b0 : ¬ b = 0 := by omega
      rw [q]
      simp only [lt_shifted_0, lq_shifted_0, le_shifted_0, encP]
      generalize sq k2 ds = L2
      cases k1 <;> cases kd <;> simp only [sq] <;> trivial
  refine F_ok (fd := fd_shifted) rfl ?_
  unfold fd_shifted ir_shifted encL
  generalize (shiftL b ph ps).map encP = es at e ⊢
  cases k1 <;> cases k2 <;> simp only [sq] at e ⊢ <;> trivial
end Law
namespace Law
open PySem L2 Pv
local macro_rules | `(tactic| trivial) => `(tactic| simp [evSs, evS, ev, evs, evO, evT, evI, Ev.of, bnd_ok, r_bind, r_pure, r_lift_s, r_val, r_inl, val_ok, inl_ok, res_l, res_r, r_var_sh, r_var_ow, r_mov_sh, r_mov_ow, r_pk_sh, r_pk_ow, r_peek_sh, r_peek_ow, r_seq, cont_next, cont_ret, r_ite, sel_t, sel_f, r_andB, r_orB, r_notB, r_andM, r_orR, r_notM, r_put, r_set, r_ret, retK_ap, r_drop, nextK_ap, r_asg, r_op, opK_ap, opK2_ap, r_opB, opBK_ap, opBK2_ap, r_un, unK_ap, r_truth, trK_ap, r_ix, ixK_ap, ixK2_ap, r_look_s, r_cons, consK_ap, consK2_ap, r_con, conK_ap, conK2_ap, r_callM, callK_ap, ress_nil, ress_cons, r_seqM, onlyV_nil, onlyV_cons, seqK_run, r_call, runF_ap, outS_ok, r_callF, fin_ret, fin_next, r_six, sixK_ap, sixK3_ap, nowS, gsP, gsV, dsA, Bop.g, Cop.g, Bif.g, K.d, addD, subD, divD, modD, negD, p64, intD, gtR, ltR, leR, geR, ltD, blD, blOf, M.look, ixS, ixD, cellAt, slOf, setAt, setOw, intOf, absD, lenD, ixN, atI, List.set, truthD, isiD, tyD, isTy, maxOf, chM, chB, r_lc, r_for, r_it, itK_ap, r_sq, sqK_ap,  eqR_int, eqR_non, neR_int, eqR_bl, neR_bl, Option.map_some, Out.val, Out.inl, T.f, Ts.f, Ts.n, tupF, tcons, tnil, tnF_ap, lcT, sure_ok, M.sure, wipeF, wipeR, noOw, putR, r_sl, slK2_ap, slD, r_int, intK_ap, r_cell, cellO_ok, powD, parM, rsF, putAll, en_tup, en_lst, rg1_ok, rg2_ok, asgK_s, sumOf, intsD_ints, tupOf, lstOf, seqD, mkT, mkL, r_app, appK_ap, isD, isTy, allOf, Mth.g, np_tupled, np_rounds_between, np_load, np_loads, np_peak, np_shifted, np_written_out, np_joined, np_shared_peak, np_phase_peaks, np_best_phase, np_never_shares, np_peak_ticks, np_least_peak, np_even_births, np__law_box, np__law_take, np__law_cells, np__law_mixed, np__law_same, np__law_copies, np__law_loads, np__law_wide, np__law_shared, np_law, *])
/-! ### written out -/
def wrO (b : Int) (r : Nat) (d : D) : List D := (List.range r).map fun (j : Nat) => encP ((prOf d).1 + (j : Int) * b, (prOf d).2)
theorem r_lc2 {vs vs1 : List Nat} {m m1 : M (List D)} {t t1 : Tf} {tt tt1 : M Bool} {te : M D} {st : Sto} : lc2M vs vs1 m t tt m1 t1 tt1 te st = Out.bnd (m st) (lc2F vs vs1 t tt m1 t1 tt1 te) := rfl
theorem wrO_enc (b : Int) (r : Nat) : ∀ ps : List (Int × Int), (ps.map encP).flatMap (wrO b r) = (writeL b r ps).map encP
  | [] => rfl
  | p :: ps => by
    have ih := wrO_enc b r ps
    unfold writeL at ih ⊢
    rw [List.map_cons, List.flatMap_cons, List.flatMap_cons, List.map_append, ih]
    congr 1
    unfold wrO
    rw [List.map_map]; rfl
theorem wr_el (k : Nat) (b r jj : Int) (p : Int × Int) (L TL : D) (S : List Cell) (hb : -1000 < b ∧ b < 1000) :
    lcT [4] lt1_written_out_0.f (evT (fnAt tbl 100000 k) lq1_written_out_0) (ev (fnAt tbl 100000 k) le_written_out_0).r.val (.int jj) ⟨[.sh L, .sh (.int r), .sh (.int b), .sh TL, .no, .sh (.int p.1), .sh (.int p.2)], S⟩ =
      some (some (encP (p.1 + jj * b, p.2)), ⟨[.sh L, .sh (.int r), .sh (.int b), .sh TL, .no, .sh (.int p.1), .sh (.int p.2)], S⟩) := by
  have mm := mulD_small jj b hb
  simp only [lt1_written_out_0, lq1_written_out_0, le_written_out_0, encP]
  simp [evSs, evS, ev, evs, evO, evT, evI, Ev.of, bnd_ok, r_bind, r_pure, r_lift_s, r_val, r_inl, val_ok, inl_ok, res_l, res_r, r_var_sh, r_var_ow, r_mov_sh, r_mov_ow, r_pk_sh, r_pk_ow, r_peek_sh, r_peek_ow, r_seq, cont_next, cont_ret, r_ite, sel_t, sel_f, r_andB, r_orB, r_notB, r_andM, r_orR, r_notM, r_put, r_set, r_ret, retK_ap, r_drop, nextK_ap, r_asg, r_op, opK_ap, opK2_ap, r_opB, opBK_ap, opBK2_ap, r_un, unK_ap, r_truth, trK_ap, r_ix, ixK_ap, ixK2_ap, r_look_s, r_cons, consK_ap, consK2_ap, r_con, conK_ap, conK2_ap, r_callM, callK_ap, ress_nil, ress_cons, r_seqM, onlyV_nil, onlyV_cons, seqK_run, r_call, runF_ap, outS_ok, r_callF, fin_ret, fin_next, r_six, sixK_ap, sixK3_ap, nowS, gsP, gsV, dsA, Bop.g, Cop.g, Bif.g, K.d, addD, subD, divD, modD, negD, p64, intD, gtR, ltR, leR, geR, ltD, blD, blOf, M.look, ixS, ixD, cellAt, slOf, setAt, setOw, intOf, absD, lenD, ixN, atI, List.set, truthD, isiD, tyD, isTy, maxOf, chM, chB, r_lc, r_for, r_it, itK_ap, r_sq, sqK_ap,  eqR_int, eqR_non, neR_int, eqR_bl, neR_bl, Option.map_some, Out.val, Out.inl, T.f, Ts.f, Ts.n, tupF, tcons, tnil, tnF_ap, lcT, sure_ok, M.sure, wipeF, wipeR, noOw, putR, r_sl, slK2_ap, slD, r_int, intK_ap, r_cell, cellO_ok, powD, parM, rsF, putAll, en_tup, en_lst, rg1_ok, rg2_ok, asgK_s, sumOf, intsD_ints, tupOf, lstOf, seqD, mkT, mkL, np_tupled, np_rounds_between, np_load, np_loads, np_peak, np_shifted, np_written_out, np_joined, np_shared_peak, np_phase_peaks, np_best_phase, np_never_shares, np_peak_ticks, np_least_peak, np_even_births, np__law_box, np__law_take, np__law_cells, np__law_mixed, np__law_same, np__law_copies, np__law_loads, np__law_wide, np__law_shared, np_law, mm]
theorem h_written (k : Nat) (b r : Int) (L : D) (ps : List (Int × Int)) (S : List Cell) (hb : 1 ≤ b ∧ b ≤ 6) (hr : 1 ≤ r ∧ r ≤ 30) (hz : ps.length ≤ 10) :
    lc2F [5, 6, 4] [4] lt_written_out_0.f (evT (fnAt tbl 100000 k) lq_written_out_0) (evI (fnAt tbl 100000 k) li1_written_out_0) lt1_written_out_0.f (evT (fnAt tbl 100000 k) lq1_written_out_0) (ev (fnAt tbl 100000 k) le_written_out_0).r.val (ps.map encP)
      ⟨[.sh L, .sh (.int r), .sh (.int b), .sh (.tup (ps.map encP)), .no, .no, .no], S⟩ = .ok (.lst ((writeL b r.toNat ps).map encP), true) ⟨[.sh L, .sh (.int r), .sh (.int b), .sh (.tup (ps.map encP)), .no, .no, .no], S⟩ := by
  have run := lc2L_run (vs := [5, 6, 4]) (vs1 := [4]) (t := lt_written_out_0.f) (tt := evT (fnAt tbl 100000 k) lq_written_out_0) (m1 := evI (fnAt tbl 100000 k) li1_written_out_0) (t1 := lt1_written_out_0.f) (tt1 := evT (fnAt tbl 100000 k) lq1_written_out_0) (te := (ev (fnAt tbl 100000 k) le_written_out_0).r.val)
    (ρ := [.sh L, .sh (.int r), .sh (.int b), .sh (.tup (ps.map encP)), .no, .no, .no]) (S := S) (wrO b r.toNat) 30 (ps.map encP) [] (by simp; omega) (fun d hd => by
      obtain ⟨p, _, rfl⟩ := List.mem_map.mp hd
      have sm : sm62 r = true := by unfold sm62; simp; omega
      generalize D.tup (ps.map encP) = TL
      refine ⟨[.sh L, .sh (.int r), .sh (.int b), .sh TL, .no, .sh (.int p.1), .sh (.int p.2)], [.sh L, .sh (.int r), .sh (.int b), .sh TL, .no, .sh (.int p.1), .sh (.int p.2)], Pv.intsFrom 0 r.toNat, fun d => encP (p.1 + intE d * b, p.2), ?_, ?_, ?_, ?_, fun x hx => ?_, ?_, ?_, by rw [intsFrom_length]; omega⟩
      · simp only [lt_written_out_0, encP]; trivial
      · simp only [lq_written_out_0]; trivial
      · simp only [li1_written_out_0]; trivial
      · trivial
      · obtain ⟨j, hj, rfl⟩ := intsFrom_mem hx
        exact wr_el k b r (0 + (j : Int)) p L TL S (by omega)
      · trivial
      · unfold wrO Pv.intsFrom
        rw [List.map_map]
        refine List.map_congr_left fun j _ => ?_
        show encP (p.1 + (0 + (j : Int)) * b, p.2) = encP (p.1 + (j : Int) * b, p.2)
        rw [Int.zero_add])
  rw [wrO_enc, List.nil_append] at run
  unfold lc2F
  have e0 : wipeF [5, 6, 4] ⟨[.sh L, .sh (.int r), .sh (.int b), .sh (.tup (ps.map encP)), .no, .no, .no], S⟩ = some ⟨[.sh L, .sh (.int r), .sh (.int b), .sh (.tup (ps.map encP)), .no, .no, .no], S⟩ := rfl
  rw [e0]
  simp only [Option.bind_some, run]
  rfl
theorem f_written (k : Nat) (b r : Int) (k1 k2 : Bool) (ps : List (Int × Int)) (ds : List D) (S : List Cell) (hb : 1 ≤ b ∧ b ≤ 6) (hr : 1 ≤ r ∧ r ≤ 30) (hl : Lvs ps ds) (hz : ps.length ≤ 10) : F (k+5) i_written_out [sq k1 [.int b, sq k2 ds], .int r] S = .ok (encL (b * r) (writeL b r.toNat ps), false) S := by
  have hpl := hl.length
  have e1 := t_loop k b k1 k2 ps ds S hl (by omega)
  have e2 := h_written (k+4) b r (sq k1 [.int b, sq k2 ds]) ps S hb hr hz
  have mm : mulD (.int b) (.int r) = some (.int (b * r), false) := mulD_small b r (by omega)
  refine F_ok (fd := fd_written_out) rfl ?_
  unfold fd_written_out ir_written_out
  unfold encL at e1 ⊢
  generalize (writeL b r.toNat ps).map encP = ws at e2 ⊢
  generalize ps.map encP = es at e1 e2
  generalize sq k1 [.int b, sq k2 ds] = L at e1 e2 ⊢
  simp [evSs, evS, ev, evs, evO, evT, evI, Ev.of, bnd_ok, r_bind, r_pure, r_lift_s, r_val, r_inl, val_ok, inl_ok, res_l, res_r, r_var_sh, r_var_ow, r_mov_sh, r_mov_ow, r_pk_sh, r_pk_ow, r_peek_sh, r_peek_ow, r_seq, cont_next, cont_ret, r_ite, sel_t, sel_f, r_andB, r_orB, r_notB, r_andM, r_orR, r_notM, r_put, r_set, r_ret, retK_ap, r_drop, nextK_ap, r_asg, r_op, opK_ap, opK2_ap, r_opB, opBK_ap, opBK2_ap, r_un, unK_ap, r_truth, trK_ap, r_ix, ixK_ap, ixK2_ap, r_look_s, r_cons, consK_ap, consK2_ap, r_con, conK_ap, conK2_ap, r_callM, callK_ap, ress_nil, ress_cons, r_seqM, onlyV_nil, onlyV_cons, seqK_run, r_call, runF_ap, outS_ok, r_callF, fin_ret, fin_next, r_six, sixK_ap, sixK3_ap, nowS, gsP, gsV, dsA, Bop.g, Cop.g, Bif.g, K.d, addD, subD, divD, modD, negD, p64, intD, gtR, ltR, leR, geR, ltD, blD, blOf, M.look, ixS, ixD, cellAt, slOf, setAt, setOw, intOf, absD, lenD, ixN, atI, List.set, truthD, isiD, tyD, isTy, maxOf, chM, chB, r_lc, r_for, r_it, itK_ap, r_sq, sqK_ap,  eqR_int, eqR_non, neR_int, eqR_bl, neR_bl, Option.map_some, Out.val, Out.inl, T.f, Ts.f, Ts.n, tupF, tcons, tnil, tnF_ap, lcT, sure_ok, M.sure, wipeF, wipeR, noOw, putR, r_sl, slK2_ap, slD, r_int, intK_ap, r_cell, cellO_ok, powD, parM, rsF, putAll, en_tup, en_lst, rg1_ok, rg2_ok, asgK_s, sumOf, intsD_ints, tupOf, lstOf, seqD, mkT, mkL, np_tupled, np_rounds_between, np_load, np_loads, np_peak, np_shifted, np_written_out, np_joined, np_shared_peak, np_phase_peaks, np_best_phase, np_never_shares, np_peak_ticks, np_least_peak, np_even_births, np__law_box, np__law_take, np__law_cells, np__law_mixed, np__law_same, np__law_copies, np__law_loads, np__law_wide, np__law_shared, np_law, e1, e2, mm, r_lc2]
theorem f_joined (k : Nat) (a b : Int) (k1 k2 k3 k4 : Bool) (ps qs : List (Int × Int)) (ds es : List D) (S : List Cell) (ha : 1 ≤ a ∧ a ≤ 6) (hb : 1 ≤ b ∧ b ≤ 6) (hl : Lvs ps ds) (hm : Lvs qs es) (hz : ps.length ≤ 10) (hz2 : qs.length ≤ 10) :
    F (k+6) i_joined [sq k1 [.int a, sq k2 ds], sq k3 [.int b, sq k4 es]] S = .ok (encL (lI a b) (writeL a (lI a b / a).toNat ps ++ writeL b (lI a b / b).toNat qs), false) S := by
  have X := six ha hb
  obtain ⟨x, e1, x1, x2⟩ := X.la
  obtain ⟨y, e2, y1, y2⟩ := X.lb
  have d1 : lI a b / a = x := by rw [e1, Int.mul_ediv_cancel_left _ (by omega)]
  have d2 : lI a b / b = y := by rw [e2, Int.mul_ediv_cancel_left _ (by omega)]
  have fd1 : (lI a b).fdiv a = x := by rw [Int.fdiv_eq_ediv_of_nonneg _ (by omega), d1]
  have fd2 : (lI a b).fdiv b = y := by rw [Int.fdiv_eq_ediv_of_nonneg _ (by omega), d2]
  have w1 := f_written k a x k1 k2 ps ds S ha ⟨x1, x2⟩ hl hz
  have w2 := f_written k b y k3 k4 qs es S hb ⟨y1, y2⟩ hm hz2
  have lc : lcmD [.int a, .int b] = some (intD (lI a b)) := by
    unfold lI
    exact if_pos ⟨by omega, by omega⟩
  have wl : ∀ (c : Int) (z : Int) (ls : List (Int × Int)), z ≤ 30 → ls.length ≤ 10 → ((writeL c z.toNat ls).map encP).length ≤ 300 := fun c z ls h1 h2 => by
    rw [List.length_map]
    unfold writeL
    rw [List.length_flatMap]
    simp only [List.length_map, List.length_range, List.map_const', List.sum_replicate_nat]
    have : ls.length * z.toNat ≤ 10 * 30 := Nat.mul_le_mul h2 (by omega)
    omega
  have z1 := wl a x ps x2 hz
  have z2 := wl b y qs y2 hz2
  rw [d1, d2]
  refine F_ok (fd := fd_joined) rfl ?_
  unfold fd_joined ir_joined
  unfold encL at w1 w2 ⊢
  rw [List.map_append]
  generalize (writeL a x.toNat ps).map encP = u1 at w1 z1 ⊢
  generalize (writeL b y.toNat qs).map encP = u2 at w2 z2 ⊢
  have z3 : u1.length + u2.length ≤ sizeLine := by rw [sizeLine_eq]; omega
  have a0 : ¬ a = 0 := by omega
  have b0 : ¬ b = 0 := by omega
  have a1 : a.natAbs < 1073741824 := by omega
  have b1 : b.natAbs < 1073741824 := by omega
  clear wl e1 e2 d1 d2 z1 z2 X
  generalize lI a b = W at *
  generalize sq k2 ds = L2 at w1 ⊢
  generalize sq k4 es = L4 at w2 ⊢
  cases k1 <;> cases k3 <;> simp only [sq] at w1 w2 ⊢ <;> simp [evSs, evS, ev, evs, evO, evT, evI, Ev.of, bnd_ok, r_bind, r_pure, r_lift_s, r_val, r_inl, val_ok, inl_ok, res_l, res_r, r_var_sh, r_var_ow, r_mov_sh, r_mov_ow, r_pk_sh, r_pk_ow, r_peek_sh, r_peek_ow, r_seq, cont_next, cont_ret, r_ite, sel_t, sel_f, r_andB, r_orB, r_notB, r_andM, r_orR, r_notM, r_put, r_set, r_ret, retK_ap, r_drop, nextK_ap, r_asg, r_op, opK_ap, opK2_ap, r_opB, opBK_ap, opBK2_ap, r_un, unK_ap, r_truth, trK_ap, r_ix, ixK_ap, ixK2_ap, r_look_s, r_cons, consK_ap, consK2_ap, r_con, conK_ap, conK2_ap, r_callM, callK_ap, ress_nil, ress_cons, r_seqM, onlyV_nil, onlyV_cons, seqK_run, r_call, runF_ap, outS_ok, r_callF, fin_ret, fin_next, r_six, sixK_ap, sixK3_ap, nowS, gsP, gsV, dsA, Bop.g, Cop.g, Bif.g, K.d, addD, subD, divD, modD, negD, p64, intD, gtR, ltR, leR, geR, ltD, blD, blOf, M.look, ixS, ixD, cellAt, slOf, setAt, setOw, intOf, absD, lenD, ixN, atI, List.set, truthD, isiD, tyD, isTy, maxOf, chM, chB, r_lc, r_for, r_it, itK_ap, r_sq, sqK_ap,  eqR_int, eqR_non, neR_int, eqR_bl, neR_bl, Option.map_some, Out.val, Out.inl, T.f, Ts.f, Ts.n, tupF, tcons, tnil, tnF_ap, lcT, sure_ok, M.sure, wipeF, wipeR, noOw, putR, r_sl, slK2_ap, slD, r_int, intK_ap, r_cell, cellO_ok, powD, parM, rsF, putAll, en_tup, en_lst, rg1_ok, rg2_ok, asgK_s, sumOf, intsD_ints, tupOf, lstOf, seqD, mkT, mkL, Mth.g, np_tupled, np_rounds_between, np_load, np_loads, np_peak, np_shifted, np_written_out, np_joined, np_shared_peak, np_phase_peaks, np_best_phase, np_never_shares, np_peak_ticks, np_least_peak, np_even_births, np__law_box, np__law_take, np__law_cells, np__law_mixed, np__law_same, np__law_copies, np__law_loads, np__law_wide, np__law_shared, np_law, w1, w2, lc, fd1, fd2, z3, a0, b0, a1, b1]
theorem f_shared (k : Nat) (a b ph : Int) (k1 k2 k3 k4 : Bool) (ps qs : List (Int × Int)) (ds es : List D) (S : List Cell) (ha : 1 ≤ a ∧ a ≤ 6) (hb : 1 ≤ b ∧ b ≤ 6) (hl : Lvs ps ds) (hm : Lvs qs es) (hz : ps.length ≤ 10) (hz2 : qs.length ≤ 10) :
    F (k+7) i_shared_peak [sq k1 [.int a, sq k2 ds], sq k3 [.int b, sq k4 es], .int ph] S = .ok (.int (pkP a b ph ps qs), false) S := by
  have X := six ha hb
  have hml := hm.length
  have e1 : F (k+6) i_shifted [sq k3 [.int b, sq k4 es], .int ph] S = .ok (encL b (shiftL b ph qs), false) S := f_shifted (k+5) b ph k3 k4 qs es S hb.1 hm (by omega)
  have e2 : F (k+6) i_joined [sq k1 [.int a, sq k2 ds], encL b (shiftL b ph qs)] S = _ := f_joined k a b k1 k2 false false ps (shiftL b ph qs) ds ((shiftL b ph qs).map encP) S ha hb hl (lvs_enc _) hz (by unfold shiftL; rw [List.length_map]; exact hz2)
  have jl : (joinL a b ph ps qs).length ≤ 700 := by
    obtain ⟨x, q1, x1, x2⟩ := X.la
    obtain ⟨y, q2, y1, y2⟩ := X.lb
    have d1 : lI a b / a = x := by rw [q1, Int.mul_ediv_cancel_left _ (by omega)]
    have d2 : lI a b / b = y := by rw [q2, Int.mul_ediv_cancel_left _ (by omega)]
    unfold joinL writeL shiftL
    rw [d1, d2, List.length_append, List.length_flatMap, List.length_flatMap]
    simp only [List.length_map, List.length_range, List.map_const', List.sum_replicate_nat]
    have h1 : ps.length * x.toNat ≤ 10 * 30 := Nat.mul_le_mul hz (by omega)
    have h2 : qs.length * y.toNat ≤ 10 * 30 := Nat.mul_le_mul hz2 (by omega)
    omega
  have e3 : F (k+6) i_peak [encL (lI a b) (joinL a b ph ps qs)] S = .ok (.int (pkP a b ph ps qs), false) S := f_peak (k+2) (lI a b) false false ((joinL a b ph ps qs).map encP) (joinL a b ph ps qs) S (by have := X.l1; omega) (lvs_enc _) (by rw [List.length_map]; omega) (by have := X.l30; omega)
  have e2 : F (k+6) i_joined [sq k1 [.int a, sq k2 ds], encL b (shiftL b ph qs)] S = .ok (encL (lI a b) (joinL a b ph ps qs), false) S := e2
  refine F_ok (fd := fd_shared_peak) rfl ?_
  unfold fd_shared_peak ir_shared_peak
  generalize encL (lI a b) (joinL a b ph ps qs) = J at e2 e3
  generalize encL b (shiftL b ph qs) = Sh at e1 e2
  generalize pkP a b ph ps qs = PK at e3 ⊢
  generalize sq k1 [.int a, sq k2 ds] = L1 at e2 ⊢
  generalize sq k3 [.int b, sq k4 es] = L3 at e1 ⊢
  simp [evSs, evS, ev, evs, evO, evT, evI, Ev.of, bnd_ok, r_bind, r_pure, r_lift_s, r_val, r_inl, val_ok, inl_ok, res_l, res_r, r_var_sh, r_var_ow, r_mov_sh, r_mov_ow, r_pk_sh, r_pk_ow, r_peek_sh, r_peek_ow, r_seq, cont_next, cont_ret, r_ite, sel_t, sel_f, r_andB, r_orB, r_notB, r_andM, r_orR, r_notM, r_put, r_set, r_ret, retK_ap, r_drop, nextK_ap, r_asg, r_op, opK_ap, opK2_ap, r_opB, opBK_ap, opBK2_ap, r_un, unK_ap, r_truth, trK_ap, r_ix, ixK_ap, ixK2_ap, r_look_s, r_cons, consK_ap, consK2_ap, r_con, conK_ap, conK2_ap, r_callM, callK_ap, ress_nil, ress_cons, r_seqM, onlyV_nil, onlyV_cons, seqK_run, r_call, runF_ap, outS_ok, r_callF, fin_ret, fin_next, r_six, sixK_ap, sixK3_ap, nowS, gsP, gsV, dsA, Bop.g, Cop.g, Bif.g, K.d, addD, subD, divD, modD, negD, p64, intD, gtR, ltR, leR, geR, ltD, blD, blOf, M.look, ixS, ixD, cellAt, slOf, setAt, setOw, intOf, absD, lenD, ixN, atI, List.set, truthD, isiD, tyD, isTy, maxOf, chM, chB, r_lc, r_for, r_it, itK_ap, r_sq, sqK_ap,  eqR_int, eqR_non, neR_int, eqR_bl, neR_bl, Option.map_some, Out.val, Out.inl, T.f, Ts.f, Ts.n, tupF, tcons, tnil, tnF_ap, lcT, sure_ok, M.sure, wipeF, wipeR, noOw, putR, r_sl, slK2_ap, slD, r_int, intK_ap, r_cell, cellO_ok, powD, parM, rsF, putAll, en_tup, en_lst, rg1_ok, rg2_ok, asgK_s, sumOf, intsD_ints, tupOf, lstOf, seqD, mkT, mkL, np_tupled, np_rounds_between, np_load, np_loads, np_peak, np_shifted, np_written_out, np_joined, np_shared_peak, np_phase_peaks, np_best_phase, np_never_shares, np_peak_ticks, np_least_peak, np_even_births, np__law_box, np__law_take, np__law_cells, np__law_mixed, np__law_same, np__law_copies, np__law_loads, np__law_wide, np__law_shared, np_law, e1, e2, e3]
end Law
namespace Law
open PySem L2 Pv
local macro_rules | `(tactic| trivial) => `(tactic| simp [evSs, evS, ev, evs, evO, evT, evI, Ev.of, bnd_ok, r_bind, r_pure, r_lift_s, r_val, r_inl, val_ok, inl_ok, res_l, res_r, r_var_sh, r_var_ow, r_mov_sh, r_mov_ow, r_pk_sh, r_pk_ow, r_peek_sh, r_peek_ow, r_seq, cont_next, cont_ret, r_ite, sel_t, sel_f, r_andB, r_orB, r_notB, r_andM, r_orR, r_notM, r_put, r_set, r_ret, retK_ap, r_drop, nextK_ap, r_asg, r_op, opK_ap, opK2_ap, r_opB, opBK_ap, opBK2_ap, r_un, unK_ap, r_truth, trK_ap, r_ix, ixK_ap, ixK2_ap, r_look_s, r_cons, consK_ap, consK2_ap, r_con, conK_ap, conK2_ap, r_callM, callK_ap, ress_nil, ress_cons, r_seqM, onlyV_nil, onlyV_cons, seqK_run, r_call, runF_ap, outS_ok, r_callF, fin_ret, fin_next, r_six, sixK_ap, sixK3_ap, nowS, gsP, gsV, dsA, Bop.g, Cop.g, Bif.g, K.d, addD, subD, divD, modD, negD, p64, intD, gtR, ltR, leR, geR, ltD, blD, blOf, M.look, ixS, ixD, cellAt, slOf, setAt, setOw, intOf, absD, lenD, ixN, atI, List.set, truthD, isiD, tyD, isTy, maxOf, chM, chB, r_lc, r_for, r_it, itK_ap, r_sq, sqK_ap,  eqR_int, eqR_non, neR_int, eqR_bl, neR_bl, Option.map_some, Out.val, Out.inl, T.f, Ts.f, Ts.n, tupF, tcons, tnil, tnF_ap, lcT, sure_ok, M.sure, wipeF, wipeR, noOw, putR, r_sl, slK2_ap, slD, r_int, intK_ap, r_cell, cellO_ok, powD, parM, rsF, putAll, en_tup, en_lst, rg1_ok, rg2_ok, asgK_s, sumOf, intsD_ints, tupOf, lstOf, seqD, mkT, mkL, r_app, appK_ap, isD, isTy, allOf, Mth.g, np_tupled, np_rounds_between, np_load, np_loads, np_peak, np_shifted, np_written_out, np_joined, np_shared_peak, np_phase_peaks, np_best_phase, np_never_shares, np_peak_ticks, np_least_peak, np_even_births, np__law_box, np__law_take, np__law_cells, np__law_mixed, np__law_same, np__law_copies, np__law_loads, np__law_wide, np__law_shared, np_law, *])
def minI : List Int → Int
  | [] => 0
  | n :: ns => ns.foldl min n
def peaksI (a b : Int) (ps qs : List (Int × Int)) : List Int := (List.range (gI a b).toNat).map fun (i : Nat) => pkP a b (i : Int) ps qs
theorem pp_el (k : Nat) (ph PK : Int) (L1 L3 : D) (S : List Cell) (e : F k i_shared_peak [L1, L3, .int ph] S = .ok (.int PK, false) S) :
    lcT [2] lt_phase_peaks_0.f (evT (fnAt tbl 100000 k) lq_phase_peaks_0) (ev (fnAt tbl 100000 k) le_phase_peaks_0).r.val (.int ph) ⟨[.sh L1, .sh L3, .no], S⟩ = some (some (.int PK), ⟨[.sh L1, .sh L3, .no], S⟩) := by
  simp only [lt_phase_peaks_0, lq_phase_peaks_0, le_phase_peaks_0]
  simp [evSs, evS, ev, evs, evO, evT, evI, Ev.of, bnd_ok, r_bind, r_pure, r_lift_s, r_val, r_inl, val_ok, inl_ok, res_l, res_r, r_var_sh, r_var_ow, r_mov_sh, r_mov_ow, r_pk_sh, r_pk_ow, r_peek_sh, r_peek_ow, r_seq, cont_next, cont_ret, r_ite, sel_t, sel_f, r_andB, r_orB, r_notB, r_andM, r_orR, r_notM, r_put, r_set, r_ret, retK_ap, r_drop, nextK_ap, r_asg, r_op, opK_ap, opK2_ap, r_opB, opBK_ap, opBK2_ap, r_un, unK_ap, r_truth, trK_ap, r_ix, ixK_ap, ixK2_ap, r_look_s, r_cons, consK_ap, consK2_ap, r_con, conK_ap, conK2_ap, r_callM, callK_ap, ress_nil, ress_cons, r_seqM, onlyV_nil, onlyV_cons, seqK_run, r_call, runF_ap, outS_ok, r_callF, fin_ret, fin_next, r_six, sixK_ap, sixK3_ap, nowS, gsP, gsV, dsA, Bop.g, Cop.g, Bif.g, K.d, addD, subD, divD, modD, negD, p64, intD, gtR, ltR, leR, geR, ltD, blD, blOf, M.look, ixS, ixD, cellAt, slOf, setAt, setOw, intOf, absD, lenD, ixN, atI, List.set, truthD, isiD, tyD, isTy, maxOf, chM, chB, r_lc, r_for, r_it, itK_ap, r_sq, sqK_ap,  eqR_int, eqR_non, neR_int, eqR_bl, neR_bl, Option.map_some, Out.val, Out.inl, T.f, Ts.f, Ts.n, tupF, tcons, tnil, tnF_ap, lcT, sure_ok, M.sure, wipeF, wipeR, noOw, putR, r_sl, slK2_ap, slD, r_int, intK_ap, r_cell, cellO_ok, powD, parM, rsF, putAll, en_tup, en_lst, rg1_ok, rg2_ok, asgK_s, sumOf, intsD_ints, tupOf, lstOf, seqD, mkT, mkL, np_tupled, np_rounds_between, np_load, np_loads, np_peak, np_shifted, np_written_out, np_joined, np_shared_peak, np_phase_peaks, np_best_phase, np_never_shares, np_peak_ticks, np_least_peak, np_even_births, np__law_box, np__law_take, np__law_cells, np__law_mixed, np__law_same, np__law_copies, np__law_loads, np__law_wide, np__law_shared, np_law, e]
theorem pp_it (k : Nat) (a b g : Int) (xs : List D) (L2 L4 : D) (k1 k3 : Bool) (S : List Cell) (gc : Mth.gcd.g [.int a, .int b] = some (intD g)) (rg : rg1D [.int g] = some xs) :
    evI (fnAt tbl 100000 k) (.rg1 (.mth .gcd (.cons (.ix (.v 0) (.k (.int 0))) (.cons (.ix (.v 1) (.k (.int 0))) .nil)))) ⟨[.sh (sq k1 [.int a, L2]), .sh (sq k3 [.int b, L4]), .no], S⟩ = .ok xs ⟨[.sh (sq k1 [.int a, L2]), .sh (sq k3 [.int b, L4]), .no], S⟩ := by
  simp only [evSs, evS, ev, evs, evI, Ev.of, gsP]
  generalize Mth.gcd.g = gg at gc ⊢
  cases k1 <;> cases k3 <;> simp only [sq] <;> simp [evSs, evS, ev, evs, evO, evT, evI, Ev.of, bnd_ok, r_bind, r_pure, r_lift_s, r_val, r_inl, val_ok, inl_ok, res_l, res_r, r_var_sh, r_var_ow, r_mov_sh, r_mov_ow, r_pk_sh, r_pk_ow, r_peek_sh, r_peek_ow, r_seq, cont_next, cont_ret, r_ite, sel_t, sel_f, r_andB, r_orB, r_notB, r_andM, r_orR, r_notM, r_put, r_set, r_ret, retK_ap, r_drop, nextK_ap, r_asg, r_op, opK_ap, opK2_ap, r_opB, opBK_ap, opBK2_ap, r_un, unK_ap, r_truth, trK_ap, r_ix, ixK_ap, ixK2_ap, r_look_s, r_cons, consK_ap, consK2_ap, r_con, conK_ap, conK2_ap, r_callM, callK_ap, ress_nil, ress_cons, r_seqM, onlyV_nil, onlyV_cons, seqK_run, r_call, runF_ap, outS_ok, r_callF, fin_ret, fin_next, r_six, sixK_ap, sixK3_ap, nowS, gsP, gsV, dsA, Bop.g, Cop.g, Bif.g, K.d, addD, subD, divD, modD, negD, p64, intD, gtR, ltR, leR, geR, ltD, blD, blOf, M.look, ixS, ixD, cellAt, slOf, setAt, setOw, intOf, absD, lenD, ixN, atI, List.set, truthD, isiD, tyD, isTy, maxOf, chM, chB, r_lc, r_for, r_it, itK_ap, r_sq, sqK_ap,  eqR_int, eqR_non, neR_int, eqR_bl, neR_bl, Option.map_some, Out.val, Out.inl, T.f, Ts.f, Ts.n, tupF, tcons, tnil, tnF_ap, lcT, sure_ok, M.sure, wipeF, wipeR, noOw, putR, r_sl, slK2_ap, slD, r_int, intK_ap, r_cell, cellO_ok, powD, parM, rsF, putAll, en_tup, en_lst, rg1_ok, rg2_ok, asgK_s, sumOf, intsD_ints, tupOf, lstOf, seqD, mkT, mkL, np_tupled, np_rounds_between, np_load, np_loads, np_peak, np_shifted, np_written_out, np_joined, np_shared_peak, np_phase_peaks, np_best_phase, np_never_shares, np_peak_ticks, np_least_peak, np_even_births, np__law_box, np__law_take, np__law_cells, np__law_mixed, np__law_same, np__law_copies, np__law_loads, np__law_wide, np__law_shared, np_law, gc, rg]
theorem pp_run (k : Nat) (xs : List D) (L1 L3 : D) (pk : List D) (S : List Cell)
    (it : evI (fnAt tbl 100000 k) (.rg1 (.mth .gcd (.cons (.ix (.v 0) (.k (.int 0))) (.cons (.ix (.v 1) (.k (.int 0))) .nil)))) ⟨[.sh L1, .sh L3, .no], S⟩ = .ok xs ⟨[.sh L1, .sh L3, .no], S⟩)
    (e : lcF [2] lt_phase_peaks_0.f (evT (fnAt tbl 100000 k) lq_phase_peaks_0) (ev (fnAt tbl 100000 k) le_phase_peaks_0).r.val xs ⟨[.sh L1, .sh L3, .no], S⟩ = .ok (.lst pk, true) ⟨[.sh L1, .sh L3, .no], S⟩) :
    Out.fin (evSs (fnAt tbl 100000 k) 100000 fd_phase_peaks.body ⟨[L1, L3].map .sh ++ List.replicate (fd_phase_peaks.N.length - [L1, L3].length) .no, S⟩) = .ok (.tup pk, false) S := by
  show Out.fin (evSs (fnAt tbl 100000 k) 100000 ir_phase_peaks ⟨[.sh L1, .sh L3, .no], S⟩) = _
  have lcE : lcM [2] (evI (fnAt tbl 100000 k) (.rg1 (.mth .gcd (.cons (.ix (.v 0) (.k (.int 0))) (.cons (.ix (.v 1) (.k (.int 0))) .nil))))) lt_phase_peaks_0.f (evT (fnAt tbl 100000 k) lq_phase_peaks_0) (ev (fnAt tbl 100000 k) le_phase_peaks_0).r.val ⟨[.sh L1, .sh L3, .no], S⟩ = .ok (.lst pk, true) ⟨[.sh L1, .sh L3, .no], S⟩ := by
    rw [r_lc, it]; exact e
  unfold ir_phase_peaks
  generalize hm : lcM [2] (evI (fnAt tbl 100000 k) (.rg1 (.mth .gcd (.cons (.ix (.v 0) (.k (.int 0))) (.cons (.ix (.v 1) (.k (.int 0))) .nil))))) lt_phase_peaks_0.f (evT (fnAt tbl 100000 k) lq_phase_peaks_0) (ev (fnAt tbl 100000 k) le_phase_peaks_0).r.val = m at lcE
  show Out.fin (seqS (retM (callM tupOf (consM (Ev.of (lcM [2] (evI (fnAt tbl 100000 k) (.rg1 (.mth .gcd (.cons (.ix (.v 0) (.k (.int 0))) (.cons (.ix (.v 1) (.k (.int 0))) .nil))))) lt_phase_peaks_0.f (evT (fnAt tbl 100000 k) lq_phase_peaks_0) (ev (fnAt tbl 100000 k) le_phase_peaks_0).r.val)).g (M.pure [])))) (M.pure .next) ⟨[.sh L1, .sh L3, .no], S⟩) = _
  rw [hm]
  clear hm e it
  simp [r_seq, r_ret, r_callM, r_cons, Ev.of, r_val, r_inl, lcE, Out.val, Out.inl, bnd_ok, consK_ap, consK2_ap, r_pure, callK_ap, ress_cons, ress_nil, res_l, r_bind, tupOf, r_lift_s, retK_ap, cont_ret, fin_ret]
theorem f_peaks (k : Nat) (a b : Int) (k1 k2 k3 k4 : Bool) (ps qs : List (Int × Int)) (ds es : List D) (S : List Cell) (ha : 1 ≤ a ∧ a ≤ 6) (hb : 1 ≤ b ∧ b ≤ 6) (hl : Lvs ps ds) (hm : Lvs qs es) (hz : ps.length ≤ 10) (hz2 : qs.length ≤ 10) :
    F (k+8) i_phase_peaks [sq k1 [.int a, sq k2 ds], sq k3 [.int b, sq k4 es]] S = .ok (.tup ((peaksI a b ps qs).map .int), false) S := by
  have X := six ha hb
  have g6 := X.g6
  have g1 := X.g1
  have e : lcF [2] lt_phase_peaks_0.f (evT (fnAt tbl 100000 (k+7)) lq_phase_peaks_0) (ev (fnAt tbl 100000 (k+7)) le_phase_peaks_0).r.val (Pv.intsFrom 0 (gI a b).toNat) ⟨[.sh (sq k1 [.int a, sq k2 ds]), .sh (sq k3 [.int b, sq k4 es]), .no], S⟩ =
      .ok (.lst ((peaksI a b ps qs).map .int), true) ⟨[.sh (sq k1 [.int a, sq k2 ds]), .sh (sq k3 [.int b, sq k4 es]), .no], S⟩ := by
    rw [lcF_map (fun d => some (.int (pkP a b (intE d) ps qs))) rfl (fun d hd => ?_) (by rw [sizeLine_eq, intsFrom_length]; omega)]
    · congr 2
      simp [peaksI, Pv.intsFrom, intE, Function.comp_def]
    · obtain ⟨i, hi, rfl⟩ := intsFrom_mem hd
      exact pp_el (k+7) (0 + (i : Int)) (pkP a b (0 + (i : Int)) ps qs) (sq k1 [.int a, sq k2 ds]) (sq k3 [.int b, sq k4 es]) S (f_shared k a b (0 + (i : Int)) k1 k2 k3 k4 ps qs ds es S ha hb hl hm hz hz2)
  have gc : Mth.gcd.g [.int a, .int b] = some (intD (gI a b)) := by simp [Mth.g, gcdD, gI]
  have sm : sm62 (gI a b) = true := by unfold sm62; simp; omega
  have it := pp_it (k+7) a b (gI a b) (Pv.intsFrom 0 (gI a b).toNat) (sq k2 ds) (sq k4 es) k1 k3 S gc (rg1_ok sm)
  exact F_ok (fd := fd_phase_peaks) rfl (pp_run (k+7) _ (sq k1 [.int a, sq k2 ds]) (sq k3 [.int b, sq k4 es]) _ S it e)
theorem peaksI_ne {a b : Int} (ha : 1 ≤ a ∧ a ≤ 6) (hb : 1 ≤ b ∧ b ≤ 6) (ps qs : List (Int × Int)) : peaksI a b ps qs ≠ [] := by
  have X := six ha hb
  have := X.g1
  intro h
  have := congrArg List.length h
  simp [peaksI] at this
  omega
theorem minOf_tup {l : List Int} (h : l ≠ []) : minOf [.tup (l.map .int)] = some (intD (minI l)) := by
  unfold minOf
  simp only [intsD_ints]
  cases l with
  | nil => exact absurd rfl h
  | cons n ns => rfl
theorem minOf_lst {l : List Int} (h : l ≠ []) : minOf [.lst (l.map .int)] = some (intD (minI l)) := by
  unfold minOf
  simp only [intsD_ints]
  cases l with
  | nil => exact absurd rfl h
  | cons n ns => rfl
theorem minI_mem {l : List Int} (h : l ≠ []) : minI l ∈ l ∧ ∀ x ∈ l, minI l ≤ x := by
  cases l with
  | nil => exact absurd rfl h
  | cons n ns => exact foldl_min_mem ns n
theorem toPs_ints : ∀ l : List Int, toPs (l.map .int) = some (l.map PyData.int)
  | [] => rfl
  | a :: l => by
    show (match toP (.int a), toPs (l.map .int) with
      | some p, some ps => some (p :: ps)
      | _, _ => none) = _
    rw [toPs_ints l]; rfl
theorem idx_min {l : List Int} (h : l ≠ []) : ∃ j : Nat, idxD (l.map .int) (.int (minI l)) = some (intD (j : Int)) := by
  have hm := (minI_mem h).1
  have ex : ∀ l : List Int, minI l ∈ l → ∀ x ∈ l, ∃ j, idxP (.int x) (l.map PyData.int) = some j := fun l _ x => by
    clear h hm
    rename_i h2
    clear h2
    induction l with
    | nil => intro h; cases h
    | cons a l ih =>
      intro h
      rw [List.map_cons]
      unfold idxP
      by_cases c : PyData.eqv (.int a) (.int x) = true
      · exact ⟨0, by rw [if_pos c]⟩
      · rw [if_neg c]
        rcases List.mem_cons.mp h with rfl | h
        · exact absurd (by simp [PyData.eqv]) c
        · obtain ⟨j, e⟩ := ih h
          exact ⟨j + 1, by rw [e]; rfl⟩
  obtain ⟨j, e⟩ := ex l hm _ hm
  refine ⟨j, ?_⟩
  unfold idxD
  rw [toPs_ints]
  show (if SeqAt.shaped (.list (l.map PyData.int)) && SeqAt.shaped (.int (minI l)) then (idxP (.int (minI l)) (l.map PyData.int)).map fun j => intD (j : Nat) else none) = _
  have s1 : SeqAt.shaped (.list (l.map PyData.int)) = true := by
    have h1 : ∀ l : List Int, PyData.canLayAll0 (l.map PyData.int) = true := fun l => by
      induction l with
      | nil => simp [PyData.canLayAll0]
      | cons a l ih => simp [PyData.canLayAll0, PyData.canLay0]; exact ih
    unfold SeqAt.shaped
    rw [Bool.and_eq_true, decide_eq_true_eq]
    refine ⟨by simp [PyData.canLay0, h1], ?_⟩
    have h2 := depthAll_ints l
    simp only [PyData.depth]
    omega
  have s2 : SeqAt.shaped (.int (minI l)) = true := by simp [SeqAt.shaped, PyData.canLay0, PyData.depth]
  rw [s1, s2, e]; rfl
theorem f_best (k : Nat) (a b : Int) (k1 k2 k3 k4 : Bool) (ps qs : List (Int × Int)) (ds es : List D) (S : List Cell) (ha : 1 ≤ a ∧ a ≤ 6) (hb : 1 ≤ b ∧ b ≤ 6) (hl : Lvs ps ds) (hm : Lvs qs es) (hz : ps.length ≤ 10) (hz2 : qs.length ≤ 10) (j : Nat) (hj : idxD ((peaksI a b ps qs).map .int) (.int (minI (peaksI a b ps qs))) = some (intD (j : Int))) :
    F (k+9) i_best_phase [sq k1 [.int a, sq k2 ds], sq k3 [.int b, sq k4 es]] S = .ok (.int (j : Int), false) S := by
  have e := f_peaks k a b k1 k2 k3 k4 ps qs ds es S ha hb hl hm hz hz2
  have m := minOf_tup (peaksI_ne ha hb ps qs)
  refine F_ok (fd := fd_best_phase) rfl ?_
  unfold fd_best_phase ir_best_phase
  generalize minI (peaksI a b ps qs) = mi at m hj
  generalize (peaksI a b ps qs).map D.int = pk at e m hj
  generalize (j : Int) = jj at hj ⊢
  generalize sq k1 [.int a, sq k2 ds] = L1 at e ⊢
  generalize sq k3 [.int b, sq k4 es] = L3 at e ⊢
  simp [evSs, evS, ev, evs, evO, evT, evI, Ev.of, bnd_ok, r_bind, r_pure, r_lift_s, r_val, r_inl, val_ok, inl_ok, res_l, res_r, r_var_sh, r_var_ow, r_mov_sh, r_mov_ow, r_pk_sh, r_pk_ow, r_peek_sh, r_peek_ow, r_seq, cont_next, cont_ret, r_ite, sel_t, sel_f, r_andB, r_orB, r_notB, r_andM, r_orR, r_notM, r_put, r_set, r_ret, retK_ap, r_drop, nextK_ap, r_asg, r_op, opK_ap, opK2_ap, r_opB, opBK_ap, opBK2_ap, r_un, unK_ap, r_truth, trK_ap, r_ix, ixK_ap, ixK2_ap, r_look_s, r_cons, consK_ap, consK2_ap, r_con, conK_ap, conK2_ap, r_callM, callK_ap, ress_nil, ress_cons, r_seqM, onlyV_nil, onlyV_cons, seqK_run, r_call, runF_ap, outS_ok, r_callF, fin_ret, fin_next, r_six, sixK_ap, sixK3_ap, nowS, gsP, gsV, dsA, Bop.g, Cop.g, Bif.g, K.d, addD, subD, divD, modD, negD, p64, intD, gtR, ltR, leR, geR, ltD, blD, blOf, M.look, ixS, ixD, cellAt, slOf, setAt, setOw, intOf, absD, lenD, ixN, atI, List.set, truthD, isiD, tyD, isTy, maxOf, chM, chB, r_lc, r_for, r_it, itK_ap, r_sq, sqK_ap,  eqR_int, eqR_non, neR_int, eqR_bl, neR_bl, Option.map_some, Out.val, Out.inl, T.f, Ts.f, Ts.n, tupF, tcons, tnil, tnF_ap, lcT, sure_ok, M.sure, wipeF, wipeR, noOw, putR, r_sl, slK2_ap, slD, r_int, intK_ap, r_cell, cellO_ok, powD, parM, rsF, putAll, en_tup, en_lst, rg1_ok, rg2_ok, asgK_s, sumOf, intsD_ints, tupOf, lstOf, seqD, mkT, mkL, np_tupled, np_rounds_between, np_load, np_loads, np_peak, np_shifted, np_written_out, np_joined, np_shared_peak, np_phase_peaks, np_best_phase, np_never_shares, np_peak_ticks, np_least_peak, np_even_births, np__law_box, np__law_take, np__law_cells, np__law_mixed, np__law_same, np__law_copies, np__law_loads, np__law_wide, np__law_shared, np_law, e, m, hj, r_idx, idxK_apT, idxK2_ap]
theorem f_never (k : Nat) (a b : Int) (k1 k2 k3 k4 : Bool) (ps qs : List (Int × Int)) (ds es : List D) (S : List Cell) (ha : 1 ≤ a ∧ a ≤ 6) (hb : 1 ≤ b ∧ b ≤ 6) (hl : Lvs ps ds) (hm : Lvs qs es) (hz : ps.length ≤ 10) (hz2 : qs.length ≤ 10) :
    F (k+9) i_never_shares [sq k1 [.int a, sq k2 ds], sq k3 [.int b, sq k4 es]] S = .ok (.bl (decide (minI (peaksI a b ps qs) = maxI (loadsI a ps) + maxI (loadsI b qs))), false) S := by
  have e := f_peaks k a b k1 k2 k3 k4 ps qs ds es S ha hb hl hm hz hz2
  have m := minOf_tup (peaksI_ne ha hb ps qs)
  have h1 := hl.length
  have h2 := hm.length
  have e1 : F (k+8) i_peak [sq k1 [.int a, sq k2 ds]] S = .ok (.int (maxI (loadsI a ps)), false) S := f_peak (k+4) a k1 k2 ds ps S (by omega) hl (by omega) (by omega)
  have e2 : F (k+8) i_peak [sq k3 [.int b, sq k4 es]] S = .ok (.int (maxI (loadsI b qs)), false) S := f_peak (k+4) b k3 k4 es qs S (by omega) hm (by omega) (by omega)
  refine F_ok (fd := fd_never_shares) rfl ?_
  unfold fd_never_shares ir_never_shares
  generalize minI (peaksI a b ps qs) = mi at m ⊢
  generalize (peaksI a b ps qs).map D.int = pk at e m
  generalize maxI (loadsI a ps) = p1 at e1 ⊢
  generalize maxI (loadsI b qs) = p2 at e2 ⊢
  generalize sq k1 [.int a, sq k2 ds] = L1 at e e1 ⊢
  generalize sq k3 [.int b, sq k4 es] = L3 at e e2 ⊢
  simp [evSs, evS, ev, evs, evO, evT, evI, Ev.of, bnd_ok, r_bind, r_pure, r_lift_s, r_val, r_inl, val_ok, inl_ok, res_l, res_r, r_var_sh, r_var_ow, r_mov_sh, r_mov_ow, r_pk_sh, r_pk_ow, r_peek_sh, r_peek_ow, r_seq, cont_next, cont_ret, r_ite, sel_t, sel_f, r_andB, r_orB, r_notB, r_andM, r_orR, r_notM, r_put, r_set, r_ret, retK_ap, r_drop, nextK_ap, r_asg, r_op, opK_ap, opK2_ap, r_opB, opBK_ap, opBK2_ap, r_un, unK_ap, r_truth, trK_ap, r_ix, ixK_ap, ixK2_ap, r_look_s, r_cons, consK_ap, consK2_ap, r_con, conK_ap, conK2_ap, r_callM, callK_ap, ress_nil, ress_cons, r_seqM, onlyV_nil, onlyV_cons, seqK_run, r_call, runF_ap, outS_ok, r_callF, fin_ret, fin_next, r_six, sixK_ap, sixK3_ap, nowS, gsP, gsV, dsA, Bop.g, Cop.g, Bif.g, K.d, addD, subD, divD, modD, negD, p64, intD, gtR, ltR, leR, geR, ltD, blD, blOf, M.look, ixS, ixD, cellAt, slOf, setAt, setOw, intOf, absD, lenD, ixN, atI, List.set, truthD, isiD, tyD, isTy, maxOf, chM, chB, r_lc, r_for, r_it, itK_ap, r_sq, sqK_ap,  eqR_int, eqR_non, neR_int, eqR_bl, neR_bl, Option.map_some, Out.val, Out.inl, T.f, Ts.f, Ts.n, tupF, tcons, tnil, tnF_ap, lcT, sure_ok, M.sure, wipeF, wipeR, noOw, putR, r_sl, slK2_ap, slD, r_int, intK_ap, r_cell, cellO_ok, powD, parM, rsF, putAll, en_tup, en_lst, rg1_ok, rg2_ok, asgK_s, sumOf, intsD_ints, tupOf, lstOf, seqD, mkT, mkL, np_tupled, np_rounds_between, np_load, np_loads, np_peak, np_shifted, np_written_out, np_joined, np_shared_peak, np_phase_peaks, np_best_phase, np_never_shares, np_peak_ticks, np_least_peak, np_even_births, np__law_box, np__law_take, np__law_cells, np__law_mixed, np__law_same, np__law_copies, np__law_loads, np__law_wide, np__law_shared, np_law, e, e1, e2, m]
/-! ticks of the peak -/
def tkO (M : Int) : D → Option D
  | .pr [i, .int m] => if m = M then some i else none
  | _ => none
def ticksI (M : Int) : Nat → List Int → List Int
  | _, [] => []
  | k, m :: r => if m = M then (k : Int) :: ticksI M (k + 1) r else ticksI M (k + 1) r
theorem tk_fm (M : Int) : ∀ (l : List Int) (k : Nat), (enumD k (l.map .int)).filterMap (tkO M) = (ticksI M k l).map .int
  | [], _ => rfl
  | m :: l, k => by
    have ih := tk_fm M l (k + 1)
    rw [List.map_cons]
    show ((Pv.prD (.int (k : Nat)) (.int m)) :: enumD (k + 1) (l.map .int)).filterMap (tkO M) = _
    have q : tkO M (Pv.prD (.int (k : Nat)) (.int m)) = if m = M then some (.int (k : Nat)) else none := rfl
    rw [List.filterMap_cons, ih, q]
    show _ = (if m = M then (k : Int) :: ticksI M (k + 1) l else ticksI M (k + 1) l).map D.int
    by_cases c : m = M <;> simp [c]
theorem en_int {l : List Int} {k : Nat} {d : D} (h : d ∈ enumD k (l.map .int)) : ∃ i m : Int, d = .pr [.int i, .int m] := by
  obtain ⟨i, hi⟩ := List.mem_iff_getElem?.mp h
  obtain ⟨e, h1, rfl⟩ := enumD_get _ _ _ _ hi
  obtain ⟨m, _, rfl⟩ := List.mem_map.mp (List.mem_of_getElem? h1)
  exact ⟨_, m, rfl⟩
theorem f_pticks (k : Nat) (a : Int) (k1 k2 : Bool) (ps : List (Int × Int)) (ds : List D) (S : List Cell) (ha : 1 ≤ a ∧ a ≤ 6) (hl : Lvs ps ds) (hz : ps.length ≤ 10) :
    F (k+4) i_peak_ticks [sq k1 [.int a, sq k2 ds]] S = .ok (.tup ((ticksI (maxI (loadsI a ps)) 0 (loadsI a ps)).map .int), false) S := by
  have h1 := hl.length
  have e1 : F (k+3) i_loads [sq k1 [.int a, sq k2 ds]] S = .ok (.tup ((loadsI a ps).map .int), false) S := f_loads k a k1 k2 ds ps S (by omega) (by omega) hl (by omega) (by omega)
  have m := maxOf_tup (loadsI_ne (ps := ps) (show 0 < a by omega))
  have ll : (loadsI a ps).length ≤ 10 := by unfold loadsI; simp; omega
  have e2 : lcF [2, 3] lt_peak_ticks_0.f (evT (fnAt tbl 100000 (k+3)) lq_peak_ticks_0) (ev (fnAt tbl 100000 (k+3)) le_peak_ticks_0).r.val (enumD 0 ((loadsI a ps).map .int)) ⟨[.sh (sq k1 [.int a, sq k2 ds]), .sh (.tup ((loadsI a ps).map .int)), .no, .no], S⟩ =
      .ok (.lst ((ticksI (maxI (loadsI a ps)) 0 (loadsI a ps)).map .int), true) ⟨[.sh (sq k1 [.int a, sq k2 ds]), .sh (.tup ((loadsI a ps).map .int)), .no, .no], S⟩ := by
    rw [lcF_map (tkO (maxI (loadsI a ps))) rfl (fun d hd => ?_) (by rw [sizeLine_eq, enumD_length, List.length_map]; omega), tk_fm]
    obtain ⟨i, x, rfl⟩ := en_int hd
    clear hd e1 ll
    simp only [lt_peak_ticks_0, lq_peak_ticks_0, le_peak_ticks_0, tkO]
    generalize maxI (loadsI a ps) = M0 at m ⊢
    generalize (loadsI a ps).map D.int = rows at m ⊢
    generalize sq k1 [.int a, sq k2 ds] = L1
    by_cases c : x = M0 <;> simp [evSs, evS, ev, evs, evO, evT, evI, Ev.of, bnd_ok, r_bind, r_pure, r_lift_s, r_val, r_inl, val_ok, inl_ok, res_l, res_r, r_var_sh, r_var_ow, r_mov_sh, r_mov_ow, r_pk_sh, r_pk_ow, r_peek_sh, r_peek_ow, r_seq, cont_next, cont_ret, r_ite, sel_t, sel_f, r_andB, r_orB, r_notB, r_andM, r_orR, r_notM, r_put, r_set, r_ret, retK_ap, r_drop, nextK_ap, r_asg, r_op, opK_ap, opK2_ap, r_opB, opBK_ap, opBK2_ap, r_un, unK_ap, r_truth, trK_ap, r_ix, ixK_ap, ixK2_ap, r_look_s, r_cons, consK_ap, consK2_ap, r_con, conK_ap, conK2_ap, r_callM, callK_ap, ress_nil, ress_cons, r_seqM, onlyV_nil, onlyV_cons, seqK_run, r_call, runF_ap, outS_ok, r_callF, fin_ret, fin_next, r_six, sixK_ap, sixK3_ap, nowS, gsP, gsV, dsA, Bop.g, Cop.g, Bif.g, K.d, addD, subD, divD, modD, negD, p64, intD, gtR, ltR, leR, geR, ltD, blD, blOf, M.look, ixS, ixD, cellAt, slOf, setAt, setOw, intOf, absD, lenD, ixN, atI, List.set, truthD, isiD, tyD, isTy, chM, chB, r_lc, r_for, r_it, itK_ap, r_sq, sqK_ap,  eqR_int, eqR_non, neR_int, eqR_bl, neR_bl, Option.map_some, Out.val, Out.inl, T.f, Ts.f, Ts.n, tupF, tcons, tnil, tnF_ap, lcT, sure_ok, M.sure, wipeF, wipeR, noOw, putR, r_sl, slK2_ap, slD, r_int, intK_ap, r_cell, cellO_ok, powD, parM, rsF, putAll, en_tup, en_lst, rg1_ok, rg2_ok, asgK_s, intsD_ints, tupOf, lstOf, seqD, mkT, mkL, np_tupled, np_rounds_between, np_load, np_loads, np_peak, np_shifted, np_written_out, np_joined, np_shared_peak, np_phase_peaks, np_best_phase, np_never_shares, np_peak_ticks, np_least_peak, np_even_births, np__law_box, np__law_take, np__law_cells, np__law_mixed, np__law_same, np__law_copies, np__law_loads, np__law_wide, np__law_shared, np_law, m, c]
  refine F_ok (fd := fd_peak_ticks) rfl ?_
  unfold fd_peak_ticks ir_peak_ticks
  generalize (ticksI (maxI (loadsI a ps)) 0 (loadsI a ps)).map D.int = tk at e2 ⊢
  generalize (loadsI a ps).map D.int = rows at e1 e2
  generalize sq k1 [.int a, sq k2 ds] = L1 at e1 e2 ⊢
  simp [evSs, evS, ev, evs, evO, evT, evI, Ev.of, bnd_ok, r_bind, r_pure, r_lift_s, r_val, r_inl, val_ok, inl_ok, res_l, res_r, r_var_sh, r_var_ow, r_mov_sh, r_mov_ow, r_pk_sh, r_pk_ow, r_peek_sh, r_peek_ow, r_seq, cont_next, cont_ret, r_ite, sel_t, sel_f, r_andB, r_orB, r_notB, r_andM, r_orR, r_notM, r_put, r_set, r_ret, retK_ap, r_drop, nextK_ap, r_asg, r_op, opK_ap, opK2_ap, r_opB, opBK_ap, opBK2_ap, r_un, unK_ap, r_truth, trK_ap, r_ix, ixK_ap, ixK2_ap, r_look_s, r_cons, consK_ap, consK2_ap, r_con, conK_ap, conK2_ap, r_callM, callK_ap, ress_nil, ress_cons, r_seqM, onlyV_nil, onlyV_cons, seqK_run, r_call, runF_ap, outS_ok, r_callF, fin_ret, fin_next, r_six, sixK_ap, sixK3_ap, nowS, gsP, gsV, dsA, Bop.g, Cop.g, Bif.g, K.d, addD, subD, divD, modD, negD, p64, intD, gtR, ltR, leR, geR, ltD, blD, blOf, M.look, ixS, ixD, cellAt, slOf, setAt, setOw, intOf, absD, lenD, ixN, atI, List.set, truthD, isiD, tyD, isTy, chM, chB, r_lc, r_for, r_it, itK_ap, r_sq, sqK_ap,  eqR_int, eqR_non, neR_int, eqR_bl, neR_bl, Option.map_some, Out.val, Out.inl, T.f, Ts.f, Ts.n, tupF, tcons, tnil, tnF_ap, lcT, sure_ok, M.sure, wipeF, wipeR, noOw, putR, r_sl, slK2_ap, slD, r_int, intK_ap, r_cell, cellO_ok, powD, parM, rsF, putAll, en_tup, en_lst, rg1_ok, rg2_ok, asgK_s, intsD_ints, tupOf, lstOf, seqD, mkT, mkL, np_tupled, np_rounds_between, np_load, np_loads, np_peak, np_shifted, np_written_out, np_joined, np_shared_peak, np_phase_peaks, np_best_phase, np_never_shares, np_peak_ticks, np_least_peak, np_even_births, np__law_box, np__law_take, np__law_cells, np__law_mixed, np__law_same, np__law_copies, np__law_loads, np__law_wide, np__law_shared, np_law, e1, e2]
theorem f_even (k : Nat) (a : Int) (k1 k2 : Bool) (ps : List (Int × Int)) (ds : List D) (S : List Cell) (ha : 1 ≤ a ∧ a ≤ 6) (hl : Lvs ps ds) (hz : ps.length ≤ 10) :
    F (k+4) i_even_births [sq k1 [.int a, sq k2 ds]] S = .ok (.bl (!decide (1 < maxI (loadsI a ps) - minI (loadsI a ps))), false) S := by
  have h1 := hl.length
  have e1 : F (k+3) i_loads [sq k1 [.int a, sq k2 ds]] S = .ok (.tup ((loadsI a ps).map .int), false) S := f_loads k a k1 k2 ds ps S (by omega) (by omega) hl (by omega) (by omega)
  have m := maxOf_tup (loadsI_ne (ps := ps) (show 0 < a by omega))
  have m2 := minOf_tup (loadsI_ne (ps := ps) (show 0 < a by omega))
  refine F_ok (fd := fd_even_births) rfl ?_
  unfold fd_even_births ir_even_births
  generalize maxI (loadsI a ps) = M0 at m ⊢
  generalize minI (loadsI a ps) = M1 at m2 ⊢
  generalize (loadsI a ps).map D.int = rows at e1 m m2
  generalize sq k1 [.int a, sq k2 ds] = L1 at e1 ⊢
  by_cases c : 1 < M0 - M1 <;> simp [evSs, evS, ev, evs, evO, evT, evI, Ev.of, bnd_ok, r_bind, r_pure, r_lift_s, r_val, r_inl, val_ok, inl_ok, res_l, res_r, r_var_sh, r_var_ow, r_mov_sh, r_mov_ow, r_pk_sh, r_pk_ow, r_peek_sh, r_peek_ow, r_seq, cont_next, cont_ret, r_ite, sel_t, sel_f, r_andB, r_orB, r_notB, r_andM, r_orR, r_notM, r_put, r_set, r_ret, retK_ap, r_drop, nextK_ap, r_asg, r_op, opK_ap, opK2_ap, r_opB, opBK_ap, opBK2_ap, r_un, unK_ap, r_truth, trK_ap, r_ix, ixK_ap, ixK2_ap, r_look_s, r_cons, consK_ap, consK2_ap, r_con, conK_ap, conK2_ap, r_callM, callK_ap, ress_nil, ress_cons, r_seqM, onlyV_nil, onlyV_cons, seqK_run, r_call, runF_ap, outS_ok, r_callF, fin_ret, fin_next, r_six, sixK_ap, sixK3_ap, nowS, gsP, gsV, dsA, Bop.g, Cop.g, Bif.g, K.d, addD, subD, divD, modD, negD, p64, intD, gtR, ltR, leR, geR, ltD, blD, blOf, M.look, ixS, ixD, cellAt, slOf, setAt, setOw, intOf, absD, lenD, ixN, atI, List.set, truthD, isiD, tyD, isTy, chM, chB, r_lc, r_for, r_it, itK_ap, r_sq, sqK_ap,  eqR_int, eqR_non, neR_int, eqR_bl, neR_bl, Option.map_some, Out.val, Out.inl, T.f, Ts.f, Ts.n, tupF, tcons, tnil, tnF_ap, lcT, sure_ok, M.sure, wipeF, wipeR, noOw, putR, r_sl, slK2_ap, slD, r_int, intK_ap, r_cell, cellO_ok, powD, parM, rsF, putAll, en_tup, en_lst, rg1_ok, rg2_ok, asgK_s, intsD_ints, tupOf, lstOf, seqD, mkT, mkL, np_tupled, np_rounds_between, np_load, np_loads, np_peak, np_shifted, np_written_out, np_joined, np_shared_peak, np_phase_peaks, np_best_phase, np_never_shares, np_peak_ticks, np_least_peak, np_even_births, np__law_box, np__law_take, np__law_cells, np__law_mixed, np__law_same, np__law_copies, np__law_loads, np__law_wide, np__law_shared, np_law, e1, m, m2, c]
theorem f_least (k : Nat) (a : Int) (k1 : Bool) (l : List Int) (S : List Cell) (ha : 1 ≤ a ∧ a ≤ 6) : F (k+1) i_least_peak [.int a, sq k1 (l.map .int)] S = .ok (.int ((l.sum + a - 1).fdiv a), false) S := by
  have s1 : sumOf [sq k1 (l.map .int)] = some (intD l.sum) := by
    cases k1 <;> simp [sq, sumOf, intsD_ints]
  have a0 : ¬ a = 0 := by omega
  have a1 : a.natAbs < 1073741824 := by omega
  refine F_ok (fd := fd_least_peak) rfl ?_
  unfold fd_least_peak ir_least_peak
  generalize l.sum = su at s1 ⊢
  generalize sq k1 (l.map D.int) = L1 at s1 ⊢
  simp [evSs, evS, ev, evs, evO, evT, evI, Ev.of, bnd_ok, r_bind, r_pure, r_lift_s, r_val, r_inl, val_ok, inl_ok, res_l, res_r, r_var_sh, r_var_ow, r_mov_sh, r_mov_ow, r_pk_sh, r_pk_ow, r_peek_sh, r_peek_ow, r_seq, cont_next, cont_ret, r_ite, sel_t, sel_f, r_andB, r_orB, r_notB, r_andM, r_orR, r_notM, r_put, r_set, r_ret, retK_ap, r_drop, nextK_ap, r_asg, r_op, opK_ap, opK2_ap, r_opB, opBK_ap, opBK2_ap, r_un, unK_ap, r_truth, trK_ap, r_ix, ixK_ap, ixK2_ap, r_look_s, r_cons, consK_ap, consK2_ap, r_con, conK_ap, conK2_ap, r_callM, callK_ap, ress_nil, ress_cons, r_seqM, onlyV_nil, onlyV_cons, seqK_run, r_call, runF_ap, outS_ok, r_callF, fin_ret, fin_next, r_six, sixK_ap, sixK3_ap, nowS, gsP, gsV, dsA, Bop.g, Cop.g, Bif.g, K.d, addD, subD, divD, modD, negD, p64, intD, gtR, ltR, leR, geR, ltD, blD, blOf, M.look, ixS, ixD, cellAt, slOf, setAt, setOw, intOf, absD, lenD, ixN, atI, List.set, truthD, isiD, tyD, isTy, chM, chB, r_lc, r_for, r_it, itK_ap, r_sq, sqK_ap,  eqR_int, eqR_non, neR_int, eqR_bl, neR_bl, Option.map_some, Out.val, Out.inl, T.f, Ts.f, Ts.n, tupF, tcons, tnil, tnF_ap, lcT, sure_ok, M.sure, wipeF, wipeR, noOw, putR, r_sl, slK2_ap, slD, r_int, intK_ap, r_cell, cellO_ok, powD, parM, rsF, putAll, en_tup, en_lst, rg1_ok, rg2_ok, asgK_s, intsD_ints, tupOf, lstOf, seqD, mkT, mkL, np_tupled, np_rounds_between, np_load, np_loads, np_peak, np_shifted, np_written_out, np_joined, np_shared_peak, np_phase_peaks, np_best_phase, np_never_shares, np_peak_ticks, np_least_peak, np_even_births, np__law_box, np__law_take, np__law_cells, np__law_mixed, np__law_same, np__law_copies, np__law_loads, np__law_wide, np__law_shared, np_law, s1, a0, a1]
end Law
namespace Law
open PySem L2 Pv
local macro_rules | `(tactic| trivial) => `(tactic| simp [evSs, evS, ev, evs, evO, evT, evI, Ev.of, bnd_ok, r_bind, r_pure, r_lift_s, r_val, r_inl, val_ok, inl_ok, res_l, res_r, r_var_sh, r_var_ow, r_mov_sh, r_mov_ow, r_pk_sh, r_pk_ow, r_peek_sh, r_peek_ow, r_seq, cont_next, cont_ret, r_ite, sel_t, sel_f, r_andB, r_orB, r_notB, r_andM, r_orR, r_notM, r_put, r_set, r_ret, retK_ap, r_drop, nextK_ap, r_asg, r_op, opK_ap, opK2_ap, r_opB, opBK_ap, opBK2_ap, r_un, unK_ap, r_truth, trK_ap, r_ix, ixK_ap, ixK2_ap, r_look_s, r_cons, consK_ap, consK2_ap, r_con, conK_ap, conK2_ap, r_callM, callK_ap, ress_nil, ress_cons, r_seqM, onlyV_nil, onlyV_cons, seqK_run, r_call, runF_ap, outS_ok, r_callF, fin_ret, fin_next, r_six, sixK_ap, sixK3_ap, nowS, gsP, gsV, dsA, Bop.g, Cop.g, Bif.g, K.d, addD, subD, divD, modD, negD, p64, intD, gtR, ltR, leR, geR, ltD, blD, blOf, M.look, ixS, ixD, cellAt, slOf, setAt, setOw, intOf, absD, lenD, ixN, atI, List.set, truthD, isiD, tyD, isTy, maxOf, chM, chB, r_lc, r_for, r_it, itK_ap, r_sq, sqK_ap,  eqR_int, eqR_non, neR_int, eqR_bl, neR_bl, Option.map_some, Out.val, Out.inl, T.f, Ts.f, Ts.n, tupF, tcons, tnil, tnF_ap, lcT, sure_ok, M.sure, wipeF, wipeR, noOw, putR, r_sl, slK2_ap, slD, r_int, intK_ap, r_cell, cellO_ok, powD, parM, rsF, putAll, en_tup, en_lst, rg1_ok, rg2_ok, asgK_s, sumOf, intsD_ints, tupOf, lstOf, seqD, mkT, mkL, r_app, appK_ap, isD, isTy, allOf, Mth.g, np_tupled, np_rounds_between, np_load, np_loads, np_peak, np_shifted, np_written_out, np_joined, np_shared_peak, np_phase_peaks, np_best_phase, np_never_shares, np_peak_ticks, np_least_peak, np_even_births, np__law_box, np__law_take, np__law_cells, np__law_mixed, np__law_same, np__law_copies, np__law_loads, np__law_wide, np__law_shared, np_law, *])
def wideOk (b : Int) (p : Int × Int) : Prop := 0 ≤ p.1 ∧ p.1 < b ∧ 1 ≤ p.2 ∧ p.2 ≤ 9
theorem wide_good {b : Int} {p : Int × Int} (h : wideOk b p) : good b p := ⟨h.1, h.2.1, h.2.2.1, by have := h.2.2.2; omega, by have := h.2.2.2; omega⟩
theorem h_wide1 (k : Nat) (b lap : Int) (ps : List (Int × Int)) (S : List Cell) (m : Nat) (hb : 1 ≤ b ∧ b ≤ 6) (hU : Urn S m) (hm : m < 2^37) (hz : ps.length ≤ 100) :
    ∃ p S', wideOk b p ∧ Urn S' (m + 2) ∧ evSs (fnAt tbl 100000 (k+1)) 100000 fb__law_wide_0 ⟨[.sh (.ref 0), .sh (.int lap), .sh (.int b), .ow (.lst (prs ps))], S⟩ = .ok .next ⟨[.sh (.ref 0), .sh (.int lap), .sh (.int b), .ow (.lst (prs (ps ++ [p])))], S'⟩ := by
  obtain ⟨v, S1, e1, v0, v1, u1⟩ := f_take k b S m (by omega) (by omega) hU (by omega)
  obtain ⟨w, S2, e2, w0, w1, u2⟩ := f_take k 9 S1 _ (by decide) (by decide) u1 (by omega)
  refine ⟨(v, 1 + w), S2, ⟨v0, v1, by show 1 ≤ 1 + w; omega, by show 1 + w ≤ 9; omega⟩, u2, ?_⟩
  rw [← prs_snoc]
  have hl3 : (prs ps).length < 16777216 := by rw [prs_len]; omega
  generalize prs ps = cs at hl3 ⊢
  unfold fb__law_wide_0
  trivial
theorem h_wide (k : Nat) (b : Int) (S : List Cell) (m n : Nat) (hb : 1 ≤ b ∧ b ≤ 6) (hn : n ≤ 60) (hU : Urn S m) (hm : m < 2^36) :
    ∃ x1 ps S', (∀ p ∈ ps, wideOk b p) ∧ ps.length ≤ n ∧ Urn S' (m + 2 * n) ∧
      loopM ft__law_wide_0.f (evSs (fnAt tbl 100000 (k+1)) 100000 fb__law_wide_0) (Pv.intsFrom 0 n) ⟨[.sh (.ref 0), .no, .sh (.int b), .ow (.lst [])], S⟩ =
        .ok .next ⟨[.sh (.ref 0), x1, .sh (.int b), .ow (.lst (prs ps))], S'⟩ := by
  have key := loop_run (t := ft__law_wide_0.f) (b := evSs (fnAt tbl 100000 (k+1)) 100000 fb__law_wide_0)
    (st := ⟨[.sh (.ref 0), .no, .sh (.int b), .ow (.lst [])], S⟩) (Pv.intsFrom 0 n)
    (fun i st => ∃ x1 ps S', st = ⟨[.sh (.ref 0), x1, .sh (.int b), .ow (.lst (prs ps))], S'⟩ ∧ (∀ p ∈ ps, wideOk b p) ∧ ps.length ≤ i ∧ Urn S' (m + 2 * i))
  have h := key ⟨.no, [], S, rfl, fun p hp => (nomatch hp), Nat.le_refl _, hU⟩ ?_
  · obtain ⟨st', e, x1, ps, S', rfl, hg, hl, hu⟩ := h
    rw [intsFrom_length] at hl hu
    exact ⟨x1, ps, S', hg, hl, hu, e⟩
  · intro i d st hd h
    obtain ⟨x1, ps, S', hst, hg, hl, hu⟩ := h
    obtain ⟨hi, rfl⟩ := intsFrom_get hd
    subst hst
    obtain ⟨p, S4, hp, hu', e⟩ := h_wide1 k b (0 + i) ps S' _ hb hu (by omega) (by omega)
    refine ⟨⟨[.sh (.ref 0), .sh (.int (0 + i)), .sh (.int b), .ow (.lst (prs ps))], S'⟩, ⟨[.sh (.ref 0), .sh (.int (0 + i)), .sh (.int b), .ow (.lst (prs (ps ++ [p])))], S4⟩, ?_, .inl e, .sh (.int (0 + i)), ps ++ [p], S4, rfl, fun q hq => ?_, by rw [List.length_append]; simp; omega, hu'.mono (by omega)⟩
    · simp only [ft__law_wide_0, T.f]
      exact tnF_ap (by simp)
    · rcases List.mem_append.mp hq with h | h
      · exact hg q h
      · rw [List.mem_singleton.mp h]; exact hp
theorem f_wide (k : Nat) (S : List Cell) (m : Nat) (hU : Urn S m) (hm : m < 2^35) :
    ∃ b ps S', (1 ≤ b ∧ b ≤ 6) ∧ (∀ p ∈ ps, wideOk b p) ∧ ps.length ≤ 4 ∧ Urn S' (m + 100) ∧ F (k+2) i__law_wide [.ref 0] S = .ok (encL b ps, false) S' := by
  obtain ⟨v, S1, e1, v0, v1, u1⟩ := f_take k 6 S m (by decide) (by decide) hU (by omega)
  obtain ⟨n, S2, e2, n0, n1, u2⟩ := f_take k 5 S1 _ (by omega) (by omega) u1 (by omega)
  have sm : sm62 n = true := by unfold sm62; simp; omega
  obtain ⟨x1, ps, S3, hg, hl, u3, e3⟩ := h_wide k (1 + v) S2 _ n.toNat (by omega) (by omega) u2 (by omega)
  refine ⟨1 + v, ps, S3, by omega, hg, by omega, u3.mono (by omega), F_ok (fd := fd__law_wide) rfl ?_⟩
  have e0 : ps.map encP = prs ps := rfl
  unfold fd__law_wide ir__law_wide encL
  rw [e0]
  generalize prs ps = cs at e3 ⊢
  clear e0 hg hl u3 hU u1 u2 hm
  trivial
theorem sh_el (k : Nat) (t ph x y : Int) (L1 L2 W : D) (l m : List D) (S : List Cell) (e : F k i__law_copies [L1, .int t] S = .ok (.lst l, true) S) (e2 : F k i__law_copies [L2, .int (t - ph)] S = .ok (.lst m, true) S) (hl : (l.length : Int) = x) (hm : (m.length : Int) = y) :
    lcT [4] lt__law_shared_0.f (evT (fnAt tbl 100000 k) lq__law_shared_0) (ev (fnAt tbl 100000 k) le__law_shared_0).r.val (.int t) ⟨[.sh L1, .sh L2, .sh (.int ph), .sh W, .no], S⟩ = some (some (.int (x + y)), ⟨[.sh L1, .sh L2, .sh (.int ph), .sh W, .no], S⟩) := by
  subst hl hm
  simp only [lt__law_shared_0, lq__law_shared_0, le__law_shared_0]
  simp [evSs, evS, ev, evs, evO, evT, evI, Ev.of, bnd_ok, r_bind, r_pure, r_lift_s, r_val, r_inl, val_ok, inl_ok, res_l, res_r, r_var_sh, r_var_ow, r_mov_sh, r_mov_ow, r_pk_sh, r_pk_ow, r_peek_sh, r_peek_ow, r_seq, cont_next, cont_ret, r_ite, sel_t, sel_f, r_andB, r_orB, r_notB, r_andM, r_orR, r_notM, r_put, r_set, r_ret, retK_ap, r_drop, nextK_ap, r_asg, r_op, opK_ap, opK2_ap, r_opB, opBK_ap, opBK2_ap, r_un, unK_ap, r_truth, trK_ap, r_ix, ixK_ap, ixK2_ap, r_look_s, r_cons, consK_ap, consK2_ap, r_con, conK_ap, conK2_ap, r_callM, callK_ap, ress_nil, ress_cons, r_seqM, onlyV_nil, onlyV_cons, seqK_run, r_call, runF_ap, outS_ok, r_callF, fin_ret, fin_next, r_six, sixK_ap, sixK3_ap, nowS, gsP, gsV, dsA, Bop.g, Cop.g, Bif.g, K.d, addD, subD, divD, modD, negD, p64, intD, gtR, ltR, leR, geR, ltD, blD, blOf, M.look, ixS, ixD, cellAt, slOf, setAt, setOw, intOf, absD, lenD, ixN, atI, List.set, truthD, isiD, tyD, isTy, maxOf, chM, chB, r_lc, r_for, r_it, itK_ap, r_sq, sqK_ap,  eqR_int, eqR_non, neR_int, eqR_bl, neR_bl, Option.map_some, Out.val, Out.inl, T.f, Ts.f, Ts.n, tupF, tcons, tnil, tnF_ap, lcT, sure_ok, M.sure, wipeF, wipeR, noOw, putR, r_sl, slK2_ap, slD, r_int, intK_ap, r_cell, cellO_ok, powD, parM, rsF, putAll, en_tup, en_lst, rg1_ok, rg2_ok, asgK_s, sumOf, intsD_ints, tupOf, lstOf, seqD, mkT, mkL, np_tupled, np_rounds_between, np_load, np_loads, np_peak, np_shifted, np_written_out, np_joined, np_shared_peak, np_phase_peaks, np_best_phase, np_never_shares, np_peak_ticks, np_least_peak, np_even_births, np__law_box, np__law_take, np__law_cells, np__law_mixed, np__law_same, np__law_copies, np__law_loads, np__law_wide, np__law_shared, np_law, e, e2]
theorem encL_eq (b : Int) (ps : List (Int × Int)) : encL b ps = .tup [.int b, .tup (prs ps)] := rfl
theorem f_lshared (k : Nat) (a b ph : Int) (ps qs : List (Int × Int)) (S : List Cell) (ha : 1 ≤ a ∧ a ≤ 6) (hb : 1 ≤ b ∧ b ≤ 6) (hp : -1000 ≤ ph ∧ ph ≤ 1000) (hg : ∀ p ∈ ps, good a p) (hh : ∀ p ∈ qs, good b p) (hz : ps.length ≤ 10) (hz2 : qs.length ≤ 10) :
    F (k+2) i__law_shared [encL a ps, encL b qs, .int ph] S = .ok (.int (sharedI a b ph ps qs), false) S := by
  have ab : 1 ≤ a * b ∧ a * b ≤ 36 := by
    obtain ⟨a1, a2⟩ := ha
    obtain ⟨b1, b2⟩ := hb
    have h1 := Int.mul_le_mul a1 b1 (by omega) (by omega)
    have h2 := Int.mul_le_mul a2 b2 (by omega) (by omega)
    omega
  have e : lcF [4] lt__law_shared_0.f (evT (fnAt tbl 100000 (k+1)) lq__law_shared_0) (ev (fnAt tbl 100000 (k+1)) le__law_shared_0).r.val (Pv.intsFrom 0 (a * b).toNat) ⟨[.sh (encL a ps), .sh (encL b qs), .sh (.int ph), .sh (.int (a * b)), .no], S⟩ =
      .ok (.lst (((List.range (a * b).toNat).map fun (i : Nat) => loadI a ps (i : Int) + loadI b qs ((i : Int) - ph)).map .int), true) ⟨[.sh (encL a ps), .sh (encL b qs), .sh (.int ph), .sh (.int (a * b)), .no], S⟩ := by
    rw [lcF_map (fun d => some (.int (loadI a ps (intE d) + loadI b qs (intE d - ph)))) rfl (fun d hd => ?_) (by rw [sizeLine_eq, intsFrom_length]; omega)]
    · congr 2
      simp [Pv.intsFrom, intE, Function.comp_def]
    · obtain ⟨i, hi, rfl⟩ := intsFrom_mem hd
      obtain ⟨l, e1, hl⟩ := f_copies k a (0 + i) false false (prs ps) ps S (by omega) (by omega) (by omega) (lvs_enc ps) hg (by rw [prs_len]; omega)
      obtain ⟨m, e2, hm⟩ := f_copies k b (0 + i - ph) false false (prs qs) qs S (by omega) (by omega) (by omega) (lvs_enc qs) hh (by rw [prs_len]; omega)
      exact sh_el (k+1) (0 + i) ph _ _ (encL a ps) (encL b qs) (.int (a * b)) l m S e1 e2 hl hm
  have ne : ((List.range (a * b).toNat).map fun (i : Nat) => loadI a ps (i : Int) + loadI b qs ((i : Int) - ph)) ≠ [] := by
    intro h
    have := congrArg List.length h
    simp at this
    omega
  have mx := maxOf_lst ne
  have sm : sm62 (a * b) = true := by unfold sm62; simp; omega
  have ml := mulD_small a b (by omega)
  refine F_ok (fd := fd__law_shared) rfl ?_
  unfold sharedI
  generalize ((List.range (a * b).toNat).map fun (i : Nat) => loadI a ps (i : Int) + loadI b qs ((i : Int) - ph)) = l at e mx ⊢
  clear ne
  generalize maxI l = M0 at mx ⊢
  generalize l.map D.int = ld at e mx
  unfold fd__law_shared ir__law_shared
  rw [encL_eq, encL_eq] at *
  generalize prs ps = E1 at e ⊢
  generalize prs qs = E2 at e ⊢
  clear hg hh hz hz2 ha hb hp ab
  generalize a * b = ab at e sm ml ⊢
  generalize hm : lcF [4] lt__law_shared_0.f (evT (fnAt tbl 100000 (k+1)) lq__law_shared_0) (ev (fnAt tbl 100000 (k+1)) le__law_shared_0).r.val = F4 at e
  simp [evSs, evS, ev, evs, evO, evT, evI, Ev.of, bnd_ok, r_bind, r_pure, r_lift_s, r_val, r_inl, val_ok, inl_ok, res_l, res_r, r_var_sh, r_var_ow, r_mov_sh, r_mov_ow, r_pk_sh, r_pk_ow, r_peek_sh, r_peek_ow, r_seq, cont_next, cont_ret, r_ite, sel_t, sel_f, r_andB, r_orB, r_notB, r_andM, r_orR, r_notM, r_put, r_set, r_ret, retK_ap, r_drop, nextK_ap, r_asg, r_op, opK_ap, opK2_ap, r_opB, opBK_ap, opBK2_ap, r_un, unK_ap, r_truth, trK_ap, r_ix, ixK_ap, ixK2_ap, r_look_s, r_cons, consK_ap, consK2_ap, r_con, conK_ap, conK2_ap, r_callM, callK_ap, ress_nil, ress_cons, r_seqM, onlyV_nil, onlyV_cons, seqK_run, r_call, runF_ap, outS_ok, r_callF, fin_ret, fin_next, r_six, sixK_ap, sixK3_ap, nowS, gsP, gsV, dsA, Bop.g, Cop.g, Bif.g, K.d, addD, subD, divD, modD, negD, p64, intD, gtR, ltR, leR, geR, ltD, blD, blOf, M.look, ixS, ixD, cellAt, slOf, setAt, setOw, intOf, absD, lenD, ixN, atI, List.set, truthD, isiD, tyD, isTy, chM, chB, r_lc, r_for, r_it, itK_ap, r_sq, sqK_ap,  eqR_int, eqR_non, neR_int, eqR_bl, neR_bl, Option.map_some, Out.val, Out.inl, T.f, Ts.f, Ts.n, tupF, tcons, tnil, tnF_ap, lcT, sure_ok, M.sure, wipeF, wipeR, noOw, putR, r_sl, slK2_ap, slD, r_int, intK_ap, r_cell, cellO_ok, powD, parM, rsF, putAll, en_tup, en_lst, rg1_ok, rg2_ok, asgK_s, intsD_ints, tupOf, lstOf, seqD, mkT, mkL, np_tupled, np_rounds_between, np_load, np_loads, np_peak, np_shifted, np_written_out, np_joined, np_shared_peak, np_phase_peaks, np_best_phase, np_never_shares, np_peak_ticks, np_least_peak, np_even_births, np__law_box, np__law_take, np__law_cells, np__law_mixed, np__law_same, np__law_copies, np__law_loads, np__law_wide, np__law_shared, np_law, ml, sm, mx, hm, e]
end Law
namespace Law
open PySem L2 Pv
def keepI (c : Int → Bool) (f : Int → D) : D → Option D
  | .int i => if c i then some (f i) else none
  | _ => none
theorem keep_fm (c : Int → Bool) (f : Int → D) : ∀ l : List Int, (l.map D.int).filterMap (keepI c f) = (l.filter c).map f
  | [] => rfl
  | a :: l => by
    rw [List.map_cons, List.filterMap_cons, keep_fm c f l, List.filter_cons]
    cases h : c a <;> simp [keepI, h]
def ones (n : Nat) : List D := List.replicate n (.int 1)
theorem map_ones (l : List Int) : (l.map fun _ => D.int 1) = ones l.length := by
  induction l with
  | nil => rfl
  | cons a l ih => rw [List.map_cons, ih]; rfl
theorem ones_ne (n : Nat) : neR (.lst (ones n)) (.lst []) = some (blD (decide (0 < n))) := by
  have h : toPs (ones n) = some ((List.replicate n (1 : Int)).map PyData.int) := by
    have := toPs_ints (List.replicate n (1 : Int))
    rw [List.map_replicate] at this
    exact this
  rw [neR_lst0 h]
  cases n <;> rfl
def c6 (g ph t : Int) (ow : List Int) : Nat := (ow.filter fun o => decide ((o + ph - t).fmod g = 0)).length
def c5 (g ph : Int) (tk ow : List Int) : Nat := (tk.filter fun t => decide (0 < c6 g ph t ow)).length
def meetsB (g : Int) (tk ow : List Int) : List Bool := (List.range g.toNat).map fun (i : Nat) => decide (0 < c5 g (i : Int) tk ow)
theorem intsFrom1 : Pv.intsFrom 1 6 = ([1, 2, 3, 4, 5, 6] : List Int).map D.int := rfl

theorem atI_fun (g : Int) (f : Int → Int) (g1 : 1 ≤ g ∧ g ≤ 6) (z : Int) : L2.atI (((List.range g.toNat).map fun (i : Nat) => f (i : Int)).map D.int) (z.fmod g) = some (.int (f (z.fmod g))) := by
  have m0 := Int.fmod_nonneg_of_pos z (show 0 < g by omega)
  have m1 := Int.fmod_lt_of_pos z (show 0 < g by omega)
  generalize z.fmod g = m at m0 m1 ⊢
  obtain ⟨n, rfl⟩ : ∃ n : Nat, m = n := ⟨m.toNat, by omega⟩
  have hn : n < g.toNat := by omega
  unfold L2.atI L2.ixN
  simp only [List.length_map, List.length_range]
  rw [if_pos m0, if_pos (by omega)]
  simp [hn]
theorem lc0 (k : Nat) (a b : Int) (ps qs : List (Int × Int)) (x0 x1 x2 x3 x4 x5 x6 x7 x10 x11 x12 x13 x14 x15 x16 x18 x19 x20 : Sl) (S : List Cell) : lcF [17] lt_law_0.f (evT (fnAt tbl 100000 k) lq_law_0) (ev (fnAt tbl 100000 k) le_law_0).r.val (Pv.intsFrom 1 6) ⟨[x0, x1, x2, x3, x4, x5, x6, x7, .sh (encL a ps), .sh (encL b qs), x10, x11, x12, x13, x14, x15, x16, .no, x18, x19, x20], S⟩ = .ok (.lst ((cmn a b).map .int), true) ⟨[x0, x1, x2, x3, x4, x5, x6, x7, .sh (encL a ps), .sh (encL b qs), x10, x11, x12, x13, x14, x15, x16, .no, x18, x19, x20], S⟩ := by
  rw [lcF_map (keepI (fun o => decide (a.fmod o = 0) && decide (b.fmod o = 0)) D.int) rfl (fun d hd => ?_) (by rw [sizeLine_eq, intsFrom_length]; omega), intsFrom1, keep_fm]
  · rfl
  · obtain ⟨i, hi, rfl⟩ := intsFrom_mem hd
    have b0 : ¬ (1 + (i : Int)) = 0 := by omega
    have b1 : (1 + (i : Int)).natAbs < 1073741824 := by omega
    clear hd hi
    rw [encL_eq, encL_eq]
    generalize (1 : Int) + (i : Int) = o at b0 b1 ⊢
    generalize prs ps = P1
    generalize prs qs = P2
    simp only [lt_law_0, lq_law_0, le_law_0, keepI]
    by_cases q1 : a.fmod o = 0 <;> by_cases q2 : b.fmod o = 0 <;> simp [evSs, evS, ev, evs, evO, evT, evI, Ev.of, bnd_ok, r_bind, r_pure, r_lift_s, r_val, r_inl, val_ok, inl_ok, res_l, res_r, r_var_sh, r_var_ow, r_mov_sh, r_mov_ow, r_pk_sh, r_pk_ow, r_peek_sh, r_peek_ow, r_seq, cont_next, cont_ret, r_ite, sel_t, sel_f, r_andB, r_orB, r_notB, r_andM, r_orR, r_notM, r_put, r_set, r_ret, retK_ap, r_drop, nextK_ap, r_asg, r_op, opK_ap, opK2_ap, r_opB, opBK_ap, opBK2_ap, r_un, unK_ap, r_truth, trK_ap, r_ix, ixK_ap, ixK2_ap, r_look_s, r_cons, consK_ap, consK2_ap, r_con, conK_ap, conK2_ap, r_callM, callK_ap, ress_nil, ress_cons, r_seqM, onlyV_nil, onlyV_cons, seqK_run, r_call, runF_ap, outS_ok, r_callF, fin_ret, fin_next, r_six, sixK_ap, sixK3_ap, nowS, gsP, gsV, dsA, Bop.g, Cop.g, Bif.g, K.d, addD, subD, divD, modD, negD, p64, intD, gtR, ltR, leR, geR, ltD, blD, blOf, M.look, ixS, ixD, cellAt, slOf, setAt, setOw, intOf, absD, lenD, ixN, atI, List.set, truthD, isiD, tyD, isTy, chM, chB, r_lc, r_for, r_it, itK_ap, r_sq, sqK_ap,  eqR_int, eqR_non, neR_int, eqR_bl, neR_bl, Option.map_some, Out.val, Out.inl, T.f, Ts.f, Ts.n, tupF, tcons, tnil, tnF_ap, lcT, sure_ok, M.sure, wipeF, wipeR, noOw, putR, r_sl, slK2_ap, slD, r_int, intK_ap, r_cell, cellO_ok, powD, parM, rsF, putAll, en_tup, en_lst, rg1_ok, rg2_ok, asgK_s, intsD_ints, tupOf, lstOf, seqD, mkT, mkL, np_tupled, np_rounds_between, np_load, np_loads, np_peak, np_shifted, np_written_out, np_joined, np_shared_peak, np_phase_peaks, np_best_phase, np_never_shares, np_peak_ticks, np_least_peak, np_even_births, np__law_box, np__law_take, np__law_cells, np__law_mixed, np__law_same, np__law_copies, np__law_loads, np__law_wide, np__law_shared, np_law, b0, b1, q1, q2]
theorem el1 (k : Nat) (ph v : Int) (L1 L2 : D) (x0 x1 x2 x3 x4 x5 x6 x7 x10 x11 x12 x13 x14 x15 x17 x18 x19 x20 : Sl) (S : List Cell) (e : F k i__law_shared [L1, L2, .int ph] S = .ok (.int v, false) S) :
    lcT [16] lt_law_1.f (evT (fnAt tbl 100000 k) lq_law_1) (ev (fnAt tbl 100000 k) le_law_1).r.val (.int ph) ⟨[x0, x1, x2, x3, x4, x5, x6, x7, .sh L1, .sh L2, x10, x11, x12, x13, x14, x15, .no, x17, x18, x19, x20], S⟩ = some (some (.int v), ⟨[x0, x1, x2, x3, x4, x5, x6, x7, .sh L1, .sh L2, x10, x11, x12, x13, x14, x15, .no, x17, x18, x19, x20], S⟩) := by
  simp only [lt_law_1, lq_law_1, le_law_1]
  simp [evSs, evS, ev, evs, evO, evT, evI, Ev.of, bnd_ok, r_bind, r_pure, r_lift_s, r_val, r_inl, val_ok, inl_ok, res_l, res_r, r_var_sh, r_var_ow, r_mov_sh, r_mov_ow, r_pk_sh, r_pk_ow, r_peek_sh, r_peek_ow, r_seq, cont_next, cont_ret, r_ite, sel_t, sel_f, r_andB, r_orB, r_notB, r_andM, r_orR, r_notM, r_put, r_set, r_ret, retK_ap, r_drop, nextK_ap, r_asg, r_op, opK_ap, opK2_ap, r_opB, opBK_ap, opBK2_ap, r_un, unK_ap, r_truth, trK_ap, r_ix, ixK_ap, ixK2_ap, r_look_s, r_cons, consK_ap, consK2_ap, r_con, conK_ap, conK2_ap, r_callM, callK_ap, ress_nil, ress_cons, r_seqM, onlyV_nil, onlyV_cons, seqK_run, r_call, runF_ap, outS_ok, r_callF, fin_ret, fin_next, r_six, sixK_ap, sixK3_ap, nowS, gsP, gsV, dsA, Bop.g, Cop.g, Bif.g, K.d, addD, subD, divD, modD, negD, p64, intD, gtR, ltR, leR, geR, ltD, blD, blOf, M.look, ixS, ixD, cellAt, slOf, setAt, setOw, intOf, absD, lenD, ixN, atI, List.set, truthD, isiD, tyD, isTy, chM, chB, r_lc, r_for, r_it, itK_ap, r_sq, sqK_ap,  eqR_int, eqR_non, neR_int, eqR_bl, neR_bl, Option.map_some, Out.val, Out.inl, T.f, Ts.f, Ts.n, tupF, tcons, tnil, tnF_ap, lcT, sure_ok, M.sure, wipeF, wipeR, noOw, putR, r_sl, slK2_ap, slD, r_int, intK_ap, r_cell, cellO_ok, powD, parM, rsF, putAll, en_tup, en_lst, rg1_ok, rg2_ok, asgK_s, intsD_ints, tupOf, lstOf, seqD, mkT, mkL, np_tupled, np_rounds_between, np_load, np_loads, np_peak, np_shifted, np_written_out, np_joined, np_shared_peak, np_phase_peaks, np_best_phase, np_never_shares, np_peak_ticks, np_least_peak, np_even_births, np__law_box, np__law_take, np__law_cells, np__law_mixed, np__law_same, np__law_copies, np__law_loads, np__law_wide, np__law_shared, np_law, e]
theorem lc1 (k : Nat) (a b : Int) (ps qs : List (Int × Int)) (ha : 1 ≤ a ∧ a ≤ 6) (hb : 1 ≤ b ∧ b ≤ 6) (hg : ∀ p ∈ ps, good a p) (hh : ∀ p ∈ qs, good b p) (hz : ps.length ≤ 10) (hz2 : qs.length ≤ 10) (x0 x1 x2 x3 x4 x5 x6 x7 x10 x11 x12 x13 x14 x15 x17 x18 x19 x20 : Sl) (S : List Cell) :
    lcF [16] lt_law_1.f (evT (fnAt tbl 100000 (k+2)) lq_law_1) (ev (fnAt tbl 100000 (k+2)) le_law_1).r.val (Pv.intsFrom 0 (gI a b).toNat) ⟨[x0, x1, x2, x3, x4, x5, x6, x7, .sh (encL a ps), .sh (encL b qs), x10, x11, x12, x13, x14, x15, .no, x17, x18, x19, x20], S⟩ = .ok (.lst ((peaksI a b ps qs).map .int), true) ⟨[x0, x1, x2, x3, x4, x5, x6, x7, .sh (encL a ps), .sh (encL b qs), x10, x11, x12, x13, x14, x15, .no, x17, x18, x19, x20], S⟩ := by
  have X := six ha hb
  have g6 := X.g6
  have hp : posL ps := fun p h => by have := (hg p h).2.2.1; omega
  have hq : posL qs := fun p h => by have := (hh p h).2.2.1; omega
  rw [lcF_map (fun d => some (.int (pkP a b (intE d) ps qs))) rfl (fun d hd => ?_) (by rw [sizeLine_eq, intsFrom_length]; omega)]
  · congr 2
    simp [peaksI, Pv.intsFrom, intE, Function.comp_def]
  · obtain ⟨i, hi, rfl⟩ := intsFrom_mem hd
    have e := f_lshared k a b (0 + (i : Int)) ps qs S ha hb (by omega) hg hh hz hz2
    rw [shared_eq ha hb hp hq] at e
    exact el1 (k+2) (0 + (i : Int)) (pkP a b (0 + (i : Int)) ps qs) (encL a ps) (encL b qs) x0 x1 x2 x3 x4 x5 x6 x7 x10 x11 x12 x13 x14 x15 x17 x18 x19 x20 S e
theorem lc2ow (k : Nat) (l : List Int) (ne : l ≠ []) (hz : l.length ≤ 1000) (x0 x1 x2 x3 x4 x5 x6 x7 x8 x9 x10 x11 x13 x14 x15 x16 x17 x18 : Sl) (S : List Cell) :
    lcF [19, 20] lt_law_2.f (evT (fnAt tbl 100000 k) lq_law_2) (ev (fnAt tbl 100000 k) le_law_2).r.val (enumD 0 (l.map .int)) ⟨[x0, x1, x2, x3, x4, x5, x6, x7, x8, x9, x10, x11, .ow (.lst (l.map .int)), x13, x14, x15, x16, x17, x18, .no, .no], S⟩ = .ok (.lst ((ticksI (maxI l) 0 l).map .int), true) ⟨[x0, x1, x2, x3, x4, x5, x6, x7, x8, x9, x10, x11, .ow (.lst (l.map .int)), x13, x14, x15, x16, x17, x18, .no, .no], S⟩ := by
  have m := maxOf_lst ne
  rw [lcF_map (tkO (maxI l)) rfl (fun d hd => ?_) (by rw [sizeLine_eq, enumD_length, List.length_map]; omega), tk_fm]
  obtain ⟨i, x, rfl⟩ := en_int hd
  clear hd
  simp only [lt_law_2, lq_law_2, le_law_2, tkO]
  generalize maxI l = M0 at m ⊢
  generalize l.map D.int = rows at m ⊢
  by_cases c : x = M0 <;> simp [evSs, evS, ev, evs, evO, evT, evI, Ev.of, bnd_ok, r_bind, r_pure, r_lift_s, r_val, r_inl, val_ok, inl_ok, res_l, res_r, r_var_sh, r_var_ow, r_mov_sh, r_mov_ow, r_pk_sh, r_pk_ow, r_peek_sh, r_peek_ow, r_seq, cont_next, cont_ret, r_ite, sel_t, sel_f, r_andB, r_orB, r_notB, r_andM, r_orR, r_notM, r_put, r_set, r_ret, retK_ap, r_drop, nextK_ap, r_asg, r_op, opK_ap, opK2_ap, r_opB, opBK_ap, opBK2_ap, r_un, unK_ap, r_truth, trK_ap, r_ix, ixK_ap, ixK2_ap, r_look_s, r_cons, consK_ap, consK2_ap, r_con, conK_ap, conK2_ap, r_callM, callK_ap, ress_nil, ress_cons, r_seqM, onlyV_nil, onlyV_cons, seqK_run, r_call, runF_ap, outS_ok, r_callF, fin_ret, fin_next, r_six, sixK_ap, sixK3_ap, nowS, gsP, gsV, dsA, Bop.g, Cop.g, Bif.g, K.d, addD, subD, divD, modD, negD, p64, intD, gtR, ltR, leR, geR, ltD, blD, blOf, M.look, ixS, ixD, cellAt, slOf, setAt, setOw, intOf, absD, lenD, ixN, atI, List.set, truthD, isiD, tyD, isTy, chM, chB, r_lc, r_for, r_it, itK_ap, r_sq, sqK_ap,  eqR_int, eqR_non, neR_int, eqR_bl, neR_bl, Option.map_some, Out.val, Out.inl, T.f, Ts.f, Ts.n, tupF, tcons, tnil, tnF_ap, lcT, sure_ok, M.sure, wipeF, wipeR, noOw, putR, r_sl, slK2_ap, slD, r_int, intK_ap, r_cell, cellO_ok, powD, parM, rsF, putAll, en_tup, en_lst, rg1_ok, rg2_ok, asgK_s, intsD_ints, tupOf, lstOf, seqD, mkT, mkL, np_tupled, np_rounds_between, np_load, np_loads, np_peak, np_shifted, np_written_out, np_joined, np_shared_peak, np_phase_peaks, np_best_phase, np_never_shares, np_peak_ticks, np_least_peak, np_even_births, np__law_box, np__law_take, np__law_cells, np__law_mixed, np__law_same, np__law_copies, np__law_loads, np__law_wide, np__law_shared, np_law, m, c]
theorem lc2sh (k : Nat) (l : List Int) (ne : l ≠ []) (hz : l.length ≤ 1000) (x0 x1 x2 x3 x4 x5 x6 x7 x8 x9 x10 x11 x13 x14 x15 x16 x17 x18 : Sl) (S : List Cell) :
    lcF [19, 20] lt_law_2.f (evT (fnAt tbl 100000 k) lq_law_2) (ev (fnAt tbl 100000 k) le_law_2).r.val (enumD 0 (l.map .int)) ⟨[x0, x1, x2, x3, x4, x5, x6, x7, x8, x9, x10, x11, .sh (.lst (l.map .int)), x13, x14, x15, x16, x17, x18, .no, .no], S⟩ = .ok (.lst ((ticksI (maxI l) 0 l).map .int), true) ⟨[x0, x1, x2, x3, x4, x5, x6, x7, x8, x9, x10, x11, .sh (.lst (l.map .int)), x13, x14, x15, x16, x17, x18, .no, .no], S⟩ := by
  have m := maxOf_lst ne
  rw [lcF_map (tkO (maxI l)) rfl (fun d hd => ?_) (by rw [sizeLine_eq, enumD_length, List.length_map]; omega), tk_fm]
  obtain ⟨i, x, rfl⟩ := en_int hd
  clear hd
  simp only [lt_law_2, lq_law_2, le_law_2, tkO]
  generalize maxI l = M0 at m ⊢
  generalize l.map D.int = rows at m ⊢
  by_cases c : x = M0 <;> simp [evSs, evS, ev, evs, evO, evT, evI, Ev.of, bnd_ok, r_bind, r_pure, r_lift_s, r_val, r_inl, val_ok, inl_ok, res_l, res_r, r_var_sh, r_var_ow, r_mov_sh, r_mov_ow, r_pk_sh, r_pk_ow, r_peek_sh, r_peek_ow, r_seq, cont_next, cont_ret, r_ite, sel_t, sel_f, r_andB, r_orB, r_notB, r_andM, r_orR, r_notM, r_put, r_set, r_ret, retK_ap, r_drop, nextK_ap, r_asg, r_op, opK_ap, opK2_ap, r_opB, opBK_ap, opBK2_ap, r_un, unK_ap, r_truth, trK_ap, r_ix, ixK_ap, ixK2_ap, r_look_s, r_cons, consK_ap, consK2_ap, r_con, conK_ap, conK2_ap, r_callM, callK_ap, ress_nil, ress_cons, r_seqM, onlyV_nil, onlyV_cons, seqK_run, r_call, runF_ap, outS_ok, r_callF, fin_ret, fin_next, r_six, sixK_ap, sixK3_ap, nowS, gsP, gsV, dsA, Bop.g, Cop.g, Bif.g, K.d, addD, subD, divD, modD, negD, p64, intD, gtR, ltR, leR, geR, ltD, blD, blOf, M.look, ixS, ixD, cellAt, slOf, setAt, setOw, intOf, absD, lenD, ixN, atI, List.set, truthD, isiD, tyD, isTy, chM, chB, r_lc, r_for, r_it, itK_ap, r_sq, sqK_ap,  eqR_int, eqR_non, neR_int, eqR_bl, neR_bl, Option.map_some, Out.val, Out.inl, T.f, Ts.f, Ts.n, tupF, tcons, tnil, tnF_ap, lcT, sure_ok, M.sure, wipeF, wipeR, noOw, putR, r_sl, slK2_ap, slD, r_int, intK_ap, r_cell, cellO_ok, powD, parM, rsF, putAll, en_tup, en_lst, rg1_ok, rg2_ok, asgK_s, intsD_ints, tupOf, lstOf, seqD, mkT, mkL, np_tupled, np_rounds_between, np_load, np_loads, np_peak, np_shifted, np_written_out, np_joined, np_shared_peak, np_phase_peaks, np_best_phase, np_never_shares, np_peak_ticks, np_least_peak, np_even_births, np__law_box, np__law_take, np__law_cells, np__law_mixed, np__law_same, np__law_copies, np__law_loads, np__law_wide, np__law_shared, np_law, m, c]
theorem lc3ow (k : Nat) (l : List Int) (ne : l ≠ []) (hz : l.length ≤ 1000) (x0 x1 x2 x3 x4 x5 x6 x7 x8 x9 x10 x11 x12 x14 x15 x16 x17 x18 : Sl) (S : List Cell) :
    lcF [19, 20] lt_law_3.f (evT (fnAt tbl 100000 k) lq_law_3) (ev (fnAt tbl 100000 k) le_law_3).r.val (enumD 0 (l.map .int)) ⟨[x0, x1, x2, x3, x4, x5, x6, x7, x8, x9, x10, x11, x12, .ow (.lst (l.map .int)), x14, x15, x16, x17, x18, .no, .no], S⟩ = .ok (.lst ((ticksI (maxI l) 0 l).map .int), true) ⟨[x0, x1, x2, x3, x4, x5, x6, x7, x8, x9, x10, x11, x12, .ow (.lst (l.map .int)), x14, x15, x16, x17, x18, .no, .no], S⟩ := by
  have m := maxOf_lst ne
  rw [lcF_map (tkO (maxI l)) rfl (fun d hd => ?_) (by rw [sizeLine_eq, enumD_length, List.length_map]; omega), tk_fm]
  obtain ⟨i, x, rfl⟩ := en_int hd
  clear hd
  simp only [lt_law_3, lq_law_3, le_law_3, tkO]
  generalize maxI l = M0 at m ⊢
  generalize l.map D.int = rows at m ⊢
  by_cases c : x = M0 <;> simp [evSs, evS, ev, evs, evO, evT, evI, Ev.of, bnd_ok, r_bind, r_pure, r_lift_s, r_val, r_inl, val_ok, inl_ok, res_l, res_r, r_var_sh, r_var_ow, r_mov_sh, r_mov_ow, r_pk_sh, r_pk_ow, r_peek_sh, r_peek_ow, r_seq, cont_next, cont_ret, r_ite, sel_t, sel_f, r_andB, r_orB, r_notB, r_andM, r_orR, r_notM, r_put, r_set, r_ret, retK_ap, r_drop, nextK_ap, r_asg, r_op, opK_ap, opK2_ap, r_opB, opBK_ap, opBK2_ap, r_un, unK_ap, r_truth, trK_ap, r_ix, ixK_ap, ixK2_ap, r_look_s, r_cons, consK_ap, consK2_ap, r_con, conK_ap, conK2_ap, r_callM, callK_ap, ress_nil, ress_cons, r_seqM, onlyV_nil, onlyV_cons, seqK_run, r_call, runF_ap, outS_ok, r_callF, fin_ret, fin_next, r_six, sixK_ap, sixK3_ap, nowS, gsP, gsV, dsA, Bop.g, Cop.g, Bif.g, K.d, addD, subD, divD, modD, negD, p64, intD, gtR, ltR, leR, geR, ltD, blD, blOf, M.look, ixS, ixD, cellAt, slOf, setAt, setOw, intOf, absD, lenD, ixN, atI, List.set, truthD, isiD, tyD, isTy, chM, chB, r_lc, r_for, r_it, itK_ap, r_sq, sqK_ap,  eqR_int, eqR_non, neR_int, eqR_bl, neR_bl, Option.map_some, Out.val, Out.inl, T.f, Ts.f, Ts.n, tupF, tcons, tnil, tnF_ap, lcT, sure_ok, M.sure, wipeF, wipeR, noOw, putR, r_sl, slK2_ap, slD, r_int, intK_ap, r_cell, cellO_ok, powD, parM, rsF, putAll, en_tup, en_lst, rg1_ok, rg2_ok, asgK_s, intsD_ints, tupOf, lstOf, seqD, mkT, mkL, np_tupled, np_rounds_between, np_load, np_loads, np_peak, np_shifted, np_written_out, np_joined, np_shared_peak, np_phase_peaks, np_best_phase, np_never_shares, np_peak_ticks, np_least_peak, np_even_births, np__law_box, np__law_take, np__law_cells, np__law_mixed, np__law_same, np__law_copies, np__law_loads, np__law_wide, np__law_shared, np_law, m, c]
theorem lc3sh (k : Nat) (l : List Int) (ne : l ≠ []) (hz : l.length ≤ 1000) (x0 x1 x2 x3 x4 x5 x6 x7 x8 x9 x10 x11 x12 x14 x15 x16 x17 x18 : Sl) (S : List Cell) :
    lcF [19, 20] lt_law_3.f (evT (fnAt tbl 100000 k) lq_law_3) (ev (fnAt tbl 100000 k) le_law_3).r.val (enumD 0 (l.map .int)) ⟨[x0, x1, x2, x3, x4, x5, x6, x7, x8, x9, x10, x11, x12, .sh (.lst (l.map .int)), x14, x15, x16, x17, x18, .no, .no], S⟩ = .ok (.lst ((ticksI (maxI l) 0 l).map .int), true) ⟨[x0, x1, x2, x3, x4, x5, x6, x7, x8, x9, x10, x11, x12, .sh (.lst (l.map .int)), x14, x15, x16, x17, x18, .no, .no], S⟩ := by
  have m := maxOf_lst ne
  rw [lcF_map (tkO (maxI l)) rfl (fun d hd => ?_) (by rw [sizeLine_eq, enumD_length, List.length_map]; omega), tk_fm]
  obtain ⟨i, x, rfl⟩ := en_int hd
  clear hd
  simp only [lt_law_3, lq_law_3, le_law_3, tkO]
  generalize maxI l = M0 at m ⊢
  generalize l.map D.int = rows at m ⊢
  by_cases c : x = M0 <;> simp [evSs, evS, ev, evs, evO, evT, evI, Ev.of, bnd_ok, r_bind, r_pure, r_lift_s, r_val, r_inl, val_ok, inl_ok, res_l, res_r, r_var_sh, r_var_ow, r_mov_sh, r_mov_ow, r_pk_sh, r_pk_ow, r_peek_sh, r_peek_ow, r_seq, cont_next, cont_ret, r_ite, sel_t, sel_f, r_andB, r_orB, r_notB, r_andM, r_orR, r_notM, r_put, r_set, r_ret, retK_ap, r_drop, nextK_ap, r_asg, r_op, opK_ap, opK2_ap, r_opB, opBK_ap, opBK2_ap, r_un, unK_ap, r_truth, trK_ap, r_ix, ixK_ap, ixK2_ap, r_look_s, r_cons, consK_ap, consK2_ap, r_con, conK_ap, conK2_ap, r_callM, callK_ap, ress_nil, ress_cons, r_seqM, onlyV_nil, onlyV_cons, seqK_run, r_call, runF_ap, outS_ok, r_callF, fin_ret, fin_next, r_six, sixK_ap, sixK3_ap, nowS, gsP, gsV, dsA, Bop.g, Cop.g, Bif.g, K.d, addD, subD, divD, modD, negD, p64, intD, gtR, ltR, leR, geR, ltD, blD, blOf, M.look, ixS, ixD, cellAt, slOf, setAt, setOw, intOf, absD, lenD, ixN, atI, List.set, truthD, isiD, tyD, isTy, chM, chB, r_lc, r_for, r_it, itK_ap, r_sq, sqK_ap,  eqR_int, eqR_non, neR_int, eqR_bl, neR_bl, Option.map_some, Out.val, Out.inl, T.f, Ts.f, Ts.n, tupF, tcons, tnil, tnF_ap, lcT, sure_ok, M.sure, wipeF, wipeR, noOw, putR, r_sl, slK2_ap, slD, r_int, intK_ap, r_cell, cellO_ok, powD, parM, rsF, putAll, en_tup, en_lst, rg1_ok, rg2_ok, asgK_s, intsD_ints, tupOf, lstOf, seqD, mkT, mkL, np_tupled, np_rounds_between, np_load, np_loads, np_peak, np_shifted, np_written_out, np_joined, np_shared_peak, np_phase_peaks, np_best_phase, np_never_shares, np_peak_ticks, np_least_peak, np_even_births, np__law_box, np__law_take, np__law_cells, np__law_mixed, np__law_same, np__law_copies, np__law_loads, np__law_wide, np__law_shared, np_law, m, c]
theorem lcL_same {vs : List Nat} {t : Tf} {tt : M Bool} {te : M D} {ρ : List Sl} {S : List Cell} (h : D → Option D) : ∀ (ds acc : List D), acc.length + ds.length ≤ 16777216 → (∀ d ∈ ds, lcT vs t tt te d ⟨ρ, S⟩ = some (h d, ⟨ρ, S⟩)) →
    lcL vs t tt te ds acc ⟨ρ, S⟩ = some (acc ++ ds.filterMap h, ⟨ρ, S⟩)
  | [], acc, _, _ => by simp [lcL]
  | d :: ds, acc, hz, hs => by
    unfold lcL
    rw [hs d List.mem_cons_self]
    rw [List.length_cons] at hz
    cases e : h d with
    | none =>
      show lcL vs t tt te ds acc ⟨ρ, S⟩ = _
      rw [lcL_same h ds acc (by omega) fun e he => hs e (List.mem_cons_of_mem _ he)]
      simp [e]
    | some y =>
      show (if acc.length < sizeLine then _ else _) = _
      rw [if_pos (by rw [sizeLine_eq]; omega), lcL_same h ds (acc ++ [y]) (by simp; omega) fun e he => hs e (List.mem_cons_of_mem _ he)]
      simp [e]
theorem lcF_two {vs : List Nat} {t : Tf} {tt : M Bool} {te : M D} {ρ ρa ρb ρc : List Sl} {S : List Cell} {ds : List D} (h : D → Option D) (hw : (vs.all fun v => noOw ρ[v]?) = true) (ha : wipeR ρ vs = ρa) (hc : restR ρ ρb vs = ρc) (ne : ds ≠ []) (hz : ds.length ≤ 1000)
    (hs : ∀ d ∈ ds, ∀ r, r = ρa ∨ r = ρb → lcT vs t tt te d ⟨r, S⟩ = some (h d, ⟨ρb, S⟩)) : lcF vs t tt te ds ⟨ρ, S⟩ = .ok (.lst (ds.filterMap h), true) ⟨ρc, S⟩ := by
  subst ha hc
  have e : lcL vs t tt te ds [] ⟨wipeR ρ vs, S⟩ = some (ds.filterMap h, ⟨ρb, S⟩) := by
    cases ds with
    | nil => exact absurd rfl ne
    | cons d ds =>
      unfold lcL
      rw [hs d List.mem_cons_self _ (.inl rfl)]
      rw [List.length_cons] at hz
      have hr : ∀ e ∈ ds, lcT vs t tt te e ⟨ρb, S⟩ = some (h e, ⟨ρb, S⟩) := fun e he => hs e (List.mem_cons_of_mem _ he) _ (.inr rfl)
      cases e : h d with
      | none =>
        show lcL vs t tt te ds [] ⟨ρb, S⟩ = _
        rw [lcL_same h ds [] (by simp; omega) hr]
        simp [e]
      | some y =>
        show (if ([] : List D).length < sizeLine then lcL vs t tt te ds ([] ++ [y]) ⟨ρb, S⟩ else none) = _
        rw [if_pos (by rw [sizeLine_eq]; simp), lcL_same h ds ([] ++ [y]) (by simp; omega) hr]
        simp [e]
  unfold lcF
  have e0 : wipeF vs ⟨ρ, S⟩ = some ⟨wipeR ρ vs, S⟩ := if_pos hw
  rw [e0]
  simp only [Option.bind_some, e]
def Two (x : Sl) (d : D) : Prop := x = .ow d ∨ x = .sh d
theorem lc6 (k : Nat) (g ph t : Int) (ow : List Int) (g1 : 1 ≤ g ∧ g ≤ 6) (hz : ow.length ≤ 1000) (x0 x1 x3 x4 x5 x6 x7 x8 x9 x10 x11 x12 x13 x14 x18 x20 : Sl) (S : List Cell) :
    lcF [17] lt_law_6.f (evT (fnAt tbl 100000 k) lq_law_6) (ev (fnAt tbl 100000 k) le_law_6).r.val (ow.map .int) ⟨[x0, x1, .sh (.int g), x3, x4, x5, x6, x7, x8, x9, x10, x11, x12, x13, x14, .sh (.lst (ow.map .int)), .sh (.int ph), .no, x18, .sh (.int t), x20], S⟩ = .ok (.lst (ones (c6 g ph t ow)), true) ⟨[x0, x1, .sh (.int g), x3, x4, x5, x6, x7, x8, x9, x10, x11, x12, x13, x14, .sh (.lst (ow.map .int)), .sh (.int ph), .no, x18, .sh (.int t), x20], S⟩ := by
  have b0 : ¬ g = 0 := by omega
  have b1 : g.natAbs < 1073741824 := by omega
  rw [lcF_map (keepI (fun o => decide ((o + ph - t).fmod g = 0)) fun _ => D.int 1) rfl (fun d hd => ?_) (by rw [sizeLine_eq, List.length_map]; omega), keep_fm, map_ones]
  · rfl
  · obtain ⟨i, hi, rfl⟩ := List.mem_map.mp hd
    clear hd hi
    simp only [lt_law_6, lq_law_6, le_law_6, keepI]
    generalize ow.map D.int = OW
    by_cases q1 : (i + ph - t).fmod g = 0 <;> simp [evSs, evS, ev, evs, evO, evT, evI, Ev.of, bnd_ok, r_bind, r_pure, r_lift_s, r_val, r_inl, val_ok, inl_ok, res_l, res_r, r_var_sh, r_var_ow, r_mov_sh, r_mov_ow, r_pk_sh, r_pk_ow, r_peek_sh, r_peek_ow, r_seq, cont_next, cont_ret, r_ite, sel_t, sel_f, r_andB, r_orB, r_notB, r_andM, r_orR, r_notM, r_put, r_set, r_ret, retK_ap, r_drop, nextK_ap, r_asg, r_op, opK_ap, opK2_ap, r_opB, opBK_ap, opBK2_ap, r_un, unK_ap, r_truth, trK_ap, r_ix, ixK_ap, ixK2_ap, r_look_s, r_cons, consK_ap, consK2_ap, r_con, conK_ap, conK2_ap, r_callM, callK_ap, ress_nil, ress_cons, r_seqM, onlyV_nil, onlyV_cons, seqK_run, r_call, runF_ap, outS_ok, r_callF, fin_ret, fin_next, r_six, sixK_ap, sixK3_ap, nowS, gsP, gsV, dsA, Bop.g, Cop.g, Bif.g, K.d, addD, subD, divD, modD, negD, p64, intD, gtR, ltR, leR, geR, ltD, blD, blOf, M.look, ixS, ixD, cellAt, slOf, setAt, setOw, intOf, absD, lenD, ixN, atI, List.set, truthD, isiD, tyD, isTy, chM, chB, r_lc, r_for, r_it, itK_ap, r_sq, sqK_ap,  eqR_int, eqR_non, neR_int, eqR_bl, neR_bl, Option.map_some, Out.val, Out.inl, T.f, Ts.f, Ts.n, tupF, tcons, tnil, tnF_ap, lcT, sure_ok, M.sure, wipeF, wipeR, noOw, putR, r_sl, slK2_ap, slD, r_int, intK_ap, r_cell, cellO_ok, powD, parM, rsF, putAll, en_tup, en_lst, rg1_ok, rg2_ok, asgK_s, intsD_ints, tupOf, lstOf, seqD, mkT, mkL, np_tupled, np_rounds_between, np_load, np_loads, np_peak, np_shifted, np_written_out, np_joined, np_shared_peak, np_phase_peaks, np_best_phase, np_never_shares, np_peak_ticks, np_least_peak, np_even_births, np__law_box, np__law_take, np__law_cells, np__law_mixed, np__law_same, np__law_copies, np__law_loads, np__law_wide, np__law_shared, np_law, b0, b1, q1]
theorem el5 (k n : Nat) (t : Int) (g ph TK : D) (OW : List D) (x0 x1 x3 x4 x5 x6 x7 x8 x9 x10 x11 x12 x13 x18 x20 : Sl) (x15 : Sl) (S : List Cell) (h : Two x15 (.lst OW))
    (e : lcF [17] lt_law_6.f (evT (fnAt tbl 100000 k) lq_law_6) (ev (fnAt tbl 100000 k) le_law_6).r.val OW ⟨[x0, x1, .sh g, x3, x4, x5, x6, x7, x8, x9, x10, x11, x12, x13, .sh TK, .sh (.lst OW), .sh ph, .no, x18, .sh (.int t), x20], S⟩ = .ok (.lst (ones n), true) ⟨[x0, x1, .sh g, x3, x4, x5, x6, x7, x8, x9, x10, x11, x12, x13, .sh TK, .sh (.lst OW), .sh ph, .no, x18, .sh (.int t), x20], S⟩) :
    lcT [19] lt_law_5.f (evT (fnAt tbl 100000 k) lq_law_5) (ev (fnAt tbl 100000 k) le_law_5).r.val (.int t) ⟨[x0, x1, .sh g, x3, x4, x5, x6, x7, x8, x9, x10, x11, x12, x13, .sh TK, x15, .sh ph, .no, x18, .no, x20], S⟩ = some (if decide (0 < n) then some (.int 1) else none, ⟨[x0, x1, .sh g, x3, x4, x5, x6, x7, x8, x9, x10, x11, x12, x13, .sh TK, .sh (.lst OW), .sh ph, .no, x18, .no, x20], S⟩) := by
  have q := ones_ne n
  simp only [lt_law_5, lq_law_5, le_law_5]
  generalize hm : lcF [17] lt_law_6.f (evT (fnAt tbl 100000 k) lq_law_6) (ev (fnAt tbl 100000 k) le_law_6).r.val OW = F6 at e
  generalize ones n = on at e q
  rcases h with rfl | rfl <;> by_cases c : 0 < n <;> simp only [c, decide_true, decide_false] at q ⊢ <;> simp [evSs, evS, ev, evs, evO, evT, evI, Ev.of, bnd_ok, r_bind, r_pure, r_lift_s, r_val, r_inl, val_ok, inl_ok, res_l, res_r, r_var_sh, r_var_ow, r_mov_sh, r_mov_ow, r_pk_sh, r_pk_ow, r_peek_sh, r_peek_ow, r_seq, cont_next, cont_ret, r_ite, sel_t, sel_f, r_andB, r_orB, r_notB, r_andM, r_orR, r_notM, r_put, r_set, r_ret, retK_ap, r_drop, nextK_ap, r_asg, r_op, opK_ap, opK2_ap, r_opB, opBK_ap, opBK2_ap, r_un, unK_ap, r_truth, trK_ap, r_ix, ixK_ap, ixK2_ap, r_look_s, r_cons, consK_ap, consK2_ap, r_con, conK_ap, conK2_ap, r_callM, callK_ap, ress_nil, ress_cons, r_seqM, onlyV_nil, onlyV_cons, seqK_run, r_call, runF_ap, outS_ok, r_callF, fin_ret, fin_next, r_six, sixK_ap, sixK3_ap, nowS, gsP, gsV, dsA, Bop.g, Cop.g, Bif.g, K.d, addD, subD, divD, modD, negD, p64, intD, gtR, ltR, leR, geR, ltD, blD, blOf, M.look, ixS, ixD, cellAt, slOf, setAt, setOw, intOf, absD, lenD, ixN, atI, List.set, truthD, isiD, tyD, isTy, chM, chB, r_lc, r_for, r_it, itK_ap, r_sq, sqK_ap,  eqR_int, eqR_non, neR_int, eqR_bl, neR_bl, Option.map_some, Out.val, Out.inl, T.f, Ts.f, Ts.n, tupF, tcons, tnil, tnF_ap, lcT, sure_ok, M.sure, wipeF, wipeR, noOw, putR, r_sl, slK2_ap, slD, r_int, intK_ap, r_cell, cellO_ok, powD, parM, rsF, putAll, en_tup, en_lst, rg1_ok, rg2_ok, asgK_s, intsD_ints, tupOf, lstOf, seqD, mkT, mkL, np_tupled, np_rounds_between, np_load, np_loads, np_peak, np_shifted, np_written_out, np_joined, np_shared_peak, np_phase_peaks, np_best_phase, np_never_shares, np_peak_ticks, np_least_peak, np_even_births, np__law_box, np__law_take, np__law_cells, np__law_mixed, np__law_same, np__law_copies, np__law_loads, np__law_wide, np__law_shared, np_law, hm, e, q]
theorem lc5 (k : Nat) (g ph : Int) (tk ow : List Int) (g1 : 1 ≤ g ∧ g ≤ 6) (hz : ow.length ≤ 1000) (hz2 : tk.length ≤ 1000) (ne : tk ≠ []) (x0 x1 x3 x4 x5 x6 x7 x8 x9 x10 x11 x12 x13 x18 x20 : Sl) (x15 : Sl) (S : List Cell) (h : Two x15 (.lst (ow.map .int))) :
    lcF [19] lt_law_5.f (evT (fnAt tbl 100000 k) lq_law_5) (ev (fnAt tbl 100000 k) le_law_5).r.val (tk.map .int) ⟨[x0, x1, .sh (.int g), x3, x4, x5, x6, x7, x8, x9, x10, x11, x12, x13, .sh (.lst (tk.map .int)), x15, .sh (.int ph), .no, x18, .no, x20], S⟩ = .ok (.lst (ones (c5 g ph tk ow)), true) ⟨[x0, x1, .sh (.int g), x3, x4, x5, x6, x7, x8, x9, x10, x11, x12, x13, .sh (.lst (tk.map .int)), .sh (.lst (ow.map .int)), .sh (.int ph), .no, x18, .no, x20], S⟩ := by
  rw [lcF_two (keepI (fun t => decide (0 < c6 g ph t ow)) fun _ => D.int 1) (ρa := [x0, x1, .sh (.int g), x3, x4, x5, x6, x7, x8, x9, x10, x11, x12, x13, .sh (.lst (tk.map .int)), x15, .sh (.int ph), .no, x18, .no, x20]) (ρb := [x0, x1, .sh (.int g), x3, x4, x5, x6, x7, x8, x9, x10, x11, x12, x13, .sh (.lst (tk.map .int)), .sh (.lst (ow.map .int)), .sh (.int ph), .no, x18, .no, x20]) (ρc := [x0, x1, .sh (.int g), x3, x4, x5, x6, x7, x8, x9, x10, x11, x12, x13, .sh (.lst (tk.map .int)), .sh (.lst (ow.map .int)), .sh (.int ph), .no, x18, .no, x20]) rfl rfl rfl (by simpa using ne) (by rw [List.length_map]; omega) (fun d hd r hr => ?_), keep_fm, map_ones]
  · rfl
  · obtain ⟨i, hi, rfl⟩ := List.mem_map.mp hd
    have e := lc6 k g ph i ow g1 hz x0 x1 x3 x4 x5 x6 x7 x8 x9 x10 x11 x12 x13 (.sh (.lst (tk.map .int))) x18 x20 S
    rcases hr with rfl | rfl
    · exact el5 k (c6 g ph i ow) i (.int g) (.int ph) (.lst (tk.map .int)) (ow.map .int) x0 x1 x3 x4 x5 x6 x7 x8 x9 x10 x11 x12 x13 x18 x20 x15 S h e
    · exact el5 k (c6 g ph i ow) i (.int g) (.int ph) (.lst (tk.map .int)) (ow.map .int) x0 x1 x3 x4 x5 x6 x7 x8 x9 x10 x11 x12 x13 x18 x20 (.sh (.lst (ow.map .int))) S (.inr rfl) e
theorem el4 (k n : Nat) (ph : Int) (g OW : D) (TK : List D) (x0 x1 x3 x4 x5 x6 x7 x8 x9 x10 x11 x12 x13 x18 x20 : Sl) (x14 x15 : Sl) (S : List Cell) (h : Two x14 (.lst TK))
    (e : lcF [19] lt_law_5.f (evT (fnAt tbl 100000 k) lq_law_5) (ev (fnAt tbl 100000 k) le_law_5).r.val TK ⟨[x0, x1, .sh g, x3, x4, x5, x6, x7, x8, x9, x10, x11, x12, x13, .sh (.lst TK), x15, .sh (.int ph), .no, x18, .no, x20], S⟩ = .ok (.lst (ones n), true) ⟨[x0, x1, .sh g, x3, x4, x5, x6, x7, x8, x9, x10, x11, x12, x13, .sh (.lst TK), .sh OW, .sh (.int ph), .no, x18, .no, x20], S⟩) :
    lcT [16] lt_law_4.f (evT (fnAt tbl 100000 k) lq_law_4) (ev (fnAt tbl 100000 k) le_law_4).r.val (.int ph) ⟨[x0, x1, .sh g, x3, x4, x5, x6, x7, x8, x9, x10, x11, x12, x13, x14, x15, .no, .no, x18, .no, x20], S⟩ = some (some (.bl (decide (0 < n))), ⟨[x0, x1, .sh g, x3, x4, x5, x6, x7, x8, x9, x10, x11, x12, x13, .sh (.lst TK), .sh OW, .no, .no, x18, .no, x20], S⟩) := by
  have q := ones_ne n
  simp only [lt_law_4, lq_law_4, le_law_4]
  generalize hm : lcF [19] lt_law_5.f (evT (fnAt tbl 100000 k) lq_law_5) (ev (fnAt tbl 100000 k) le_law_5).r.val TK = F6 at e
  generalize ones n = on at e q
  rcases h with rfl | rfl <;> by_cases c : 0 < n <;> simp only [c, decide_true, decide_false] at q ⊢ <;> simp [evSs, evS, ev, evs, evO, evT, evI, Ev.of, bnd_ok, r_bind, r_pure, r_lift_s, r_val, r_inl, val_ok, inl_ok, res_l, res_r, r_var_sh, r_var_ow, r_mov_sh, r_mov_ow, r_pk_sh, r_pk_ow, r_peek_sh, r_peek_ow, r_seq, cont_next, cont_ret, r_ite, sel_t, sel_f, r_andB, r_orB, r_notB, r_andM, r_orR, r_notM, r_put, r_set, r_ret, retK_ap, r_drop, nextK_ap, r_asg, r_op, opK_ap, opK2_ap, r_opB, opBK_ap, opBK2_ap, r_un, unK_ap, r_truth, trK_ap, r_ix, ixK_ap, ixK2_ap, r_look_s, r_cons, consK_ap, consK2_ap, r_con, conK_ap, conK2_ap, r_callM, callK_ap, ress_nil, ress_cons, r_seqM, onlyV_nil, onlyV_cons, seqK_run, r_call, runF_ap, outS_ok, r_callF, fin_ret, fin_next, r_six, sixK_ap, sixK3_ap, nowS, gsP, gsV, dsA, Bop.g, Cop.g, Bif.g, K.d, addD, subD, divD, modD, negD, p64, intD, gtR, ltR, leR, geR, ltD, blD, blOf, M.look, ixS, ixD, cellAt, slOf, setAt, setOw, intOf, absD, lenD, ixN, atI, List.set, truthD, isiD, tyD, isTy, chM, chB, r_lc, r_for, r_it, itK_ap, r_sq, sqK_ap,  eqR_int, eqR_non, neR_int, eqR_bl, neR_bl, Option.map_some, Out.val, Out.inl, T.f, Ts.f, Ts.n, tupF, tcons, tnil, tnF_ap, lcT, sure_ok, M.sure, wipeF, wipeR, noOw, putR, r_sl, slK2_ap, slD, r_int, intK_ap, r_cell, cellO_ok, powD, parM, rsF, putAll, en_tup, en_lst, rg1_ok, rg2_ok, asgK_s, intsD_ints, tupOf, lstOf, seqD, mkT, mkL, np_tupled, np_rounds_between, np_load, np_loads, np_peak, np_shifted, np_written_out, np_joined, np_shared_peak, np_phase_peaks, np_best_phase, np_never_shares, np_peak_ticks, np_least_peak, np_even_births, np__law_box, np__law_take, np__law_cells, np__law_mixed, np__law_same, np__law_copies, np__law_loads, np__law_wide, np__law_shared, np_law, hm, e, q]
theorem lc4 (k : Nat) (g : Int) (tk ow : List Int) (g1 : 1 ≤ g ∧ g ≤ 6) (hz : ow.length ≤ 1000) (hz2 : tk.length ≤ 1000) (ne : tk ≠ []) (x0 x1 x3 x4 x5 x6 x7 x8 x9 x10 x11 x12 x13 x18 x20 : Sl) (x14 x15 : Sl) (S : List Cell) (h : Two x14 (.lst (tk.map .int))) (h2 : Two x15 (.lst (ow.map .int))) :
    lcF [16] lt_law_4.f (evT (fnAt tbl 100000 k) lq_law_4) (ev (fnAt tbl 100000 k) le_law_4).r.val (Pv.intsFrom 0 g.toNat) ⟨[x0, x1, .sh (.int g), x3, x4, x5, x6, x7, x8, x9, x10, x11, x12, x13, x14, x15, .no, .no, x18, .no, x20], S⟩ = .ok (.lst ((meetsB g tk ow).map .bl), true) ⟨[x0, x1, .sh (.int g), x3, x4, x5, x6, x7, x8, x9, x10, x11, x12, x13, .sh (.lst (tk.map .int)), .sh (.lst (ow.map .int)), .no, .no, x18, .no, x20], S⟩ := by
  rw [lcF_two (fun d => some (.bl (decide (0 < c5 g (intE d) tk ow)))) (ρa := [x0, x1, .sh (.int g), x3, x4, x5, x6, x7, x8, x9, x10, x11, x12, x13, x14, x15, .no, .no, x18, .no, x20]) (ρb := [x0, x1, .sh (.int g), x3, x4, x5, x6, x7, x8, x9, x10, x11, x12, x13, .sh (.lst (tk.map .int)), .sh (.lst (ow.map .int)), .no, .no, x18, .no, x20]) (ρc := [x0, x1, .sh (.int g), x3, x4, x5, x6, x7, x8, x9, x10, x11, x12, x13, .sh (.lst (tk.map .int)), .sh (.lst (ow.map .int)), .no, .no, x18, .no, x20]) rfl rfl rfl (fun hh => by have := congrArg List.length hh; rw [intsFrom_length] at this; simp at this; omega) (by rw [intsFrom_length]; omega) (fun d hd r hr => ?_)]
  · congr 2
    simp [meetsB, Pv.intsFrom, intE, Function.comp_def]
    exact fun _ _ => rfl
  · obtain ⟨i, hi, rfl⟩ := intsFrom_mem hd
    rcases hr with rfl | rfl
    · exact el4 k (c5 g (0 + (i : Int)) tk ow) (0 + (i : Int)) (.int g) (.lst (ow.map .int)) (tk.map .int) x0 x1 x3 x4 x5 x6 x7 x8 x9 x10 x11 x12 x13 x18 x20 x14 x15 S h (lc5 k g (0 + (i : Int)) tk ow g1 hz hz2 ne x0 x1 x3 x4 x5 x6 x7 x8 x9 x10 x11 x12 x13 x18 x20 x15 S h2)
    · exact el4 k (c5 g (0 + (i : Int)) tk ow) (0 + (i : Int)) (.int g) (.lst (ow.map .int)) (tk.map .int) x0 x1 x3 x4 x5 x6 x7 x8 x9 x10 x11 x12 x13 x18 x20 (.sh (.lst (tk.map .int))) (.sh (.lst (ow.map .int))) S (.inr rfl) (lc5 k g (0 + (i : Int)) tk ow g1 hz hz2 ne x0 x1 x3 x4 x5 x6 x7 x8 x9 x10 x11 x12 x13 x18 x20 (.sh (.lst (ow.map .int))) S (.inr rfl))
theorem el7ow (k : Nat) (ph v : Int) (g : Int) (PK : List D) (b0 : ¬ g = 0) (b1 : g.natAbs < 1073741824) (h : L2.atI PK ((-ph).fmod g) = some (.int v)) (x0 x1 x4 x5 x6 x7 x8 x9 x10 x11 x12 x13 x14 x15 x17 x18 x19 x20 : Sl) (S : List Cell) :
    lcT [16] lt_law_7.f (evT (fnAt tbl 100000 k) lq_law_7) (ev (fnAt tbl 100000 k) le_law_7).r.val (.int ph) ⟨[x0, x1, .sh (.int g), .ow (.lst PK), x4, x5, x6, x7, x8, x9, x10, x11, x12, x13, x14, x15, .no, x17, x18, x19, x20], S⟩ = some (some (.int v), ⟨[x0, x1, .sh (.int g), .ow (.lst PK), x4, x5, x6, x7, x8, x9, x10, x11, x12, x13, x14, x15, .no, x17, x18, x19, x20], S⟩) := by
  simp only [lt_law_7, lq_law_7, le_law_7]
  simp [evSs, evS, ev, evs, evO, evT, evI, Ev.of, bnd_ok, r_bind, r_pure, r_lift_s, r_val, r_inl, val_ok, inl_ok, res_l, res_r, r_var_sh, r_var_ow, r_mov_sh, r_mov_ow, r_pk_sh, r_pk_ow, r_peek_sh, r_peek_ow, r_seq, cont_next, cont_ret, r_ite, sel_t, sel_f, r_andB, r_orB, r_notB, r_andM, r_orR, r_notM, r_put, r_set, r_ret, retK_ap, r_drop, nextK_ap, r_asg, r_op, opK_ap, opK2_ap, r_opB, opBK_ap, opBK2_ap, r_un, unK_ap, r_truth, trK_ap, r_ix, ixK_ap, ixK2_ap, r_look_s, r_cons, consK_ap, consK2_ap, r_con, conK_ap, conK2_ap, r_callM, callK_ap, ress_nil, ress_cons, r_seqM, onlyV_nil, onlyV_cons, seqK_run, r_call, runF_ap, outS_ok, r_callF, fin_ret, fin_next, r_six, sixK_ap, sixK3_ap, nowS, gsP, gsV, dsA, Bop.g, Cop.g, Bif.g, K.d, addD, subD, divD, modD, negD, p64, intD, gtR, ltR, leR, geR, ltD, blD, blOf, M.look, ixS, ixD, cellAt, slOf, setAt, setOw, intOf, absD, lenD, List.set, truthD, isiD, tyD, isTy, chM, chB, r_lc, r_for, r_it, itK_ap, r_sq, sqK_ap,  eqR_int, eqR_non, neR_int, eqR_bl, neR_bl, Option.map_some, Out.val, Out.inl, T.f, Ts.f, Ts.n, tupF, tcons, tnil, tnF_ap, lcT, sure_ok, M.sure, wipeF, wipeR, noOw, putR, r_sl, slK2_ap, slD, r_int, intK_ap, r_cell, cellO_ok, powD, parM, rsF, putAll, en_tup, en_lst, rg1_ok, rg2_ok, asgK_s, intsD_ints, tupOf, lstOf, seqD, mkT, mkL, np_tupled, np_rounds_between, np_load, np_loads, np_peak, np_shifted, np_written_out, np_joined, np_shared_peak, np_phase_peaks, np_best_phase, np_never_shares, np_peak_ticks, np_least_peak, np_even_births, np__law_box, np__law_take, np__law_cells, np__law_mixed, np__law_same, np__law_copies, np__law_loads, np__law_wide, np__law_shared, np_law, b0, b1, h]
theorem lc7ow (k : Nat) (g : Int) (pk : List Int) (f : Int → Int) (g1 : 1 ≤ g ∧ g ≤ 6) (hl : pk = (List.range g.toNat).map fun (i : Nat) => f (i : Int)) (x0 x1 x4 x5 x6 x7 x8 x9 x10 x11 x12 x13 x14 x15 x17 x18 x19 x20 : Sl) (S : List Cell) :
    lcF [16] lt_law_7.f (evT (fnAt tbl 100000 k) lq_law_7) (ev (fnAt tbl 100000 k) le_law_7).r.val (Pv.intsFrom 0 g.toNat) ⟨[x0, x1, .sh (.int g), .ow (.lst (pk.map .int)), x4, x5, x6, x7, x8, x9, x10, x11, x12, x13, x14, x15, .no, x17, x18, x19, x20], S⟩ = .ok (.lst (((List.range g.toNat).map fun (i : Nat) => f ((-(i : Int)).fmod g)).map .int), true) ⟨[x0, x1, .sh (.int g), .ow (.lst (pk.map .int)), x4, x5, x6, x7, x8, x9, x10, x11, x12, x13, x14, x15, .no, x17, x18, x19, x20], S⟩ := by
  rw [lcF_map (fun d => some (.int (f ((-intE d).fmod g)))) rfl (fun d hd => ?_) (by rw [sizeLine_eq, intsFrom_length]; omega)]
  · congr 2
    simp [Pv.intsFrom, intE, Function.comp_def]
  · obtain ⟨i, hi, rfl⟩ := intsFrom_mem hd
    exact el7ow k (0 + (i : Int)) (f ((-(0 + (i : Int))).fmod g)) g (pk.map .int) (by omega) (by omega) (by rw [hl]; exact atI_fun g f g1 _) x0 x1 x4 x5 x6 x7 x8 x9 x10 x11 x12 x13 x14 x15 x17 x18 x19 x20 S
theorem el7sh (k : Nat) (ph v : Int) (g : Int) (PK : List D) (b0 : ¬ g = 0) (b1 : g.natAbs < 1073741824) (h : L2.atI PK ((-ph).fmod g) = some (.int v)) (x0 x1 x4 x5 x6 x7 x8 x9 x10 x11 x12 x13 x14 x15 x17 x18 x19 x20 : Sl) (S : List Cell) :
    lcT [16] lt_law_7.f (evT (fnAt tbl 100000 k) lq_law_7) (ev (fnAt tbl 100000 k) le_law_7).r.val (.int ph) ⟨[x0, x1, .sh (.int g), .sh (.lst PK), x4, x5, x6, x7, x8, x9, x10, x11, x12, x13, x14, x15, .no, x17, x18, x19, x20], S⟩ = some (some (.int v), ⟨[x0, x1, .sh (.int g), .sh (.lst PK), x4, x5, x6, x7, x8, x9, x10, x11, x12, x13, x14, x15, .no, x17, x18, x19, x20], S⟩) := by
  simp only [lt_law_7, lq_law_7, le_law_7]
  simp [evSs, evS, ev, evs, evO, evT, evI, Ev.of, bnd_ok, r_bind, r_pure, r_lift_s, r_val, r_inl, val_ok, inl_ok, res_l, res_r, r_var_sh, r_var_ow, r_mov_sh, r_mov_ow, r_pk_sh, r_pk_ow, r_peek_sh, r_peek_ow, r_seq, cont_next, cont_ret, r_ite, sel_t, sel_f, r_andB, r_orB, r_notB, r_andM, r_orR, r_notM, r_put, r_set, r_ret, retK_ap, r_drop, nextK_ap, r_asg, r_op, opK_ap, opK2_ap, r_opB, opBK_ap, opBK2_ap, r_un, unK_ap, r_truth, trK_ap, r_ix, ixK_ap, ixK2_ap, r_look_s, r_cons, consK_ap, consK2_ap, r_con, conK_ap, conK2_ap, r_callM, callK_ap, ress_nil, ress_cons, r_seqM, onlyV_nil, onlyV_cons, seqK_run, r_call, runF_ap, outS_ok, r_callF, fin_ret, fin_next, r_six, sixK_ap, sixK3_ap, nowS, gsP, gsV, dsA, Bop.g, Cop.g, Bif.g, K.d, addD, subD, divD, modD, negD, p64, intD, gtR, ltR, leR, geR, ltD, blD, blOf, M.look, ixS, ixD, cellAt, slOf, setAt, setOw, intOf, absD, lenD, List.set, truthD, isiD, tyD, isTy, chM, chB, r_lc, r_for, r_it, itK_ap, r_sq, sqK_ap,  eqR_int, eqR_non, neR_int, eqR_bl, neR_bl, Option.map_some, Out.val, Out.inl, T.f, Ts.f, Ts.n, tupF, tcons, tnil, tnF_ap, lcT, sure_ok, M.sure, wipeF, wipeR, noOw, putR, r_sl, slK2_ap, slD, r_int, intK_ap, r_cell, cellO_ok, powD, parM, rsF, putAll, en_tup, en_lst, rg1_ok, rg2_ok, asgK_s, intsD_ints, tupOf, lstOf, seqD, mkT, mkL, np_tupled, np_rounds_between, np_load, np_loads, np_peak, np_shifted, np_written_out, np_joined, np_shared_peak, np_phase_peaks, np_best_phase, np_never_shares, np_peak_ticks, np_least_peak, np_even_births, np__law_box, np__law_take, np__law_cells, np__law_mixed, np__law_same, np__law_copies, np__law_loads, np__law_wide, np__law_shared, np_law, b0, b1, h]
theorem lc7sh (k : Nat) (g : Int) (pk : List Int) (f : Int → Int) (g1 : 1 ≤ g ∧ g ≤ 6) (hl : pk = (List.range g.toNat).map fun (i : Nat) => f (i : Int)) (x0 x1 x4 x5 x6 x7 x8 x9 x10 x11 x12 x13 x14 x15 x17 x18 x19 x20 : Sl) (S : List Cell) :
    lcF [16] lt_law_7.f (evT (fnAt tbl 100000 k) lq_law_7) (ev (fnAt tbl 100000 k) le_law_7).r.val (Pv.intsFrom 0 g.toNat) ⟨[x0, x1, .sh (.int g), .sh (.lst (pk.map .int)), x4, x5, x6, x7, x8, x9, x10, x11, x12, x13, x14, x15, .no, x17, x18, x19, x20], S⟩ = .ok (.lst (((List.range g.toNat).map fun (i : Nat) => f ((-(i : Int)).fmod g)).map .int), true) ⟨[x0, x1, .sh (.int g), .sh (.lst (pk.map .int)), x4, x5, x6, x7, x8, x9, x10, x11, x12, x13, x14, x15, .no, x17, x18, x19, x20], S⟩ := by
  rw [lcF_map (fun d => some (.int (f ((-intE d).fmod g)))) rfl (fun d hd => ?_) (by rw [sizeLine_eq, intsFrom_length]; omega)]
  · congr 2
    simp [Pv.intsFrom, intE, Function.comp_def]
  · obtain ⟨i, hi, rfl⟩ := intsFrom_mem hd
    exact el7sh k (0 + (i : Int)) (f ((-(0 + (i : Int))).fmod g)) g (pk.map .int) (by omega) (by omega) (by rw [hl]; exact atI_fun g f g1 _) x0 x1 x4 x5 x6 x7 x8 x9 x10 x11 x12 x13 x14 x15 x17 x18 x19 x20 S
theorem el8 (k : Nat) (d : D) (v : Int) (x0 x2 x3 x4 x5 x6 x7 x8 x9 x10 x11 x12 x13 x14 x15 x16 x17 x19 x20 : Sl) (S S' : List Cell) (e : F k i__law_take [.ref 0, .int 12] S = .ok (.int v, false) S') :
    lcT [18] lt_law_8.f (evT (fnAt tbl 100000 k) lq_law_8) (ev (fnAt tbl 100000 k) le_law_8).r.val d ⟨[x0, .sh (.ref 0), x2, x3, x4, x5, x6, x7, x8, x9, x10, x11, x12, x13, x14, x15, x16, x17, .no, x19, x20], S⟩ = some (some (.int (1 + v)), ⟨[x0, .sh (.ref 0), x2, x3, x4, x5, x6, x7, x8, x9, x10, x11, x12, x13, x14, x15, x16, x17, .no, x19, x20], S'⟩) := by
  simp only [lt_law_8, lq_law_8, le_law_8]
  simp [evSs, evS, ev, evs, evO, evT, evI, Ev.of, bnd_ok, r_bind, r_pure, r_lift_s, r_val, r_inl, val_ok, inl_ok, res_l, res_r, r_var_sh, r_var_ow, r_mov_sh, r_mov_ow, r_pk_sh, r_pk_ow, r_peek_sh, r_peek_ow, r_seq, cont_next, cont_ret, r_ite, sel_t, sel_f, r_andB, r_orB, r_notB, r_andM, r_orR, r_notM, r_put, r_set, r_ret, retK_ap, r_drop, nextK_ap, r_asg, r_op, opK_ap, opK2_ap, r_opB, opBK_ap, opBK2_ap, r_un, unK_ap, r_truth, trK_ap, r_ix, ixK_ap, ixK2_ap, r_look_s, r_cons, consK_ap, consK2_ap, r_con, conK_ap, conK2_ap, r_callM, callK_ap, ress_nil, ress_cons, r_seqM, onlyV_nil, onlyV_cons, seqK_run, r_call, runF_ap, outS_ok, r_callF, fin_ret, fin_next, r_six, sixK_ap, sixK3_ap, nowS, gsP, gsV, dsA, Bop.g, Cop.g, Bif.g, K.d, addD, subD, divD, modD, negD, p64, intD, gtR, ltR, leR, geR, ltD, blD, blOf, M.look, ixS, ixD, cellAt, slOf, setAt, setOw, intOf, absD, lenD, ixN, atI, List.set, truthD, isiD, tyD, isTy, chM, chB, r_lc, r_for, r_it, itK_ap, r_sq, sqK_ap,  eqR_int, eqR_non, neR_int, eqR_bl, neR_bl, Option.map_some, Out.val, Out.inl, T.f, Ts.f, Ts.n, tupF, tcons, tnil, tnF_ap, lcT, sure_ok, M.sure, wipeF, wipeR, noOw, putR, r_sl, slK2_ap, slD, r_int, intK_ap, r_cell, cellO_ok, powD, parM, rsF, putAll, en_tup, en_lst, rg1_ok, rg2_ok, asgK_s, intsD_ints, tupOf, lstOf, seqD, mkT, mkL, np_tupled, np_rounds_between, np_load, np_loads, np_peak, np_shifted, np_written_out, np_joined, np_shared_peak, np_phase_peaks, np_best_phase, np_never_shares, np_peak_ticks, np_least_peak, np_even_births, np__law_box, np__law_take, np__law_cells, np__law_mixed, np__law_same, np__law_copies, np__law_loads, np__law_wide, np__law_shared, np_law, e]
theorem lc8 (k n m : Nat) (x0 x2 x3 x4 x5 x6 x7 x8 x9 x10 x11 x12 x13 x14 x15 x16 x17 x19 x20 : Sl) (S : List Cell) (hU : Urn S m) (hn : n ≤ 10) (hm : m < 2^36) :
    ∃ (l : List Int) (S' : List Cell), lcF [18] lt_law_8.f (evT (fnAt tbl 100000 (k+1)) lq_law_8) (ev (fnAt tbl 100000 (k+1)) le_law_8).r.val (Pv.intsFrom 0 n) ⟨[x0, .sh (.ref 0), x2, x3, x4, x5, x6, x7, x8, x9, x10, x11, x12, x13, x14, x15, x16, x17, .no, x19, x20], S⟩ = .ok (.lst (l.map .int), true) ⟨[x0, .sh (.ref 0), x2, x3, x4, x5, x6, x7, x8, x9, x10, x11, x12, x13, x14, x15, x16, x17, .no, x19, x20], S'⟩ ∧ l.length = n ∧ (∀ x ∈ l, 1 ≤ x ∧ x ≤ 12) ∧ Urn S' (m + n) := by
  obtain ⟨acc, S', e, l, rfl, h1, h2, h3⟩ := lcF_rel (vs := [18]) (t := lt_law_8.f) (tt := evT (fnAt tbl 100000 (k+1)) lq_law_8) (te := (ev (fnAt tbl 100000 (k+1)) le_law_8).r.val) (ρ := [x0, .sh (.ref 0), x2, x3, x4, x5, x6, x7, x8, x9, x10, x11, x12, x13, x14, x15, x16, x17, .no, x19, x20]) (S := S) (Pv.intsFrom 0 n)
    (fun i acc S' => ∃ l : List Int, acc = l.map .int ∧ l.length = i ∧ (∀ x ∈ l, 1 ≤ x ∧ x ≤ 12) ∧ Urn S' (m + i)) rfl ⟨[], rfl, rfl, fun x hx => (nomatch hx), hU⟩ (fun i acc S1 d hd h => by
      obtain ⟨l, rfl, h1, h2, h3⟩ := h
      obtain ⟨hi, rfl⟩ := intsFrom_get hd
      obtain ⟨v, S2, e, v0, v1, u⟩ := f_take k 12 S1 _ (by decide) (by decide) h3 (by omega)
      refine ⟨some (.int (1 + v)), S2, el8 (k+1) (.int (0 + i)) v x0 x2 x3 x4 x5 x6 x7 x8 x9 x10 x11 x12 x13 x14 x15 x16 x17 x19 x20 S1 S2 e, l ++ [1 + v], by simp [addO], by simp [h1], fun x hx => ?_, u⟩
      rcases List.mem_append.mp hx with h | h
      · exact h2 x h
      · rw [List.mem_singleton.mp h]; omega) (by rw [sizeLine_eq, intsFrom_length]; omega)
  rw [intsFrom_length] at h1 h3
  exact ⟨l, S', e, h1, h2, h3⟩
end Law
namespace Law
open PySem L2 Pv
theorem ticks_mem (M : Int) : ∀ (l : List Int) (k : Nat) (x : Int), x ∈ ticksI M k l ↔ ∃ i : Nat, l[i]? = some M ∧ x = (k : Int) + (i : Int)
  | [], k, x => by simp [ticksI]
  | m :: r, k, x => by
    have ih := ticks_mem M r (k + 1) x
    have step : (∃ i : Nat, (m :: r)[i]? = some M ∧ x = (k : Int) + (i : Int)) ↔ (m = M ∧ x = (k : Int)) ∨ ∃ i : Nat, r[i]? = some M ∧ x = ((k + 1 : Nat) : Int) + (i : Int) := by
      constructor
      · rintro ⟨i, h1, h2⟩
        cases i with
        | zero =>
          left
          rw [List.getElem?_cons_zero] at h1
          cases h1
          exact ⟨rfl, by omega⟩
        | succ i =>
          right
          rw [List.getElem?_cons_succ] at h1
          exact ⟨i, h1, by omega⟩
      · rintro (⟨rfl, h⟩ | ⟨i, h1, h2⟩)
        · exact ⟨0, rfl, by omega⟩
        · exact ⟨i + 1, by rw [List.getElem?_cons_succ]; exact h1, by omega⟩
    rw [step, ← ih]
    have un : ticksI M k (m :: r) = if m = M then (k : Int) :: ticksI M (k + 1) r else ticksI M (k + 1) r := rfl
    rw [un]
    by_cases c : m = M
    · rw [if_pos c, List.mem_cons]
      constructor
      · rintro (h | h)
        · exact .inl ⟨c, h⟩
        · exact .inr h
      · rintro (⟨_, h⟩ | h)
        · exact .inl h
        · exact .inr h
    · rw [if_neg c]
      constructor
      · exact .inr
      · rintro (⟨h, _⟩ | h)
        · exact absurd h c
        · exact h
theorem ticks_len (M : Int) : ∀ (l : List Int) (k : Nat), (ticksI M k l).length ≤ l.length
  | [], _ => Nat.le_refl _
  | m :: r, k => by
    have := ticks_len M r (k + 1)
    unfold ticksI
    split <;> simp <;> omega
theorem ticks_loads {b : Int} {ps : List (Int × Int)} {M x : Int} : x ∈ ticksI M 0 (loadsI b ps) ↔ 0 ≤ x ∧ x < b ∧ loadI b ps x = M := by
  rw [ticks_mem]
  constructor
  · rintro ⟨i, h1, h2⟩
    have e : x = (i : Int) := by omega
    unfold loadsI at h1
    rw [List.getElem?_map] at h1
    obtain ⟨j, e1, e2⟩ := Option.map_eq_some_iff.mp h1
    obtain ⟨q1, q2⟩ := List.getElem?_eq_some_iff.mp e1
    have hi : i < b.toNat := by simpa using q1
    have ej : j = i := by rw [← q2]; simp
    subst ej
    rw [e]
    exact ⟨by omega, by omega, e2⟩
  · rintro ⟨h0, h1, h2⟩
    refine ⟨x.toNat, ?_, by omega⟩
    unfold loadsI
    rw [List.getElem?_map, List.getElem?_eq_getElem (by simp; omega)]
    simp only [List.getElem_range, Option.map_some]
    rw [show ((x.toNat : Nat) : Int) = x by omega, h2]
theorem ticks_ne {b : Int} {ps : List (Int × Int)} (h : 0 < b) : ticksI (maxI (loadsI b ps)) 0 (loadsI b ps) ≠ [] := by
  have hm := (maxI_mem (loadsI_ne (ps := ps) h)).1
  intro e
  obtain ⟨i, hi⟩ := List.mem_iff_getElem?.mp hm
  have : ((0 : Nat) : Int) + (i : Int) ∈ ticksI (maxI (loadsI b ps)) 0 (loadsI b ps) := (ticks_mem _ _ _ _).mpr ⟨i, hi, rfl⟩
  rw [e] at this
  cases this
theorem fmod_dvd {x g : Int} (hg : 1 ≤ g) : x.fmod g = 0 ↔ ∃ k, x = g * k := by
  have e := Int.mul_fdiv_add_fmod x g
  constructor
  · intro h
    exact ⟨x.fdiv g, by omega⟩
  · rintro ⟨k, rfl⟩
    rw [Int.fmod_eq_emod_of_nonneg _ (by omega), Int.mul_emod_right]
section
variable {a b : Int} (ha : 1 ≤ a ∧ a ≤ 6) (hb : 1 ≤ b ∧ b ≤ 6) {ps qs : List (Int × Int)} (hp : posL ps) (hq : posL qs)
include ha hb hp hq
theorem meet_iff (ph : Int) : 0 < c5 (gI a b) ph (ticksI (maxI (loadsI a ps)) 0 (loadsI a ps)) (ticksI (maxI (loadsI b qs)) 0 (loadsI b qs)) ↔ pkP a b ph ps qs = maxI (loadsI a ps) + maxI (loadsI b qs) := by
  have X := six ha hb
  have m1 := load_max (by omega : 1 ≤ a) hp
  have m2 := load_max (by omega : 1 ≤ b) hq
  have mp := pk_max ha hb hp hq ph
  have e1 : 0 < c5 (gI a b) ph (ticksI (maxI (loadsI a ps)) 0 (loadsI a ps)) (ticksI (maxI (loadsI b qs)) 0 (loadsI b qs)) ↔ ∃ t o : Int, (0 ≤ t ∧ t < a ∧ loadI a ps t = maxI (loadsI a ps)) ∧ (0 ≤ o ∧ o < b ∧ loadI b qs o = maxI (loadsI b qs)) ∧ ∃ k, o + ph - t = gI a b * k := by
    unfold c5
    rw [List.length_pos_iff_exists_mem]
    constructor
    · rintro ⟨t, ht⟩
      obtain ⟨h1, h2⟩ := List.mem_filter.mp ht
      rw [decide_eq_true_eq] at h2
      unfold c6 at h2
      obtain ⟨o, ho⟩ := List.length_pos_iff_exists_mem.mp h2
      obtain ⟨h3, h4⟩ := List.mem_filter.mp ho
      rw [decide_eq_true_eq] at h4
      exact ⟨t, o, ticks_loads.mp h1, ticks_loads.mp h3, (fmod_dvd X.g1).mp h4⟩
    · rintro ⟨t, o, h1, h2, h3⟩
      refine ⟨t, List.mem_filter.mpr ⟨ticks_loads.mpr h1, ?_⟩⟩
      rw [decide_eq_true_eq]
      unfold c6
      rw [List.length_pos_iff_exists_mem]
      exact ⟨o, List.mem_filter.mpr ⟨ticks_loads.mpr h2, by rw [decide_eq_true_eq]; exact (fmod_dvd X.g1).mpr h3⟩⟩
  rw [e1]
  constructor
  · rintro ⟨t, o, ⟨_, _, h1⟩, ⟨_, _, h2⟩, z, h3⟩
    obtain ⟨u, v, e⟩ := bez ha hb
    have e : gI a b = u * a + v * b := e
    have l1 := load_per (b := a) (by omega) hp t (z * u)
    have l2 := load_per (b := b) (by omega) hq o (-(z * v))
    have q : fP a b ps qs ph (t + z * u * a) = maxI (loadsI a ps) + maxI (loadsI b qs) := by
      unfold fP
      rw [e, Int.mul_comm, Int.mul_add, ← Int.mul_assoc, ← Int.mul_assoc] at h3
      rw [show t + z * u * a - ph = o + -(z * v) * b by rw [Int.neg_mul]; omega, l1, l2, h1, h2]
    obtain ⟨⟨t', h4⟩, h5⟩ := mp
    have h6 := h5 (t + z * u * a)
    have h7 := m1.2 t'
    have h8 := m2.2 (t' - ph)
    have h9 : loadI a ps t' + loadI b qs (t' - ph) = pkP a b ph ps qs := h4
    omega
  · intro h
    obtain ⟨⟨t', h4⟩, h5⟩ := mp
    have h7 := m1.2 t'
    have h8 := m2.2 (t' - ph)
    have h9 : loadI a ps t' + loadI b qs (t' - ph) = pkP a b ph ps qs := h4
    have e1 := Int.mul_fdiv_add_fmod t' a
    have e2 := Int.mul_fdiv_add_fmod (t' - ph) b
    have l1 := load_per (b := a) (by omega) hp (t'.fmod a) (t'.fdiv a)
    have l2 := load_per (b := b) (by omega) hq ((t' - ph).fmod b) ((t' - ph).fdiv b)
    rw [show t'.fmod a + t'.fdiv a * a = t' by rw [Int.mul_comm (t'.fdiv a)]; omega] at l1
    rw [show (t' - ph).fmod b + (t' - ph).fdiv b * b = t' - ph by rw [Int.mul_comm ((t' - ph).fdiv b)]; omega] at l2
    obtain ⟨x, ex⟩ := X.ga
    obtain ⟨y, ey⟩ := X.gb
    refine ⟨t'.fmod a, (t' - ph).fmod b, ⟨Int.fmod_nonneg_of_pos _ (by omega), Int.fmod_lt_of_pos _ (by omega), by omega⟩, ⟨Int.fmod_nonneg_of_pos _ (by omega), Int.fmod_lt_of_pos _ (by omega), by omega⟩, x * t'.fdiv a - y * (t' - ph).fdiv b, ?_⟩
    rw [Int.mul_sub, ← Int.mul_assoc, ← Int.mul_assoc, ← ex, ← ey]
    omega
theorem pk_le (ph : Int) : pkP a b ph ps qs ≤ maxI (loadsI a ps) + maxI (loadsI b qs) := by
  have m1 := load_max (by omega : 1 ≤ a) hp
  have m2 := load_max (by omega : 1 ≤ b) hq
  obtain ⟨⟨t', h4⟩, h5⟩ := pk_max ha hb hp hq ph
  have h7 := m1.2 t'
  have h8 := m2.2 (t' - ph)
  have h9 : loadI a ps t' + loadI b qs (t' - ph) = pkP a b ph ps qs := h4
  omega
theorem never_eq : decide (minI (peaksI a b ps qs) = maxI (loadsI a ps) + maxI (loadsI b qs)) = !decide (false ∈ meetsB (gI a b) (ticksI (maxI (loadsI a ps)) 0 (loadsI a ps)) (ticksI (maxI (loadsI b qs)) 0 (loadsI b qs))) := by
  have ne := peaksI_ne ha hb ps qs
  obtain ⟨h1, h2⟩ := minI_mem ne
  obtain ⟨i, hi, ei⟩ := List.mem_map.mp h1
  rw [Bool.eq_iff_iff, Bool.not_eq_true', decide_eq_true_eq, decide_eq_false_iff_not]
  constructor
  · intro h hf
    obtain ⟨j, hj, ej⟩ := List.mem_map.mp hf
    rw [decide_eq_false_iff_not, meet_iff ha hb hp hq] at ej
    have h3 := h2 _ (List.mem_map.mpr ⟨j, hj, rfl⟩)
    have h4 := pk_le ha hb hp hq (j : Int)
    omega
  · intro h
    have h3 : pkP a b (i : Int) ps qs = maxI (loadsI a ps) + maxI (loadsI b qs) := by
      refine (meet_iff ha hb hp hq (i : Int)).mp (Classical.byContradiction fun c => h ?_)
      exact List.mem_map.mpr ⟨i, hi, decide_eq_false_iff_not.mpr c⟩
    omega
theorem peaks_swap : peaksI b a qs ps = (List.range (gI a b).toNat).map fun (i : Nat) => pkP a b ((-(i : Int)).fmod (gI a b)) ps qs := by
  unfold peaksI
  rw [gI_comm b a]
  refine List.map_congr_left fun i _ => ?_
  rw [pk_swap ha hb hp hq, pk_fmod ha hb hp hq]
end
theorem cmn_last {a b : Int} (ha : 1 ≤ a ∧ a ≤ 6) (hb : 1 ≤ b ∧ b ≤ 6) : L2.atI ((cmn a b).map D.int) (-1) = some (.int (gI a b)) := by
  have h := (six ha hb).c
  generalize cmn a b = l at h
  rw [List.getLast?_eq_getElem?] at h
  have hl : l.length - 1 < l.length := (List.getElem?_eq_some_iff.mp h).1
  unfold L2.atI L2.ixN
  rw [if_neg (by omega), List.length_map, if_pos (by omega)]
  show (l.map D.int)[((l.length : Int) + -1).toNat]? = _
  rw [show ((l.length : Int) + -1).toNat = l.length - 1 by omega, List.getElem?_map, h]; rfl
theorem toPs_bls : ∀ l : List Bool, toPs (l.map .bl) = some (l.map PyData.bool)
  | [] => rfl
  | a :: l => by
    show (match toP (.bl a), toPs (l.map .bl) with
      | some p, some ps => some (p :: ps)
      | _, _ => none) = _
    rw [toPs_bls l]; rfl
theorem nin_false (l : List Bool) : inD true (.bl false) (.lst (l.map .bl)) = some (blD (!decide (false ∈ l))) := by
  show (hasD (.bl false) (l.map .bl)).map _ = _
  have h : hasD (.bl false) (l.map .bl) = some (decide (false ∈ l)) := by
    unfold hasD
    rw [toPs_bls]
    have s1 : SeqAt.shaped (.list (l.map PyData.bool)) = true := by
      have h1 : ∀ l : List Bool, PyData.canLayAll0 (l.map PyData.bool) = true := fun l => by
        induction l with
        | nil => simp [PyData.canLayAll0]
        | cons a l ih => simp [PyData.canLayAll0, PyData.canLay0]; exact ih
      have h2 : ∀ l : List Bool, PyData.depthAll (l.map PyData.bool) = 0 := fun l => by
        induction l with
        | nil => simp [PyData.depthAll]
        | cons p l ih => rw [List.map_cons]; simp only [PyData.depthAll, ih]; simp [PyData.depth]
      unfold SeqAt.shaped
      rw [Bool.and_eq_true, decide_eq_true_eq]
      refine ⟨by simp [PyData.canLay0, h1], ?_⟩
      have h3 := h2 l
      simp only [PyData.depth]
      omega
    have s2 : SeqAt.shaped (.bool false) = true := by simp [SeqAt.shaped, PyData.canLay0, PyData.depth]
    show (if SeqAt.shaped (.bool false) && SeqAt.shaped (.list (l.map PyData.bool)) then some ((l.map PyData.bool).any fun z => PyData.eqv z (.bool false)) else none) = _
    rw [s1, s2]
    show some _ = some _
    congr 1
    rw [List.any_map, Bool.eq_iff_iff, decide_eq_true_eq, List.any_eq_true]
    constructor
    · rintro ⟨z, hz, e⟩
      cases z
      · exact hz
      · simp [PyData.eqv] at e
    · intro hc
      exact ⟨false, hc, by simp [PyData.eqv]⟩
  rw [h]
  simp
theorem neR_tup (l : List Int) : neR (.tup (l.map .int)) (.tup (l.map .int)) = some (blD false) := by
  have e : toP (.tup (l.map .int)) = some (.tuple (l.map PyData.int)) := by show (toPs (l.map .int)).map PyData.tuple = _; rw [toPs_ints]; rfl
  have h2 := depthAll_ints l
  have d : dep (.tuple (l.map PyData.int)) = true := by
    unfold dep
    simp only [PyData.depth, h2]
    decide
  have s : ∀ l : List Int, PyData.eqvAll (l.map PyData.int) (l.map PyData.int) = true := fun l => by
    induction l with
    | nil => simp [PyData.eqvAll]
    | cons a l ih => simp [PyData.eqvAll, PyData.eqv]; exact ih
  unfold neR eqD
  rw [e]
  show ((if dep (.tuple (l.map PyData.int)) || dep (.tuple (l.map PyData.int)) then some (PyData.eqv (.tuple (l.map PyData.int)) (.tuple (l.map PyData.int))) else none)).map _ = _
  rw [d]
  simp [PyData.eqv, s]
theorem sum_ge : ∀ l : List Int, (∀ x ∈ l, 1 ≤ x ∧ x ≤ 12) → 0 ≤ l.sum ∧ l.sum ≤ 12 * l.length
  | [], _ => by simp
  | a :: l, h => by
    have ih := sum_ge l fun x hx => h x (List.mem_cons_of_mem _ hx)
    have h1 := h a List.mem_cons_self
    rw [List.sum_cons, List.length_cons]
    omega
theorem lr3_ok (su b : Int) (hs : 0 ≤ su ∧ su ≤ 1000) (hb : 1 ≤ b ∧ b ≤ 6) : ∃ n : Nat, rg3D [.int 0, .int su, .int b] = some (intsBy 0 b n) ∧ (n : Int) = (su + b - 1).fdiv b ∧ n ≤ 1000 := by
  have sm : Builtin.Range.small 0 su b = true := by
    unfold Builtin.Range.small
    obtain ⟨h1, h2⟩ := hb
    have : b = 1 ∨ b = 2 ∨ b = 3 ∨ b = 4 ∨ b = 5 ∨ b = 6 := by omega
    rcases this with rfl | rfl | rfl | rfl | rfl | rfl <;> simp [Builtin.Range.rangeFitsLong, Builtin.Range.rangeSize] <;> omega
  have z : Builtin.Range.rangeSize 0 su b = (su + b - 1).fdiv b := by
    unfold Builtin.Range.rangeSize
    rw [if_pos (by omega)]
    rw [Int.fdiv_eq_ediv_of_nonneg _ (by omega)]
    by_cases c : 0 < su
    · rw [if_pos c, show su + b - 1 = su - 0 - 1 + 1 * b by omega, Int.add_mul_ediv_right _ _ (by omega)]
    · rw [if_neg c, show su + b - 1 = b - 1 by omega, Int.ediv_eq_zero_of_lt (by omega) (by omega)]
  have r0 : 0 ≤ (su + b - 1).fdiv b := Int.fdiv_nonneg (by omega) (by omega)
  have r1 : (su + b - 1).fdiv b ≤ 1000 := by
    rw [Int.fdiv_eq_ediv_of_nonneg _ (by omega)]
    have := Int.ediv_lt_of_lt_mul (a := su + b - 1) (b := 1001) (c := b) (by omega) (by
      obtain ⟨h1, h2⟩ := hb
      have : b = 1 ∨ b = 2 ∨ b = 3 ∨ b = 4 ∨ b = 5 ∨ b = 6 := by omega
      rcases this with rfl | rfl | rfl | rfl | rfl | rfl <;> omega)
    omega
  refine ⟨((su + b - 1).fdiv b).toNat, ?_, by omega, by omega⟩
  unfold rg3D
  simp only
  rw [if_neg (by omega), if_pos ⟨by omega, by omega, sm, by rw [z]; exact r0⟩, z]
end Law
namespace Law
open PySem L2 Pv
theorem softs_ints : ∀ (l : List Int) {ds : List D}, Softs (l.map .int) ds → ds = l.map .int
  | [], ds, h => by cases h; rfl
  | i :: l, ds, h => by
    rw [List.map_cons] at h
    cases h with
    | cons a b =>
      cases a
      rw [softs_ints l b]; rfl
theorem soft_ints {l : List Int} {d : D} (h : Soft (.tup (l.map .int)) d) : ∃ k, d = sq k (l.map .int) := by
  cases h with
  | tup k h =>
    exact ⟨k, by rw [softs_ints l h]⟩
theorem pw_ints {l : List Int} (h : l.length ≤ 10) : Pw 10 1 (.tup (l.map .int)) := by
  refine .tup _ _ (fun d hd => ?_) (by simpa using h)
  obtain ⟨i, _, rfl⟩ := List.mem_map.mp hd
  exact .int _ _
theorem two_of {d : D} {fr : Bool} : Two (slOf (d, fr)) d := by
  cases fr
  · exact .inr rfl
  · exact .inl rfl
theorem s0 (SC c0 : D) (bx : List D) (e : F 60 i__law_cells [SC, .int 1] [] = .ok (c0, true) []) (e2 : F 60 i__law_box [c0, .int 0] [] = .ok (.lst bx, true) []) :
    evS (fnAt tbl 100000 60) 100000 (.set 1 (.cell (.call i__law_box (.cons (.call i__law_cells (.cons (.v 0) (.cons (.k (.int 1)) .nil))) (.cons (.k (.int 0)) .nil))))) ⟨[.sh SC, .no, .no, .no, .no, .no, .no, .no, .no, .no, .no, .no, .no, .no, .no, .no, .no, .no, .no, .no, .no], []⟩ = .ok .next ⟨[.sh SC, .sh (.ref 0), .no, .no, .no, .no, .no, .no, .no, .no, .no, .no, .no, .no, .no, .no, .no, .no, .no, .no, .no], [.lst bx]⟩ := by
  simp [evSs, evS, ev, evs, evO, evT, evI, Ev.of, bnd_ok, r_bind, r_pure, r_lift_s, r_val, r_inl, val_ok, inl_ok, res_l, res_r, r_var_sh, r_var_ow, r_mov_sh, r_mov_ow, r_pk_sh, r_pk_ow, r_peek_sh, r_peek_ow, r_seq, cont_next, cont_ret, r_ite, sel_t, sel_f, r_andB, r_orB, r_notB, r_andM, r_orR, r_notM, r_put, r_set, r_ret, retK_ap, r_drop, nextK_ap, r_asg, r_op, opK_ap, opK2_ap, r_opB, opBK_ap, opBK2_ap, r_un, unK_ap, r_truth, trK_ap, r_ix, ixK_ap, ixK2_ap, r_look_s, r_cons, consK_ap, consK2_ap, r_con, conK_ap, conK2_ap, r_callM, callK_ap, ress_nil, ress_cons, r_seqM, onlyV_nil, onlyV_cons, seqK_run, r_call, runF_ap, outS_ok, r_callF, fin_ret, fin_next, r_six, sixK_ap, sixK3_ap, nowS, gsP, gsV, dsA, Bop.g, Cop.g, Bif.g, K.d, addD, subD, divD, modD, negD, p64, intD, gtR, ltR, leR, geR, ltD, blD, blOf, M.look, ixS, ixD, cellAt, slOf, setAt, setOw, intOf, absD, lenD, ixN, atI, List.set, truthD, isiD, tyD, isTy, chM, chB, r_lc, r_for, r_it, itK_ap, r_sq, sqK_ap,  eqR_int, eqR_non, neR_int, eqR_bl, neR_bl, Option.map_some, Out.val, Out.inl, T.f, Ts.f, Ts.n, tupF, tcons, tnil, tnF_ap, lcT, sure_ok, M.sure, wipeF, wipeR, noOw, putR, r_sl, slK2_ap, slD, r_int, intK_ap, r_cell, cellO_ok, powD, parM, rsF, putAll, en_tup, en_lst, rg1_ok, rg2_ok, asgK_s, intsD_ints, tupOf, lstOf, seqD, mkT, mkL, np_tupled, np_rounds_between, np_load, np_loads, np_peak, np_shifted, np_written_out, np_joined, np_shared_peak, np_phase_peaks, np_best_phase, np_never_shares, np_peak_ticks, np_least_peak, np_even_births, np__law_box, np__law_take, np__law_cells, np__law_mixed, np__law_same, np__law_copies, np__law_loads, np__law_wide, np__law_shared, np_law, e, e2]
theorem s1 (SC L8 L9 : D) (S S1 S2 : List Cell) (e : F 60 i__law_wide [.ref 0] S = .ok (L8, false) S1) (e2 : F 60 i__law_wide [.ref 0] S1 = .ok (L9, false) S2) :
    evS (fnAt tbl 100000 60) 100000 (.par [8, 9] (.cons (.call i__law_wide (.cons (.v 1) .nil)) (.cons (.call i__law_wide (.cons (.v 1) .nil)) .nil))) ⟨[.sh SC, .sh (.ref 0), .no, .no, .no, .no, .no, .no, .no, .no, .no, .no, .no, .no, .no, .no, .no, .no, .no, .no, .no], S⟩ = .ok .next ⟨[.sh SC, .sh (.ref 0), .no, .no, .no, .no, .no, .no, .sh L8, .sh L9, .no, .no, .no, .no, .no, .no, .no, .no, .no, .no, .no], S2⟩ := by
  simp [evSs, evS, ev, evs, evO, evT, evI, Ev.of, bnd_ok, r_bind, r_pure, r_lift_s, r_val, r_inl, val_ok, inl_ok, res_l, res_r, r_var_sh, r_var_ow, r_mov_sh, r_mov_ow, r_pk_sh, r_pk_ow, r_peek_sh, r_peek_ow, r_seq, cont_next, cont_ret, r_ite, sel_t, sel_f, r_andB, r_orB, r_notB, r_andM, r_orR, r_notM, r_put, r_set, r_ret, retK_ap, r_drop, nextK_ap, r_asg, r_op, opK_ap, opK2_ap, r_opB, opBK_ap, opBK2_ap, r_un, unK_ap, r_truth, trK_ap, r_ix, ixK_ap, ixK2_ap, r_look_s, r_cons, consK_ap, consK2_ap, r_con, conK_ap, conK2_ap, r_callM, callK_ap, ress_nil, ress_cons, r_seqM, onlyV_nil, onlyV_cons, seqK_run, r_call, runF_ap, outS_ok, r_callF, fin_ret, fin_next, r_six, sixK_ap, sixK3_ap, nowS, gsP, gsV, dsA, Bop.g, Cop.g, Bif.g, K.d, addD, subD, divD, modD, negD, p64, intD, gtR, ltR, leR, geR, ltD, blD, blOf, M.look, ixS, ixD, cellAt, slOf, setAt, setOw, intOf, absD, lenD, ixN, atI, List.set, truthD, isiD, tyD, isTy, chM, chB, r_lc, r_for, r_it, itK_ap, r_sq, sqK_ap,  eqR_int, eqR_non, neR_int, eqR_bl, neR_bl, Option.map_some, Out.val, Out.inl, T.f, Ts.f, Ts.n, tupF, tcons, tnil, tnF_ap, lcT, sure_ok, M.sure, wipeF, wipeR, noOw, putR, r_sl, slK2_ap, slD, r_int, intK_ap, r_cell, cellO_ok, powD, parM, rsF, putAll, en_tup, en_lst, rg1_ok, rg2_ok, asgK_s, intsD_ints, tupOf, lstOf, seqD, mkT, mkL, np_tupled, np_rounds_between, np_load, np_loads, np_peak, np_shifted, np_written_out, np_joined, np_shared_peak, np_phase_peaks, np_best_phase, np_never_shares, np_peak_ticks, np_least_peak, np_even_births, np__law_box, np__law_take, np__law_cells, np__law_mixed, np__law_same, np__law_copies, np__law_loads, np__law_wide, np__law_shared, np_law, e, e2]
theorem s2 (SC L8 L9 L10 L11 : D) (f1 f2 : Bool) (x10 x11 : Sl) (S S1 S2 : List Cell) (e : F 60 i__law_mixed [.ref 0, L8] S = .ok (L10, f1) S1) (e2 : F 60 i__law_mixed [.ref 0, L9] S1 = .ok (L11, f2) S2) (h1 : slOf (L10, f1) = x10) (h2 : slOf (L11, f2) = x11) :
    evS (fnAt tbl 100000 60) 100000 (.par [10, 11] (.cons (.call i__law_mixed (.cons (.v 1) (.cons (.v 8) .nil))) (.cons (.call i__law_mixed (.cons (.v 1) (.cons (.v 9) .nil))) .nil))) ⟨[.sh SC, .sh (.ref 0), .no, .no, .no, .no, .no, .no, .sh L8, .sh L9, .no, .no, .no, .no, .no, .no, .no, .no, .no, .no, .no], S⟩ = .ok .next ⟨[.sh SC, .sh (.ref 0), .no, .no, .no, .no, .no, .no, .sh L8, .sh L9, x10, x11, .no, .no, .no, .no, .no, .no, .no, .no, .no], S2⟩ := by
  subst h1 h2
  simp [evSs, evS, ev, evs, evO, evT, evI, Ev.of, bnd_ok, r_bind, r_pure, r_lift_s, r_val, r_inl, val_ok, inl_ok, res_l, res_r, r_var_sh, r_var_ow, r_mov_sh, r_mov_ow, r_pk_sh, r_pk_ow, r_peek_sh, r_peek_ow, r_seq, cont_next, cont_ret, r_ite, sel_t, sel_f, r_andB, r_orB, r_notB, r_andM, r_orR, r_notM, r_put, r_set, r_ret, retK_ap, r_drop, nextK_ap, r_asg, r_op, opK_ap, opK2_ap, r_opB, opBK_ap, opBK2_ap, r_un, unK_ap, r_truth, trK_ap, r_ix, ixK_ap, ixK2_ap, r_look_s, r_cons, consK_ap, consK2_ap, r_con, conK_ap, conK2_ap, r_callM, callK_ap, ress_nil, ress_cons, r_seqM, onlyV_nil, onlyV_cons, seqK_run, r_call, runF_ap, outS_ok, r_callF, fin_ret, fin_next, r_six, sixK_ap, sixK3_ap, nowS, gsP, gsV, dsA, Bop.g, Cop.g, Bif.g, K.d, addD, subD, divD, modD, negD, p64, intD, gtR, ltR, leR, geR, ltD, blD, blOf, M.look, ixS, ixD, cellAt, slOf, setAt, setOw, intOf, absD, lenD, ixN, atI, List.set, truthD, isiD, tyD, isTy, chM, chB, r_lc, r_for, r_it, itK_ap, r_sq, sqK_ap,  eqR_int, eqR_non, neR_int, eqR_bl, neR_bl, Option.map_some, Out.val, Out.inl, T.f, Ts.f, Ts.n, tupF, tcons, tnil, tnF_ap, lcT, sure_ok, M.sure, wipeF, wipeR, noOw, putR, r_sl, slK2_ap, slD, r_int, intK_ap, r_cell, cellO_ok, powD, parM, rsF, putAll, en_tup, en_lst, rg1_ok, rg2_ok, asgK_s, intsD_ints, tupOf, lstOf, seqD, mkT, mkL, np_tupled, np_rounds_between, np_load, np_loads, np_peak, np_shifted, np_written_out, np_joined, np_shared_peak, np_phase_peaks, np_best_phase, np_never_shares, np_peak_ticks, np_least_peak, np_even_births, np__law_box, np__law_take, np__law_cells, np__law_mixed, np__law_same, np__law_copies, np__law_loads, np__law_wide, np__law_shared, np_law, e, e2]
theorem s3 (SC L8 L9 : D) (cs : List D) (g : Int) (x10 x11 : Sl) (S : List Cell) (e : lcF [17] lt_law_0.f (evT (fnAt tbl 100000 60) lq_law_0) (ev (fnAt tbl 100000 60) le_law_0).r.val (Pv.intsFrom 1 6) ⟨[.sh SC, .sh (.ref 0), .no, .no, .no, .no, .no, .no, .sh L8, .sh L9, x10, x11, .no, .no, .no, .no, .no, .no, .no, .no, .no], S⟩ = .ok (.lst cs, true) ⟨[.sh SC, .sh (.ref 0), .no, .no, .no, .no, .no, .no, .sh L8, .sh L9, x10, x11, .no, .no, .no, .no, .no, .no, .no, .no, .no], S⟩) (h : L2.atI cs (-1) = some (.int g)) :
    evS (fnAt tbl 100000 60) 100000 (.set 2 (.ix (.lc [17] lt_law_0 (.rg2 (.k (.int 1)) (.k (.int 7))) lq_law_0 le_law_0) (.neg (.k (.int 1))))) ⟨[.sh SC, .sh (.ref 0), .no, .no, .no, .no, .no, .no, .sh L8, .sh L9, x10, x11, .no, .no, .no, .no, .no, .no, .no, .no, .no], S⟩ = .ok .next ⟨[.sh SC, .sh (.ref 0), .sh (.int g), .no, .no, .no, .no, .no, .sh L8, .sh L9, x10, x11, .no, .no, .no, .no, .no, .no, .no, .no, .no], S⟩ := by
  have q1 : sm62 1 = true := by decide
  have q7 : sm62 7 = true := by decide
  have t6 : ((7 : Int) - 1).toNat = 6 := rfl
  generalize hm : lcF [17] lt_law_0.f (evT (fnAt tbl 100000 60) lq_law_0) (ev (fnAt tbl 100000 60) le_law_0).r.val = F6 at e
  simp [evSs, evS, ev, evs, evO, evT, evI, Ev.of, bnd_ok, r_bind, r_pure, r_lift_s, r_val, r_inl, val_ok, inl_ok, res_l, res_r, r_var_sh, r_var_ow, r_mov_sh, r_mov_ow, r_pk_sh, r_pk_ow, r_peek_sh, r_peek_ow, r_seq, cont_next, cont_ret, r_ite, sel_t, sel_f, r_andB, r_orB, r_notB, r_andM, r_orR, r_notM, r_put, r_set, r_ret, retK_ap, r_drop, nextK_ap, r_asg, r_op, opK_ap, opK2_ap, r_opB, opBK_ap, opBK2_ap, r_un, unK_ap, r_truth, trK_ap, r_ix, ixK_ap, ixK2_ap, r_look_s, r_cons, consK_ap, consK2_ap, r_con, conK_ap, conK2_ap, r_callM, callK_ap, ress_nil, ress_cons, r_seqM, onlyV_nil, onlyV_cons, seqK_run, r_call, runF_ap, outS_ok, r_callF, fin_ret, fin_next, r_six, sixK_ap, sixK3_ap, nowS, gsP, gsV, dsA, Bop.g, Cop.g, Bif.g, K.d, addD, subD, divD, modD, negD, p64, intD, gtR, ltR, leR, geR, ltD, blD, blOf, M.look, ixS, ixD, cellAt, slOf, setAt, setOw, intOf, absD, lenD, List.set, truthD, isiD, tyD, isTy, chM, chB, r_lc, r_for, r_it, itK_ap, r_sq, sqK_ap,  eqR_int, eqR_non, neR_int, eqR_bl, neR_bl, Option.map_some, Out.val, Out.inl, T.f, Ts.f, Ts.n, tupF, tcons, tnil, tnF_ap, lcT, sure_ok, M.sure, wipeF, wipeR, noOw, putR, r_sl, slK2_ap, slD, r_int, intK_ap, r_cell, cellO_ok, powD, parM, rsF, putAll, en_tup, en_lst, rg1_ok, rg2_ok, asgK_s, intsD_ints, tupOf, lstOf, seqD, mkT, mkL, np_tupled, np_rounds_between, np_load, np_loads, np_peak, np_shifted, np_written_out, np_joined, np_shared_peak, np_phase_peaks, np_best_phase, np_never_shares, np_peak_ticks, np_least_peak, np_even_births, np__law_box, np__law_take, np__law_cells, np__law_mixed, np__law_same, np__law_copies, np__law_loads, np__law_wide, np__law_shared, np_law, q1, q7, t6, hm, e, h]
theorem s4 (SC L8 L9 : D) (PK xs : List D) (g : Int) (x10 x11 : Sl) (S : List Cell) (r : rg1D [.int g] = some xs) (e : lcF [16] lt_law_1.f (evT (fnAt tbl 100000 60) lq_law_1) (ev (fnAt tbl 100000 60) le_law_1).r.val xs ⟨[.sh SC, .sh (.ref 0), .sh (.int g), .no, .no, .no, .no, .no, .sh L8, .sh L9, x10, x11, .no, .no, .no, .no, .no, .no, .no, .no, .no], S⟩ = .ok (.lst PK, true) ⟨[.sh SC, .sh (.ref 0), .sh (.int g), .no, .no, .no, .no, .no, .sh L8, .sh L9, x10, x11, .no, .no, .no, .no, .no, .no, .no, .no, .no], S⟩) :
    evS (fnAt tbl 100000 60) 100000 (.set 3 (.lc [16] lt_law_1 (.rg1 (.v 2)) lq_law_1 le_law_1)) ⟨[.sh SC, .sh (.ref 0), .sh (.int g), .no, .no, .no, .no, .no, .sh L8, .sh L9, x10, x11, .no, .no, .no, .no, .no, .no, .no, .no, .no], S⟩ = .ok .next ⟨[.sh SC, .sh (.ref 0), .sh (.int g), .ow (.lst PK), .no, .no, .no, .no, .sh L8, .sh L9, x10, x11, .no, .no, .no, .no, .no, .no, .no, .no, .no], S⟩ := by
  generalize hm : lcF [16] lt_law_1.f (evT (fnAt tbl 100000 60) lq_law_1) (ev (fnAt tbl 100000 60) le_law_1).r.val xs = F6 at e
  simp [evSs, evS, ev, evs, evO, evT, evI, Ev.of, bnd_ok, r_bind, r_pure, r_lift_s, r_val, r_inl, val_ok, inl_ok, res_l, res_r, r_var_sh, r_var_ow, r_mov_sh, r_mov_ow, r_pk_sh, r_pk_ow, r_peek_sh, r_peek_ow, r_seq, cont_next, cont_ret, r_ite, sel_t, sel_f, r_andB, r_orB, r_notB, r_andM, r_orR, r_notM, r_put, r_set, r_ret, retK_ap, r_drop, nextK_ap, r_asg, r_op, opK_ap, opK2_ap, r_opB, opBK_ap, opBK2_ap, r_un, unK_ap, r_truth, trK_ap, r_ix, ixK_ap, ixK2_ap, r_look_s, r_cons, consK_ap, consK2_ap, r_con, conK_ap, conK2_ap, r_callM, callK_ap, ress_nil, ress_cons, r_seqM, onlyV_nil, onlyV_cons, seqK_run, r_call, runF_ap, outS_ok, r_callF, fin_ret, fin_next, r_six, sixK_ap, sixK3_ap, nowS, gsP, gsV, dsA, Bop.g, Cop.g, Bif.g, K.d, addD, subD, divD, modD, negD, p64, intD, gtR, ltR, leR, geR, ltD, blD, blOf, M.look, ixS, ixD, cellAt, slOf, setAt, setOw, intOf, absD, lenD, List.set, truthD, isiD, tyD, isTy, chM, chB, r_lc, r_for, r_it, itK_ap, r_sq, sqK_ap,  eqR_int, eqR_non, neR_int, eqR_bl, neR_bl, Option.map_some, Out.val, Out.inl, T.f, Ts.f, Ts.n, tupF, tcons, tnil, tnF_ap, lcT, sure_ok, M.sure, wipeF, wipeR, noOw, putR, r_sl, slK2_ap, slD, r_int, intK_ap, r_cell, cellO_ok, powD, parM, rsF, putAll, en_tup, en_lst, rg1_ok, rg2_ok, asgK_s, intsD_ints, tupOf, lstOf, seqD, mkT, mkL, np_tupled, np_rounds_between, np_load, np_loads, np_peak, np_shifted, np_written_out, np_joined, np_shared_peak, np_phase_peaks, np_best_phase, np_never_shares, np_peak_ticks, np_least_peak, np_even_births, np__law_box, np__law_take, np__law_cells, np__law_mixed, np__law_same, np__law_copies, np__law_loads, np__law_wide, np__law_shared, np_law, r, hm, e]
theorem s5 (SC L8 L9 : D) (PK : List D) (g v : Int) (x10 x11 : Sl) (S S1 : List Cell) (e : F 60 i__law_take [.ref 0, .int 60] S = .ok (.int v, false) S1) :
    evS (fnAt tbl 100000 60) 100000 (.set 4 (.op .sub (.call i__law_take (.cons (.v 1) (.cons (.k (.int 60)) .nil))) (.k (.int 30)))) ⟨[.sh SC, .sh (.ref 0), .sh (.int g), .ow (.lst PK), .no, .no, .no, .no, .sh L8, .sh L9, x10, x11, .no, .no, .no, .no, .no, .no, .no, .no, .no], S⟩ = .ok .next ⟨[.sh SC, .sh (.ref 0), .sh (.int g), .ow (.lst PK), .sh (.int (v - 30)), .no, .no, .no, .sh L8, .sh L9, x10, x11, .no, .no, .no, .no, .no, .no, .no, .no, .no], S1⟩ := by
  simp [evSs, evS, ev, evs, evO, evT, evI, Ev.of, bnd_ok, r_bind, r_pure, r_lift_s, r_val, r_inl, val_ok, inl_ok, res_l, res_r, r_var_sh, r_var_ow, r_mov_sh, r_mov_ow, r_pk_sh, r_pk_ow, r_peek_sh, r_peek_ow, r_seq, cont_next, cont_ret, r_ite, sel_t, sel_f, r_andB, r_orB, r_notB, r_andM, r_orR, r_notM, r_put, r_set, r_ret, retK_ap, r_drop, nextK_ap, r_asg, r_op, opK_ap, opK2_ap, r_opB, opBK_ap, opBK2_ap, r_un, unK_ap, r_truth, trK_ap, r_ix, ixK_ap, ixK2_ap, r_look_s, r_cons, consK_ap, consK2_ap, r_con, conK_ap, conK2_ap, r_callM, callK_ap, ress_nil, ress_cons, r_seqM, onlyV_nil, onlyV_cons, seqK_run, r_call, runF_ap, outS_ok, r_callF, fin_ret, fin_next, r_six, sixK_ap, sixK3_ap, nowS, gsP, gsV, dsA, Bop.g, Cop.g, Bif.g, K.d, addD, subD, divD, modD, negD, p64, intD, gtR, ltR, leR, geR, ltD, blD, blOf, M.look, ixS, ixD, cellAt, slOf, setAt, setOw, intOf, absD, lenD, List.set, truthD, isiD, tyD, isTy, chM, chB, r_lc, r_for, r_it, itK_ap, r_sq, sqK_ap,  eqR_int, eqR_non, neR_int, eqR_bl, neR_bl, Option.map_some, Out.val, Out.inl, T.f, Ts.f, Ts.n, tupF, tcons, tnil, tnF_ap, lcT, sure_ok, M.sure, wipeF, wipeR, noOw, putR, r_sl, slK2_ap, slD, r_int, intK_ap, r_cell, cellO_ok, powD, parM, rsF, putAll, en_tup, en_lst, rg1_ok, rg2_ok, asgK_s, intsD_ints, tupOf, lstOf, seqD, mkT, mkL, np_tupled, np_rounds_between, np_load, np_loads, np_peak, np_shifted, np_written_out, np_joined, np_shared_peak, np_phase_peaks, np_best_phase, np_never_shares, np_peak_ticks, np_least_peak, np_even_births, np__law_box, np__law_take, np__law_cells, np__law_mixed, np__law_same, np__law_copies, np__law_loads, np__law_wide, np__law_shared, np_law, e]
theorem s6 (SC L8 L9 L10 L11 P : D) (PK : List D) (g far j v w : Int) (x10 x11 : Sl) (S : List Cell) (h1 : Two x10 L10) (h2 : Two x11 L11) (m : mulD (.int g) (.int 7) = some (.int (g * 7), false)) (e1 : F 60 i_phase_peaks [L10, L11] S = .ok (P, false) S) (e2 : F 60 i_best_phase [L10, L11] S = .ok (.int j, false) S) (e3 : F 60 i_shared_peak [L10, L11, .int far] S = .ok (.int v, false) S) (e4 : F 60 i_shared_peak [L10, L11, .int (far + g * 7)] S = .ok (.int w, false) S) :
    evS (fnAt tbl 100000 60) 100000 (.set 5 (.lst (.cons (.call i_phase_peaks (.cons (.v 10) (.cons (.v 11) .nil))) (.cons (.call i_best_phase (.cons (.v 10) (.cons (.v 11) .nil))) (.cons (.call i_shared_peak (.cons (.v 10) (.cons (.v 11) (.cons (.v 4) .nil)))) (.cons (.call i_shared_peak (.cons (.v 10) (.cons (.v 11) (.cons (.op .add (.v 4) (.op .mul (.v 2) (.k (.int 7)))) .nil)))) .nil)))))) ⟨[.sh SC, .sh (.ref 0), .sh (.int g), .ow (.lst PK), .sh (.int far), .no, .no, .no, .sh L8, .sh L9, x10, x11, .no, .no, .no, .no, .no, .no, .no, .no, .no], S⟩ = .ok .next ⟨[.sh SC, .sh (.ref 0), .sh (.int g), .ow (.lst PK), .sh (.int far), .ow (.lst [P, .int j, .int v, .int w]), .no, .no, .sh L8, .sh L9, .sh L10, .sh L11, .no, .no, .no, .no, .no, .no, .no, .no, .no], S⟩ := by
  rcases h1 with rfl | rfl <;> rcases h2 with rfl | rfl <;>
  simp [evSs, evS, ev, evs, evO, evT, evI, Ev.of, bnd_ok, r_bind, r_pure, r_lift_s, r_val, r_inl, val_ok, inl_ok, res_l, res_r, r_var_sh, r_var_ow, r_mov_sh, r_mov_ow, r_pk_sh, r_pk_ow, r_peek_sh, r_peek_ow, r_seq, cont_next, cont_ret, r_ite, sel_t, sel_f, r_andB, r_orB, r_notB, r_andM, r_orR, r_notM, r_put, r_set, r_ret, retK_ap, r_drop, nextK_ap, r_asg, r_op, opK_ap, opK2_ap, r_opB, opBK_ap, opBK2_ap, r_un, unK_ap, r_truth, trK_ap, r_ix, ixK_ap, ixK2_ap, r_look_s, r_cons, consK_ap, consK2_ap, r_con, conK_ap, conK2_ap, r_callM, callK_ap, ress_nil, ress_cons, r_seqM, onlyV_nil, onlyV_cons, seqK_run, r_call, runF_ap, outS_ok, r_callF, fin_ret, fin_next, r_six, sixK_ap, sixK3_ap, nowS, gsP, gsV, dsA, Bop.g, Cop.g, Bif.g, K.d, addD, subD, divD, modD, negD, p64, intD, gtR, ltR, leR, geR, ltD, blD, blOf, M.look, ixS, ixD, cellAt, slOf, setAt, setOw, intOf, absD, lenD, List.set, truthD, isiD, tyD, isTy, chM, chB, r_lc, r_for, r_it, itK_ap, r_sq, sqK_ap,  eqR_int, eqR_non, neR_int, eqR_bl, neR_bl, Option.map_some, Out.val, Out.inl, T.f, Ts.f, Ts.n, tupF, tcons, tnil, tnF_ap, lcT, sure_ok, M.sure, wipeF, wipeR, noOw, putR, r_sl, slK2_ap, slD, r_int, intK_ap, r_cell, cellO_ok, powD, parM, rsF, putAll, en_tup, en_lst, rg1_ok, rg2_ok, asgK_s, intsD_ints, tupOf, lstOf, seqD, mkT, mkL, np_tupled, np_rounds_between, np_load, np_loads, np_peak, np_shifted, np_written_out, np_joined, np_shared_peak, np_phase_peaks, np_best_phase, np_never_shares, np_peak_ticks, np_least_peak, np_even_births, np__law_box, np__law_take, np__law_cells, np__law_mixed, np__law_same, np__law_copies, np__law_loads, np__law_wide, np__law_shared, np_law, m, e1, e2, e3, e4]
theorem s7 (SC L8 L9 L10 L11 : D) (P : D) (PK : List D) (g far j v w mi : Int) (S : List Cell) (g0 : ¬ g = 0) (g1 : g.natAbs < 1073741824) (hP : P = .tup PK) (h1 : minOf [.lst PK] = some (intD mi)) (h2 : idxD PK (.int mi) = some (intD j)) (h3 : L2.atI PK (far.fmod g) = some (.int v)) (hw : w = v) (sm : F 60 i__law_same [.lst [.tup PK, .int j, .int v, .int v], .lst [.tup PK, .int j, .int v, .int v]] S = .ok (.bl true, false) S) :
    evS (fnAt tbl 100000 60) 100000 (.if_ (.nt (.call i__law_same (.cons (.v 5) (.cons (.lst (.cons (.bi .tuple (.cons (.v 3) .nil)) (.cons (.idx (.v 3) (.bi .min (.cons (.v 3) .nil))) (.cons (.ix (.v 3) (.op .mod (.bi .int (.cons (.v 4) .nil)) (.v 2))) (.cons (.ix (.v 3) (.op .mod (.bi .int (.cons (.v 4) .nil)) (.v 2))) .nil))))) .nil)))) (.cons (.ret (.k (.bl false))) .nil) .nil) ⟨[.sh SC, .sh (.ref 0), .sh (.int g), .ow (.lst PK), .sh (.int far), .ow (.lst [P, .int j, .int v, .int w]), .no, .no, .sh L8, .sh L9, .sh L10, .sh L11, .no, .no, .no, .no, .no, .no, .no, .no, .no], S⟩ = .ok .next ⟨[.sh SC, .sh (.ref 0), .sh (.int g), .sh (.lst PK), .sh (.int far), .sh (.lst [P, .int j, .int v, .int w]), .no, .no, .sh L8, .sh L9, .sh L10, .sh L11, .no, .no, .no, .no, .no, .no, .no, .no, .no], S⟩ := by
  subst hP hw
  simp [evSs, evS, ev, evs, evO, evT, evI, Ev.of, bnd_ok, r_bind, r_pure, r_lift_s, r_val, r_inl, val_ok, inl_ok, res_l, res_r, r_var_sh, r_var_ow, r_mov_sh, r_mov_ow, r_pk_sh, r_pk_ow, r_peek_sh, r_peek_ow, r_seq, cont_next, cont_ret, r_ite, sel_t, sel_f, r_andB, r_orB, r_notB, r_andM, r_orR, r_notM, r_put, r_set, r_ret, retK_ap, r_drop, nextK_ap, r_asg, r_op, opK_ap, opK2_ap, r_opB, opBK_ap, opBK2_ap, r_un, unK_ap, r_truth, trK_ap, r_ix, ixK_ap, ixK2_ap, r_look_s, r_cons, consK_ap, consK2_ap, r_con, conK_ap, conK2_ap, r_callM, callK_ap, ress_nil, ress_cons, r_seqM, onlyV_nil, onlyV_cons, seqK_run, r_call, runF_ap, outS_ok, r_callF, fin_ret, fin_next, r_six, sixK_ap, sixK3_ap, nowS, gsP, gsV, dsA, Bop.g, Cop.g, Bif.g, K.d, addD, subD, divD, modD, negD, p64, intD, gtR, ltR, leR, geR, ltD, blD, blOf, M.look, ixS, ixD, cellAt, slOf, setAt, setOw, intOf, absD, lenD, List.set, truthD, isiD, tyD, isTy, chM, chB, r_lc, r_for, r_it, itK_ap, r_sq, sqK_ap,  eqR_int, eqR_non, neR_int, eqR_bl, neR_bl, Option.map_some, Out.val, Out.inl, T.f, Ts.f, Ts.n, tupF, tcons, tnil, tnF_ap, lcT, sure_ok, M.sure, wipeF, wipeR, noOw, putR, r_sl, slK2_ap, slD, r_int, intK_ap, r_cell, cellO_ok, powD, parM, rsF, putAll, en_tup, en_lst, rg1_ok, rg2_ok, asgK_s, intsD_ints, tupOf, lstOf, seqD, mkT, mkL, np_tupled, np_rounds_between, np_load, np_loads, np_peak, np_shifted, np_written_out, np_joined, np_shared_peak, np_phase_peaks, np_best_phase, np_never_shares, np_peak_ticks, np_least_peak, np_even_births, np__law_box, np__law_take, np__law_cells, np__law_mixed, np__law_same, np__law_copies, np__law_loads, np__law_wide, np__law_shared, np_law, g0, g1, h1, h2, h3, sm, r_idx, idxK_ap, idxK_apT, idxK2_ap]
theorem s8 (SC L8 L9 L10 L11 G5 : D) (PK R1 R2 : List D) (g far : Int) (S : List Cell) (e1 : F 60 i__law_loads [L8] S = .ok (.lst R1, true) S) (e2 : F 60 i__law_loads [L9] S = .ok (.lst R2, true) S) :
    evS (fnAt tbl 100000 60) 100000 (.par [12, 13] (.cons (.call i__law_loads (.cons (.v 8) .nil)) (.cons (.call i__law_loads (.cons (.v 9) .nil)) .nil))) ⟨[.sh SC, .sh (.ref 0), .sh (.int g), .sh (.lst PK), .sh (.int far), .sh G5, .no, .no, .sh L8, .sh L9, .sh L10, .sh L11, .no, .no, .no, .no, .no, .no, .no, .no, .no], S⟩ = .ok .next ⟨[.sh SC, .sh (.ref 0), .sh (.int g), .sh (.lst PK), .sh (.int far), .sh G5, .no, .no, .sh L8, .sh L9, .sh L10, .sh L11, .ow (.lst R1), .ow (.lst R2), .no, .no, .no, .no, .no, .no, .no], S⟩ := by
  simp [evSs, evS, ev, evs, evO, evT, evI, Ev.of, bnd_ok, r_bind, r_pure, r_lift_s, r_val, r_inl, val_ok, inl_ok, res_l, res_r, r_var_sh, r_var_ow, r_mov_sh, r_mov_ow, r_pk_sh, r_pk_ow, r_peek_sh, r_peek_ow, r_seq, cont_next, cont_ret, r_ite, sel_t, sel_f, r_andB, r_orB, r_notB, r_andM, r_orR, r_notM, r_put, r_set, r_ret, retK_ap, r_drop, nextK_ap, r_asg, r_op, opK_ap, opK2_ap, r_opB, opBK_ap, opBK2_ap, r_un, unK_ap, r_truth, trK_ap, r_ix, ixK_ap, ixK2_ap, r_look_s, r_cons, consK_ap, consK2_ap, r_con, conK_ap, conK2_ap, r_callM, callK_ap, ress_nil, ress_cons, r_seqM, onlyV_nil, onlyV_cons, seqK_run, r_call, runF_ap, outS_ok, r_callF, fin_ret, fin_next, r_six, sixK_ap, sixK3_ap, nowS, gsP, gsV, dsA, Bop.g, Cop.g, Bif.g, K.d, addD, subD, divD, modD, negD, p64, intD, gtR, ltR, leR, geR, ltD, blD, blOf, M.look, ixS, ixD, cellAt, slOf, setAt, setOw, intOf, absD, lenD, List.set, truthD, isiD, tyD, isTy, chM, chB, r_lc, r_for, r_it, itK_ap, r_sq, sqK_ap,  eqR_int, eqR_non, neR_int, eqR_bl, neR_bl, Option.map_some, Out.val, Out.inl, T.f, Ts.f, Ts.n, tupF, tcons, tnil, tnF_ap, lcT, sure_ok, M.sure, wipeF, wipeR, noOw, putR, r_sl, slK2_ap, slD, r_int, intK_ap, r_cell, cellO_ok, powD, parM, rsF, putAll, en_tup, en_lst, rg1_ok, rg2_ok, asgK_s, intsD_ints, tupOf, lstOf, seqD, mkT, mkL, np_tupled, np_rounds_between, np_load, np_loads, np_peak, np_shifted, np_written_out, np_joined, np_shared_peak, np_phase_peaks, np_best_phase, np_never_shares, np_peak_ticks, np_least_peak, np_even_births, np__law_box, np__law_take, np__law_cells, np__law_mixed, np__law_same, np__law_copies, np__law_loads, np__law_wide, np__law_shared, np_law, e1, e2]
theorem s9 (SC L8 L9 L10 L11 G5 : D) (PK R1 R2 : List D) (g far : Int) (S : List Cell) (T1 T2 : List D) (e1 : lcF [19, 20] lt_law_2.f (evT (fnAt tbl 100000 60) lq_law_2) (ev (fnAt tbl 100000 60) le_law_2).r.val (enumD 0 R1) ⟨[.sh SC, .sh (.ref 0), .sh (.int g), .sh (.lst PK), .sh (.int far), .sh G5, .no, .no, .sh L8, .sh L9, .sh L10, .sh L11, .sh (.lst R1), .ow (.lst R2), .no, .no, .no, .no, .no, .no, .no], S⟩ = .ok (.lst T1, true) ⟨[.sh SC, .sh (.ref 0), .sh (.int g), .sh (.lst PK), .sh (.int far), .sh G5, .no, .no, .sh L8, .sh L9, .sh L10, .sh L11, .sh (.lst R1), .ow (.lst R2), .no, .no, .no, .no, .no, .no, .no], S⟩) (e2 : lcF [19, 20] lt_law_3.f (evT (fnAt tbl 100000 60) lq_law_3) (ev (fnAt tbl 100000 60) le_law_3).r.val (enumD 0 R2) ⟨[.sh SC, .sh (.ref 0), .sh (.int g), .sh (.lst PK), .sh (.int far), .sh G5, .no, .no, .sh L8, .sh L9, .sh L10, .sh L11, .sh (.lst R1), .sh (.lst R2), .no, .no, .no, .no, .no, .no, .no], S⟩ = .ok (.lst T2, true) ⟨[.sh SC, .sh (.ref 0), .sh (.int g), .sh (.lst PK), .sh (.int far), .sh G5, .no, .no, .sh L8, .sh L9, .sh L10, .sh L11, .sh (.lst R1), .sh (.lst R2), .no, .no, .no, .no, .no, .no, .no], S⟩) :
    evS (fnAt tbl 100000 60) 100000 (.par [14, 15] (.cons (.lc [19, 20] lt_law_2 (.enum (.v 12)) lq_law_2 le_law_2) (.cons (.lc [19, 20] lt_law_3 (.enum (.v 13)) lq_law_3 le_law_3) .nil))) ⟨[.sh SC, .sh (.ref 0), .sh (.int g), .sh (.lst PK), .sh (.int far), .sh G5, .no, .no, .sh L8, .sh L9, .sh L10, .sh L11, .ow (.lst R1), .ow (.lst R2), .no, .no, .no, .no, .no, .no, .no], S⟩ = .ok .next ⟨[.sh SC, .sh (.ref 0), .sh (.int g), .sh (.lst PK), .sh (.int far), .sh G5, .no, .no, .sh L8, .sh L9, .sh L10, .sh L11, .sh (.lst R1), .sh (.lst R2), .ow (.lst T1), .ow (.lst T2), .no, .no, .no, .no, .no], S⟩ := by
  generalize hm1 : lcF [19, 20] lt_law_2.f (evT (fnAt tbl 100000 60) lq_law_2) (ev (fnAt tbl 100000 60) le_law_2).r.val (enumD 0 R1) = F1 at e1
  generalize hm2 : lcF [19, 20] lt_law_3.f (evT (fnAt tbl 100000 60) lq_law_3) (ev (fnAt tbl 100000 60) le_law_3).r.val (enumD 0 R2) = F2 at e2
  simp [evSs, evS, ev, evs, evO, evT, evI, Ev.of, bnd_ok, r_bind, r_pure, r_lift_s, r_val, r_inl, val_ok, inl_ok, res_l, res_r, r_var_sh, r_var_ow, r_mov_sh, r_mov_ow, r_pk_sh, r_pk_ow, r_peek_sh, r_peek_ow, r_seq, cont_next, cont_ret, r_ite, sel_t, sel_f, r_andB, r_orB, r_notB, r_andM, r_orR, r_notM, r_put, r_set, r_ret, retK_ap, r_drop, nextK_ap, r_asg, r_op, opK_ap, opK2_ap, r_opB, opBK_ap, opBK2_ap, r_un, unK_ap, r_truth, trK_ap, r_ix, ixK_ap, ixK2_ap, r_look_s, r_cons, consK_ap, consK2_ap, r_con, conK_ap, conK2_ap, r_callM, callK_ap, ress_nil, ress_cons, r_seqM, onlyV_nil, onlyV_cons, seqK_run, r_call, runF_ap, outS_ok, r_callF, fin_ret, fin_next, r_six, sixK_ap, sixK3_ap, nowS, gsP, gsV, dsA, Bop.g, Cop.g, Bif.g, K.d, addD, subD, divD, modD, negD, p64, intD, gtR, ltR, leR, geR, ltD, blD, blOf, M.look, ixS, ixD, cellAt, slOf, setAt, setOw, intOf, absD, lenD, List.set, truthD, isiD, tyD, isTy, chM, chB, r_lc, r_for, r_it, itK_ap, r_sq, sqK_ap,  eqR_int, eqR_non, neR_int, eqR_bl, neR_bl, Option.map_some, Out.val, Out.inl, T.f, Ts.f, Ts.n, tupF, tcons, tnil, tnF_ap, lcT, sure_ok, M.sure, wipeF, wipeR, noOw, putR, r_sl, slK2_ap, slD, r_int, intK_ap, r_cell, cellO_ok, powD, parM, rsF, putAll, en_tup, en_lst, rg1_ok, rg2_ok, asgK_s, intsD_ints, tupOf, lstOf, seqD, mkT, mkL, np_tupled, np_rounds_between, np_load, np_loads, np_peak, np_shifted, np_written_out, np_joined, np_shared_peak, np_phase_peaks, np_best_phase, np_never_shares, np_peak_ticks, np_least_peak, np_even_births, np__law_box, np__law_take, np__law_cells, np__law_mixed, np__law_same, np__law_copies, np__law_loads, np__law_wide, np__law_shared, np_law, hm1, hm2, e1, e2]
theorem s10 (SC L8 L9 L10 L11 G5 : D) (PK R1 R2 : List D) (g far : Int) (S : List Cell) (T1 T2 MS xs : List D) (r : rg1D [.int g] = some xs) (e1 : lcF [16] lt_law_4.f (evT (fnAt tbl 100000 60) lq_law_4) (ev (fnAt tbl 100000 60) le_law_4).r.val xs ⟨[.sh SC, .sh (.ref 0), .sh (.int g), .sh (.lst PK), .sh (.int far), .sh G5, .no, .no, .sh L8, .sh L9, .sh L10, .sh L11, .sh (.lst R1), .sh (.lst R2), .ow (.lst T1), .ow (.lst T2), .no, .no, .no, .no, .no], S⟩ = .ok (.lst MS, true) ⟨[.sh SC, .sh (.ref 0), .sh (.int g), .sh (.lst PK), .sh (.int far), .sh G5, .no, .no, .sh L8, .sh L9, .sh L10, .sh L11, .sh (.lst R1), .sh (.lst R2), .sh (.lst T1), .sh (.lst T2), .no, .no, .no, .no, .no], S⟩) :
    evS (fnAt tbl 100000 60) 100000 (.set 6 (.lc [16] lt_law_4 (.rg1 (.v 2)) lq_law_4 le_law_4)) ⟨[.sh SC, .sh (.ref 0), .sh (.int g), .sh (.lst PK), .sh (.int far), .sh G5, .no, .no, .sh L8, .sh L9, .sh L10, .sh L11, .sh (.lst R1), .sh (.lst R2), .ow (.lst T1), .ow (.lst T2), .no, .no, .no, .no, .no], S⟩ = .ok .next ⟨[.sh SC, .sh (.ref 0), .sh (.int g), .sh (.lst PK), .sh (.int far), .sh G5, .ow (.lst MS), .no, .sh L8, .sh L9, .sh L10, .sh L11, .sh (.lst R1), .sh (.lst R2), .sh (.lst T1), .sh (.lst T2), .no, .no, .no, .no, .no], S⟩ := by
  generalize hm1 : lcF [16] lt_law_4.f (evT (fnAt tbl 100000 60) lq_law_4) (ev (fnAt tbl 100000 60) le_law_4).r.val xs = F1 at e1
  simp [evSs, evS, ev, evs, evO, evT, evI, Ev.of, bnd_ok, r_bind, r_pure, r_lift_s, r_val, r_inl, val_ok, inl_ok, res_l, res_r, r_var_sh, r_var_ow, r_mov_sh, r_mov_ow, r_pk_sh, r_pk_ow, r_peek_sh, r_peek_ow, r_seq, cont_next, cont_ret, r_ite, sel_t, sel_f, r_andB, r_orB, r_notB, r_andM, r_orR, r_notM, r_put, r_set, r_ret, retK_ap, r_drop, nextK_ap, r_asg, r_op, opK_ap, opK2_ap, r_opB, opBK_ap, opBK2_ap, r_un, unK_ap, r_truth, trK_ap, r_ix, ixK_ap, ixK2_ap, r_look_s, r_cons, consK_ap, consK2_ap, r_con, conK_ap, conK2_ap, r_callM, callK_ap, ress_nil, ress_cons, r_seqM, onlyV_nil, onlyV_cons, seqK_run, r_call, runF_ap, outS_ok, r_callF, fin_ret, fin_next, r_six, sixK_ap, sixK3_ap, nowS, gsP, gsV, dsA, Bop.g, Cop.g, Bif.g, K.d, addD, subD, divD, modD, negD, p64, intD, gtR, ltR, leR, geR, ltD, blD, blOf, M.look, ixS, ixD, cellAt, slOf, setAt, setOw, intOf, absD, lenD, List.set, truthD, isiD, tyD, isTy, chM, chB, r_lc, r_for, r_it, itK_ap, r_sq, sqK_ap,  eqR_int, eqR_non, neR_int, eqR_bl, neR_bl, Option.map_some, Out.val, Out.inl, T.f, Ts.f, Ts.n, tupF, tcons, tnil, tnF_ap, lcT, sure_ok, M.sure, wipeF, wipeR, noOw, putR, r_sl, slK2_ap, slD, r_int, intK_ap, r_cell, cellO_ok, powD, parM, rsF, putAll, en_tup, en_lst, rg1_ok, rg2_ok, asgK_s, intsD_ints, tupOf, lstOf, seqD, mkT, mkL, np_tupled, np_rounds_between, np_load, np_loads, np_peak, np_shifted, np_written_out, np_joined, np_shared_peak, np_phase_peaks, np_best_phase, np_never_shares, np_peak_ticks, np_least_peak, np_even_births, np__law_box, np__law_take, np__law_cells, np__law_mixed, np__law_same, np__law_copies, np__law_loads, np__law_wide, np__law_shared, np_law, r, hm1, e1]
theorem s11 (SC L8 L9 L10 L11 G5 : D) (PK R1 R2 : List D) (g far : Int) (S : List Cell) (T1 T2 MS : List D) (nv : Bool) (mx mn : Int) (e1 : F 60 i_never_shares [L10, L11] S = .ok (.bl nv, false) S) (e2 : F 60 i_peak_ticks [L10] S = .ok (.tup T1, false) S) (e3 : F 60 i_peak_ticks [L11] S = .ok (.tup T2, false) S) (e4 : F 60 i_even_births [L10] S = .ok (.bl (!decide (1 < mx - mn)), false) S) (h1 : inD true (.bl false) (.lst MS) = some (blD nv)) (h2 : maxOf [.lst R1] = some (intD mx)) (h3 : minOf [.lst R1] = some (intD mn)) (sm : F 60 i__law_same [.lst [.bl nv, .tup T1, .tup T2, .bl (!decide (1 < mx - mn))], .lst [.bl nv, .tup T1, .tup T2, .bl (!decide (1 < mx - mn))]] S = .ok (.bl true, false) S) :
    evS (fnAt tbl 100000 60) 100000 (.if_ (.nt (.call i__law_same (.cons (.lst (.cons (.call i_never_shares (.cons (.v 10) (.cons (.v 11) .nil))) (.cons (.call i_peak_ticks (.cons (.v 10) .nil)) (.cons (.call i_peak_ticks (.cons (.v 11) .nil)) (.cons (.call i_even_births (.cons (.v 10) .nil)) .nil))))) (.cons (.lst (.cons (.cmp .nin (.k (.bl false)) (.v 6)) (.cons (.bi .tuple (.cons (.v 14) .nil)) (.cons (.bi .tuple (.cons (.v 15) .nil)) (.cons (.cmp .le (.op .sub (.bi .max (.cons (.v 12) .nil)) (.bi .min (.cons (.v 12) .nil))) (.k (.int 1))) .nil))))) .nil)))) (.cons (.ret (.k (.bl false))) .nil) .nil) ⟨[.sh SC, .sh (.ref 0), .sh (.int g), .sh (.lst PK), .sh (.int far), .sh G5, .ow (.lst MS), .no, .sh L8, .sh L9, .sh L10, .sh L11, .sh (.lst R1), .sh (.lst R2), .sh (.lst T1), .sh (.lst T2), .no, .no, .no, .no, .no], S⟩ = .ok .next ⟨[.sh SC, .sh (.ref 0), .sh (.int g), .sh (.lst PK), .sh (.int far), .sh G5, .ow (.lst MS), .no, .sh L8, .sh L9, .sh L10, .sh L11, .sh (.lst R1), .sh (.lst R2), .sh (.lst T1), .sh (.lst T2), .no, .no, .no, .no, .no], S⟩ := by
  generalize hb : (!decide (1 < mx - mn)) = evn at e4 sm
  simp [evSs, evS, ev, evs, evO, evT, evI, Ev.of, bnd_ok, r_bind, r_pure, r_lift_s, r_val, r_inl, val_ok, inl_ok, res_l, res_r, r_var_sh, r_var_ow, r_mov_sh, r_mov_ow, r_pk_sh, r_pk_ow, r_peek_sh, r_peek_ow, r_seq, cont_next, cont_ret, r_ite, sel_t, sel_f, r_andB, r_orB, r_notB, r_andM, r_orR, r_notM, r_put, r_set, r_ret, retK_ap, r_drop, nextK_ap, r_asg, r_op, opK_ap, opK2_ap, r_opB, opBK_ap, opBK2_ap, r_un, unK_ap, r_truth, trK_ap, r_ix, ixK_ap, ixK2_ap, r_look_s, r_cons, consK_ap, consK2_ap, r_con, conK_ap, conK2_ap, r_callM, callK_ap, ress_nil, ress_cons, r_seqM, onlyV_nil, onlyV_cons, seqK_run, r_call, runF_ap, outS_ok, r_callF, fin_ret, fin_next, r_six, sixK_ap, sixK3_ap, nowS, gsP, gsV, dsA, Bop.g, Cop.g, Bif.g, K.d, addD, subD, divD, modD, negD, p64, intD, gtR, ltR, leR, geR, ltD, blD, blOf, M.look, ixS, ixD, cellAt, slOf, setAt, setOw, intOf, absD, lenD, List.set, truthD, isiD, tyD, isTy, chM, chB, r_lc, r_for, r_it, itK_ap, r_sq, sqK_ap,  eqR_int, eqR_non, neR_int, eqR_bl, neR_bl, Option.map_some, Out.val, Out.inl, T.f, Ts.f, Ts.n, tupF, tcons, tnil, tnF_ap, lcT, sure_ok, M.sure, wipeF, wipeR, noOw, putR, r_sl, slK2_ap, slD, r_int, intK_ap, r_cell, cellO_ok, powD, parM, rsF, putAll, en_tup, en_lst, rg1_ok, rg2_ok, asgK_s, intsD_ints, tupOf, lstOf, seqD, mkT, mkL, np_tupled, np_rounds_between, np_load, np_loads, np_peak, np_shifted, np_written_out, np_joined, np_shared_peak, np_phase_peaks, np_best_phase, np_never_shares, np_peak_ticks, np_least_peak, np_even_births, np__law_box, np__law_take, np__law_cells, np__law_mixed, np__law_same, np__law_copies, np__law_loads, np__law_wide, np__law_shared, np_law, e1, e2, e3, e4, h1, h2, h3, sm, hb]
theorem s12 (SC L8 L9 L10 L11 G5 : D) (PK R1 R2 : List D) (g far : Int) (S : List Cell) (T1 T2 MS xs NK : List D) (mi p1 p2 : Int) (e1 : F 60 i_never_shares [L10, L11] S = .ok (.bl (decide (mi = p1 + p2)), false) S) (h1 : minOf [.lst PK] = some (intD mi)) (e2 : F 60 i_peak [L8] S = .ok (.int p1, false) S) (e3 : F 60 i_peak [L9] S = .ok (.int p2, false) S) (e4 : F 60 i_phase_peaks [L11, L10] S = .ok (.tup NK, false) S) (r : rg1D [.int g] = some xs) (e5 : lcF [16] lt_law_7.f (evT (fnAt tbl 100000 60) lq_law_7) (ev (fnAt tbl 100000 60) le_law_7).r.val xs ⟨[.sh SC, .sh (.ref 0), .sh (.int g), .sh (.lst PK), .sh (.int far), .sh G5, .ow (.lst MS), .no, .sh L8, .sh L9, .sh L10, .sh L11, .sh (.lst R1), .sh (.lst R2), .sh (.lst T1), .sh (.lst T2), .no, .no, .no, .no, .no], S⟩ = .ok (.lst NK, true) ⟨[.sh SC, .sh (.ref 0), .sh (.int g), .sh (.lst PK), .sh (.int far), .sh G5, .ow (.lst MS), .no, .sh L8, .sh L9, .sh L10, .sh L11, .sh (.lst R1), .sh (.lst R2), .sh (.lst T1), .sh (.lst T2), .no, .no, .no, .no, .no], S⟩) (h2 : neR (.tup NK) (.tup NK) = some (blD false)) :
    evS (fnAt tbl 100000 60) 100000 (.if_ (.or (.cmp .ne (.call i_never_shares (.cons (.v 10) (.cons (.v 11) .nil))) (.cmp .eq (.bi .min (.cons (.v 3) .nil)) (.op .add (.call i_peak (.cons (.v 8) .nil)) (.call i_peak (.cons (.v 9) .nil))))) (.cmp .ne (.call i_phase_peaks (.cons (.v 11) (.cons (.v 10) .nil))) (.bi .tuple (.cons (.lc [16] lt_law_7 (.rg1 (.v 2)) lq_law_7 le_law_7) .nil)))) (.cons (.ret (.k (.bl false))) .nil) .nil) ⟨[.sh SC, .sh (.ref 0), .sh (.int g), .sh (.lst PK), .sh (.int far), .sh G5, .ow (.lst MS), .no, .sh L8, .sh L9, .sh L10, .sh L11, .sh (.lst R1), .sh (.lst R2), .sh (.lst T1), .sh (.lst T2), .no, .no, .no, .no, .no], S⟩ = .ok .next ⟨[.sh SC, .sh (.ref 0), .sh (.int g), .sh (.lst PK), .sh (.int far), .sh G5, .ow (.lst MS), .no, .sh L8, .sh L9, .sh L10, .sh L11, .sh (.lst R1), .sh (.lst R2), .sh (.lst T1), .sh (.lst T2), .no, .no, .no, .no, .no], S⟩ := by
  generalize hm1 : lcF [16] lt_law_7.f (evT (fnAt tbl 100000 60) lq_law_7) (ev (fnAt tbl 100000 60) le_law_7).r.val xs = F1 at e5
  simp [evSs, evS, ev, evs, evO, evT, evI, Ev.of, bnd_ok, r_bind, r_pure, r_lift_s, r_val, r_inl, val_ok, inl_ok, res_l, res_r, r_var_sh, r_var_ow, r_mov_sh, r_mov_ow, r_pk_sh, r_pk_ow, r_peek_sh, r_peek_ow, r_seq, cont_next, cont_ret, r_ite, sel_t, sel_f, r_andB, r_orB, r_notB, r_andM, r_orR, r_notM, r_put, r_set, r_ret, retK_ap, r_drop, nextK_ap, r_asg, r_op, opK_ap, opK2_ap, r_opB, opBK_ap, opBK2_ap, r_un, unK_ap, r_truth, trK_ap, r_ix, ixK_ap, ixK2_ap, r_look_s, r_cons, consK_ap, consK2_ap, r_con, conK_ap, conK2_ap, r_callM, callK_ap, ress_nil, ress_cons, r_seqM, onlyV_nil, onlyV_cons, seqK_run, r_call, runF_ap, outS_ok, r_callF, fin_ret, fin_next, r_six, sixK_ap, sixK3_ap, nowS, gsP, gsV, dsA, Bop.g, Cop.g, Bif.g, K.d, addD, subD, divD, modD, negD, p64, intD, gtR, ltR, leR, geR, ltD, blD, blOf, M.look, ixS, ixD, cellAt, slOf, setAt, setOw, intOf, absD, lenD, List.set, truthD, isiD, tyD, isTy, chM, chB, r_lc, r_for, r_it, itK_ap, r_sq, sqK_ap,  eqR_int, eqR_non, neR_int, eqR_bl, neR_bl, Option.map_some, Out.val, Out.inl, T.f, Ts.f, Ts.n, tupF, tcons, tnil, tnF_ap, lcT, sure_ok, M.sure, wipeF, wipeR, noOw, putR, r_sl, slK2_ap, slD, r_int, intK_ap, r_cell, cellO_ok, powD, parM, rsF, putAll, en_tup, en_lst, rg1_ok, rg2_ok, asgK_s, intsD_ints, tupOf, lstOf, seqD, mkT, mkL, np_tupled, np_rounds_between, np_load, np_loads, np_peak, np_shifted, np_written_out, np_joined, np_shared_peak, np_phase_peaks, np_best_phase, np_never_shares, np_peak_ticks, np_least_peak, np_even_births, np__law_box, np__law_take, np__law_cells, np__law_mixed, np__law_same, np__law_copies, np__law_loads, np__law_wide, np__law_shared, np_law, e1, e2, e3, e4, h1, r, hm1, e5, h2]
theorem s13 (SC L8 L9 L10 L11 G5 : D) (PK R1 R2 : List D) (g far : Int) (S : List Cell) (T1 T2 MS xs LO : List D) (n : Int) (S1 S2 : List Cell) (e1 : F 60 i__law_take [.ref 0, .int 6] S = .ok (.int n, false) S1) (r : rg1D [.int n] = some xs) (e2 : lcF [18] lt_law_8.f (evT (fnAt tbl 100000 60) lq_law_8) (ev (fnAt tbl 100000 60) le_law_8).r.val xs ⟨[.sh SC, .sh (.ref 0), .sh (.int g), .sh (.lst PK), .sh (.int far), .sh G5, .ow (.lst MS), .no, .sh L8, .sh L9, .sh L10, .sh L11, .sh (.lst R1), .sh (.lst R2), .sh (.lst T1), .sh (.lst T2), .no, .no, .no, .no, .no], S1⟩ = .ok (.lst LO, true) ⟨[.sh SC, .sh (.ref 0), .sh (.int g), .sh (.lst PK), .sh (.int far), .sh G5, .ow (.lst MS), .no, .sh L8, .sh L9, .sh L10, .sh L11, .sh (.lst R1), .sh (.lst R2), .sh (.lst T1), .sh (.lst T2), .no, .no, .no, .no, .no], S2⟩) :
    evS (fnAt tbl 100000 60) 100000 (.set 7 (.bi .tuple (.cons (.lc [18] lt_law_8 (.rg1 (.call i__law_take (.cons (.v 1) (.cons (.k (.int 6)) .nil)))) lq_law_8 le_law_8) .nil))) ⟨[.sh SC, .sh (.ref 0), .sh (.int g), .sh (.lst PK), .sh (.int far), .sh G5, .ow (.lst MS), .no, .sh L8, .sh L9, .sh L10, .sh L11, .sh (.lst R1), .sh (.lst R2), .sh (.lst T1), .sh (.lst T2), .no, .no, .no, .no, .no], S⟩ = .ok .next ⟨[.sh SC, .sh (.ref 0), .sh (.int g), .sh (.lst PK), .sh (.int far), .sh G5, .ow (.lst MS), .sh (.tup LO), .sh L8, .sh L9, .sh L10, .sh L11, .sh (.lst R1), .sh (.lst R2), .sh (.lst T1), .sh (.lst T2), .no, .no, .no, .no, .no], S2⟩ := by
  generalize hm1 : lcF [18] lt_law_8.f (evT (fnAt tbl 100000 60) lq_law_8) (ev (fnAt tbl 100000 60) le_law_8).r.val xs = F1 at e2
  simp [evSs, evS, ev, evs, evO, evT, evI, Ev.of, bnd_ok, r_bind, r_pure, r_lift_s, r_val, r_inl, val_ok, inl_ok, res_l, res_r, r_var_sh, r_var_ow, r_mov_sh, r_mov_ow, r_pk_sh, r_pk_ow, r_peek_sh, r_peek_ow, r_seq, cont_next, cont_ret, r_ite, sel_t, sel_f, r_andB, r_orB, r_notB, r_andM, r_orR, r_notM, r_put, r_set, r_ret, retK_ap, r_drop, nextK_ap, r_asg, r_op, opK_ap, opK2_ap, r_opB, opBK_ap, opBK2_ap, r_un, unK_ap, r_truth, trK_ap, r_ix, ixK_ap, ixK2_ap, r_look_s, r_cons, consK_ap, consK2_ap, r_con, conK_ap, conK2_ap, r_callM, callK_ap, ress_nil, ress_cons, r_seqM, onlyV_nil, onlyV_cons, seqK_run, r_call, runF_ap, outS_ok, r_callF, fin_ret, fin_next, r_six, sixK_ap, sixK3_ap, nowS, gsP, gsV, dsA, Bop.g, Cop.g, Bif.g, K.d, addD, subD, divD, modD, negD, p64, intD, gtR, ltR, leR, geR, ltD, blD, blOf, M.look, ixS, ixD, cellAt, slOf, setAt, setOw, intOf, absD, lenD, List.set, truthD, isiD, tyD, isTy, chM, chB, r_lc, r_for, r_it, itK_ap, r_sq, sqK_ap,  eqR_int, eqR_non, neR_int, eqR_bl, neR_bl, Option.map_some, Out.val, Out.inl, T.f, Ts.f, Ts.n, tupF, tcons, tnil, tnF_ap, lcT, sure_ok, M.sure, wipeF, wipeR, noOw, putR, r_sl, slK2_ap, slD, r_int, intK_ap, r_cell, cellO_ok, powD, parM, rsF, putAll, en_tup, en_lst, rg1_ok, rg2_ok, asgK_s, intsD_ints, tupOf, lstOf, seqD, mkT, mkL, np_tupled, np_rounds_between, np_load, np_loads, np_peak, np_shifted, np_written_out, np_joined, np_shared_peak, np_phase_peaks, np_best_phase, np_never_shares, np_peak_ticks, np_least_peak, np_even_births, np__law_box, np__law_take, np__law_cells, np__law_mixed, np__law_same, np__law_copies, np__law_loads, np__law_wide, np__law_shared, np_law, e1, r, hm1, e2]
theorem s14 (SC X8 L9 L10 L11 G5 ML : D) (PK R1 R2 : List D) (g far : Int) (S : List Cell) (T1 T2 MS LO rl : List D) (fr : Bool) (a v su : Int) (S1 : List Cell) (e1 : F 60 i__law_mixed [.ref 0, .tup LO] S = .ok (ML, fr) S1) (e2 : F 60 i_least_peak [.int a, ML] S1 = .ok (.int v, false) S1) (h1 : sumOf [.tup LO] = some (intD su)) (h2 : rg3D [.int 0, .int su, .int a] = some rl) (h3 : (rl.length : Int) = v) (h4 : rl.length ≤ 16777216) (sm : F 60 i__law_same [.int v, .int v] S1 = .ok (.bl true, false) S1) :
    evS (fnAt tbl 100000 60) 100000 (.ret (.call i__law_same (.cons (.call i_least_peak (.cons (.ix (.v 8) (.k (.int 0))) (.cons (.call i__law_mixed (.cons (.v 1) (.cons (.v 7) .nil))) .nil))) (.cons (.bi .len (.cons (.lr3 (.k (.int 0)) (.bi .sum (.cons (.v 7) .nil)) (.ix (.v 8) (.k (.int 0)))) .nil)) .nil)))) ⟨[.sh SC, .sh (.ref 0), .sh (.int g), .sh (.lst PK), .sh (.int far), .sh G5, .ow (.lst MS), .sh (.tup LO), .sh (.tup [.int a, X8]), .sh L9, .sh L10, .sh L11, .sh (.lst R1), .sh (.lst R2), .sh (.lst T1), .sh (.lst T2), .no, .no, .no, .no, .no], S⟩ = .ok (.ret (.bl true, false)) ⟨[.sh SC, .sh (.ref 0), .sh (.int g), .sh (.lst PK), .sh (.int far), .sh G5, .ow (.lst MS), .sh (.tup LO), .sh (.tup [.int a, X8]), .sh L9, .sh L10, .sh L11, .sh (.lst R1), .sh (.lst R2), .sh (.lst T1), .sh (.lst T2), .no, .no, .no, .no, .no], S1⟩ := by
  simp [evSs, evS, ev, evs, evO, evT, evI, Ev.of, bnd_ok, r_bind, r_pure, r_lift_s, r_val, r_inl, val_ok, inl_ok, res_l, res_r, r_var_sh, r_var_ow, r_mov_sh, r_mov_ow, r_pk_sh, r_pk_ow, r_peek_sh, r_peek_ow, r_seq, cont_next, cont_ret, r_ite, sel_t, sel_f, r_andB, r_orB, r_notB, r_andM, r_orR, r_notM, r_put, r_set, r_ret, retK_ap, r_drop, nextK_ap, r_asg, r_op, opK_ap, opK2_ap, r_opB, opBK_ap, opBK2_ap, r_un, unK_ap, r_truth, trK_ap, r_ix, ixK_ap, ixK2_ap, r_look_s, r_cons, consK_ap, consK2_ap, r_con, conK_ap, conK2_ap, r_callM, callK_ap, ress_nil, ress_cons, r_seqM, onlyV_nil, onlyV_cons, seqK_run, r_call, runF_ap, outS_ok, r_callF, fin_ret, fin_next, r_six, sixK_ap, sixK3_ap, nowS, gsP, gsV, dsA, Bop.g, Cop.g, Bif.g, K.d, addD, subD, divD, modD, negD, p64, intD, gtR, ltR, leR, geR, ltD, blD, blOf, M.look, ixS, ixD, cellAt, slOf, setAt, setOw, intOf, absD, lenD, ixN, atI, List.set, truthD, isiD, tyD, isTy, chM, chB, r_lc, r_for, r_it, itK_ap, r_sq, sqK_ap,  eqR_int, eqR_non, neR_int, eqR_bl, neR_bl, Option.map_some, Out.val, Out.inl, T.f, Ts.f, Ts.n, tupF, tcons, tnil, tnF_ap, lcT, sure_ok, M.sure, wipeF, wipeR, noOw, putR, r_sl, slK2_ap, slD, r_int, intK_ap, r_cell, cellO_ok, powD, parM, rsF, putAll, en_tup, en_lst, rg1_ok, rg2_ok, asgK_s, intsD_ints, tupOf, lstOf, seqD, mkT, mkL, np_tupled, np_rounds_between, np_load, np_loads, np_peak, np_shifted, np_written_out, np_joined, np_shared_peak, np_phase_peaks, np_best_phase, np_never_shares, np_peak_ticks, np_least_peak, np_even_births, np__law_box, np__law_take, np__law_cells, np__law_mixed, np__law_same, np__law_copies, np__law_loads, np__law_wide, np__law_shared, np_law, e1, e2, h1, h2, h3, h4, sm, lrM, lrG]
end Law
namespace Law
open PySem L2 Pv
theorem law_eval (ns : List Int) (hl0 : ns.length ≤ 63) (hbits : ∀ z ∈ ns, PySem.Builtin.Int.intBits z ≤ 1048576) : ∃ S, (fnAt tbl 100000 (60 + 1) i_law).2 [.scr ns] [] = .ok (.bl true, false) S := by
  obtain ⟨z, ez⟩ := f_cells 59 ns [] hl0
  obtain ⟨ba, bs, eb, hba, hbs, hbs2⟩ := f_box 59 z []
  have U0 : Urn [.lst [.int ba, .int bs, .int 0]] 0 := ⟨ba, bs, 0, rfl, hba, hbs, hbs2, by omega, by omega⟩
  obtain ⟨a, ps, S1, ha, hgp, hz, U1, ew1⟩ := f_wide 58 _ 0 U0 (by decide)
  obtain ⟨b, qs, S2, hb, hgq, hz2, U2, ew2⟩ := f_wide 58 S1 _ U1 (by decide)
  have gp : ∀ p ∈ ps, good a p := fun p h => wide_good (hgp p h)
  have gq : ∀ p ∈ qs, good b p := fun p h => wide_good (hgq p h)
  have pp : posL ps := fun p h => by have := (hgp p h).2.2.1; omega
  have pq : posL qs := fun p h => by have := (hgq p h).2.2.1; omega
  obtain ⟨dm, f1, S3, em1, hsoft1, _, U3⟩ := f_mixed 10 56 (by decide) 3 (encL a ps) (pw_enc (by omega)) S2 _ U2 (by decide)
  obtain ⟨k1, k2, ds, rfl, hl1⟩ := soft_inv hsoft1
  obtain ⟨dm2, f2, S4, em2, hsoft2, _, U4⟩ := f_mixed 10 56 (by decide) 3 (encL b qs) (pw_enc (by omega)) S3 _ U3 (by decide)
  obtain ⟨k3, k4, es, rfl, hl2⟩ := soft_inv hsoft2
  obtain ⟨v, S5, et, v0, v1, U5⟩ := f_take 59 60 S4 _ (by decide) (by decide) U4 (by decide)
  obtain ⟨n, S6, en, n0, n1, U6⟩ := f_take 59 6 S5 _ (by decide) (by decide) U5 (by decide)
  clear hsoft1 hsoft2 hgp hgq
  have X := six ha hb
  have g1 := X.g1
  have g6 := X.g6
  have smg : sm62 (gI a b) = true := by unfold sm62; simp; omega
  have smn : sm62 n = true := by unfold sm62; simp; omega
  have hzp : ps.length ≤ 10 := by omega
  have hzq : qs.length ≤ 10 := by omega
  have ne := peaksI_ne ha hb ps qs
  have ne1 : loadsI a ps ≠ [] := loadsI_ne (by omega)
  have ne2 : loadsI b qs ≠ [] := loadsI_ne (by omega)
  have ll1 : (loadsI a ps).length ≤ 10 := by unfold loadsI; simp; omega
  have ll2 : (loadsI b qs).length ≤ 10 := by unfold loadsI; simp; omega
  have lt1 := ticks_len (maxI (loadsI a ps)) (loadsI a ps) 0
  have lt2 := ticks_len (maxI (loadsI b qs)) (loadsI b qs) 0
  obtain ⟨j, hj⟩ := idx_min ne
  have pkl : (peaksI a b ps qs).length ≤ 10 := by unfold peaksI; simp; omega
  -- the calls
  have eP : F 60 i_phase_peaks [sq k1 [.int a, sq k2 ds], sq k3 [.int b, sq k4 es]] S5 = .ok (.tup ((peaksI a b ps qs).map .int), false) S5 := f_peaks 52 a b k1 k2 k3 k4 ps qs ds es S5 ha hb hl1 hl2 hzp hzq
  have eB : F 60 i_best_phase [sq k1 [.int a, sq k2 ds], sq k3 [.int b, sq k4 es]] S5 = .ok (.int (j : Int), false) S5 := f_best 51 a b k1 k2 k3 k4 ps qs ds es S5 ha hb hl1 hl2 hzp hzq j hj
  have eS1 : F 60 i_shared_peak [sq k1 [.int a, sq k2 ds], sq k3 [.int b, sq k4 es], .int (v - 30)] S5 = .ok (.int (pkP a b (v - 30) ps qs), false) S5 := f_shared 53 a b (v - 30) k1 k2 k3 k4 ps qs ds es S5 ha hb hl1 hl2 hzp hzq
  have eS2 : F 60 i_shared_peak [sq k1 [.int a, sq k2 ds], sq k3 [.int b, sq k4 es], .int (v - 30 + gI a b * 7)] S5 = .ok (.int (pkP a b (v - 30 + gI a b * 7) ps qs), false) S5 := f_shared 53 a b _ k1 k2 k3 k4 ps qs ds es S5 ha hb hl1 hl2 hzp hzq
  have hw : pkP a b (v - 30 + gI a b * 7) ps qs = pkP a b (v - 30) ps qs := by
    rw [Int.mul_comm]; exact pk_mod ha hb pp pq (v - 30) 7
  have pl1 : Pl 2 (.lst [.tup ((peaksI a b ps qs).map .int), .int (j : Int), .int (pkP a b (v - 30) ps qs), .int (pkP a b (v - 30) ps qs)]) := .lst _ _ (fun d hd => by
    simp only [List.mem_cons, List.not_mem_nil, or_false] at hd
    rcases hd with rfl | rfl | rfl | rfl
    · exact pl_ints _ (by omega)
    · exact .int _ _
    · exact .int _ _
    · exact .int _ _) (by simp)
  have sm1 := f_same 57 S5 2 _ pl1
  have hpk : L2.atI ((peaksI a b ps qs).map D.int) ((v - 30).fmod (gI a b)) = some (.int (pkP a b (v - 30) ps qs)) := by
    have h := atI_fun (gI a b) (fun i => pkP a b i ps qs) ⟨g1, g6⟩ (v - 30)
    rw [pk_fmod ha hb pp pq] at h
    exact h
  have eL1 : F 60 i__law_loads [encL a ps] S5 = .ok (.lst ((loadsI a ps).map .int), true) S5 := f_lloads 58 a false false (ps.map encP) ps S5 (by omega) (by omega) (lvs_enc ps) gp (by simp; omega)
  have eL2 : F 60 i__law_loads [encL b qs] S5 = .ok (.lst ((loadsI b qs).map .int), true) S5 := f_lloads 58 b false false (qs.map encP) qs S5 (by omega) (by omega) (lvs_enc qs) gq (by simp; omega)
  have eN : F 60 i_never_shares [sq k1 [.int a, sq k2 ds], sq k3 [.int b, sq k4 es]] S5 = .ok (.bl (decide (minI (peaksI a b ps qs) = maxI (loadsI a ps) + maxI (loadsI b qs))), false) S5 := f_never 51 a b k1 k2 k3 k4 ps qs ds es S5 ha hb hl1 hl2 hzp hzq
  have eN2 := eN
  rw [never_eq ha hb pp pq] at eN2
  have eT1 : F 60 i_peak_ticks [sq k1 [.int a, sq k2 ds]] S5 = .ok (.tup ((ticksI (maxI (loadsI a ps)) 0 (loadsI a ps)).map .int), false) S5 := f_pticks 56 a k1 k2 ps ds S5 ha hl1 hzp
  have eT2 : F 60 i_peak_ticks [sq k3 [.int b, sq k4 es]] S5 = .ok (.tup ((ticksI (maxI (loadsI b qs)) 0 (loadsI b qs)).map .int), false) S5 := f_pticks 56 b k3 k4 qs es S5 hb hl2 hzq
  have eE : F 60 i_even_births [sq k1 [.int a, sq k2 ds]] S5 = .ok (.bl (!decide (1 < maxI (loadsI a ps) - minI (loadsI a ps))), false) S5 := f_even 56 a k1 k2 ps ds S5 ha hl1 hzp
  have nin := nin_false (meetsB (gI a b) (ticksI (maxI (loadsI a ps)) 0 (loadsI a ps)) (ticksI (maxI (loadsI b qs)) 0 (loadsI b qs)))
  have pl2 : ∀ x y : Bool, Pl 2 (.lst [.bl x, .tup ((ticksI (maxI (loadsI a ps)) 0 (loadsI a ps)).map .int), .tup ((ticksI (maxI (loadsI b qs)) 0 (loadsI b qs)).map .int), .bl y]) := fun x y => .lst _ _ (fun d hd => by
    simp only [List.mem_cons, List.not_mem_nil, or_false] at hd
    rcases hd with rfl | rfl | rfl | rfl
    · exact .bl _ _
    · exact pl_ints _ (by omega)
    · exact pl_ints _ (by omega)
    · exact .bl _ _) (by simp)
  have sm2 := fun x y => f_same 57 S5 2 _ (pl2 x y)
  have ePk1 : F 60 i_peak [encL a ps] S5 = .ok (.int (maxI (loadsI a ps)), false) S5 := f_peak 56 a false false (ps.map encP) ps S5 (by omega) (lvs_enc ps) (by simp; omega) (by omega)
  have ePk2 : F 60 i_peak [encL b qs] S5 = .ok (.int (maxI (loadsI b qs)), false) S5 := f_peak 56 b false false (qs.map encP) qs S5 (by omega) (lvs_enc qs) (by simp; omega) (by omega)
  have eW : F 60 i_phase_peaks [sq k3 [.int b, sq k4 es], sq k1 [.int a, sq k2 ds]] S5 = .ok (.tup ((peaksI b a qs ps).map .int), false) S5 := f_peaks 52 b a k3 k4 k1 k2 qs ps es ds S5 hb ha hl2 hl1 hzq hzp
  rw [peaks_swap ha hb pp pq] at eW
  have rgg := rg1_ok smg
  have mg := mulD_small (gI a b) 7 (by decide)
  have c0 := fun x10 x11 S => lc0 60 a b ps qs (.sh (.scr ns)) (.sh (.ref 0)) .no .no .no .no .no .no x10 x11 .no .no .no .no .no .no .no .no S
  have c1 := fun x10 x11 S => lc1 58 a b ps qs ha hb gp gq hzp hzq (.sh (.scr ns)) (.sh (.ref 0)) (.sh (.int (gI a b))) .no .no .no .no .no x10 x11 .no .no .no .no .no .no .no .no S
  have c8 := fun (G5 : D) => lc8 59 n.toNat _ (.sh (.scr ns)) (.sh (.int (gI a b))) (.sh (.lst ((peaksI a b ps qs).map .int))) (.sh (.int (v - 30))) (.sh G5) (.ow (.lst ((meetsB (gI a b) (ticksI (maxI (loadsI a ps)) 0 (loadsI a ps)) (ticksI (maxI (loadsI b qs)) 0 (loadsI b qs))).map .bl))) .no (.sh (encL a ps)) (.sh (encL b qs)) (.sh (sq k1 [.int a, sq k2 ds])) (.sh (sq k3 [.int b, sq k4 es])) (.sh (.lst ((loadsI a ps).map .int))) (.sh (.lst ((loadsI b qs).map .int))) (.sh (.lst ((ticksI (maxI (loadsI a ps)) 0 (loadsI a ps)).map .int))) (.sh (.lst ((ticksI (maxI (loadsI b qs)) 0 (loadsI b qs)).map .int))) .no .no .no .no S6 U6 (by omega) (by decide)
  obtain ⟨lo, S7, e8, hll, hlo, U7⟩ := c8 (.lst [.tup ((peaksI a b ps qs).map .int), .int (j : Int), .int (pkP a b (v - 30) ps qs), .int (pkP a b (v - 30) ps qs)])
  have hlo10 : lo.length ≤ 10 := by omega
  obtain ⟨dm3, f3, S8, em3, hsoft3, _, U8⟩ := f_mixed 10 58 (by decide) 1 (.tup (lo.map .int)) (pw_ints hlo10) S7 _ U7 (by rw [show cost 10 3 = 111 by decide, show cost 10 1 = 1 by decide]; omega)
  obtain ⟨k5, rfl⟩ := soft_ints hsoft3
  have eLp : F 60 i_least_peak [.int a, sq k5 (lo.map .int)] S8 = .ok (.int ((lo.sum + a - 1).fdiv a), false) S8 := f_least 59 a k5 lo S8 ha
  have sg := sum_ge lo hlo
  obtain ⟨rn, hr3, hrn, hrl⟩ := lr3_ok lo.sum a ⟨by omega, by omega⟩ ha
  have hrlen : (intsBy 0 a rn).length = rn := by simp [intsBy]
  have sm3 := f_same 59 S8 0 (.int ((lo.sum + a - 1).fdiv a)) (.int _ _)
  have su : sumOf [.tup (lo.map .int)] = some (intD lo.sum) := by simp [sumOf, intsD_ints]
  refine ⟨S8, F_ok (fd := fd_law) rfl ?_⟩
  show Out.fin (evSs (fnAt tbl 100000 60) 100000 ir_law ⟨[.sh (.scr ns), .no, .no, .no, .no, .no, .no, .no, .no, .no, .no, .no, .no, .no, .no, .no, .no, .no, .no, .no, .no], []⟩) = _
  unfold ir_law
  refine (congrArg Out.fin (seq_next (s0 (.scr ns) _ _ ez eb))).trans ?_
  refine (congrArg Out.fin (seq_next (s1 (.scr ns) _ _ _ _ _ ew1 ew2))).trans ?_
  refine (congrArg Out.fin (seq_next (s2 (.scr ns) (encL a ps) (encL b qs) (sq k1 [.int a, sq k2 ds]) (sq k3 [.int b, sq k4 es]) f1 f2 _ _ _ _ _ em1 em2 rfl rfl))).trans ?_
  refine (congrArg Out.fin (seq_next (s3 (.scr ns) (encL a ps) (encL b qs) _ (gI a b) _ _ S4 (c0 _ _ S4) (cmn_last ha hb)))).trans ?_
  refine (congrArg Out.fin (seq_next (s4 (.scr ns) (encL a ps) (encL b qs) _ _ (gI a b) _ _ S4 rgg (c1 _ _ S4)))).trans ?_
  refine (congrArg Out.fin (seq_next (s5 (.scr ns) (encL a ps) (encL b qs) _ (gI a b) v _ _ S4 S5 et))).trans ?_
  refine (congrArg Out.fin (seq_next (s6 (.scr ns) (encL a ps) (encL b qs) _ _ _ _ (gI a b) (v - 30) _ _ _ _ _ S5 two_of two_of mg eP eB eS1 eS2))).trans ?_
  refine (congrArg Out.fin (seq_next (s7 (.scr ns) (encL a ps) (encL b qs) _ _ _ _ (gI a b) (v - 30) _ _ _ _ S5 (by omega) (by omega) rfl (minOf_lst ne) hj hpk hw sm1))).trans ?_
  rw [hw]
  refine (congrArg Out.fin (seq_next (s8 (.scr ns) (encL a ps) (encL b qs) _ _ _ _ _ _ (gI a b) (v - 30) S5 eL1 eL2))).trans ?_
  refine (congrArg Out.fin (seq_next (s9 (.scr ns) (encL a ps) (encL b qs) _ _ _ _ _ _ (gI a b) (v - 30) S5 _ _ (lc2sh 60 (loadsI a ps) ne1 (by omega) _ _ _ _ _ _ _ _ _ _ _ _ _ _ _ _ _ _ S5) (lc3sh 60 (loadsI b qs) ne2 (by omega) _ _ _ _ _ _ _ _ _ _ _ _ _ _ _ _ _ _ S5)))).trans ?_
  refine (congrArg Out.fin (seq_next (s10 (.scr ns) (encL a ps) (encL b qs) _ _ _ _ _ _ (gI a b) (v - 30) S5 _ _ _ _ rgg (lc4 60 (gI a b) _ _ ⟨g1, g6⟩ (by omega) (by omega) (ticks_ne (by omega)) _ _ _ _ _ _ _ _ _ _ _ _ _ _ _ _ _ S5 (.inl rfl) (.inl rfl))))).trans ?_
  refine (congrArg Out.fin (seq_next (s11 (.scr ns) (encL a ps) (encL b qs) _ _ _ _ _ _ (gI a b) (v - 30) S5 _ _ _ _ _ _ eN2 eT1 eT2 eE nin (maxOf_lst ne1) (minOf_lst ne1) (sm2 _ _)))).trans ?_
  refine (congrArg Out.fin (seq_next (s12 (.scr ns) (encL a ps) (encL b qs) _ _ _ _ _ _ (gI a b) (v - 30) S5 _ _ _ _ _ _ _ _ eN (minOf_lst ne) ePk1 ePk2 eW rgg (lc7sh 60 (gI a b) (peaksI a b ps qs) (fun i => pkP a b i ps qs) ⟨g1, g6⟩ rfl _ _ _ _ _ _ _ _ _ _ _ _ _ _ _ _ _ _ S5) (neR_tup _)))).trans ?_
  refine (congrArg Out.fin (seq_next (s13 (.scr ns) (encL a ps) (encL b qs) _ _ _ _ _ _ (gI a b) (v - 30) S5 _ _ _ _ _ n S6 S7 en (rg1_ok smn) e8))).trans ?_
  refine (congrArg Out.fin (seq_ret (s14 (.scr ns) (.tup (ps.map encP)) (encL b qs) _ _ _ _ _ _ _ (gI a b) (v - 30) S7 _ _ _ _ _ f3 a _ _ S8 em3 eLp su hr3 (by rw [hrlen]; exact hrn) (by rw [hrlen]; omega) sm3))).trans ?_
  rfl
end Law
set_option maxHeartbeats 0
namespace Law
open PySem PySem.Spec PyProof.Rows L2 Pv

abbrev hk : PySem.W.Hook := hookP 4 fas dds mths tabs
def ob (s : PySem.W.SharedT) : AlP := obsPG 4 fas dds mths tabs (HandSHeadRun.getT s)
theorem ob_eq (s : PySem.W.SharedT) : ob s = hk.obs s.abs := obsPG_eq (HandSHeadRun.getT_eq s)
def loose : List Str := (["tupled", "rounds_between", "load", "loads", "peak", "shifted", "written_out", "joined", "shared_peak", "phase_peaks", "best_phase", "never_shares", "peak_ticks", "least_peak", "even_births", "_law_box", "_law_take", "_law_cells", "_law_mixed", "_law_same", "_law_copies", "_law_loads", "_law_wide", "_law_shared"] : List Str)
theorem run (w : World) : HandSHeadRun.RunEqI Rw (PySem.W.view Rw.prog [0, 29]) hk ob 3200 loose w := by
  unfold HandSHeadRun.RunEqI
  kernel_rfl
theorem facts {P : Program} {w : World} {K : PySem.W.Frag} {h : Heap} {mg : Str → Option Value} {f : Addr} (X : K.In h) (M : h.Ns mainGlobals mg) (hfa : mg ("law" : Str) = some (.ref f)) (c0 : SaysP fas dds mths tabs w K) :
    ∃ fd : FuncData, (∀ (s : Shared) (v : Value), BindsTo s fd ⟨[v], []⟩ [("script", v)]) ∧ ∀ base : Heap, K.In base → base.Ns mainGlobals mg → FnOk P w K mg base (L2.CX P w) (60 + 1) f fd ["script"] (spF (cn0 w K) 1 (fnAt tbl 100000 (60 + 1) 24).2) := by
  have c := c0.d
  obtain ⟨fd, F⟩ := c.def_ 24 (d := dd_law) rfl
  have e := hfa.symm.trans (He.glo_ok X M (c.fact 24 (f := .glo "law") rfl))
  cases e
  refine ⟨fd, fun s v => FunD.bindsA (ps := ["script"]) F (fun _ _ _ _ _ _ us hl => match us, hl with | [_], _ => rfl) s [v] rfl, fun base _ _ => ?_⟩
  exact law_fn (G := ⟨P, w, K, mg, base, cn0 w K, FN⟩) (tblOk (G := ⟨P, w, K, mg, base, cn0 w K, FN⟩) X M rfl c0 rfl) rfl rfl F sc_law ck_law
end Law
open PySem PySem.W PySem.Calls PyProof.Rows
theorem PySem.Challenge.cw_loopplaces_k19_loops_beside_one_another_holds : PySem.Challenge.rw_loopplaces_k19_loops_beside_one_another.Holds := by
  w_on; o_law
  refine HandSHeadRun.head_imp (r := OpenLaw.row PySem.Challenge.rw_loopplaces_k19_loops_beside_one_another) (q := view (OpenLaw.row PySem.Challenge.rw_loopplaces_k19_loops_beside_one_another).prog [0, 29]) (H := Law.hk) (ob := Law.ob) (M := 3200) (loose := Law.loose) (d := HandSHeadRun.topDef (OpenLaw.row PySem.Challenge.rw_loopplaces_k19_loops_beside_one_another).prog 29) (kwd := []) Law.ob_eq
     Law.run (by kernel_rfl) (by kernel_rfl) (by kernel_rfl) (by rfl) (by first | assumption | decide +kernel) (by decide +kernel) ⟨rfl, rfl, rfl, rfl, rfl, by decide +kernel⟩ ?hw ?hc
  case hw => w_witness2
  case hc =>
    refine Pv.walk_ofP (l := PySem.Challenge.rw_loopplaces_k19_loops_beside_one_another) (n := 63) (k := 60 + 1) (x := "script") (CX := fun w => L2.CX (PySem.Challenge.rw_loopplaces_k19_loops_beside_one_another).prog w) rfl (by decide) (by kernel_rfl) ⟨rfl, by decide, by decide⟩ ?F (fun w => Pv.cx_end)
    intro w mg fa h Y G hmg0
    obtain ⟨K, KX, c⟩ := Y
    have hmg : mg ("law" : PySem.Str) = some (.ref fa) := by
      have e : (HandSHeadRun.topDef (OpenLaw.row PySem.Challenge.rw_loopplaces_k19_loops_beside_one_another).prog 29).name = ("law" : PySem.Str) := by kernel_rfl
      rw [← e]
      exact hmg0
    obtain ⟨fd, hb, hF⟩ := Law.facts (P := (PySem.Challenge.rw_loopplaces_k19_loops_beside_one_another).prog) (w := w) KX G hmg c
    exact ⟨K, fd, _, KX, hb, fun H a ns hl hbits hO hS => Pv.law_true hO hS (Law.law_eval ns hl hbits), hF⟩
