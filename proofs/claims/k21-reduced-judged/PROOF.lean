import PyProof.Rows.All
import HandS.ForMost
import HandS.Wide
import HandS.IsInst
import HandS.Style
import HandS.Zip
import HandS.Conv
import HandS.NoneIn
import HandS.Walk
import KE.GoesMore
import HandS.WordsExc
import KE.KDictZip
import KE.GoesZip
import HandS.Gcd
import HandS.SortKw
import KE.SortKeyHeap
import HandS.ExcValue
import KE.GoesEnum
import PySem.Challenge.RW_foldedsums_k21_reduced_rows_judged
set_option Elab.async false
set_option linter.all false
set_option maxRecDepth 100000
set_option maxHeartbeats 4000000
/-! DL: what a def does, told of data. Pure trees (D), mutable things by labels in a world (W). -/
namespace DL
open PySem PySem.Spec PyProof.Rows L2

inductive Ty where
  | non | bl | int | str | lst | tup | dct
  deriving DecidableEq
def Ty.nm : Ty → String
  | .non => "NoneType" | .bl => "bool" | .int => "int" | .str => "str" | .lst => "list" | .tup => "tuple" | .dct => "dict"
/-- data: frz is the script, a list that is locked -/
inductive D where
  | non | bl (b : Bool) | int (i : Int) | str (s : Str) | ty (t : Ty) | frz (xs : List D)
  | lst (xs : List D) | tup (xs : List D)
  | dK (kvs : List (Key × D)) | dT (kvs : List (List Key × D))
  | obj (C : Addr) (fs : List (Str × D))
/-- a value at run time: data, or a label -/
inductive RV where
  | d (x : D) | r (l : Nat)
/-- what a label stands for: a list that may change; a thing that never changes again -/
inductive MO where
  | lst (xs : List RV)
  | fz (x : D)
  | dK (kvs : List (Key × D))
  | dT (kvs : List (List Key × D))
  | ins (C : Addr) (fs : List (Str × RV))
def MO.mut : MO → Prop
  | .fz _ => False
  | _ => True
abbrev Wd := List MO
/-- an exception: its class's name, its fields -/
structure DX where
  cls : Str
  fs : List (Str × D)
abbrev Env := List (Option RV)

/-- the readings' monad -/
abbrev M (α : Type) := Wd → Option (Except DX α × Wd)
def M.ret {α : Type} (a : α) : M α := fun W => some (.ok a, W)
def M.fail {α : Type} : M α := fun _ => none
def M.bind {α β : Type} (m : M α) (f : α → M β) : M β := fun W =>
  match m W with
  | none => none
  | some (.ok a, W') => f a W'
  | some (.error e, W') => some (.error e, W')
def M.opt {α : Type} (o : Option α) : M α := fun W => match o with | some a => some (.ok a, W) | none => none
instance : Monad M where
  pure := M.ret
  bind := M.bind
def wpM {α : Type} (m : M α) (W : Wd) (Q : α → Wd → Prop) (E : DX → Wd → Prop) : Prop :=
  match m W with
  | none => False
  | some (.ok a, W') => Q a W'
  | some (.error e, W') => E e W'
theorem wpM_bind {α β : Type} {m : M α} {f : α → M β} {W : Wd} {Q : β → Wd → Prop} {E : DX → Wd → Prop} : wpM (m.bind f) W Q E ↔ wpM m W (fun a W' => wpM (f a) W' Q E) E := by
  unfold wpM M.bind
  cases m W with
  | none => exact Iff.rfl
  | some p =>
    obtain ⟨r, W'⟩ := p
    cases r with
    | ok a => exact Iff.rfl
    | error e => exact Iff.rfl
theorem wpM_ret {α : Type} {a : α} {W : Wd} {Q : α → Wd → Prop} {E : DX → Wd → Prop} : wpM (M.ret a) W Q E ↔ Q a W := Iff.rfl
theorem wpM_opt {α : Type} {o : Option α} {W : Wd} {Q : α → Wd → Prop} {E : DX → Wd → Prop} (h : wpM (M.opt o) W Q E) : ∃ a, o = some a ∧ Q a W := by
  cases o with
  | none => exact h.elim
  | some a => exact ⟨a, rfl, h⟩
theorem wpM_mono {α : Type} {m : M α} {W : Wd} {Q Q' : α → Wd → Prop} {E E' : DX → Wd → Prop} (h : wpM m W Q E) (hq : ∀ a W', Q a W' → Q' a W') (he : ∀ e W', E e W' → E' e W') : wpM m W Q' E' := by
  unfold wpM at h ⊢
  cases e : m W with
  | none => rw [e] at h; exact h.elim
  | some p =>
    obtain ⟨r, W'⟩ := p
    rw [e] at h
    cases r with
    | ok a => exact hq _ _ h
    | error e => exact he _ _ h

/-! ### what is fixed through a def's body; a configuration -/
structure Gh where
  K : PySem.W.Frag
  Ex : XK
  cv : Str → Value
structure Cf where
  H : Hp
  ren : Nat → Addr
  W : Wd
  Ao : Addr → Prop
def Cf.live (c : Cf) (a : Addr) : Prop := ∃ l o, c.W[l]? = some o ∧ o.mut ∧ c.ren l = a
def Av (c : Cf) (a : Addr) : Prop := c.Ao a ∨ c.live a
mutual
def Rep (c : Cf) : D → V → Prop
  | .non, v => v = .non
  | .bl b, v => v = .bl b
  | .int i, v => v = .int i
  | .str s, v => v = .str s
  | .ty t, v => v = .ty t.nm
  | .frz xs, v => ∃ a o vs, v = .ref a ∧ c.H a = some (.frz o (.lst vs)) ∧ ¬ Av c a ∧ RepL c xs vs
  | .lst xs, v => ∃ a vs, v = .ref a ∧ c.H a = some (.lst vs) ∧ ¬ Av c a ∧ RepL c xs vs
  | .tup xs, v => ∃ a vs, v = .ref a ∧ c.H a = some (.tup vs) ∧ ¬ Av c a ∧ RepL c xs vs
  | .dK kvs, v => ∃ a ws, v = .ref a ∧ c.H a = some (.dK ws) ∧ ¬ Av c a ∧ RepK c kvs ws
  | .dT kvs, v => ∃ a ws, v = .ref a ∧ c.H a = some (.dT ws) ∧ ¬ Av c a ∧ RepT c kvs ws
  | .obj C fs, v => ∃ a dx ws, v = .ref a ∧ c.H a = some (.ins C dx ws) ∧ ¬ Av c a ∧ RepN c fs ws
def RepL (c : Cf) : List D → List V → Prop
  | [], vs => vs = []
  | x :: xs, vs => ∃ v r, vs = v :: r ∧ Rep c x v ∧ RepL c xs r
def RepK (c : Cf) : List (Key × D) → List (Key × V) → Prop
  | [], ws => ws = []
  | (k, x) :: xs, ws => ∃ v r, ws = (k, v) :: r ∧ Rep c x v ∧ RepK c xs r
def RepT (c : Cf) : List (List Key × D) → List (List Key × V) → Prop
  | [], ws => ws = []
  | (k, x) :: xs, ws => ∃ v r, ws = (k, v) :: r ∧ Rep c x v ∧ RepT c xs r
def RepN (c : Cf) : List (Str × D) → List (Str × V) → Prop
  | [], ws => ws = []
  | (k, x) :: xs, ws => ∃ v r, ws = (k, v) :: r ∧ Rep c x v ∧ RepN c xs r
end
structure Ext (c c' : Cf) : Prop where
  keep : ∀ b o, c.H b = some o → ¬ c.live b → c'.H b = some o
  dead : ∀ b o, c.H b = some o → ¬ c.live b → ¬ c'.live b
  ren : ∀ l, l < c.W.length → c'.ren l = c.ren l
  len : c.W.length ≤ c'.W.length
  ao : c'.Ao = c.Ao
theorem Ext.refl (c : Cf) : Ext c c := ⟨fun _ _ h _ => h, fun _ _ _ h => h, fun _ _ => rfl, Nat.le_refl _, rfl⟩
theorem Ext.trans {c c1 c2 : Cf} (a : Ext c c1) (b : Ext c1 c2) : Ext c c2 :=
  ⟨fun x o h n => b.keep x o (a.keep x o h n) (a.dead x o h n), fun x o h n => b.dead x o (a.keep x o h n) (a.dead x o h n),
   fun l h => (b.ren l (Nat.lt_of_lt_of_le h a.len)).trans (a.ren l h), Nat.le_trans a.len b.len, b.ao.trans a.ao⟩
section
variable {G : Gh} {c c' : Cf}
/-- what is kept of things that never change -/
def Kp (c c' : Cf) : Prop := ∀ b o, c.H b = some o → ¬ Av c b → c'.H b = some o ∧ ¬ Av c' b
/-- what readings of data lean on -/
structure Wk (c c' : Cf) : Prop where
  keep : ∀ b o, c.H b = some o → ¬ Av c b → c'.H b = some o ∧ ¬ Av c' b
  ren : ∀ l, l < c.W.length → c'.ren l = c.ren l
  len : c.W.length ≤ c'.W.length
theorem Ext.wk (e : Ext c c') : Wk c c' := ⟨fun b o h n => ⟨e.keep b o h fun q => n (.inr q), fun z => z.elim (fun y => n (.inl (by rw [← e.ao]; exact y))) fun y => e.dead b o h (fun q => n (.inr q)) y⟩, e.ren, e.len⟩
theorem Kp.at (e : Kp c c') {a : Addr} {o : HO} (h : c.H a = some o) (n : ¬ Av c a) : c'.H a = some o := (e a o h n).1
theorem Kp.av (e : Kp c c') {a : Addr} {o : HO} (h : c.H a = some o) (n : ¬ Av c a) : ¬ Av c' a := (e a o h n).2
theorem Wk.at (e : Wk c c') {a : Addr} {o : HO} (h : c.H a = some o) (n : ¬ Av c a) : c'.H a = some o := (e.keep a o h n).1
theorem Wk.av (e : Wk c c') {a : Addr} {o : HO} (h : c.H a = some o) (n : ¬ Av c a) : ¬ Av c' a := (e.keep a o h n).2
mutual
theorem Rep.monoK (e : Kp c c') : ∀ (x : D) (v : V), Rep c x v → Rep c' x v
  | .non, _, h => h
  | .bl _, _, h => h
  | .int _, _, h => h
  | .str _, _, h => h
  | .ty _, _, h => h
  | .frz xs, v, h => by
    obtain ⟨a, o, vs, rfl, s, n, r⟩ := h
    exact ⟨a, o, vs, rfl, e.at s n, e.av s n, RepL.monoK e xs vs r⟩
  | .lst xs, v, h => by
    obtain ⟨a, vs, rfl, s, n, r⟩ := h
    exact ⟨a, vs, rfl, e.at s n, e.av s n, RepL.monoK e xs vs r⟩
  | .tup xs, v, h => by
    obtain ⟨a, vs, rfl, s, n, r⟩ := h
    exact ⟨a, vs, rfl, e.at s n, e.av s n, RepL.monoK e xs vs r⟩
  | .dK xs, v, h => by
    obtain ⟨a, vs, rfl, s, n, r⟩ := h
    exact ⟨a, vs, rfl, e.at s n, e.av s n, RepK.monoK e xs vs r⟩
  | .dT xs, v, h => by
    obtain ⟨a, vs, rfl, s, n, r⟩ := h
    exact ⟨a, vs, rfl, e.at s n, e.av s n, RepT.monoK e xs vs r⟩
  | .obj C fs, v, h => by
    obtain ⟨a, dx, vs, rfl, s, n, r⟩ := h
    exact ⟨a, dx, vs, rfl, e.at s n, e.av s n, RepN.monoK e fs vs r⟩
theorem RepL.monoK (e : Kp c c') : ∀ (xs : List D) (vs : List V), RepL c xs vs → RepL c' xs vs
  | [], _, h => h
  | x :: xs, _, h => by
    obtain ⟨v, r, rfl, h1, h2⟩ := h
    exact ⟨v, r, rfl, Rep.monoK e x v h1, RepL.monoK e xs r h2⟩
theorem RepK.monoK (e : Kp c c') : ∀ (xs : List (Key × D)) (vs : List (Key × V)), RepK c xs vs → RepK c' xs vs
  | [], _, h => h
  | (k, x) :: xs, _, h => by
    obtain ⟨v, r, rfl, h1, h2⟩ := h
    exact ⟨v, r, rfl, Rep.monoK e x v h1, RepK.monoK e xs r h2⟩
theorem RepT.monoK (e : Kp c c') : ∀ (xs : List (List Key × D)) (vs : List (List Key × V)), RepT c xs vs → RepT c' xs vs
  | [], _, h => h
  | (k, x) :: xs, _, h => by
    obtain ⟨v, r, rfl, h1, h2⟩ := h
    exact ⟨v, r, rfl, Rep.monoK e x v h1, RepT.monoK e xs r h2⟩
theorem RepN.monoK (e : Kp c c') : ∀ (xs : List (Str × D)) (vs : List (Str × V)), RepN c xs vs → RepN c' xs vs
  | [], _, h => h
  | (k, x) :: xs, _, h => by
    obtain ⟨v, r, rfl, h1, h2⟩ := h
    exact ⟨v, r, rfl, Rep.monoK e x v h1, RepN.monoK e xs r h2⟩
end
theorem Rep.monoW (e : Wk c c') (x : D) (v : V) (h : Rep c x v) : Rep c' x v := Rep.monoK e.keep x v h
theorem RepL.monoW (e : Wk c c') (x : List D) (v : List V) (h : RepL c x v) : RepL c' x v := RepL.monoK e.keep x v h
theorem RepK.monoW (e : Wk c c') (x : List (Key × D)) (v : List (Key × V)) (h : RepK c x v) : RepK c' x v := RepK.monoK e.keep x v h
theorem RepT.monoW (e : Wk c c') (x : List (List Key × D)) (v : List (List Key × V)) (h : RepT c x v) : RepT c' x v := RepT.monoK e.keep x v h
theorem RepN.monoW (e : Wk c c') (x : List (Str × D)) (v : List (Str × V)) (h : RepN c x v) : RepN c' x v := RepN.monoK e.keep x v h
theorem Rep.mono (e : Ext c c') (x : D) (v : V) (h : Rep c x v) : Rep c' x v := Rep.monoW e.wk x v h
theorem RepL.mono (e : Ext c c') (x : List D) (v : List V) (h : RepL c x v) : RepL c' x v := RepL.monoW e.wk x v h
def RepRV (c : Cf) : RV → V → Prop
  | .d x, v => Rep c x v
  | .r l, v => v = .ref (c.ren l) ∧ l < c.W.length
theorem RepRV.monoW (e : Wk c c') {x : RV} {v : V} (h : RepRV c x v) : RepRV c' x v := by
  cases x with
  | d x => exact Rep.monoW e x v h
  | r l => exact ⟨by rw [e.ren l h.2]; exact h.1, Nat.lt_of_lt_of_le h.2 e.len⟩
theorem RepRV.mono (e : Ext c c') {x : RV} {v : V} (h : RepRV c x v) : RepRV c' x v := h.monoW e.wk
def RepVs (c : Cf) (xs : List RV) (vs : List V) : Prop := Paired (RepRV c) xs vs
theorem RepVs.monoW (e : Wk c c') {xs : List RV} {vs : List V} (h : RepVs c xs vs) : RepVs c' xs vs := Paired.mapP h fun _ _ => RepRV.monoW e
theorem RepVs.mono (e : Ext c c') {xs : List RV} {vs : List V} (h : RepVs c xs vs) : RepVs c' xs vs := RepVs.monoW e.wk h
/-- fields of an object that may change -/
def RepFs (c : Cf) (xs : List (Str × RV)) (vs : List (Str × V)) : Prop := Paired (fun p q => p.1 = q.1 ∧ RepRV c p.2 q.2) xs vs
theorem RepFs.monoW (e : Wk c c') {xs : List (Str × RV)} {vs : List (Str × V)} (h : RepFs c xs vs) : RepFs c' xs vs := Paired.mapP h fun _ _ q => ⟨q.1, q.2.monoW e⟩
def RepO (c : Cf) : MO → Addr → Prop
  | .lst xs, a => ∃ vs, c.H a = some (.lst vs) ∧ RepVs c xs vs
  | .fz x, a => Rep c x (.ref a)
  | .dK kvs, a => ∃ ws, c.H a = some (.dK ws) ∧ RepK c kvs ws
  | .dT kvs, a => ∃ ws, c.H a = some (.dT ws) ∧ RepT c kvs ws
  | .ins C fs, a => ∃ dx ws, c.H a = some (.ins C dx ws) ∧ RepFs c fs ws
structure WOk (c : Cf) : Prop where
  obj : ∀ l o, c.W[l]? = some o → RepO c o (c.ren l)
  inj : ∀ l l' o o', c.W[l]? = some o → o.mut → c.W[l']? = some o' → o'.mut → c.ren l = c.ren l' → l = l'
  out : ∀ l o, c.W[l]? = some o → o.mut → ¬ c.Ao (c.ren l)
  ao : ∀ a, c.Ao a → ∃ o, c.H a = some o
theorem RepO.at {a : Addr} {o : MO} (h : RepO c o a) (m : o.mut) : ∃ ho, c.H a = some ho := by
  cases o with
  | lst xs => obtain ⟨vs, e, _⟩ := h; exact ⟨_, e⟩
  | fz x => exact m.elim
  | dK xs => obtain ⟨vs, e, _⟩ := h; exact ⟨_, e⟩
  | dT xs => obtain ⟨vs, e, _⟩ := h; exact ⟨_, e⟩
  | ins C xs => obtain ⟨dx, vs, e, _⟩ := h; exact ⟨_, e⟩
/-- behind an extension that leaves the object -/
theorem RepO.monoW (e : Wk c c') {a : Addr} {o : MO} (h : RepO c o a) (k : o.mut → ∀ ho, c.H a = some ho → c'.H a = some ho) : RepO c' o a := by
  cases o with
  | lst xs => obtain ⟨vs, q, r⟩ := h; exact ⟨vs, k trivial _ q, RepVs.monoW e r⟩
  | fz x => exact Rep.monoW e x _ h
  | dK xs => obtain ⟨vs, q, r⟩ := h; exact ⟨vs, k trivial _ q, RepK.monoW e _ _ r⟩
  | dT xs => obtain ⟨vs, q, r⟩ := h; exact ⟨vs, k trivial _ q, RepT.monoW e _ _ r⟩
  | ins C xs => obtain ⟨dx, vs, q, r⟩ := h; exact ⟨dx, vs, k trivial _ q, r.monoW e⟩
theorem RepO.mono (e : Ext c c') {a : Addr} {o : MO} (h : RepO c o a) (k : o.mut → ∀ ho, c.H a = some ho → c'.H a = some ho) : RepO c' o a := h.monoW e.wk k
theorem WOk.has (w : WOk c) {a : Addr} (h : Av c a) : ∃ o, c.H a = some o := by
  rcases h with h | ⟨l, o, h, m, rfl⟩
  · exact w.ao a h
  · exact (w.obj l o h).at m
theorem WOk.fresh (w : WOk c) {a : Addr} (h : c.H a = none) : ¬ Av c a := fun z => by
  obtain ⟨o, e⟩ := w.has z
  rw [h] at e
  cases e
/-- a change that leaves the world's labels and all their objects -/
theorem WOk.of (w : WOk c) {H' : Hp} (k : ∀ b o, c.H b = some o → H' b = some o) : Ext c ⟨H', c.ren, c.W, c.Ao⟩ ∧ WOk ⟨H', c.ren, c.W, c.Ao⟩ := by
  have e : Ext c ⟨H', c.ren, c.W, c.Ao⟩ := ⟨fun b u hb _ => k b u hb, fun _ _ _ n => n, fun _ _ => rfl, Nat.le_refl _, rfl⟩
  refine ⟨e, fun l u hl => (w.obj l u hl).mono e fun _ ho h => k _ _ h, w.inj, w.out, fun a ha => ?_⟩
  obtain ⟨u, hu⟩ := w.ao a ha
  exact ⟨u, k _ _ hu⟩
/-- a pure thing is laid -/
abbrev Cf.lay (c : Cf) (p : Addr) (o : HO) : Cf := ⟨upd c.H p o, c.ren, c.W, c.Ao⟩
theorem lay_keep {p : Addr} {o : HO} (h : c.H p = none) : ∀ b u, c.H b = some u → upd c.H p o b = some u := fun b u hb => by rw [upd_ne (ne_of_none hb h)]; exact hb
theorem WOk.lay (w : WOk c) {p : Addr} {o : HO} (h : c.H p = none) : Ext c (c.lay p o) ∧ WOk (c.lay p o) := w.of (lay_keep h)
theorem WOk.layAv (w : WOk c) {p : Addr} {o : HO} (h : c.H p = none) : ¬ Av (c.lay p o) p := w.fresh h
/-- a mutable thing is laid at a new label -/
abbrev Cf.new (c : Cf) (p : Addr) (o : HO) (m : MO) : Cf := ⟨upd c.H p o, fun l => if l = c.W.length then p else c.ren l, c.W ++ [m], c.Ao⟩
theorem look_new {W : Wd} {m u : MO} {l : Nat} (hl : (W ++ [m])[l]? = some u) : (l < W.length ∧ W[l]? = some u) ∨ (l = W.length ∧ u = m) := by
  by_cases lt : l < W.length
  · rw [List.getElem?_append_left lt] at hl
    exact .inl ⟨lt, hl⟩
  · rw [List.getElem?_append_right (by omega)] at hl
    have : l - W.length = 0 := by
      have := (List.getElem?_eq_some_iff.mp hl).1
      rw [List.length_singleton] at this
      omega
    rw [this] at hl
    have e1 : m = u := by simpa using hl
    exact .inr ⟨by omega, e1.symm⟩
theorem ren_new {p : Addr} {o : HO} {m : MO} {l : Nat} (h : l < c.W.length) : (c.new p o m).ren l = c.ren l := by
  show (if l = c.W.length then p else c.ren l) = _
  rw [if_neg (by omega)]
theorem ren_last {p : Addr} {o : HO} {m : MO} : (c.new p o m).ren c.W.length = p := by show (if c.W.length = c.W.length then p else _) = p; rw [if_pos rfl]
theorem Ext.new {p : Addr} {o : HO} {m : MO} (h : c.H p = none) : Ext c (c.new p o m) := by
  refine ⟨fun b u hb _ => lay_keep h b u hb, fun b u hb n z => ?_, fun l hl => ren_new hl, ?_, rfl⟩
  · obtain ⟨l, x, hl, mu, rfl⟩ := z
    rcases look_new hl with ⟨lt, hl⟩ | ⟨rfl, rfl⟩
    · exact n ⟨l, x, hl, mu, (ren_new lt).symm⟩
    · rw [ren_last] at hb
      rw [h] at hb; cases hb
  · show c.W.length ≤ (c.W ++ [m]).length
    rw [List.length_append]; omega
theorem WOk.new (w : WOk c) {p : Addr} {o : HO} {m : MO} (h : c.H p = none) (r : RepO (c.new p o m) m p) : WOk (c.new p o m) := by
  have e := Ext.new (c := c) (o := o) (m := m) h
  refine ⟨fun l u hl => ?_, fun l l' u u' hl mu hl' mu' q => ?_, fun l u hl mu => ?_, fun a ha => ?_⟩
  · rcases look_new hl with ⟨lt, hl⟩ | ⟨rfl, rfl⟩
    · rw [ren_new lt]
      exact (w.obj l u hl).mono e fun _ ho q => lay_keep h _ _ q
    · rw [ren_last]; exact r
  · rcases look_new hl with ⟨lt, h3⟩ | ⟨e3, _⟩ <;> rcases look_new hl' with ⟨lt', h4⟩ | ⟨e4, _⟩
    · rw [ren_new lt, ren_new lt'] at q
      exact w.inj l l' u u' h3 mu h4 mu' q
    · rw [ren_new lt, e4, ren_last] at q
      obtain ⟨ho, h1⟩ := (w.obj l u h3).at mu
      rw [q, h] at h1; cases h1
    · rw [ren_new lt', e3, ren_last] at q
      obtain ⟨ho, h1⟩ := (w.obj l' u' h4).at mu'
      rw [← q, h] at h1; cases h1
    · rw [e3, e4]
  · rcases look_new hl with ⟨lt, h3⟩ | ⟨e3, _⟩
    · rw [ren_new lt]; exact w.out l u h3 mu
    · rw [e3, ren_last]; exact fun z => w.fresh h (.inl z)
  · obtain ⟨u, hu⟩ := w.ao a ha
    exact ⟨u, lay_keep h _ _ hu⟩
/-- the thing at a label is changed -/
abbrev Cf.put (c : Cf) (l : Nat) (o : HO) (m : MO) : Cf := ⟨upd c.H (c.ren l) o, c.ren, c.W.set l m, c.Ao⟩
theorem look_set {W : Wd} {l k : Nat} {m u : MO} (h : (W.set l m)[k]? = some u) : (k ≠ l ∧ W[k]? = some u) ∨ (k = l ∧ u = m) := by
  by_cases e : k = l
  · subst e
    rw [List.getElem?_set_self'] at h
    cases q : W[k]? with
    | none => rw [q] at h; simp at h
    | some z => rw [q] at h; exact .inr ⟨rfl, by simpa using h.symm⟩
  · rw [List.getElem?_set_ne (Ne.symm e)] at h
    exact .inl ⟨e, h⟩
theorem put_keep {l : Nat} {o : HO} {m0 : MO} (h : c.W[l]? = some m0) (mu : m0.mut) : ∀ b u, c.H b = some u → ¬ c.live b → upd c.H (c.ren l) o b = some u := fun b u hb n => by
  rw [upd_ne (fun (q : b = c.ren l) => n ⟨l, m0, h, mu, q.symm⟩)]; exact hb
theorem Ext.put {l : Nat} {o : HO} {m m0 : MO} (h : c.W[l]? = some m0) (mu : m0.mut) : Ext c (c.put l o m) := by
  refine ⟨put_keep h mu, fun b u hb n z => ?_, fun _ _ => rfl, ?_, rfl⟩
  · obtain ⟨k, x, hk, mx, rfl⟩ := z
    rcases look_set hk with ⟨_, hk⟩ | ⟨rfl, _⟩
    · exact n ⟨k, x, hk, mx, rfl⟩
    · exact n ⟨k, m0, h, mu, rfl⟩
  · show c.W.length ≤ (c.W.set l _).length
    rw [List.length_set]; exact Nat.le_refl _
theorem WOk.put (w : WOk c) {l : Nat} {o : HO} {m m0 : MO} (h : c.W[l]? = some m0) (mu : m0.mut) (r : RepO (c.put l o m) m (c.ren l)) : WOk (c.put l o m) := by
  have e := Ext.put (c := c) (o := o) (m := m) h mu
  refine ⟨fun k u hk => ?_, fun k k' u u' hk mk hk' mk' q => ?_, fun k u hk mk => ?_, fun a ha => ?_⟩
  · rcases look_set hk with ⟨ne, hk⟩ | ⟨rfl, rfl⟩
    · refine (w.obj k u hk).mono e fun mk ho q => ?_
      show upd c.H (c.ren l) o (c.ren k) = _
      rw [upd_ne (fun q => ne (w.inj k l u m0 hk mk h mu q))]; exact q
    · exact r
  · rcases look_set hk with ⟨_, h3⟩ | ⟨e3, _⟩ <;> rcases look_set hk' with ⟨_, h4⟩ | ⟨e4, _⟩
    · exact w.inj k k' u u' h3 mk h4 mk' q
    · subst e4; exact w.inj k k' u m0 h3 mk h mu q
    · subst e3; exact w.inj k k' m0 u' h mu h4 mk' q
    · rw [e3, e4]
  · rcases look_set hk with ⟨_, hk⟩ | ⟨rfl, _⟩
    · exact w.out k u hk mk
    · exact w.out k m0 h mu
  · obtain ⟨u, hu⟩ := w.ao a ha
    by_cases q : a = c.ren l
    · exact absurd ha (q ▸ w.out l m0 h mu)
    · exact ⟨u, by show upd c.H (c.ren l) o a = _; rw [upd_ne q]; exact hu⟩
/-- a label's thing never changes again -/
abbrev Cf.fz (c : Cf) (l : Nat) (x : D) : Cf := ⟨c.H, c.ren, c.W.set l (.fz x), c.Ao⟩
theorem Ext.fz {l : Nat} {x : D} : Ext c (c.fz l x) := by
  refine ⟨fun _ _ h _ => h, fun b o hb n z => ?_, fun _ _ => rfl, by show c.W.length ≤ (c.W.set l _).length; rw [List.length_set]; exact Nat.le_refl _, rfl⟩
  obtain ⟨k, u, hk, mk, rfl⟩ := z
  rcases look_set hk with ⟨_, hk⟩ | ⟨rfl, rfl⟩
  · exact n ⟨k, u, hk, mk, rfl⟩
  · exact mk
theorem WOk.fzAv (w : WOk c) {l : Nat} {m : MO} {x : D} (h : c.W[l]? = some m) (mu : m.mut) : ¬ Av (c.fz l x) (c.ren l) := fun z => by
  rcases z with z | ⟨k, u, hk, mk, q⟩
  · exact w.out l m h mu z
  · rcases look_set hk with ⟨ne, hk⟩ | ⟨rfl, rfl⟩
    · exact ne (w.inj k l u m hk mk h mu q)
    · exact mk
theorem WOk.fz (w : WOk c) {l : Nat} {m : MO} {x : D} (h : c.W[l]? = some m) (mu : m.mut) (r : Rep (c.fz l x) x (.ref (c.ren l))) : WOk (c.fz l x) := by
  refine ⟨fun k u hk => ?_, fun k k' u u' hk mk hk' mk' q => ?_, fun k u hk mk => ?_, w.ao⟩
  · rcases look_set hk with ⟨_, hk⟩ | ⟨rfl, rfl⟩
    · exact (w.obj k u hk).mono Ext.fz fun _ _ q => q
    · exact r
  · rcases look_set hk with ⟨_, h3⟩ | ⟨e3, z3⟩ <;> rcases look_set hk' with ⟨_, h4⟩ | ⟨e4, z4⟩
    · exact w.inj k k' u u' h3 mk h4 mk' q
    · rw [z4] at mk'; exact mk'.elim
    · rw [z3] at mk; exact mk.elim
    · rw [e3, e4]
  · rcases look_set hk with ⟨_, hk⟩ | ⟨rfl, rfl⟩
    · exact w.out k u hk mk
    · exact mk.elim
end
end DL
set_option Elab.async false
set_option linter.all false
set_option maxRecDepth 100000
set_option maxHeartbeats 4000000
/-! DL2: judgements, and the rules of expressions. -/
namespace DL
open PySem PySem.Spec PyProof.Rows L2
/-! ### what is wanted behind -/
def RepF (c : Cf) (fs : List (Str × D)) (ws : List (Str × V)) : Prop := Paired (fun p q => p.1 = q.1 ∧ Rep c p.2 q.2) fs ws
def RepX (G : Gh) (c : Cf) (e : DX) (C : Value) (d : Option Addr) : Prop :=
  C = G.cv e.cls ∧ ((∃ dd ws, d = some dd ∧ c.H dd = some (.xd ws) ∧ RepF c e.fs ws) ∨ (e.fs = [] ∧ d = none))
def QV (c : Cf) (Q : VK) : RV → Wd → Prop := fun v W' => ∀ x c', c'.W = W' → Ext c c' → WOk c' → RepRV c' v x → Q x c'.H
def QE (G : Gh) (c : Cf) : DX → Wd → Prop := fun e W' => ∀ C d c', c'.W = W' → Ext c c' → WOk c' → RepX G c' e C d → G.Ex C d c'.H
def QB (c : Cf) (Q : Bool → Hp → Prop) : Bool → Wd → Prop := fun b W' => ∀ c', c'.W = W' → Ext c c' → WOk c' → Q b c'.H
def QA (c : Cf) (Q : List V → Hp → Prop) : List RV → Wd → Prop := fun vs W' => ∀ xs c', c'.W = W' → Ext c c' → WOk c' → RepVs c' vs xs → Q xs c'.H
section
variable {G : Gh} {c c1 : Cf}
theorem QV.mono {Q : VK} {v : RV} {W : Wd} (e : Ext c c1) (h : QV c Q v W) : QV c1 Q v W := fun x c' hw e' w r => h x c' hw (e.trans e') w r
theorem QE.mono {x : DX} {W : Wd} (e : Ext c c1) (h : QE G c x W) : QE G c1 x W := fun C d c' hw e' w r => h C d c' hw (e.trans e') w r
theorem QB.mono {Q : Bool → Hp → Prop} {b : Bool} {W : Wd} (e : Ext c c1) (h : QB c Q b W) : QB c1 Q b W := fun c' hw e' w => h c' hw (e.trans e') w
theorem QA.mono {Q : List V → Hp → Prop} {vs : List RV} {W : Wd} (e : Ext c c1) (h : QA c Q vs W) : QA c1 Q vs W := fun x c' hw e' w r => h x c' hw (e.trans e') w r
theorem QV.here {Q : VK} {v : RV} {x : V} (h : QV c Q v c.W) (w : WOk c) (r : RepRV c v x) : Q x c.H := h x c rfl (Ext.refl c) w r
end
structure SOk (σ : L2.St) (δ : Env) (c : Cf) : Prop where
  len : σ.length = δ.length
  get : ∀ (i : Nat) (rv : RV), δ[i]? = some (some rv) → ∃ v, σ[i]? = some (some v) ∧ RepRV c rv v
theorem SOk.mono {σ : L2.St} {δ : Env} {c c' : Cf} (s : SOk σ δ c) (e : Ext c c') : SOk σ δ c' :=
  ⟨s.len, fun i rv h => let ⟨v, h1, h2⟩ := s.get i rv h; ⟨v, h1, h2.mono e⟩⟩
theorem SOk.set {σ : L2.St} {δ : Env} {c : Cf} (s : SOk σ δ c) {rv : RV} {v : V} (i : Nat) (r : RepRV c rv v) : SOk (σ.set i (some v)) (δ.set i (some rv)) c := by
  refine ⟨by rw [List.length_set, List.length_set, s.len], fun j x h => ?_⟩
  by_cases e : j = i
  · subst e
    rw [List.getElem?_set_self'] at h ⊢
    cases q : δ[j]? with
    | none => rw [q] at h; simp at h
    | some z =>
      rw [q] at h
      have hx : x = rv := by simpa using h.symm
      subst hx
      have lt : j < σ.length := by rw [s.len]; exact (List.getElem?_eq_some_iff.mp q).1
      rw [List.getElem?_eq_getElem lt]
      exact ⟨v, rfl, r⟩
  · rw [List.getElem?_set_ne (Ne.symm e)] at h ⊢
    exact s.get j x h

/-! ### readings -/
def RdE (G : Gh) (t : TE) (F : Env → M RV) : Prop := ∀ (c : Cf) (σ : L2.St) (δ : Env) (Q : VK), SOk σ δ c → WOk c → wpM (F δ) c.W (QV c Q) (QE G c) → t σ c.H Q
def RdT (G : Gh) (t : TT) (F : Env → M Bool) : Prop := ∀ (c : Cf) (σ : L2.St) (δ : Env) (Q : Bool → Hp → Prop), SOk σ δ c → WOk c → wpM (F δ) c.W (QB c Q) (QE G c) → t σ c.H Q
def RdA (G : Gh) (t : TA) (F : Env → M (List RV)) : Prop := ∀ (c : Cf) (σ : L2.St) (δ : Env) (Q : List V → Hp → Prop), SOk σ δ c → WOk c → wpM (F δ) c.W (QA c Q) (QE G c) → t σ c.H Q
section
variable {ι : Type} {𝒳 : ι → Cx} {G : Gh}
def DE (𝒳 : ι → Cx) (G : Gh) (e : Expr) (F : Env → M RV) : Prop := ∃ t, (∀ i, PE (𝒳 i) e t) ∧ RdE G t F
def DT (𝒳 : ι → Cx) (G : Gh) (e : Expr) (F : Env → M Bool) : Prop := ∃ t, (∀ i, PT (𝒳 i) e t) ∧ RdT G t F
def DW (𝒳 : ι → Cx) (G : Gh) (e : Expr) (F : Env → M Bool) : Prop := ∃ t, (∀ i, PW (𝒳 i) e t) ∧ RdT G t F
def DA (𝒳 : ι → Cx) (G : Gh) (es : List Expr) (F : Env → M (List RV)) : Prop := ∃ t, (∀ i, PA (𝒳 i) es t) ∧ RdA G t F
/-- the contexts of a def's body and of what stands in it -/
structure Fam (𝒳 : ι → Cx) (G : Gh) (CX : CXT) (k : Nat) : Prop where
  K : ∀ i, (𝒳 i).K = G.K
  calm : ∀ i, (𝒳 i).calm = true
  room : ∀ i, Room k (𝒳 i).A
  pass : ∀ i, Passes CX (𝒳 i) G.Ex
variable {e a b : Expr} {Fa Fb : Env → M RV} {pos : Pos}
theorem DE.never : DE 𝒳 G e (fun _ => M.fail) := ⟨fun _ _ _ => False, fun _ => ⟨fun _ _ _ _ _ _ h => h.elim⟩, fun _ _ _ _ _ _ h => h.elim⟩
theorem de_int {i j pos} : DE 𝒳 G (.Constant (.int i) j pos) (fun _ => M.ret (.d (.int i))) := ⟨_, fun _ => pe_int, fun c σ δ Q s w h => QV.here (v := .d (.int i)) h w rfl⟩
theorem de_str {x j pos} : DE 𝒳 G (.Constant (.str x) j pos) (fun _ => M.ret (.d (.str x))) := ⟨_, fun _ => pe_str, fun c σ δ Q s w h => QV.here (v := .d (.str x)) h w rfl⟩
theorem de_bl {x j pos} : DE 𝒳 G (.Constant (.bool x) j pos) (fun _ => M.ret (.d (.bl x))) := ⟨_, fun _ => pe_bl, fun c σ δ Q s w h => QV.here (v := .d (.bl x)) h w rfl⟩
theorem de_non {j pos} : DE 𝒳 G (.Constant .none j pos) (fun _ => M.ret (.d .non)) := ⟨_, fun _ => pe_non, fun c σ δ Q s w h => QV.here (v := .d .non) h w rfl⟩
/-- a slot's value -/
def evVar (i : Nat) (δ : Env) : M RV := M.opt (δ[i]?.join)
theorem de_var (i : Nat) {x : Str} (hN : ∀ k, (𝒳 k).N[i]? = some x := by intro _; rfl) (hv : ∀ k, Vis (𝒳 k).env.scope x := by intro _; first | exact Or.inl rfl | exact Or.inr (Or.inl rfl) | exact Or.inr (Or.inr rfl)) (hd : (x == ("__debug__" : Str)) = false := by decide)
    (hcd : (x == ("__classdict__" : Str)) = false := by decide) : DE 𝒳 G (.Name x pos) (evVar i) := by
  refine ⟨_, fun k => pe_var (hN k) (hv k) hd hcd, fun c σ δ Q s w h => ?_⟩
  obtain ⟨rv, e, q⟩ := wpM_opt h
  have e2 : δ[i]? = some (some rv) := by
    cases z : δ[i]? with
    | none => rw [z] at e; simp at e
    | some y => rw [z] at e; simp at e; rw [e]
  obtain ⟨v, h1, h2⟩ := s.get i rv e2
  exact ⟨v, h1, q.here w h2⟩
/-! ### two operands -/
def OpD (G : Gh) (r : R2) (op : RV → RV → M RV) : Prop := ∀ (c : Cf) (x y : V) (u v : RV) (Q : VK), WOk c → RepRV c u x → RepRV c v y → wpM (op u v) c.W (QV c Q) (QE G c) → r x y c.H Q
def ev2 (op : RV → RV → M RV) (Fa Fb : Env → M RV) (δ : Env) : M RV := (Fa δ).bind fun u => (Fb δ).bind fun v => op u v
theorem RdE.two {ta tb : TE} {r : R2} {op : RV → RV → M RV} (ha : RdE G ta Fa) (hb : RdE G tb Fb) (hr : OpD G r op) : RdE G (tOp r ta tb) (ev2 op Fa Fb) := by
  intro c σ δ Q s w h
  refine ha c σ δ _ s w (wpM_mono (wpM_bind.mp h) (fun u W1 h1 x1 c1 hw e1 w1 r1 => ?_) fun _ _ q => q)
  subst hw
  refine hb c1 σ δ _ (s.mono e1) w1 (wpM_mono (wpM_bind.mp h1) (fun v W2 h2 x2 c2 hw e2 w2 r2 => ?_) fun _ _ q => q.mono e1)
  subst hw
  exact hr c2 x1 x2 u v Q w2 (r1.mono e2) r2 (wpM_mono h2 (fun _ _ q => (q.mono e1).mono e2) fun _ _ q => (q.mono e1).mono e2)
theorem OpD.or {r r' : R2} {op op' : RV → RV → M RV} (f : RV → RV → Bool) (h : OpD G r op) (h' : OpD G r' op') : OpD G (fun x y H Q => r x y H Q ∨ r' x y H Q) (fun u v => if f u v then op u v else op' u v) := by
  intro c x y u v Q w ru rv hq
  dsimp only at hq
  cases e : f u v with
  | true => rw [e] at hq; exact .inl (h c x y u v Q w ru rv hq)
  | false => rw [e] at hq; exact .inr (h' c x y u v Q w ru rv hq)
theorem de_bin {op : Operator} {r : R2} {f : RV → RV → M RV} (hp : ∀ i, OpR (𝒳 i) (binaryOp op) r) (hr : OpD G r f) (ha : DE 𝒳 G a Fa) (hb : DE 𝒳 G b Fb) : DE 𝒳 G (.BinOp a op b pos) (ev2 f Fa Fb) := by
  obtain ⟨ta, pa, ra⟩ := ha
  obtain ⟨tb, pb, rb⟩ := hb
  exact ⟨_, fun i => pe_op (hp i) (pa i) (pb i), ra.two rb hr⟩
theorem de_cmp {op : CmpOp} {r : R2} {f : RV → RV → M RV} (hp : ∀ i, OpR (𝒳 i) (compareOp op) r) (hr : OpD G r f) (ha : DE 𝒳 G a Fa) (hb : DE 𝒳 G b Fb) (hm : behindInMarks op b = false) : DE 𝒳 G (.Compare a [op] [b] pos) (ev2 f Fa Fb) := by
  obtain ⟨ta, pa, ra⟩ := ha
  obtain ⟨tb, pb, rb⟩ := hb
  exact ⟨_, fun i => pe_cmpR (hp i) (pa i) (pb i) hm, ra.two rb hr⟩
/-- a value that is True or False -/
def asB : RV → M Bool
  | .d (.bl b) => M.ret b
  | _ => M.fail
def evB (F : Env → M RV) (δ : Env) : M Bool := (F δ).bind asB
theorem asB_ok {v : RV} {W : Wd} {Q : Bool → Wd → Prop} {E : DX → Wd → Prop} (h : wpM (asB v) W Q E) : ∃ b, v = .d (.bl b) ∧ Q b W := by
  cases v with
  | r l => exact h.elim
  | d x => cases x <;> first | exact ⟨_, rfl, h⟩ | exact h.elim
theorem RdE.test {t : TE} {F : Env → M RV} (h : RdE G t F) : RdT G (tTest t) (evB F) := by
  intro c σ δ Q s w hq
  refine h c σ δ _ s w (wpM_mono (wpM_bind.mp hq) (fun u W1 h1 x1 c1 hw e1 w1 r1 => ?_) fun _ _ q => q)
  obtain ⟨b, rfl, q⟩ := asB_ok h1
  exact ⟨b, r1, q c1 hw e1 w1⟩
theorem dt_cmp {op : CmpOp} {r : R2} {f : RV → RV → M RV} (hp : ∀ i, OpR (𝒳 i) (compareOp op) r) (hr : OpD G r f) (ha : DE 𝒳 G a Fa) (hb : DE 𝒳 G b Fb) (hm : behindInMarks op b = false) : DT 𝒳 G (.Compare a [op] [b] pos) (evB (ev2 f Fa Fb)) := by
  obtain ⟨ta, pa, ra⟩ := ha
  obtain ⟨tb, pb, rb⟩ := hb
  exact ⟨_, fun i => pt_cmpR (hp i) (pa i) (pb i) hm, (ra.two rb hr).test⟩
theorem dt_val {F : Env → M RV} (h : DE 𝒳 G e F) (he : ∀ i, ∀ whole, isTrue e (𝒳 i).env whole = (do let v ← whole; standAt e.pos; holding [v] (truthy v)) := by intro _ _; rfl) : DT 𝒳 G e (evB F) := by
  obtain ⟨t, p, r⟩ := h
  exact ⟨_, fun i => pt_val (p i) (he i), r.test⟩
/-! ### and, or, not -/
variable {Ta Tb : Env → M Bool} {rest : List Expr}
def evAnd (Fa Fb : Env → M RV) (δ : Env) : M RV := (Fa δ).bind fun u => (asB u).bind fun c => if c then Fb δ else M.ret (.d (.bl false))
def evOr (Fa Fb : Env → M RV) (δ : Env) : M RV := (Fa δ).bind fun u => (asB u).bind fun c => if c then M.ret (.d (.bl true)) else Fb δ
def evNot (Fa : Env → M RV) (δ : Env) : M RV := (Fa δ).bind fun u => (asB u).bind fun c => M.ret (.d (.bl !c))
theorem de_one {op} (h : DE 𝒳 G a Fa) : DE 𝒳 G (.BoolOp op [a] pos) Fa := let ⟨_, p, r⟩ := h; ⟨_, fun i => pe_one (p i), r⟩
theorem de_and (ha : DE 𝒳 G a Fa) (hb : DE 𝒳 G (.BoolOp .And (b :: rest) pos) Fb) : DE 𝒳 G (.BoolOp .And (a :: b :: rest) pos) (evAnd Fa Fb) := by
  obtain ⟨ta, pa, ra⟩ := ha
  obtain ⟨tb, pb, rb⟩ := hb
  refine ⟨_, fun i => pe_and (pa i) (pb i), fun c σ δ Q s w hq => ?_⟩
  refine ra c σ δ _ s w (wpM_mono (wpM_bind.mp hq) (fun u W1 h1 x1 c1 hw e1 w1 r1 => ?_) fun _ _ q => q)
  subst hw
  obtain ⟨k, rfl, q⟩ := asB_ok (wpM_bind.mp h1)
  refine ⟨k, r1, ?_⟩
  cases k with
  | true => exact rb c1 σ δ Q (s.mono e1) w1 (wpM_mono q (fun _ _ q => q.mono e1) fun _ _ q => q.mono e1)
  | false => exact QV.here (v := .d (.bl false)) (QV.mono e1 q) w1 rfl
theorem de_or (ha : DE 𝒳 G a Fa) (hb : DE 𝒳 G (.BoolOp .Or (b :: rest) pos) Fb) : DE 𝒳 G (.BoolOp .Or (a :: b :: rest) pos) (evOr Fa Fb) := by
  obtain ⟨ta, pa, ra⟩ := ha
  obtain ⟨tb, pb, rb⟩ := hb
  refine ⟨_, fun i => pe_or (pa i) (pb i), fun c σ δ Q s w hq => ?_⟩
  refine ra c σ δ _ s w (wpM_mono (wpM_bind.mp hq) (fun u W1 h1 x1 c1 hw e1 w1 r1 => ?_) fun _ _ q => q)
  subst hw
  obtain ⟨k, rfl, q⟩ := asB_ok (wpM_bind.mp h1)
  refine ⟨k, r1, ?_⟩
  cases k with
  | true => exact QV.here (v := .d (.bl true)) (QV.mono e1 q) w1 rfl
  | false => exact rb c1 σ δ Q (s.mono e1) w1 (wpM_mono q (fun _ _ q => q.mono e1) fun _ _ q => q.mono e1)
theorem de_not (ha : DE 𝒳 G a Fa) : DE 𝒳 G (.UnaryOp .Not a pos) (evNot Fa) := by
  obtain ⟨ta, pa, ra⟩ := ha
  refine ⟨_, fun i => pe_not (pa i), fun c σ δ Q s w hq => ?_⟩
  refine ra c σ δ _ s w (wpM_mono (wpM_bind.mp hq) (fun u W1 h1 x1 c1 hw e1 w1 r1 => ?_) fun _ _ q => q)
  subst hw
  obtain ⟨k, rfl, q⟩ := asB_ok (wpM_bind.mp h1)
  exact ⟨k, r1, QV.here (v := .d (.bl !k)) (QV.mono e1 q) w1 rfl⟩
def evAndT (Ta Tb : Env → M Bool) (δ : Env) : M Bool := (Ta δ).bind fun c => if c then Tb δ else M.ret false
def evOrT (Ta Tb : Env → M Bool) (δ : Env) : M Bool := (Ta δ).bind fun c => if c then M.ret true else Tb δ
def evNotT (Ta : Env → M Bool) (δ : Env) : M Bool := (Ta δ).bind fun c => M.ret !c
theorem DW.t (h : DW 𝒳 G e Ta) : DT 𝒳 G e Ta := let ⟨_, p, r⟩ := h; ⟨_, fun i => (p i).pt, r⟩
theorem dw_and1 (h : DT 𝒳 G a Ta) : DW 𝒳 G (.BoolOp .And [a] pos) Ta := let ⟨_, p, r⟩ := h; ⟨_, fun i => pw_and1 (p i), r⟩
theorem dw_or1 (h : DT 𝒳 G a Ta) : DW 𝒳 G (.BoolOp .Or [a] pos) Ta := let ⟨_, p, r⟩ := h; ⟨_, fun i => pw_or1 (p i), r⟩
theorem dw_and (ha : DT 𝒳 G a Ta) (hb : DW 𝒳 G (.BoolOp .And (b :: rest) pos) Tb) : DW 𝒳 G (.BoolOp .And (a :: b :: rest) pos) (evAndT Ta Tb) := by
  obtain ⟨ta, pa, ra⟩ := ha
  obtain ⟨tb, pb, rb⟩ := hb
  refine ⟨_, fun i => pw_and (pa i) (pb i), fun c σ δ Q s w hq => ?_⟩
  refine ra c σ δ _ s w (wpM_mono (wpM_bind.mp hq) (fun k W1 h1 c1 hw e1 w1 => ?_) fun _ _ q => q)
  subst hw
  cases k with
  | true => exact rb c1 σ δ Q (s.mono e1) w1 (wpM_mono h1 (fun _ _ q => q.mono e1) fun _ _ q => q.mono e1)
  | false => exact h1 c1 rfl e1 w1
theorem dw_or (ha : DT 𝒳 G a Ta) (hb : DW 𝒳 G (.BoolOp .Or (b :: rest) pos) Tb) : DW 𝒳 G (.BoolOp .Or (a :: b :: rest) pos) (evOrT Ta Tb) := by
  obtain ⟨ta, pa, ra⟩ := ha
  obtain ⟨tb, pb, rb⟩ := hb
  refine ⟨_, fun i => pw_or (pa i) (pb i), fun c σ δ Q s w hq => ?_⟩
  refine ra c σ δ _ s w (wpM_mono (wpM_bind.mp hq) (fun k W1 h1 c1 hw e1 w1 => ?_) fun _ _ q => q)
  subst hw
  cases k with
  | true => exact h1 c1 rfl e1 w1
  | false => exact rb c1 σ δ Q (s.mono e1) w1 (wpM_mono h1 (fun _ _ q => q.mono e1) fun _ _ q => q.mono e1)
theorem dt_not (ha : DT 𝒳 G a Ta) : DT 𝒳 G (.UnaryOp .Not a pos) (evNotT Ta) := by
  obtain ⟨ta, pa, ra⟩ := ha
  refine ⟨_, fun i => pt_not (pa i), fun c σ δ Q s w hq => ?_⟩
  refine ra c σ δ _ s w (wpM_mono (wpM_bind.mp hq) (fun k W1 h1 c1 hw e1 w1 => ?_) fun _ _ q => q)
  exact h1 c1 hw e1 w1
/-- a if t else b -/
def evIf (T : Env → M Bool) (Fa Fb : Env → M RV) (δ : Env) : M RV := (T δ).bind fun c => if c then Fa δ else Fb δ
theorem de_if {t : Expr} (ht : DT 𝒳 G t Ta) (ha : DE 𝒳 G a Fa) (hb : DE 𝒳 G b Fb) : DE 𝒳 G (.IfExp t a b pos) (evIf Ta Fa Fb) := by
  obtain ⟨tt, pt, rt⟩ := ht
  obtain ⟨ta, pa, ra⟩ := ha
  obtain ⟨tb, pb, rb⟩ := hb
  refine ⟨_, fun i => pe_ifExp (pt i) (pa i) (pb i), fun c σ δ Q s w hq => ?_⟩
  refine rt c σ δ _ s w (wpM_mono (wpM_bind.mp hq) (fun k W1 h1 c1 hw e1 w1 => ?_) fun _ _ q => q)
  subst hw
  cases k with
  | true => exact ra c1 σ δ Q (s.mono e1) w1 (wpM_mono h1 (fun _ _ q => q.mono e1) fun _ _ q => q.mono e1)
  | false => exact rb c1 σ δ Q (s.mono e1) w1 (wpM_mono h1 (fun _ _ q => q.mono e1) fun _ _ q => q.mono e1)
/-! ### argument lists -/
def evNil (_ : Env) : M (List RV) := M.ret []
def evCons (F : Env → M RV) (R : Env → M (List RV)) (δ : Env) : M (List RV) := (F δ).bind fun v => (R δ).bind fun vs => M.ret (v :: vs)
theorem da_nil : DA 𝒳 G [] evNil := ⟨_, fun _ => pa_nil, fun c σ δ Q s w h => h [] c rfl (Ext.refl c) w .nil⟩
theorem da_cons {es : List Expr} {R : Env → M (List RV)} (ha : DE 𝒳 G e Fa) (hr : DA 𝒳 G es R) (hs : ∀ i, starEach (e :: es) (𝒳 i).env = (false, eval e (𝒳 i).env) :: starEach es (𝒳 i).env := by intro _; rfl) : DA 𝒳 G (e :: es) (evCons Fa R) := by
  obtain ⟨ta, pa, ra⟩ := ha
  obtain ⟨tr, pr, rr⟩ := hr
  refine ⟨_, fun i => pa_cons (pa i) (pr i) (hs i), fun c σ δ Q s w hq => ?_⟩
  refine ra c σ δ _ s w (wpM_mono (wpM_bind.mp hq) (fun u W1 h1 x1 c1 hw e1 w1 r1 => ?_) fun _ _ q => q)
  subst hw
  refine rr c1 σ δ _ (s.mono e1) w1 (wpM_mono (wpM_bind.mp h1) (fun vs W2 h2 xs c2 hw e2 w2 r2 => ?_) fun _ _ q => q.mono e1)
  subst hw
  exact h2 (x1 :: xs) c2 rfl (e1.trans e2) w2 (.cons (r1.mono e2) r2)
end
end DL
set_option Elab.async false
set_option linter.all false
set_option maxRecDepth 100000
set_option maxHeartbeats 4000000
/-! DL3: operations on values. -/
namespace DL
open PySem PySem.Spec PyProof.Rows L2
def M.guard (p : Prop) [Decidable p] : M Unit := fun W => if p then some (.ok (), W) else none
theorem wpM_guard {p : Prop} [Decidable p] {W : Wd} {Q : Unit → Wd → Prop} {E : DX → Wd → Prop} (h : wpM (M.guard p) W Q E) : p ∧ Q () W := by
  unfold wpM M.guard at h
  by_cases e : p
  · rw [if_pos e] at h; exact ⟨e, h⟩
  · rw [if_neg e] at h; exact h.elim
def M.look {α : Type} (f : Wd → Option α) : M α := fun W => match f W with | some a => some (.ok a, W) | none => none
theorem wpM_look {α : Type} {f : Wd → Option α} {W : Wd} {Q : α → Wd → Prop} {E : DX → Wd → Prop} (h : wpM (M.look f) W Q E) : ∃ a, f W = some a ∧ Q a W := by
  unfold wpM M.look at h
  cases e : f W with
  | none => rw [e] at h; exact h.elim
  | some a => rw [e] at h; exact ⟨a, rfl, h⟩
/-! ### pure things -/
def pureL : List RV → Option (List D)
  | [] => some []
  | .d x :: r => (pureL r).map (x :: ·)
  | .r _ :: _ => none
section
variable {G : Gh} {c : Cf}
theorem pureL_rep : ∀ {rvs : List RV} {ds : List D} {vs : List V}, pureL rvs = some ds → RepVs c rvs vs → RepL c ds vs
  | [], _, _, h, .nil => by cases h; exact rfl
  | .d x :: r, ds, _, h, .cons (b := v) (l₂ := vs) q t => by
    cases e : pureL r with
    | none => simp [pureL, e] at h
    | some ds' =>
      simp [pureL, e] at h
      subst h
      exact ⟨v, vs, rfl, q, pureL_rep e t⟩
  | .r _ :: _, _, _, h, _ => by simp [pureL] at h
theorem repL_vs : ∀ {ds : List D} {vs : List V}, RepL c ds vs → RepVs c (ds.map RV.d) vs
  | [], _, h => by cases h; exact .nil
  | _ :: _, _, h => by
    obtain ⟨v, r, rfl, h1, h2⟩ := h
    exact .cons h1 (repL_vs h2)
theorem repL_len : ∀ {ds : List D} {vs : List V}, RepL c ds vs → ds.length = vs.length
  | [], _, h => by cases h; rfl
  | _ :: _, _, h => by
    obtain ⟨v, r, rfl, _, h2⟩ := h
    rw [List.length_cons, List.length_cons, repL_len h2]
theorem repL_get : ∀ {ds : List D} {vs : List V} {i : Nat} {x : D}, RepL c ds vs → ds[i]? = some x → ∃ v, vs[i]? = some v ∧ Rep c x v
  | [], _, _, _, _, h => by simp at h
  | y :: r, _, i, x, q, h => by
    obtain ⟨v, r', rfl, h1, h2⟩ := q
    cases i with
    | zero => have e : y = x := by simpa using h
              subst e; exact ⟨v, rfl, h1⟩
    | succ i =>
      obtain ⟨z, h3, h4⟩ := repL_get (i := i) h2 (by simpa using h)
      exact ⟨z, by simpa using h3, h4⟩
theorem paired_get {α β : Type} {F : α → β → Prop} : ∀ {l1 : List α} {l2 : List β} {i : Nat} {x : α}, Paired F l1 l2 → l1[i]? = some x → ∃ y, l2[i]? = some y ∧ F x y
  | _, _, _, _, .nil, h => by simp at h
  | _, _, 0, _, .cons r _, h => by simp at h; subst h; exact ⟨_, rfl, r⟩
  | _, _, i + 1, _, .cons _ t, h => by
    obtain ⟨y, h1, h2⟩ := paired_get (i := i) t (by simpa using h)
    exact ⟨y, by simpa using h1, h2⟩
theorem paired_app {α β : Type} {F : α → β → Prop} : ∀ {l1 m1 : List α} {l2 m2 : List β}, Paired F l1 l2 → Paired F m1 m2 → Paired F (l1 ++ m1) (l2 ++ m2)
  | _, _, _, _, .nil, s => s
  | _, _, _, _, .cons r t, s => .cons r (paired_app t s)
theorem paired_take {α β : Type} {F : α → β → Prop} : ∀ {l1 : List α} {l2 : List β} (n : Nat), Paired F l1 l2 → Paired F (l1.take n) (l2.take n)
  | _, _, 0, _ => .nil
  | _, _, _ + 1, .nil => .nil
  | _, _, n + 1, .cons r t => .cons r (paired_take n t)
theorem paired_drop {α β : Type} {F : α → β → Prop} : ∀ {l1 : List α} {l2 : List β} (n : Nat), Paired F l1 l2 → Paired F (l1.drop n) (l2.drop n)
  | _, _, 0, r => r
  | _, _, _ + 1, .nil => .nil
  | _, _, n + 1, .cons _ t => paired_drop n t
theorem paired_set {α β : Type} {F : α → β → Prop} {x : α} {y : β} (r : F x y) : ∀ {l1 : List α} {l2 : List β} (i : Nat), Paired F l1 l2 → Paired F (l1.set i x) (l2.set i y)
  | _, _, _, .nil => .nil
  | _, _, 0, .cons _ t => .cons r t
  | _, _, i + 1, .cons q t => .cons q (paired_set r i t)
theorem paired_erase {α β : Type} {F : α → β → Prop} : ∀ {l1 : List α} {l2 : List β} (i : Nat), Paired F l1 l2 → Paired F (l1.eraseIdx i) (l2.eraseIdx i)
  | _, _, _, .nil => .nil
  | _, _, 0, .cons _ t => t
  | _, _, i + 1, .cons q t => .cons q (paired_erase i t)
end
/-! ### a label made pure -/
def pureF : List (Str × RV) → Option (List (Str × D))
  | [] => some []
  | (f, .d x) :: r => (pureF r).map ((f, x) :: ·)
  | (_, .r _) :: _ => none
theorem pureF_rep {c : Cf} : ∀ {rvs : List (Str × RV)} {ds : List (Str × D)} {vs : List (Str × V)}, pureF rvs = some ds → RepFs c rvs vs → RepN c ds vs
  | [], _, _, h, .nil => by cases h; exact rfl
  | (f, .d x) :: r, ds, _, h, .cons (b := v) (l₂ := vs) q t => by
    cases e : pureF r with
    | none => simp [pureF, e] at h
    | some ds' =>
      simp [pureF, e] at h
      subst h
      obtain ⟨g, v⟩ := v
      obtain ⟨q1, q2⟩ := q
      dsimp only at q1 q2
      subst q1
      exact ⟨v, vs, rfl, q2, pureF_rep e t⟩
  | (_, .r _) :: _, _, _, h, _ => by simp [pureF] at h
def pureM : MO → Option D
  | .fz x => some x
  | .lst xs => (pureL xs).map .lst
  | .dK kvs => some (.dK kvs)
  | .dT kvs => some (.dT kvs)
  | .ins C fs => (pureF fs).map (.obj C)
def isFz : MO → Bool
  | .fz _ => true
  | _ => false
def toD : RV → M D
  | .d x => M.ret x
  | .r l => fun W => match W[l]? with
    | some m => match pureM m with
      | some d => some (.ok d, if isFz m then W else W.set l (.fz d))
      | none => none
    | none => none
section
variable {G : Gh} {c : Cf}
theorem toD_ok {v : RV} {x : V} {Q : D → Wd → Prop} {E : DX → Wd → Prop} (w : WOk c) (r : RepRV c v x) (h : wpM (toD v) c.W Q E) : ∃ c1 d, c1.H = c.H ∧ Ext c c1 ∧ WOk c1 ∧ Rep c1 d x ∧ Q d c1.W := by
  cases v with
  | d y => exact ⟨c, y, rfl, Ext.refl c, w, r, h⟩
  | r l =>
    obtain ⟨rfl, hl⟩ := r
    cases e : c.W[l]? with
    | none => simp [wpM, toD, e] at h
    | some o =>
      have ob := w.obj l o e
      cases e2 : pureM o with
      | none => simp [wpM, toD, e, e2] at h
      | some d =>
        simp only [wpM, toD, e, e2] at h
        cases o with
        | fz y =>
          simp [pureM] at e2
          subst e2
          exact ⟨c, y, rfl, Ext.refl c, w, ob, h⟩
        | lst xs =>
          simp [pureM] at e2
          obtain ⟨ds, e2, rfl⟩ := e2
          obtain ⟨vs, h1, h2⟩ := ob
          have ex : Ext c (c.fz l (.lst ds)) := Ext.fz
          have rr : Rep (c.fz l (.lst ds)) (.lst ds) (.ref (c.ren l)) := ⟨c.ren l, vs, rfl, h1, w.fzAv e trivial, RepL.mono ex _ _ (pureL_rep e2 h2)⟩
          exact ⟨c.fz l (.lst ds), .lst ds, rfl, ex, w.fz e trivial rr, rr, h⟩
        | dK ds =>
          simp [pureM] at e2
          subst e2
          obtain ⟨vs, h1, h2⟩ := ob
          have ex : Ext c (c.fz l (.dK ds)) := Ext.fz
          have rr : Rep (c.fz l (.dK ds)) (.dK ds) (.ref (c.ren l)) := ⟨c.ren l, vs, rfl, h1, w.fzAv e trivial, RepK.monoW ex.wk _ _ h2⟩
          exact ⟨c.fz l (.dK ds), .dK ds, rfl, ex, w.fz e trivial rr, rr, h⟩
        | dT ds =>
          simp [pureM] at e2
          subst e2
          obtain ⟨vs, h1, h2⟩ := ob
          have ex : Ext c (c.fz l (.dT ds)) := Ext.fz
          have rr : Rep (c.fz l (.dT ds)) (.dT ds) (.ref (c.ren l)) := ⟨c.ren l, vs, rfl, h1, w.fzAv e trivial, RepT.monoW ex.wk _ _ h2⟩
          exact ⟨c.fz l (.dT ds), .dT ds, rfl, ex, w.fz e trivial rr, rr, h⟩
        | ins C fs =>
          simp [pureM] at e2
          obtain ⟨ds, e2, rfl⟩ := e2
          obtain ⟨dx, vs, h1, h2⟩ := ob
          have ex : Ext c (c.fz l (.obj C ds)) := Ext.fz
          have rr : Rep (c.fz l (.obj C ds)) (.obj C ds) (.ref (c.ren l)) := ⟨c.ren l, dx, vs, rfl, h1, w.fzAv e trivial, RepN.monoW ex.wk _ _ (pureF_rep e2 h2)⟩
          exact ⟨c.fz l (.obj C ds), .obj C ds, rfl, ex, w.fz e trivial rr, rr, h⟩
end
def toDs : List RV → M (List D)
  | [] => M.ret []
  | v :: r => (toD v).bind fun x => (toDs r).bind fun xs => M.ret (x :: xs)
section
variable {G : Gh} {c : Cf}
theorem toDs_ok : ∀ {rvs : List RV} {c : Cf} {vs : List V} {Q : List D → Wd → Prop} {E : DX → Wd → Prop}, WOk c → RepVs c rvs vs → wpM (toDs rvs) c.W Q E → ∃ c1 ds, c1.H = c.H ∧ Ext c c1 ∧ WOk c1 ∧ RepL c1 ds vs ∧ Q ds c1.W
  | [], c, _, _, _, w, .nil, h => ⟨c, [], rfl, Ext.refl c, w, rfl, h⟩
  | v :: rvs, c, _, _, _, w, .cons (b := x) (l₂ := vs) r t, h => by
    obtain ⟨c1, d, h1, e1, w1, r1, q1⟩ := toD_ok w r (wpM_bind.mp h)
    obtain ⟨c2, ds, h2, e2, w2, r2, q2⟩ := toDs_ok w1 (RepVs.mono e1 t) (wpM_bind.mp q1)
    exact ⟨c2, d :: ds, h2.trans h1, e1.trans e2, w2, ⟨x, vs, rfl, Rep.mono e2 _ _ r1, r2⟩, q2⟩
/-! ### a new list, pure or at a label -/
def newL (mk : Bool) (rvs : List RV) : M RV :=
  if mk then fun W => some (.ok (.r W.length), W ++ [.lst rvs]) else (toDs rvs).bind fun ds => M.ret (.d (.lst ds))
theorem newL_ok {mk : Bool} {rvs : List RV} {vs : List V} {Q : VK} {E : DX → Wd → Prop} (w : WOk c) (r : RepVs c rvs vs) (h : wpM (newL mk rvs) c.W (QV c Q) E) : ∀ p, c.H p = none → Q (.ref p) (upd c.H p (.lst vs)) := by
  intro p hp
  cases mk with
  | true =>
    have e : Ext c (c.new p (.lst vs) (.lst rvs)) := Ext.new hp
    refine h (.ref p) (c.new p (.lst vs) (.lst rvs)) rfl e (w.new hp ⟨vs, upd_same, RepVs.mono e r⟩) ⟨?_, ?_⟩
    · rw [ren_last]
    · show c.W.length < (c.W ++ [_]).length
      rw [List.length_append, List.length_singleton]; omega
  | false =>
    obtain ⟨c1, ds, h1, e1, w1, r1, q1⟩ := toDs_ok w r (wpM_bind.mp h)
    have hp1 : c1.H p = none := by rw [h1]; exact hp
    obtain ⟨e2, w2⟩ := w1.lay (o := .lst vs) hp1
    have := q1 (.ref p) (c1.lay p (.lst vs)) rfl (e1.trans e2) w2 ⟨p, vs, rfl, upd_same, w1.layAv hp1, RepL.mono e2 _ _ r1⟩
    rw [← h1]; exact this
/-- a new tuple -/
def newT (rvs : List RV) : M RV := (toDs rvs).bind fun ds => M.ret (.d (.tup ds))
theorem newT_ok {rvs : List RV} {vs : List V} {Q : VK} {E : DX → Wd → Prop} (w : WOk c) (r : RepVs c rvs vs) (h : wpM (newT rvs) c.W (QV c Q) E) : ∀ p, c.H p = none → Q (.ref p) (upd c.H p (.tup vs)) := by
  intro p hp
  obtain ⟨c1, ds, h1, e1, w1, r1, q1⟩ := toDs_ok w r (wpM_bind.mp h)
  have hp1 : c1.H p = none := by rw [h1]; exact hp
  obtain ⟨e2, w2⟩ := w1.lay (o := .tup vs) hp1
  have := q1 (.ref p) (c1.lay p (.tup vs)) rfl (e1.trans e2) w2 ⟨p, vs, rfl, upd_same, w1.layAv hp1, RepL.mono e2 _ _ r1⟩
  rw [← h1]; exact this
/-! ### looks -/
/-- the items of a list or a tuple; whether it is a tuple -/
def seqOf (W : Wd) : RV → Option (Bool × List RV)
  | .d (.lst xs) => some (false, xs.map .d)
  | .d (.tup xs) => some (true, xs.map .d)
  | .d _ => none
  | .r l => match W[l]? with
    | some (.lst xs) => some (false, xs)
    | some (.fz (.lst xs)) => some (false, xs.map .d)
    | some (.fz (.tup xs)) => some (true, xs.map .d)
    | _ => none
theorem seqOf_ok {v : RV} {x : V} {t : Bool} {xs : List RV} (w : WOk c) (r : RepRV c v x) (h : seqOf c.W v = some (t, xs)) : ∃ a vs, x = .ref a ∧ c.H a = some (if t then .tup vs else .lst vs) ∧ RepVs c xs vs := by
  have dat : ∀ (y : D) (x : V), Rep c y x → seqOf c.W (.d y) = some (t, xs) → ∃ a vs, x = .ref a ∧ c.H a = some (if t then .tup vs else .lst vs) ∧ RepVs c xs vs := fun y x r h => by
    cases y <;> simp [seqOf] at h
    case lst ys =>
      obtain ⟨rfl, rfl⟩ := h
      obtain ⟨a, vs, rfl, h1, _, h2⟩ := r
      exact ⟨a, vs, rfl, h1, repL_vs h2⟩
    case tup ys =>
      obtain ⟨rfl, rfl⟩ := h
      obtain ⟨a, vs, rfl, h1, _, h2⟩ := r
      exact ⟨a, vs, rfl, h1, repL_vs h2⟩
  cases v with
  | d y => exact dat y x r h
  | r l =>
    obtain ⟨rfl, hl⟩ := r
    simp only [seqOf] at h
    cases e : c.W[l]? with
    | none => rw [e] at h; simp at h
    | some o =>
      rw [e] at h
      have ob := w.obj l o e
      cases o with
      | lst ys =>
        simp at h
        obtain ⟨rfl, rfl⟩ := h
        obtain ⟨vs, h1, h2⟩ := ob
        exact ⟨_, vs, rfl, h1, h2⟩
      | fz y =>
        refine dat y _ ob ?_
        cases y <;> simp at h <;> simp [seqOf, h]
      | dK _ => simp at h
      | dT _ => simp at h
      | ins _ _ => simp at h
/-- data that may be looked at, labels read through -/
def peek (W : Wd) : RV → Option D
  | .d x => some x
  | .r l => match W[l]? with
    | some (.lst xs) => (pureL xs).map .lst
    | some (.fz x) => some x
    | _ => none
def toPy : D → Option PyData
  | .non => some .none
  | .bl b => some (.bool b)
  | .int i => some (.int i)
  | .str s => some (.str s)
  | .lst xs => (toPyL xs).map .list
  | .tup xs => (toPyL xs).map .tuple
  | _ => none
where
  toPyL : List D → Option (List PyData)
  | [] => some []
  | x :: xs => match toPy x, toPyL xs with
    | some a, some b => some (a :: b)
    | _, _ => none
mutual
theorem toPy_ok : ∀ (x : D) (v : V) (p : PyData), Rep c x v → toPy x = some p → Dp G.K c.H v p
  | .non, v, p, r, h => by cases r; simp [toPy] at h; subst h; exact .non
  | .bl b, v, p, r, h => by cases r; simp [toPy] at h; subst h; exact .bl b
  | .int i, v, p, r, h => by cases r; simp [toPy] at h; subst h; exact .int i
  | .str s, v, p, r, h => by cases r; simp [toPy] at h; subst h; exact .str s
  | .lst xs, v, p, r, h => by
    obtain ⟨a, vs, rfl, h1, _, h2⟩ := r
    simp only [toPy, Option.map_eq_some_iff] at h
    obtain ⟨ps, e, rfl⟩ := h
    exact .lst (SqL.of h1) (toPyL_ok xs vs ps h2 e)
  | .tup xs, v, p, r, h => by
    obtain ⟨a, vs, rfl, h1, _, h2⟩ := r
    simp only [toPy, Option.map_eq_some_iff] at h
    obtain ⟨ps, e, rfl⟩ := h
    exact .tup (SqT.of h1) (toPyL_ok xs vs ps h2 e)
  | .ty _, _, _, _, h => by simp [toPy] at h
  | .frz _, _, _, _, h => by simp [toPy] at h
  | .dK _, _, _, _, h => by simp [toPy] at h
  | .dT _, _, _, _, h => by simp [toPy] at h
  | .obj _ _, _, _, _, h => by simp [toPy] at h
theorem toPyL_ok : ∀ (xs : List D) (vs : List V) (ps : List PyData), RepL c xs vs → toPy.toPyL xs = some ps → DpAll G.K c.H vs ps
  | [], _, ps, r, h => by cases r; simp [toPy.toPyL] at h; subst h; exact .nil
  | x :: xs, _, ps, r, h => by
    obtain ⟨v, r', rfl, h1, h2⟩ := r
    simp only [toPy.toPyL] at h
    cases e1 : toPy x with
    | none => rw [e1] at h; simp at h
    | some a =>
      cases e2 : toPy.toPyL xs with
      | none => rw [e1, e2] at h; simp at h
      | some b =>
        rw [e1, e2] at h
        simp at h
        subst h
        exact .cons (toPy_ok x v a h1 e1) (toPyL_ok xs r' b h2 e2)
end
theorem peek_ok {v : RV} {x : V} {d : D} {p : PyData} (w : WOk c) (r : RepRV c v x) (h : peek c.W v = some d) (hp : toPy d = some p) : Dp G.K c.H x p := by
  cases v with
  | d y =>
    simp [peek] at h
    subst h
    exact toPy_ok y x p r hp
  | r l =>
    obtain ⟨rfl, hl⟩ := r
    simp only [peek] at h
    cases e : c.W[l]? with
    | none => rw [e] at h; simp at h
    | some o =>
      rw [e] at h
      have ob := w.obj l o e
      cases o with
      | fz y => simp at h; subst h; exact toPy_ok y _ p ob hp
      | dK _ => simp at h
      | dT _ => simp at h
      | ins _ _ => simp at h
      | lst xs =>
        simp at h
        obtain ⟨ds, e2, rfl⟩ := h
        obtain ⟨vs, h1, h2⟩ := ob
        simp only [toPy, Option.map_eq_some_iff] at hp
        obtain ⟨ps, e, rfl⟩ := hp
        exact .lst (SqL.of h1) (toPyL_ok ds vs ps (pureL_rep e2 h2) e)
end
end DL
set_option Elab.async false
set_option linter.all false
set_option maxRecDepth 100000
set_option maxHeartbeats 4000000
/-! DL4: operators, comparisons, subscripts, slices, displays. -/
namespace DL
open PySem PySem.Spec PyProof.Rows L2
instance {i j : Int} : Decidable (CMulW i j) := inferInstanceAs (Decidable (_ < _))
/-- // by a divisor that isn't 0, of any sign -/
def CDivG (_ j : Int) : Prop := j ≠ 0 ∧ j.natAbs.log2 < 9000
theorem op_fdivG {X : Cx} : OpR X (binaryOp .FloorDiv) (rI CDivG fun i j => .int (i.fdiv j)) := opI fun i j _ _ _ _ _ hc q => floordiv_int hc.1 q (.inl (PyProof.noPylong_of_log2 hc.2))
instance {i j : Int} : Decidable (CDivG i j) := inferInstanceAs (Decidable (_ ∧ _))
instance {i j : Int} : Decidable (CDivW i j) := inferInstanceAs (Decidable (_ ∧ _))
instance {i j : Int} : Decidable (CPow i j) := inferInstanceAs (Decidable (_ ∧ _))
section
variable {G : Gh} {c : Cf}
/-! ### ints -/
def int2 (u v : RV) : Option (Int × Int) := match u, v with
  | .d (.int i), .d (.int j) => some (i, j)
  | _, _ => none
theorem int2_ok {u v : RV} {i j : Int} (h : int2 u v = some (i, j)) : u = .d (.int i) ∧ v = .d (.int j) := by
  cases u with
  | r l => simp [int2] at h
  | d x =>
    cases v with
    | r l => cases x <;> simp [int2] at h
    | d y => cases x <;> cases y <;> simp [int2] at h <;> exact ⟨by rw [h.1], by rw [h.2]⟩
def opI0 (g : Int → Int → D) (u v : RV) : M RV := (M.opt (int2 u v)).bind fun p => M.ret (.d (g p.1 p.2))
theorem opd_I0 {g : Int → Int → D} {gV : Int → Int → V} (hg : ∀ (c : Cf) i j, Rep c (g i j) (gV i j)) : OpD G (rI0 gV) (opI0 g) := by
  intro c x y u v Q w ru rv h
  obtain ⟨⟨i, j⟩, e, q⟩ := wpM_opt (wpM_bind.mp h)
  obtain ⟨rfl, rfl⟩ := int2_ok e
  exact ⟨i, j, ru, rv, QV.here (v := .d (g i j)) q w (hg c i j)⟩
def opIC (C : Int → Int → Prop) [∀ i j, Decidable (C i j)] (g : Int → Int → D) (u v : RV) : M RV := (M.opt (int2 u v)).bind fun p => (M.guard (C p.1 p.2)).bind fun _ => M.ret (.d (g p.1 p.2))
theorem opd_IC {C : Int → Int → Prop} [∀ i j, Decidable (C i j)] {g : Int → Int → D} {gV : Int → Int → V} (hg : ∀ (c : Cf) i j, Rep c (g i j) (gV i j)) : OpD G (rI C gV) (opIC C g) := by
  intro c x y u v Q w ru rv h
  obtain ⟨⟨i, j⟩, e, q⟩ := wpM_opt (wpM_bind.mp h)
  obtain ⟨rfl, rfl⟩ := int2_ok e
  obtain ⟨hc, q⟩ := wpM_guard (wpM_bind.mp q)
  exact ⟨i, j, ru, rv, hc, QV.here (v := .d (g i j)) q w (hg c i j)⟩
def isInt2 (u v : RV) : Bool := (int2 u v).isSome
/-! ### texts -/
def str2 (u v : RV) : Option (Str × Str) := match u, v with
  | .d (.str i), .d (.str j) => some (i, j)
  | _, _ => none
theorem str2_ok {u v : RV} {i j : Str} (h : str2 u v = some (i, j)) : u = .d (.str i) ∧ v = .d (.str j) := by
  cases u with
  | r l => simp [str2] at h
  | d x =>
    cases v with
    | r l => cases x <;> simp [str2] at h
    | d y => cases x <;> cases y <;> simp [str2] at h <;> exact ⟨by rw [h.1], by rw [h.2]⟩
def isStr2 (u v : RV) : Bool := (str2 u v).isSome
def opAddS (u v : RV) : M RV := (M.opt (str2 u v)).bind fun p => (M.guard (p.1.length + p.2.length ≤ sizeLine)).bind fun _ => M.ret (.d (.str (p.1 ++ p.2)))
theorem opd_addS : OpD G (fun x y H Q => ∃ i j, x = .str i ∧ y = .str j ∧ i.length + j.length ≤ sizeLine ∧ Q (.str (i ++ j)) H) opAddS := by
  intro c x y u v Q w ru rv h
  obtain ⟨⟨i, j⟩, e, q⟩ := wpM_opt (wpM_bind.mp h)
  obtain ⟨rfl, rfl⟩ := str2_ok e
  obtain ⟨hc, q⟩ := wpM_guard (wpM_bind.mp q)
  exact ⟨i, j, ru, rv, hc, QV.here (v := .d (.str (i ++ j))) q w rfl⟩
/-! ### lists, tuples -/
def opCat (mk : Bool) (u v : RV) : M RV := (M.look fun W => match seqOf W u, seqOf W v with | some (false, xs), some (false, ys) => some (xs, ys) | _, _ => none).bind fun p =>
  (M.guard (p.1.length + p.2.length ≤ sizeLine)).bind fun _ => newL mk (p.1 ++ p.2)
theorem paired_len {α β : Type} {F : α → β → Prop} {l1 : List α} {l2 : List β} (h : Paired F l1 l2) : l1.length = l2.length := Paired.length h
theorem opd_cat {mk : Bool} : OpD G rCat (opCat mk) := by
  intro c x y u v Q w ru rv h
  obtain ⟨⟨xs, ys⟩, e, q⟩ := wpM_look (wpM_bind.mp h)
  obtain ⟨hc, q⟩ := wpM_guard (wpM_bind.mp q)
  cases e1 : seqOf c.W u with
  | none => rw [e1] at e; simp at e
  | some p =>
    cases e2 : seqOf c.W v with
    | none => rw [e1, e2] at e; rcases p with ⟨_ | _, _⟩ <;> simp at e
    | some p2 =>
      rw [e1, e2] at e
      obtain ⟨b1, xs1⟩ := p
      obtain ⟨b2, ys1⟩ := p2
      cases b1 <;> cases b2 <;> simp at e
      obtain ⟨rfl, rfl⟩ := e
      obtain ⟨a, vs, rfl, h1, r1⟩ := seqOf_ok w ru e1
      obtain ⟨b, ws, rfl, h2, r2⟩ := seqOf_ok w rv e2
      refine ⟨a, b, vs, ws, rfl, rfl, h1, h2, ?_, newL_ok w (paired_app r1 r2) q⟩
      rw [← paired_len r1, ← paired_len r2]; exact hc
def opCatT (u v : RV) : M RV := (M.look fun W => match seqOf W u, seqOf W v with | some (true, xs), some (true, ys) => some (xs, ys) | _, _ => none).bind fun p =>
  (M.guard (p.1.length + p.2.length ≤ sizeLine ∧ p.1.isEmpty = false)).bind fun _ => if p.2.isEmpty then M.ret u else newT (p.1 ++ p.2)
theorem opd_catT : OpD G (rCatT G.K) opCatT := by
  intro c x y u v Q w ru rv h
  obtain ⟨⟨xs, ys⟩, e, q⟩ := wpM_look (wpM_bind.mp h)
  obtain ⟨⟨hc, hne⟩, q⟩ := wpM_guard (wpM_bind.mp q)
  cases e1 : seqOf c.W u with
  | none => rw [e1] at e; simp at e
  | some p =>
    cases e2 : seqOf c.W v with
    | none => rw [e1, e2] at e; rcases p with ⟨_ | _, _⟩ <;> simp at e
    | some p2 =>
      rw [e1, e2] at e
      obtain ⟨b1, xs1⟩ := p
      obtain ⟨b2, ys1⟩ := p2
      cases b1 <;> cases b2 <;> simp at e
      obtain ⟨rfl, rfl⟩ := e
      obtain ⟨a, vs, rfl, h1, r1⟩ := seqOf_ok w ru e1
      obtain ⟨b, ws, rfl, h2, r2⟩ := seqOf_ok w rv e2
      dsimp only at hc hne q
      refine ⟨a, b, vs, ws, rfl, rfl, SqT.of h1, SqT.of h2, ?_, ?_, ?_, ?_⟩
      · rintro rfl
        cases r1
        simp at hne
      · rw [← paired_len r1, ← paired_len r2]; exact hc
      · rintro rfl
        cases r2
        exact QV.here (v := u) q w ru
      · intro hy
        have : ys1.isEmpty = false := by
          cases r2 with
          | nil => exact absurd rfl hy
          | cons _ _ => rfl
        rw [this] at q
        exact newT_ok w (paired_app r1 r2) q
def opRep (mk : Bool) (u v : RV) : M RV := (M.look fun W => match seqOf W u, v with | some (false, xs), .d (.int k) => some (xs, k) | _, _ => none).bind fun p =>
  (M.guard (-(2 ^ 63) ≤ p.2 ∧ p.2 < 2 ^ 63 ∧ p.1.length * p.2.toNat ≤ sizeLine)).bind fun _ => newL mk (List.replicate p.2.toNat p.1).flatten
theorem paired_rep {α β : Type} {F : α → β → Prop} {l1 : List α} {l2 : List β} (h : Paired F l1 l2) : ∀ k : Nat, Paired F (List.replicate k l1).flatten (List.replicate k l2).flatten
  | 0 => .nil
  | k + 1 => by
    rw [List.replicate_succ, List.replicate_succ, List.flatten_cons, List.flatten_cons]
    exact paired_app h (paired_rep h k)
theorem opd_rep {mk : Bool} : OpD G rRep (opRep mk) := by
  intro c x y u v Q w ru rv h
  obtain ⟨⟨xs, k⟩, e, q⟩ := wpM_look (wpM_bind.mp h)
  obtain ⟨⟨hc1, hc2, hc3⟩, q⟩ := wpM_guard (wpM_bind.mp q)
  cases e1 : seqOf c.W u with
  | none => rw [e1] at e; simp at e
  | some p =>
    obtain ⟨b1, xs1⟩ := p
    rw [e1] at e
    cases b1 with
    | true => simp at e
    | false =>
      cases v with
      | r l => simp at e
      | d z =>
        cases z <;> simp at e
        obtain ⟨rfl, rfl⟩ := e
        obtain ⟨a, vs, rfl, h1, r1⟩ := seqOf_ok w ru e1
        refine ⟨a, _, vs, rfl, rv, h1, hc1, hc2, ?_, newL_ok w (paired_rep r1 _) q⟩
        rw [← paired_len r1]; exact hc3
/-! ### == and !=, is, in -/
def scalD : RV → RV → Option Bool
  | .d (.int i), .d (.int j) => some (decide (i = j))
  | .d (.str i), .d (.str j) => some (decide (i = j))
  | .d (.bl i), .d (.bl j) => some (decide (i = j))
  | _, _ => none
def isScal (u v : RV) : Bool := (scalD u v).isSome
theorem scalD_ok {u v : RV} {b : Bool} {x y : V} (h : scalD u v = some b) (ru : RepRV c u x) (rv : RepRV c v y) : scal x y = true ∧ decide (x = y) = b := by
  cases u with
  | r l => simp [scalD] at h
  | d a =>
    cases v with
    | r l => cases a <;> simp [scalD] at h
    | d d2 =>
      cases a <;> cases d2 <;> simp [scalD] at h <;> cases ru <;> cases rv <;> refine ⟨rfl, ?_⟩ <;> rw [← h] <;> simp
def opEqS (neg : Bool) (u v : RV) : M RV := (M.opt (scalD u v)).bind fun b => M.ret (.d (.bl (b != neg)))
theorem opd_eqS : OpD G rEq (opEqS false) := by
  intro c x y u v Q w ru rv h
  obtain ⟨b, e, q⟩ := wpM_opt (wpM_bind.mp h)
  obtain ⟨h1, h2⟩ := scalD_ok e ru rv
  exact ⟨h1, QV.here (v := .d (.bl (b != false))) q w (by show V.bl _ = V.bl _; rw [h2]; cases b <;> rfl)⟩
theorem opd_neS : OpD G rNe (opEqS true) := by
  intro c x y u v Q w ru rv h
  obtain ⟨b, e, q⟩ := wpM_opt (wpM_bind.mp h)
  obtain ⟨h1, h2⟩ := scalD_ok e ru rv
  exact ⟨h1, QV.here (v := .d (.bl (b != true))) q w (by show V.bl _ = V.bl _; rw [h2]; cases b <;> rfl)⟩
def eqvD (W : Wd) (u v : RV) : Option Bool := (peek W u).bind fun a => (peek W v).bind fun b => (toPy a).bind fun p => (toPy b).bind fun q => if SeqAt.shaped p = true ∧ SeqAt.shaped q = true then some (PyData.eqv p q) else none
theorem eqvD_ok {u v : RV} {b : Bool} {x y : V} (w : WOk c) (h : eqvD c.W u v = some b) (ru : RepRV c u x) (rv : RepRV c v y) : ∃ p q, Dp G.K c.H x p ∧ Dp G.K c.H y q ∧ SeqAt.shaped p = true ∧ SeqAt.shaped q = true ∧ PyData.eqv p q = b := by
  unfold eqvD at h
  simp only [Option.bind_eq_some_iff] at h
  obtain ⟨a, e1, a2, e2, p, e3, q, e4, e5⟩ := h
  split at e5
  · rename_i hs
    exact ⟨p, q, peek_ok w ru e1 e3, peek_ok w rv e2 e4, hs.1, hs.2, by simpa using e5⟩
  · cases e5
def opEqD (neg : Bool) (u v : RV) : M RV := (M.look fun W => eqvD W u v).bind fun b => M.ret (.d (.bl (b != neg)))
theorem opd_eqD : OpD G (rEqD G.K) (opEqD false) := by
  intro c x y u v Q w ru rv h
  obtain ⟨b, e, q⟩ := wpM_look (wpM_bind.mp h)
  obtain ⟨p, p2, d1, d2, s1, s2, e2⟩ := eqvD_ok w e ru rv
  exact ⟨p, p2, d1, d2, s1, s2, QV.here (v := .d (.bl (b != false))) q w (by show V.bl _ = V.bl _; rw [e2]; cases b <;> rfl)⟩
theorem opd_neD : OpD G (rNeD G.K) (opEqD true) := by
  intro c x y u v Q w ru rv h
  obtain ⟨b, e, q⟩ := wpM_look (wpM_bind.mp h)
  obtain ⟨p, p2, d1, d2, s1, s2, e2⟩ := eqvD_ok w e ru rv
  exact ⟨p, p2, d1, d2, s1, s2, QV.here (v := .d (.bl (b != true))) q w (by show V.bl _ = V.bl _; rw [e2]; cases b <;> rfl)⟩
def opEq (neg : Bool) (u v : RV) : M RV := if isScal u v then opEqS neg u v else opEqD neg u v
theorem opd_eq : OpD G (fun x y H Q => rEq x y H Q ∨ rEqD G.K x y H Q) (opEq false) := OpD.or isScal opd_eqS opd_eqD
theorem opd_ne : OpD G (fun x y H Q => rNe x y H Q ∨ rNeD G.K x y H Q) (opEq true) := OpD.or isScal opd_neS opd_neD
/-- is, is not: of two truths, or of None on the right -/
def opIs (neg : Bool) (u v : RV) : M RV := match u, v with
  | .d (.bl a), .d (.bl b) => M.ret (.d (.bl (decide (a = b) != neg)))
  | .d .non, .d .non => M.ret (.d (.bl (!neg)))
  | .r _, .d .non => M.ret (.d (.bl neg))
  | .d _, .d .non => M.ret (.d (.bl neg))
  | _, _ => M.fail
def isBl2 (u v : RV) : Bool := match u, v with | .d (.bl _), .d (.bl _) => true | _, _ => false
theorem opd_is : OpD G (fun x y H Q => rIsB x y H Q ∨ (y = .non ∧ Q (.bl (decide (x = .non))) H)) (opIs false) := by
  intro c x y u v Q w ru rv h
  cases v with
  | r l => cases u with
    | r _ => exact h.elim
    | d a => cases a <;> exact h.elim
  | d b =>
    cases u with
    | r l =>
      cases b <;> try exact h.elim
      obtain ⟨rfl, _⟩ := ru
      exact .inr ⟨rv, QV.here (v := .d (.bl false)) h w (by simp [RepRV, Rep])⟩
    | d a =>
      cases b <;> cases a <;> (try exact h.elim) <;> cases rv
      case d.d.bl.bl.refl b a => cases ru; exact .inl ⟨a, b, rfl, rfl, QV.here (v := .d (.bl (decide (a = b) != false))) h w (by show V.bl _ = V.bl _; cases decide (a = b) <;> rfl)⟩
      case d.d.non.non.refl => cases ru; exact .inr ⟨rfl, QV.here (v := .d (.bl true)) h w (by simp [RepRV, Rep])⟩
      all_goals
        refine .inr ⟨rfl, ?_⟩
        have hx : x ≠ .non := by
          intro z
          subst z
          simp [RepRV, Rep] at ru
        rw [decide_eq_false hx]
        exact QV.here (v := .d (.bl false)) h w rfl
theorem opd_isNot : OpD G (fun x y H Q => rNotB x y H Q ∨ (y = .non ∧ Q (.bl (!decide (x = .non))) H)) (opIs true) := by
  intro c x y u v Q w ru rv h
  cases v with
  | r l => cases u with
    | r _ => exact h.elim
    | d a => cases a <;> exact h.elim
  | d b =>
    cases u with
    | r l =>
      cases b <;> try exact h.elim
      obtain ⟨rfl, _⟩ := ru
      exact .inr ⟨rv, QV.here (v := .d (.bl true)) h w (by simp [RepRV, Rep])⟩
    | d a =>
      cases b <;> cases a <;> (try exact h.elim) <;> cases rv
      case d.d.bl.bl.refl b a => cases ru; exact .inl ⟨a, b, rfl, rfl, QV.here (v := .d (.bl (decide (a = b) != true))) h w (by show V.bl _ = V.bl _; cases decide (a = b) <;> rfl)⟩
      case d.d.non.non.refl => cases ru; exact .inr ⟨rfl, QV.here (v := .d (.bl false)) h w (by simp [RepRV, Rep])⟩
      all_goals
        refine .inr ⟨rfl, ?_⟩
        have hx : x ≠ .non := by
          intro z
          subst z
          simp [RepRV, Rep] at ru
        rw [decide_eq_false hx]
        exact QV.here (v := .d (.bl true)) h w rfl
end
end DL
set_option Elab.async false
set_option linter.all false
set_option maxRecDepth 100000
set_option maxHeartbeats 4000000
/-! DL5: in, subscripts, slices, displays, built-in functions and methods. -/
namespace DL
open PySem PySem.Spec PyProof.Rows L2
section
variable {G : Gh} {c : Cf}
/-! ### in -/
def flD : RV → Option V
  | .d .non => some .non
  | .d (.bl b) => some (.bl b)
  | .d (.int i) => some (.int i)
  | .d (.str s) => some (.str s)
  | _ => none
theorem flD_ok {u : RV} {x v : V} (h : flD u = some v) (r : RepRV c u x) : x = v ∧ flatV v = true := by
  cases u with
  | r l => simp [flD] at h
  | d a => cases a <;> simp [flD] at h <;> cases r <;> subst h <;> exact ⟨rfl, rfl⟩
def flL : List RV → Option (List V)
  | [] => some []
  | u :: r => match flD u, flL r with
    | some a, some b => some (a :: b)
    | _, _ => none
theorem flL_ok : ∀ {us : List RV} {xs vs : List V}, flL us = some vs → RepVs c us xs → xs = vs ∧ vs.all flatV = true
  | [], _, _, h, .nil => by simp [flL] at h; subst h; exact ⟨rfl, rfl⟩
  | u :: us, _, vs, h, .cons (b := x) (l₂ := xs) q t => by
    simp only [flL] at h
    cases e1 : flD u with
    | none => rw [e1] at h; simp at h
    | some a =>
      cases e2 : flL us with
      | none => rw [e1, e2] at h; simp at h
      | some b =>
        rw [e1, e2] at h
        simp at h
        subst h
        obtain ⟨rfl, h1⟩ := flD_ok e1 q
        obtain ⟨rfl, h2⟩ := flL_ok e2 t
        exact ⟨rfl, by simp [h1]; simpa using h2⟩
def opInL (neg : Bool) (u v : RV) : M RV := (M.look fun W => match flD u, seqOf W v with | some a, some (_, ys) => (flL ys).map fun b => inV a b | _, _ => none).bind fun b => M.ret (.d (.bl (b != neg)))
theorem opd_inL {neg : Bool} : OpD G (rIn G.K neg) (opInL neg) := by
  intro c x y u v Q w ru rv h
  obtain ⟨b, e, q⟩ := wpM_look (wpM_bind.mp h)
  cases e1 : flD u with
  | none => rw [e1] at e; simp at e
  | some a =>
    cases e2 : seqOf c.W v with
    | none => rw [e1, e2] at e; simp at e
    | some p =>
      obtain ⟨t, ys⟩ := p
      rw [e1, e2] at e
      simp at e
      obtain ⟨bs, e3, e4⟩ := e
      obtain ⟨rfl, f1⟩ := flD_ok e1 ru
      obtain ⟨p, vs, rfl, h1, r1⟩ := seqOf_ok w rv e2
      obtain ⟨rfl, f2⟩ := flL_ok e3 r1
      refine ⟨p, vs, rfl, ?_, f1, f2, ?_⟩
      · cases t with
        | true => exact .inr (SqT.of h1)
        | false => exact .inl (SqL.of h1)
      · subst e4
        refine QV.here (v := .d (.bl (inV x vs != neg))) q w ?_
        show V.bl _ = V.bl _
        cases neg <;> cases inV x vs <;> rfl
/-- a text in a text -/
def strIn (i j : Str) : Bool := !(Builtin.Str.occurrences j i 0 j.length 1).isEmpty
def opInS (neg : Bool) (u v : RV) : M RV := (M.opt (str2 u v)).bind fun p => M.ret (.d (.bl (strIn p.1 p.2 != neg)))
theorem opd_inS : OpD G (fun x y H Q => ∃ i j, x = .str i ∧ y = .str j ∧ Q (.bl (!(Builtin.Str.occurrences j i 0 j.length 1).isEmpty)) H) (opInS false) := by
  intro c x y u v Q w ru rv h
  obtain ⟨⟨i, j⟩, e, q⟩ := wpM_opt (wpM_bind.mp h)
  obtain ⟨rfl, rfl⟩ := str2_ok e
  exact ⟨i, j, ru, rv, QV.here (v := .d (.bl (strIn i j != false))) q w (by show V.bl _ = V.bl _; unfold strIn; simp)⟩
theorem opd_notInS : OpD G (fun x y H Q => ∃ i j, x = .str i ∧ y = .str j ∧ Q (.bl (!(!(Builtin.Str.occurrences j i 0 j.length 1).isEmpty))) H) (opInS true) := by
  intro c x y u v Q w ru rv h
  obtain ⟨⟨i, j⟩, e, q⟩ := wpM_opt (wpM_bind.mp h)
  obtain ⟨rfl, rfl⟩ := str2_ok e
  exact ⟨i, j, ru, rv, QV.here (v := .d (.bl (strIn i j != true))) q w (by show V.bl _ = V.bl _; unfold strIn; simp)⟩
def opIn (neg : Bool) (u v : RV) : M RV := if isStr2 u v then opInS neg u v else opInL neg u v
/-! ### subscripts -/
def isStrI (u v : RV) : Bool := match u, v with | .d (.str _), .d (.int _) => true | _, _ => false
def opIxS (u v : RV) : M RV := match u, v with
  | .d (.str z), .d (.int i) => (M.guard (z.length ≤ sizeLine)).bind fun _ => (M.opt (atI z.cps.toList i)).bind fun ch => M.ret (.d (.str ⟨#[ch]⟩))
  | _, _ => M.fail
def opIxL (u v : RV) : M RV := match v with
  | .d (.int i) => M.look fun W => (seqOf W u).bind fun p => atI p.2 i
  | _ => M.fail
def opIx (u v : RV) : M RV := if isStrI u v then opIxS u v else opIxL u v
theorem atI_paired {α β : Type} {F : α → β → Prop} {xs : List α} {ys : List β} {i : Int} {x : α} (r : Paired F xs ys) (h : atI xs i = some x) : ∃ y, atI ys i = some y ∧ F x y := by
  unfold atI at h ⊢
  rw [← paired_len r]
  cases e : ixN xs.length i with
  | none => rw [e] at h; simp at h
  | some j =>
    rw [e] at h
    exact paired_get r h
theorem opd_ix : OpD G (fun x y H Q => rIxS x y H Q ∨ rIxL G.K x y H Q ∨ rIxT G.K x y H Q) opIx := by
  refine OpD.or isStrI ?_ ?_
  · intro c x y u v Q w ru rv h
    cases u with
    | r l => exact h.elim
    | d a =>
      cases v with
      | r l => cases a <;> exact h.elim
      | d b =>
        cases a <;> (try exact h.elim) <;> cases b <;> try exact h.elim
        case str.int z i =>
          obtain ⟨hz, h⟩ := wpM_guard (wpM_bind.mp h)
          obtain ⟨ch, e, h⟩ := wpM_opt (wpM_bind.mp h)
          exact ⟨z, i, ch, ru, rv, hz, e, QV.here (v := .d (.str ⟨#[ch]⟩)) h w rfl⟩
  · intro c x y u v Q w ru rv h
    cases v with
    | r l => exact h.elim
    | d b =>
      cases b <;> try exact h.elim
      case int i =>
        obtain ⟨v, e, q⟩ := wpM_look h
        simp only [Option.bind_eq_some_iff] at e
        obtain ⟨⟨t, xs⟩, e1, e2⟩ := e
        obtain ⟨p, vs, rfl, h1, r1⟩ := seqOf_ok w ru e1
        obtain ⟨z, h2, r2⟩ := atI_paired r1 e2
        cases t with
        | true => exact .inr ⟨p, vs, i, z, rfl, rv, SqT.of h1, h2, QV.here q w r2⟩
        | false => exact .inl ⟨p, vs, i, z, rfl, rv, SqL.of h1, h2, QV.here q w r2⟩
/-! ### slices -/
def cutL {α : Type} (xs : List α) (lo hi : Option Int) : List α := (xs.drop (HT.sIx xs.length 0 lo)).take (HT.sIx xs.length xs.length hi - HT.sIx xs.length 0 lo)
theorem cut_paired {α : Type} {F : α → V → Prop} {xs : List α} {ys : List V} {lo hi : Option Int} (r : Paired F xs ys) : Paired F (cutL xs lo hi) (cutV ys lo hi) := by
  unfold cutL cutV
  rw [← paired_len r]
  exact paired_take _ (paired_drop _ r)
def opSl (mk : Bool) (u : RV) (lo hi : Option Int) : M RV := match u with
  | .d (.str z) => (M.guard (z.length ≤ sizeLine)).bind fun _ => M.ret (.d (.str (cutS z lo hi)))
  | u => (M.look fun W => seqOf W u).bind fun p => if p.1 then (M.guard (¬ (HT.sIx p.2.length 0 lo = 0 ∧ HT.sIx p.2.length p.2.length hi = p.2.length))).bind fun _ => newT (cutL p.2 lo hi) else newL mk (cutL p.2 lo hi)
abbrev rSl (K : PySem.W.Frag) : V → Option Int → Option Int → Hp → VK → Prop := fun x lo hi H Q => rSlS x lo hi H Q ∨ rSlL K x lo hi H Q ∨ rSlT K x lo hi H Q
theorem opd_sl {mk : Bool} {c : Cf} {x : V} {u : RV} {lo hi : Option Int} {Q : VK} (w : WOk c) (ru : RepRV c u x) (h : wpM (opSl mk u lo hi) c.W (QV c Q) (QE G c)) : rSl G.K x lo hi c.H Q := by
  have seq : ∀ u x, RepRV c u x → wpM ((M.look fun W => seqOf W u).bind fun p => if p.1 then (M.guard (¬ (HT.sIx p.2.length 0 lo = 0 ∧ HT.sIx p.2.length p.2.length hi = p.2.length))).bind fun _ => newT (cutL p.2 lo hi) else newL mk (cutL p.2 lo hi)) c.W (QV c Q) (QE G c) → rSl G.K x lo hi c.H Q := fun u x ru h => by
    obtain ⟨⟨t, xs⟩, e1, q⟩ := wpM_look (wpM_bind.mp h)
    obtain ⟨p, vs, rfl, h1, r1⟩ := seqOf_ok w ru e1
    cases t with
    | true =>
      obtain ⟨hg, q⟩ := wpM_guard (wpM_bind.mp q)
      refine .inr (.inr ⟨p, vs, rfl, SqT.of h1, ?_, newT_ok w (cut_paired r1) q⟩)
      rw [← paired_len r1]; exact hg
    | false => exact .inr (.inl ⟨p, vs, rfl, SqL.of h1, newL_ok w (cut_paired r1) q⟩)
  cases u with
  | r l => exact seq _ _ ru h
  | d a =>
    cases a
    case str z =>
      obtain ⟨hz, h⟩ := wpM_guard (wpM_bind.mp h)
      exact .inl ⟨z, ru, hz, QV.here (v := .d (.str (cutS z lo hi))) h w rfl⟩
    all_goals exact seq _ _ ru h
end
section
variable {ι : Type} {𝒳 : ι → Cx} {G : Gh} {e a b : Expr} {Fa Fb : Env → M RV} {pos : Pos}
def isTup2 (u v : RV) : Bool := match u with | .d (.tup _) => true | _ => false
def opAdd (mk : Bool) (u v : RV) : M RV := if isInt2 u v then opI0 (fun i j => .int (i + j)) u v else if isStr2 u v then opAddS u v else if isTup2 u v then opCatT u v else opCat mk u v
def opSub : RV → RV → M RV := opI0 fun i j => .int (i - j)
def opMul (mk : Bool) (u v : RV) : M RV := if isInt2 u v then opIC CMulW (fun i j => .int (i * j)) u v else opRep mk u v
def opMod : RV → RV → M RV := opIC (fun _ j => 0 < j) fun i j => .int (i % j)
def opDiv : RV → RV → M RV := opIC CDivG fun i j => .int (i.fdiv j)
def opPow : RV → RV → M RV := opIC CPow fun i j => .int (i ^ j.toNat)
theorem de_add (mk : Bool := false) (hK : ∀ i, (𝒳 i).K = G.K) (ha : DE 𝒳 G a Fa) (hb : DE 𝒳 G b Fb) : DE 𝒳 G (.BinOp a .Add b pos) (ev2 (opAdd mk) Fa Fb) :=
  de_bin (r := fun x y H Q => _ ∨ _ ∨ _ ∨ _) (fun i => op_add.or (op_add_str.or ((by have := op_catT (X := 𝒳 i); rw [hK i] at this; exact this : OpR (𝒳 i) (binaryOp .Add) (rCatT G.K)).or op_cat)))
    (OpD.or isInt2 (opd_I0 fun _ _ _ => rfl) (OpD.or isStr2 opd_addS (OpD.or isTup2 opd_catT opd_cat))) ha hb
theorem de_sub (ha : DE 𝒳 G a Fa) (hb : DE 𝒳 G b Fb) : DE 𝒳 G (.BinOp a .Sub b pos) (ev2 opSub Fa Fb) := de_bin (fun _ => op_sub) (opd_I0 fun _ _ _ => rfl) ha hb
theorem de_mul (mk : Bool := false) (ha : DE 𝒳 G a Fa) (hb : DE 𝒳 G b Fb) : DE 𝒳 G (.BinOp a .Mult b pos) (ev2 (opMul mk) Fa Fb) :=
  de_bin (r := fun x y H Q => _ ∨ _) (fun i => op_mulW.or op_rep) (OpD.or isInt2 (opd_IC fun _ _ _ => rfl) opd_rep) ha hb
theorem de_mod (ha : DE 𝒳 G a Fa) (hb : DE 𝒳 G b Fb) : DE 𝒳 G (.BinOp a .Mod b pos) (ev2 opMod Fa Fb) := de_bin (fun _ => op_mod) (opd_IC fun _ _ _ => rfl) ha hb
theorem de_fdiv (ha : DE 𝒳 G a Fa) (hb : DE 𝒳 G b Fb) : DE 𝒳 G (.BinOp a .FloorDiv b pos) (ev2 opDiv Fa Fb) := de_bin (fun _ => op_fdivG) (opd_IC fun _ _ _ => rfl) ha hb
theorem de_pow (ha : DE 𝒳 G a Fa) (hb : DE 𝒳 G b Fb) : DE 𝒳 G (.BinOp a .Pow b pos) (ev2 opPow Fa Fb) := de_bin (fun _ => op_pow) (opd_IC fun _ _ _ => rfl) ha hb
def opLt := opI0 fun i j => D.bl (decide (i < j))
def opLe := opI0 fun i j => D.bl (decide (i ≤ j))
def opGt := opI0 fun i j => D.bl (decide (j < i))
def opGe := opI0 fun i j => D.bl (decide (j ≤ i))
theorem opd_lt : OpD G (rI0 fun i j => .bl (decide (i < j))) opLt := opd_I0 fun _ _ _ => rfl
theorem opd_le : OpD G (rI0 fun i j => .bl (decide (i ≤ j))) opLe := opd_I0 fun _ _ _ => rfl
theorem opd_gt : OpD G (rI0 fun i j => .bl (decide (j < i))) opGt := opd_I0 fun _ _ _ => rfl
theorem opd_ge : OpD G (rI0 fun i j => .bl (decide (j ≤ i))) opGe := opd_I0 fun _ _ _ => rfl
theorem or_eq (hK : ∀ i, (𝒳 i).K = G.K) {k : Nat} (hr : ∀ i, Room k (𝒳 i).A) (i : ι) : OpR (𝒳 i) (compareOp .Eq) (fun x y H Q => rEq x y H Q ∨ rEqD G.K x y H Q) := by
  have := op_eqD (X := 𝒳 i) (hr i).units
  rw [hK i] at this
  exact op_eq.or this
theorem or_ne (hK : ∀ i, (𝒳 i).K = G.K) {k : Nat} (hr : ∀ i, Room k (𝒳 i).A) (i : ι) : OpR (𝒳 i) (compareOp .NotEq) (fun x y H Q => rNe x y H Q ∨ rNeD G.K x y H Q) := by
  have := op_neD (X := 𝒳 i) (hr i).units
  rw [hK i] at this
  exact op_ne.or this
theorem or_is (i : ι) : OpR (𝒳 i) (compareOp .Is) (fun x y H Q => rIsB x y H Q ∨ (y = .non ∧ Q (.bl (decide (x = .non))) H)) := op_isBl.or op_isN
theorem or_isNot (i : ι) : OpR (𝒳 i) (compareOp .IsNot) (fun x y H Q => rNotB x y H Q ∨ (y = .non ∧ Q (.bl (!decide (x = .non))) H)) := op_notBl.or op_notN
theorem or_in (hK : ∀ i, (𝒳 i).K = G.K) (i : ι) : OpR (𝒳 i) (compareOp .In) (fun x y H Q => (∃ i j, x = .str i ∧ y = .str j ∧ Q (.bl (!(Builtin.Str.occurrences j i 0 j.length 1).isEmpty)) H) ∨ rIn G.K false x y H Q) := by
  have := op_in_seq (X := 𝒳 i)
  rw [hK i] at this
  exact op_in_str.or this
theorem or_notIn (hK : ∀ i, (𝒳 i).K = G.K) (i : ι) : OpR (𝒳 i) (compareOp .NotIn) (fun x y H Q => (∃ i j, x = .str i ∧ y = .str j ∧ Q (.bl (!(!(Builtin.Str.occurrences j i 0 j.length 1).isEmpty))) H) ∨ rIn G.K true x y H Q) := by
  have := op_notIn_seq (X := 𝒳 i)
  rw [hK i] at this
  exact op_notIn_str.or this
theorem opd_in : OpD G (fun x y H Q => (∃ i j, x = .str i ∧ y = .str j ∧ Q (.bl (!(Builtin.Str.occurrences j i 0 j.length 1).isEmpty)) H) ∨ rIn G.K false x y H Q) (opIn false) := OpD.or isStr2 opd_inS opd_inL
theorem opd_notIn : OpD G (fun x y H Q => (∃ i j, x = .str i ∧ y = .str j ∧ Q (.bl (!(!(Builtin.Str.occurrences j i 0 j.length 1).isEmpty))) H) ∨ rIn G.K true x y H Q) (opIn true) := OpD.or isStr2 opd_notInS opd_inL
/-- a < b < c of ints -/
def evChain (f g : Int → Int → Bool) (Fa Fb Fc : Env → M RV) (δ : Env) : M RV := (Fa δ).bind fun u => (Fb δ).bind fun v => (M.opt (int2 u v)).bind fun p => if f p.1 p.2 then (Fc δ).bind fun z => (M.opt (int2 v z)).bind fun q => M.ret (.d (.bl (g q.1 q.2))) else M.ret (.d (.bl false))
theorem rd_chain {ta tb tc : TE} {Fc : Env → M RV} {f g : Int → Int → Bool} (ra : RdE G ta Fa) (rb : RdE G tb Fb) (rc : RdE G tc Fc) : RdE G (tChain (rI0 fun i j => .bl (f i j)) (rI0 fun i j => .bl (g i j)) ta tb tc) (evChain f g Fa Fb Fc) := by
  intro c σ δ Q s w h
  refine ra c σ δ _ s w (wpM_mono (wpM_bind.mp h) (fun u W1 h1 x1 c1 hw e1 w1 r1 => ?_) fun _ _ q => q)
  subst hw
  refine rb c1 σ δ _ (s.mono e1) w1 (wpM_mono (wpM_bind.mp h1) (fun v W2 h2 x2 c2 hw e2 w2 r2 => ?_) fun _ _ q => q.mono e1)
  subst hw
  obtain ⟨⟨i, j⟩, e, q⟩ := wpM_opt (wpM_bind.mp h2)
  obtain ⟨rfl, rfl⟩ := int2_ok e
  refine ⟨i, j, r1.mono e2, r2, f i j, rfl, ?_⟩
  dsimp only at q
  cases hf : f i j with
  | false =>
    rw [hf] at q
    exact QV.here (v := .d (.bl false)) ((QV.mono e1 q).mono e2) w2 rfl
  | true =>
    rw [hf] at q
    refine rc c2 σ δ _ ((s.mono e1).mono e2) w2 (wpM_mono (wpM_bind.mp q) (fun z W3 h3 x3 c3 hw e3 w3 r3 => ?_) fun _ _ q => (q.mono e1).mono e2)
    subst hw
    obtain ⟨⟨i2, j2⟩, e4, q4⟩ := wpM_opt (wpM_bind.mp h3)
    obtain ⟨h5, rfl⟩ := int2_ok e4
    injection h5 with h5
    injection h5 with h5
    subst h5
    exact ⟨j, j2, r2.mono e3, r3, QV.here (v := .d (.bl (g j j2))) (((QV.mono e1 q4).mono e2).mono e3) w3 rfl⟩
end
end DL
set_option Elab.async false
set_option linter.all false
set_option maxRecDepth 100000
set_option maxHeartbeats 4000000
/-! DL6: displays, subscripts, slices, built-in functions, methods. -/
namespace DL
open PySem PySem.Spec PyProof.Rows L2
section
variable {ι : Type} {𝒳 : ι → Cx} {G : Gh} {e a b cc : Expr} {Fa Fb Fc : Env → M RV} {pos : Pos} {es : List Expr} {R : Env → M (List RV)}
theorem de_chain {op op' : CmpOp} {f g : Int → Int → Bool} (hp : ∀ i, OpR (𝒳 i) (compareOp op) (rI0 fun i j => .bl (f i j))) (hq : ∀ i, OpR (𝒳 i) (compareOp op') (rI0 fun i j => .bl (g i j))) (ha : DE 𝒳 G a Fa) (hb : DE 𝒳 G b Fb) (hc : DE 𝒳 G cc Fc)
    (hm : lastMarks [op, op'] [b, cc] = false := by with_unfolding_all rfl) : DE 𝒳 G (.Compare a [op, op'] [b, cc] pos) (evChain f g Fa Fb Fc) := by
  obtain ⟨ta, pa, ra⟩ := ha
  obtain ⟨tb, pb, rb⟩ := hb
  obtain ⟨tc, pc, rc⟩ := hc
  exact ⟨_, fun i => pe_chain (hp i) (hq i) (pa i) (pb i) (pc i) hm, rd_chain ra rb rc⟩
theorem dt_chain {op op' : CmpOp} {f g : Int → Int → Bool} (hp : ∀ i, OpR (𝒳 i) (compareOp op) (rI0 fun i j => .bl (f i j))) (hq : ∀ i, OpR (𝒳 i) (compareOp op') (rI0 fun i j => .bl (g i j))) (ha : DE 𝒳 G a Fa) (hb : DE 𝒳 G b Fb) (hc : DE 𝒳 G cc Fc)
    (hm : lastMarks [op, op'] [b, cc] = false := by with_unfolding_all rfl) : DT 𝒳 G (.Compare a [op, op'] [b, cc] pos) (evB (evChain f g Fa Fb Fc)) := by
  obtain ⟨ta, pa, ra⟩ := ha
  obtain ⟨tb, pb, rb⟩ := hb
  obtain ⟨tc, pc, rc⟩ := hc
  exact ⟨_, fun i => pt_chain (hp i) (hq i) (pa i) (pb i) (pc i) hm, (rd_chain ra rb rc).test⟩
/-! ### displays -/
def evLst (mk : Bool) (R : Env → M (List RV)) (δ : Env) : M RV := (R δ).bind fun vs => (M.guard (vs.length ≤ sizeLine)).bind fun _ => newL mk vs
def evTup (R : Env → M (List RV)) (δ : Env) : M RV := (R δ).bind fun vs => (M.guard (vs.length ≤ sizeLine)).bind fun _ => newT vs
theorem de_lst (mk : Bool := false) (h : DA 𝒳 G es R) : DE 𝒳 G (.List es pos) (evLst mk R) := by
  obtain ⟨t, p, r⟩ := h
  refine ⟨_, fun i => pe_lst (p i), fun c σ δ Q s w hq => ?_⟩
  refine r c σ δ _ s w (wpM_mono (wpM_bind.mp hq) (fun vs W1 h1 xs c1 hw e1 w1 r1 => ?_) fun _ _ q => q)
  subst hw
  obtain ⟨hz, q⟩ := wpM_guard (wpM_bind.mp h1)
  exact ⟨by rw [← paired_len r1]; exact hz, newL_ok (E := QE G c1) w1 r1 (wpM_mono q (fun _ _ q => q.mono e1) fun _ _ q => q.mono e1)⟩
theorem de_tup {x1} (h : DA 𝒳 G es R) : DE 𝒳 G (.Tuple es x1 pos) (evTup R) := by
  obtain ⟨t, p, r⟩ := h
  refine ⟨_, fun i => pe_tup (p i), fun c σ δ Q s w hq => ?_⟩
  refine r c σ δ _ s w (wpM_mono (wpM_bind.mp hq) (fun vs W1 h1 xs c1 hw e1 w1 r1 => ?_) fun _ _ q => q)
  subst hw
  obtain ⟨hz, q⟩ := wpM_guard (wpM_bind.mp h1)
  exact ⟨by rw [← paired_len r1]; exact hz, newT_ok (E := QE G c1) w1 r1 (wpM_mono q (fun _ _ q => q.mono e1) fun _ _ q => q.mono e1)⟩
/-! ### subscripts, slices -/
theorem de_ix (hK : ∀ i, (𝒳 i).K = G.K) (ha : DE 𝒳 G a Fa) (hb : DE 𝒳 G b Fb) (hs : PlainIx b) : DE 𝒳 G (.Subscript a b pos) (ev2 opIx Fa Fb) := by
  obtain ⟨ta, pa, ra⟩ := ha
  obtain ⟨tb, pb, rb⟩ := hb
  refine ⟨tOp (fun x y H Q => rIxS x y H Q ∨ rIxL G.K x y H Q ∨ rIxT G.K x y H Q) ta tb, fun i => ?_, ra.two rb opd_ix⟩
  have := pe_ix (pos := pos) (ix_str.or (ix_list.or ix_tup)) (pa i) (pb i) hs
  rw [hK i] at this
  exact this
def RdO (G : Gh) (t : TO) (F : Env → M (Option Int)) : Prop := ∀ (c : Cf) (σ : L2.St) (δ : Env) (Q : Option Int → Hp → Prop), SOk σ δ c → WOk c → wpM (F δ) c.W (fun o W' => ∀ c', c'.W = W' → Ext c c' → WOk c' → Q o c'.H) (QE G c) → t σ c.H Q
def DO (𝒳 : ι → Cx) (G : Gh) (e : Option Expr) (F : Env → M (Option Int)) : Prop := ∃ t, (∀ i, PO (𝒳 i) e t) ∧ RdO G t F
theorem do_none : DO 𝒳 G none (fun _ => M.ret none) := ⟨_, fun _ => po_none, fun c σ δ Q s w h => h c rfl (Ext.refl c) w⟩
def asI : RV → M Int
  | .d (.int i) => M.ret i
  | _ => M.fail
theorem asI_ok {v : RV} {W : Wd} {Q : Int → Wd → Prop} {E : DX → Wd → Prop} (h : wpM (asI v) W Q E) : ∃ b, v = .d (.int b) ∧ Q b W := by
  cases v with
  | r l => exact h.elim
  | d x => cases x <;> first | exact ⟨_, rfl, h⟩ | exact h.elim
theorem do_some (h : DE 𝒳 G e Fa) : DO 𝒳 G (some e) (fun δ => (Fa δ).bind fun u => (asI u).bind fun i => M.ret (some i)) := by
  obtain ⟨t, p, r⟩ := h
  refine ⟨_, fun i => po_some (p i), fun c σ δ Q s w hq => ?_⟩
  refine r c σ δ _ s w (wpM_mono (wpM_bind.mp hq) (fun u W1 h1 x1 c1 hw e1 w1 r1 => ?_) fun _ _ q => q)
  obtain ⟨i, rfl, q⟩ := asI_ok (wpM_bind.mp h1)
  exact ⟨i, r1, q c1 hw e1 w1⟩
def evSl (mk : Bool) (Fa : Env → M RV) (L H : Env → M (Option Int)) (δ : Env) : M RV := (Fa δ).bind fun u => (L δ).bind fun lo => (H δ).bind fun hi => opSl mk u lo hi
theorem de_sl (mk : Bool := false) {lo hi : Option Expr} {L H : Env → M (Option Int)} {p2 : Pos} (hK : ∀ i, (𝒳 i).K = G.K) (ha : DE 𝒳 G a Fa) (hl : DO 𝒳 G lo L) (hh : DO 𝒳 G hi H) : DE 𝒳 G (.Subscript a (.Slice lo hi none p2) pos) (evSl mk Fa L H) := by
  obtain ⟨ta, pa, ra⟩ := ha
  obtain ⟨tl, pl, rl⟩ := hl
  obtain ⟨th, ph, rh⟩ := hh
  refine ⟨tSl (rSl G.K) ta tl th, fun i => ?_, fun c σ δ Q s w hq => ?_⟩
  · have := pe_slice (pos := pos) (p2 := p2) (sl_str.or (sl_list.or sl_tup)) (pa i) (pl i) (ph i)
    rw [hK i] at this
    exact this
  refine ra c σ δ _ s w (wpM_mono (wpM_bind.mp hq) (fun u W1 h1 x1 c1 hw e1 w1 r1 => ?_) fun _ _ q => q)
  subst hw
  refine rl c1 σ δ _ (s.mono e1) w1 (wpM_mono (wpM_bind.mp h1) (fun lo W2 h2 c2 hw e2 w2 => ?_) fun _ _ q => q.mono e1)
  subst hw
  refine rh c2 σ δ _ ((s.mono e1).mono e2) w2 (wpM_mono (wpM_bind.mp h2) (fun hi W3 h3 c3 hw e3 w3 => ?_) fun _ _ q => (q.mono e1).mono e2)
  subst hw
  exact opd_sl (mk := mk) w3 ((r1.mono e2).mono e3) (wpM_mono h3 (fun _ _ q => ((q.mono e1).mono e2).mono e3) fun _ _ q => ((q.mono e1).mono e2).mono e3)
/-! ### built-in functions -/
def CallD (G : Gh) (r : List V → Hp → VK → Prop) (f : List RV → M RV) : Prop := ∀ (c : Cf) (xs : List V) (us : List RV) (Q : VK), WOk c → RepVs c us xs → wpM (f us) c.W (QV c Q) (QE G c) → r xs c.H Q
def evCall (f : List RV → M RV) (R : Env → M (List RV)) (δ : Env) : M RV := (R δ).bind f
theorem RdA.call {ta : TA} {r : List V → Hp → VK → Prop} {f : List RV → M RV} (ha : RdA G ta R) (hr : CallD G r f) : RdE G (tCB r ta) (evCall f R) := by
  intro c σ δ Q s w h
  refine ha c σ δ _ s w (wpM_mono (wpM_bind.mp h) (fun us W1 h1 xs c1 hw e1 w1 r1 => ?_) fun _ _ q => q)
  subst hw
  exact hr c1 xs us Q w1 r1 (wpM_mono h1 (fun _ _ q => q.mono e1) fun _ _ q => q.mono e1)
theorem CallD.or {r r' : List V → Hp → VK → Prop} {f f' : List RV → M RV} (t : List RV → Bool) (h : CallD G r f) (h' : CallD G r' f') : CallD G (fun xs H Q => r xs H Q ∨ r' xs H Q) (fun us => if t us then f us else f' us) := by
  intro c xs us Q w ru hq
  dsimp only at hq
  cases e : t us with
  | true => rw [e] at hq; exact .inl (h c xs us Q w ru hq)
  | false => rw [e] at hq; exact .inr (h' c xs us Q w ru hq)
theorem de_callB {x : Str} {id : String} {r : List V → Hp → VK → Prop} {f : List RV → M RV} {p : Pos} (hc : ∀ i, CallR (𝒳 i) (.builtin id) r) (hr : CallD G r f) (hm : ∀ i, (𝒳 i).mg x = none) (ha : DA 𝒳 G (e :: es) R) (hg : ∀ i, Gl (𝒳 i) x := by intro _; rfl) (hv : bootBuiltins x = some (.builtin id) := by decide +kernel)
    (hn : x ≠ "__name__" := by decide) (hdb : (x == ("__debug__" : Str)) = false := by decide) (he : ∀ i, starEach (e :: es) (𝒳 i).env = (false, eval e (𝒳 i).env) :: starEach es (𝒳 i).env := by intro _; rfl) (hpl : ∀ i, (backTo pos (starEach es (𝒳 i).env)).any (·.1) = false := by intro _; rfl) :
    DE 𝒳 G (.Call (.Name x p) (e :: es) [] pos) (evCall f R) := by
  obtain ⟨t, pt, rt⟩ := ha
  exact ⟨_, fun i => pe_callB (hc i) (hg i) (hm i) hv (pt i) hn hdb (he i) (hpl i), rt.call hr⟩
theorem de_callTy {x : Str} {T : String} {r : List V → Hp → VK → Prop} {f : List RV → M RV} {p : Pos} (hc : ∀ i, CallR (𝒳 i) (.type T) r) (hr : CallD G r f) (hm : ∀ i, (𝒳 i).mg x = none) (ha : DA 𝒳 G (e :: es) R) (hg : ∀ i, Gl (𝒳 i) x := by intro _; rfl) (hv : bootBuiltins x = some (.type T) := by decide +kernel)
    (hn : x ≠ "__name__" := by decide) (hdb : (x == ("__debug__" : Str)) = false := by decide) (he : ∀ i, starEach (e :: es) (𝒳 i).env = (false, eval e (𝒳 i).env) :: starEach es (𝒳 i).env := by intro _; rfl) (hpl : ∀ i, (backTo pos (starEach es (𝒳 i).env)).any (·.1) = false := by intro _; rfl) :
    DE 𝒳 G (.Call (.Name x p) (e :: es) [] pos) (evCall f R) := by
  obtain ⟨t, pt, rt⟩ := ha
  exact ⟨_, fun i => pe_callTy (hc i) (hg i) (hm i) hv (pt i) hn hdb (he i) (hpl i), rt.call hr⟩
/-- a built-in type as a value -/
theorem de_ty (t : Ty) {x : Str} {pos : Pos} (hm : ∀ i, (𝒳 i).mg x = none) (hg : ∀ i, Gl (𝒳 i) x := by intro _; rfl) (hv : bootBuiltins x = some (.type t.nm) := by decide +kernel) (hn : x ≠ "__name__" := by decide) (hdb : (x == ("__debug__" : Str)) = false := by decide) :
    DE 𝒳 G (.Name x pos) (fun _ => M.ret (.d (.ty t))) :=
  ⟨_, fun i => pe_bltn (v := .ty t.nm) (hg i) (hm i) hv rfl hn hdb, fun c σ δ Q s w h => QV.here (v := .d (.ty t)) h w rfl⟩
end
section
variable {G : Gh} {c : Cf}
theorem vs1 {u : RV} {xs : List V} (r : RepVs c [u] xs) : ∃ x, xs = [x] ∧ RepRV c u x := by cases r with | cons h t => cases t; exact ⟨_, rfl, h⟩
theorem vs2 {u v : RV} {xs : List V} (r : RepVs c [u, v] xs) : ∃ x y, xs = [x, y] ∧ RepRV c u x ∧ RepRV c v y := by cases r with | cons h t => cases t with | cons h2 t => cases t; exact ⟨_, _, rfl, h, h2⟩
/-- len -/
def bLen : List RV → M RV
  | [.d (.str s)] => (M.guard (s.length ≤ sizeLine)).bind fun _ => M.ret (.d (.int s.length))
  | [.d (.dK kvs)] => M.ret (.d (.int kvs.length))
  | [u] => (M.look fun W => seqOf W u).bind fun p => M.ret (.d (.int p.2.length))
  | _ => M.fail
theorem repK_len : ∀ {ds : List (Key × D)} {vs : List (Key × V)}, RepK c ds vs → ds.length = vs.length
  | [], _, h => by cases h; rfl
  | (_, _) :: _, _, h => by
    obtain ⟨v, r, rfl, _, h2⟩ := h
    rw [List.length_cons, List.length_cons, repK_len h2]
theorem call_bLen {X : Cx} (hK : X.K = G.K) : CallR X (.builtin "len") (fun xs H Q => (∃ x n, xs = [x] ∧ LenV G.K x H n ∧ Q (.int n) H) ∨ ∃ a kvs, xs = [V.ref a] ∧ H a = some (.dK kvs) ∧ Q (.int kvs.length) H) := by
  have := call_len (X := X)
  rw [hK] at this
  exact this.or call_lenD
theorem cd_len : CallD G (fun xs H Q => (∃ x n, xs = [x] ∧ LenV G.K x H n ∧ Q (.int n) H) ∨ ∃ a kvs, xs = [V.ref a] ∧ H a = some (.dK kvs) ∧ Q (.int kvs.length) H) bLen := by
  intro c xs us Q w ru h
  have seq : ∀ u, RepVs c [u] xs → wpM ((M.look fun W => seqOf W u).bind fun p => M.ret (.d (.int p.2.length))) c.W (QV c Q) (QE G c) → (∃ x n, xs = [x] ∧ LenV G.K x c.H n ∧ Q (.int n) c.H) := fun u ru h => by
    obtain ⟨x, rfl, r⟩ := vs1 ru
    obtain ⟨⟨t, ys⟩, e, q⟩ := wpM_look (wpM_bind.mp h)
    obtain ⟨a, vs, rfl, h1, r1⟩ := seqOf_ok w r e
    refine ⟨_, vs.length, rfl, ?_, ?_⟩
    · cases t with
      | true => exact .inr ⟨vs, SqT.of h1, rfl⟩
      | false => exact .inl ⟨vs, SqL.of h1, rfl⟩
    · rw [← paired_len r1]
      exact QV.here (v := .d (.int ys.length)) q w rfl
  cases us with
  | nil => exact h.elim
  | cons u us =>
    cases us with
    | cons _ _ => cases u with
      | r _ => exact h.elim
      | d y => cases y <;> exact h.elim
    | nil =>
      cases u with
      | r l => exact .inl (seq _ ru h)
      | d y =>
        cases y
        case str s =>
          obtain ⟨x, rfl, r⟩ := vs1 ru
          cases r
          obtain ⟨hz, q⟩ := wpM_guard (wpM_bind.mp h)
          exact .inl ⟨_, s.length, rfl, ⟨hz, rfl⟩, QV.here (v := .d (.int s.length)) q w rfl⟩
        case dK kvs =>
          obtain ⟨x, rfl, r⟩ := vs1 ru
          obtain ⟨a, ws, rfl, h1, _, h2⟩ := r
          refine .inr ⟨a, ws, rfl, h1, ?_⟩
          rw [← repK_len h2]
          exact QV.here (v := .d (.int kvs.length)) h w rfl
        all_goals exact .inl (seq _ ru h)
/-- the kind of a value -/
def tyOf (W : Wd) : RV → Option Ty
  | .d .non => some .non
  | .d (.bl _) => some .bl
  | .d (.int _) => some .int
  | .d (.str _) => some .str
  | .d (.lst _) => some .lst
  | .d (.tup _) => some .tup
  | .d (.dK _) => some .dct
  | .d (.dT _) => some .dct
  | .d _ => none
  | .r l => match W[l]? with
    | some (.lst _) => some .lst
    | some (.dK _) => some .dct
    | some (.dT _) => some .dct
    | some (.fz (.lst _)) => some .lst
    | some (.fz (.tup _)) => some .tup
    | _ => none
theorem tyOf_ok {u : RV} {x : V} {t : Ty} (w : WOk c) (r : RepRV c u x) (h : tyOf c.W u = some t) : TyX G.K c.H x (.type t.nm) := by
  have seq : ∀ b xs, seqOf c.W u = some (b, xs) → TyX G.K c.H x (.type (if b then Ty.tup.nm else Ty.lst.nm)) := fun b xs e => by
    obtain ⟨a, vs, rfl, h1, _⟩ := seqOf_ok w r e
    cases b with
    | true => exact .base (.tup h1)
    | false => exact .base (.lst h1)
  cases u with
  | d y =>
    cases y <;> simp [tyOf] at h <;> subst h
    case non => cases r; exact .base .non
    case bl => cases r; exact .base (.bl _)
    case int => cases r; exact .base (.int _)
    case str => cases r; exact .base (.str _)
    case lst => exact seq false _ rfl
    case tup => exact seq true _ rfl
    case dK => obtain ⟨a, ws, rfl, h1, _⟩ := r; exact .base (.dK h1)
    case dT => obtain ⟨a, ws, rfl, h1, _⟩ := r; exact .base (.dT h1)
  | r l =>
    simp only [tyOf] at h
    cases e : c.W[l]? with
    | none => rw [e] at h; simp at h
    | some o =>
      rw [e] at h
      have ob := w.obj l o e
      cases o with
      | lst xs => simp at h; subst h; exact seq false xs (by simp only [seqOf, e])
      | dK xs => simp at h; subst h; obtain ⟨ws, h1, _⟩ := ob; obtain ⟨rfl, _⟩ := r; exact .base (.dK h1)
      | dT xs => simp at h; subst h; obtain ⟨ws, h1, _⟩ := ob; obtain ⟨rfl, _⟩ := r; exact .base (.dT h1)
      | ins C xs => simp at h
      | fz y =>
        cases y <;> simp at h <;> subst h
        case lst ys => exact seq false (ys.map RV.d) (by simp only [seqOf, e])
        case tup ys => exact seq true (ys.map RV.d) (by simp only [seqOf, e])
def Ty.sub (a b : Ty) : Bool := a == b || (a == .bl && b == .int)
theorem ty_sub {K : PySem.W.Frag} (a b : Ty) (h : b ≠ .non) : PySem.W.kitOne K (.type a.nm) (.type b.nm) = some (a.sub b) := by
  cases a <;> cases b <;> first | exact absurd rfl h | exact kit_ty (by decide +kernel)
def tysOf : D → Option (List Ty)
  | .ty t => if t = .non then none else some [t]
  | .tup xs => go xs
  | _ => none
where go : List D → Option (List Ty)
  | [] => some []
  | .ty t :: r => if t = .non then none else (go r).map (t :: ·)
  | _ => none
theorem tysGo_ok : ∀ {xs : List D} {ts : List Ty} {vs : List V}, tysOf.go xs = some ts → RepL c xs vs → vs = ts.map (fun t => V.ty t.nm) ∧ ∀ t ∈ ts, t ≠ .non
  | [], _, _, h, r => by simp [tysOf.go] at h; subst h; cases r; exact ⟨rfl, fun _ h => nomatch h⟩
  | x :: xs, ts, _, h, r => by
    obtain ⟨v, r', rfl, h1, h2⟩ := r
    cases x <;> simp [tysOf.go] at h
    case ty t =>
      obtain ⟨hn, ts', e, rfl⟩ := h
      obtain ⟨rfl, h3⟩ := tysGo_ok e h2
      cases h1
      exact ⟨rfl, fun z hz => by rcases List.mem_cons.mp hz with rfl | hz; exact hn; exact h3 z hz⟩
theorem clsAll : ∀ ts : List Ty, Paired ClsV (ts.map fun t => V.ty t.nm) (ts.map fun t => Value.type t.nm)
  | [] => .nil
  | t :: ts => .cons (.ty _) (clsAll ts)
theorem kitAll {K : PySem.W.Frag} (a : Ty) : ∀ ts : List Ty, (∀ t ∈ ts, t ≠ .non) → PySem.W.kitAny K (.type a.nm) (ts.map fun t => Value.type t.nm) = some (ts.any a.sub)
  | [], _ => rfl
  | t :: ts, h => by
    have h1 := ty_sub (K := K) a t (h t (List.mem_cons_self))
    refine kitAny_cons (b := a.sub t) h1 (fun e => ?_) (fun e => ?_)
    · rw [List.any_cons, e, Bool.false_or]; exact kitAll a ts fun z hz => h z (List.mem_cons_of_mem _ hz)
    · rw [List.any_cons, e, Bool.true_or]
def bIsi : List RV → M RV
  | [u, .d y] => (M.opt (tysOf y)).bind fun ts => (M.look fun W => tyOf W u).bind fun t => M.ret (.d (.bl (ts.any t.sub)))
  | _ => M.fail
theorem cd_isi : CallD G (fun xs H Q => rIsi G.K xs H Q ∨ rIsiT G.K xs H Q) bIsi := by
  intro c xs us Q w ru h
  match us, ru, h with
  | [u, .d y], ru, h =>
    obtain ⟨x, z, rfl, r1, r2⟩ := vs2 ru
    obtain ⟨ts, e, q⟩ := wpM_opt (wpM_bind.mp h)
    obtain ⟨t, e2, q⟩ := wpM_look (wpM_bind.mp q)
    have tx := tyOf_ok (G := G) w r1 e2
    cases y <;> simp [tysOf] at e
    case ty b =>
      obtain ⟨hn, rfl⟩ := e
      cases r2
      refine .inl ⟨x, _, _, _, t.sub b, rfl, .ty _, tx, ?_, ?_⟩
      · exact ty_sub t b hn
      · have := QV.here (v := .d (.bl ([b].any t.sub))) q w rfl
        simpa using this
    case tup ys =>
      obtain ⟨a, vs, rfl, h1, _, h2⟩ := r2
      obtain ⟨rfl, hn⟩ := tysGo_ok e h2
      exact .inr ⟨x, a, _, _, _, _, rfl, h1, clsAll ts, tx, kitAll t ts hn, QV.here (v := .d (.bl (ts.any t.sub))) q w rfl⟩
  | [], _, h => exact h.elim
  | [_], _, h => exact h.elim
  | [_, .r _], _, h => exact h.elim
  | _ :: .d _ :: _ :: _, _, h => exact h.elim
  | _ :: .r _ :: _ :: _, _, h => exact h.elim
end
end DL
set_option Elab.async false
set_option linter.all false
set_option maxRecDepth 100000
set_option maxHeartbeats 4000000
/-! DL7: more built-in functions, methods. -/
namespace DL
open PySem PySem.Spec PyProof.Rows L2
/-- list(a text) -/
theorem call_listS {X : Cx} (hc : X.calm = true) : CallR X (.type "list") (fun xs H Q => ∃ z : Str, xs = [.str z] ∧ z.cps.size ≤ sizeLine ∧ ∀ p, H p = none → Q (.ref p) (upd H p (.lst (z.cps.toList.map fun ch => V.str ⟨#[ch]⟩)))) := by
  intro pins s σ H xs us Q I r h
  obtain ⟨z, rfl, hz, q⟩ := h
  obtain ⟨u, rfl, t, rfl⟩ := vals1 r
  refine call_list_str (I.ok.hd hc) z t (fun h' tk acc' c' hk hS hacc => ?_) hz
  refine ⟨.ref s.heap.objs.size, upd H s.heap.objs.size (.lst (z.cps.toList.map fun ch => V.str ⟨#[ch]⟩)), I.laid hk (Nat.le_refl _) (show ObjOk X.prog X.w _ _ _ (.lst (z.cps.toList.map fun ch => V.str ⟨#[ch]⟩)) from ⟨?_, acc'.toList, c', ?_, ?_⟩), rfl, q _ (I.hok.fresh (Nat.le_refl _))⟩
  · rw [List.length_map, Array.length_toList]; exact hz
  · refine vals_of_at (by rw [List.length_map, Array.length_toList, Array.length_toList, hacc.1]) fun j x w h1 h2 => ?_
    obtain ⟨ch, u, hc1, rfl⟩ := hacc.2 j w (by rw [← Array.getElem?_toList]; exact h2)
    rw [List.getElem?_map, Array.getElem?_toList, hc1] at h1
    cases h1
    exact ⟨u, rfl⟩
  · rw [Array.toArray_toList]; exact hS
section
variable {G : Gh} {c : Cf}
def charsOf (z : Str) : List D := z.cps.toList.map fun ch => D.str ⟨#[ch]⟩
theorem chars_rep (z : List Nat) : RepVs c ((z.map fun ch => D.str ⟨#[ch]⟩).map RV.d) (z.map fun ch => V.str ⟨#[ch]⟩) := by
  induction z with
  | nil => exact .nil
  | cons a r ih => exact .cons rfl ih
def bList (mk : Bool) : List RV → M RV
  | [.d (.str z)] => (M.guard (z.cps.size ≤ sizeLine)).bind fun _ => newL mk ((charsOf z).map .d)
  | [.d (.frz xs)] => newL mk (xs.map .d)
  | [u] => (M.look fun W => seqOf W u).bind fun p => newL mk p.2
  | _ => M.fail
abbrev rList (K : PySem.W.Frag) : List V → Hp → VK → Prop := fun xs H Q => (∃ z : Str, xs = [.str z] ∧ z.cps.size ≤ sizeLine ∧ ∀ p, H p = none → Q (.ref p) (upd H p (.lst (z.cps.toList.map fun ch => V.str ⟨#[ch]⟩)))) ∨
  ∃ p ys, xs = [.ref p] ∧ (SqL K H p ys ∨ SqT K H p ys) ∧ ∀ l, H l = none → Q (.ref l) (upd H l (.lst ys))
theorem call_bList {X : Cx} (hc : X.calm = true) (hK : X.K = G.K) : CallR X (.type "list") (rList G.K) := by
  have := call_list_of (X := X)
  rw [hK] at this
  exact (call_listS hc).or this
theorem cd_list {mk : Bool} : CallD G (rList G.K) (bList mk) := by
  intro c xs us Q w ru h
  have seq : ∀ u, RepVs c [u] xs → wpM ((M.look fun W => seqOf W u).bind fun p => newL mk p.2) c.W (QV c Q) (QE G c) → (∃ p ys, xs = [.ref p] ∧ (SqL G.K c.H p ys ∨ SqT G.K c.H p ys) ∧ ∀ l, c.H l = none → Q (.ref l) (upd c.H l (.lst ys))) := fun u ru h => by
    obtain ⟨x, rfl, r⟩ := vs1 ru
    obtain ⟨⟨t, ys⟩, e, q⟩ := wpM_look (wpM_bind.mp h)
    obtain ⟨a, vs, rfl, h1, r1⟩ := seqOf_ok w r e
    refine ⟨a, vs, rfl, ?_, newL_ok w r1 q⟩
    cases t with
    | true => exact .inr (SqT.of h1)
    | false => exact .inl (SqL.of h1)
  match us, ru, h with
  | [], _, h => exact h.elim
  | [.r l], ru, h => exact .inr (seq _ ru h)
  | [.d y], ru, h =>
    cases y
    case str z =>
      obtain ⟨x, rfl, r⟩ := vs1 ru
      cases r
      obtain ⟨hz, q⟩ := wpM_guard (wpM_bind.mp h)
      exact .inl ⟨z, rfl, hz, newL_ok w (chars_rep z.cps.toList) q⟩
    case frz ys =>
      obtain ⟨x, rfl, r⟩ := vs1 ru
      obtain ⟨a, o, vs, rfl, h1, _, h2⟩ := r
      exact .inr ⟨a, vs, rfl, .inl (.inl (.inr ⟨o, h1⟩)), newL_ok w (repL_vs h2) h⟩
    all_goals exact .inr (seq _ ru h)
  | .r _ :: _ :: _, _, h => exact h.elim
  | .d y :: _ :: _, _, h => cases y <;> exact h.elim
/-- tuple(x) -/
def bTuple : List RV → M RV
  | [u] => (M.look fun W => seqOf W u).bind fun p => if p.1 then M.ret u else newT p.2
  | _ => M.fail
abbrev rTuple (K : PySem.W.Frag) : List V → Hp → VK → Prop := fun xs H Q => ∃ p ys, xs = [.ref p] ∧ ((SqL K H p ys ∧ ∀ l, H l = none → Q (.ref l) (upd H l (.tup ys))) ∨ (SqT K H p ys ∧ Q (.ref p) H))
theorem call_bTuple {X : Cx} (hK : X.K = G.K) : CallR X (.type "tuple") (rTuple G.K) := by
  have := call_tuple_of (X := X)
  rw [hK] at this
  exact this
theorem cd_tuple : CallD G (rTuple G.K) bTuple := by
  intro c xs us Q w ru h
  match us, ru, h with
  | [], _, h => exact h.elim
  | [u], ru, h =>
    obtain ⟨x, rfl, r⟩ := vs1 ru
    obtain ⟨⟨t, ys⟩, e, q⟩ := wpM_look (wpM_bind.mp h)
    obtain ⟨a, vs, rfl, h1, r1⟩ := seqOf_ok w r e
    cases t with
    | true => exact ⟨a, vs, rfl, .inr ⟨SqT.of h1, QV.here (v := u) q w r⟩⟩
    | false => exact ⟨a, vs, rfl, .inl ⟨SqL.of h1, newT_ok w r1 q⟩⟩
  | _ :: _ :: _, _, h => exact h.elim
/-- sum(a list of ints), all(a list of truths) -/
def intsL : List RV → Option (List Int)
  | [] => some []
  | .d (.int i) :: r => (intsL r).map (i :: ·)
  | _ => none
theorem intsL_ok : ∀ {us : List RV} {vs : List V} {ns : List Int}, intsL us = some ns → RepVs c us vs → vs = ns.map V.int
  | [], _, _, h, .nil => by simp [intsL] at h; subst h; rfl
  | u :: us, _, ns, h, .cons (b := x) (l₂ := xs) q t => by
    cases u with
    | r l => simp [intsL] at h
    | d y =>
      cases y <;> simp [intsL] at h
      case int i =>
        obtain ⟨ns', e, rfl⟩ := h
        cases q
        rw [intsL_ok e t]
        rfl
def blsL : List RV → Option (List Bool)
  | [] => some []
  | .d (.bl i) :: r => (blsL r).map (i :: ·)
  | _ => none
theorem blsL_ok : ∀ {us : List RV} {vs : List V} {ns : List Bool}, blsL us = some ns → RepVs c us vs → vs = ns.map V.bl
  | [], _, _, h, .nil => by simp [blsL] at h; subst h; rfl
  | u :: us, _, ns, h, .cons (b := x) (l₂ := xs) q t => by
    cases u with
    | r l => simp [blsL] at h
    | d y =>
      cases y <;> simp [blsL] at h
      case bl i =>
        obtain ⟨ns', e, rfl⟩ := h
        cases q
        rw [blsL_ok e t]
        rfl
def strsL : List RV → Option (List Str)
  | [] => some []
  | .d (.str i) :: r => (strsL r).map (i :: ·)
  | _ => none
theorem strsL_ok : ∀ {us : List RV} {vs : List V} {ns : List Str}, strsL us = some ns → RepVs c us vs → vs = ns.map V.str
  | [], _, _, h, .nil => by simp [strsL] at h; subst h; rfl
  | u :: us, _, ns, h, .cons (b := x) (l₂ := xs) q t => by
    cases u with
    | r l => simp [strsL] at h
    | d y =>
      cases y <;> simp [strsL] at h
      case str i =>
        obtain ⟨ns', e, rfl⟩ := h
        cases q
        rw [strsL_ok e t]
        rfl
def bSum : List RV → M RV
  | [u] => (M.look fun W => (seqOf W u).bind fun p => if p.1 then none else intsL p.2).bind fun ns => M.ret (.d (.int ns.sum))
  | _ => M.fail
theorem call_bSum {X : Cx} (hc : X.calm = true) (hK : X.K = G.K) : CallR X (.builtin "sum") (rSum G.K) := by
  have := cr_sum hc
  rw [hK] at this
  exact this
theorem cd_sum : CallD G (rSum G.K) bSum := by
  intro c xs us Q w ru h
  match us, ru, h with
  | [], _, h => exact h.elim
  | [u], ru, h =>
    obtain ⟨x, rfl, r⟩ := vs1 ru
    obtain ⟨ns, e, q⟩ := wpM_look (wpM_bind.mp h)
    simp only [Option.bind_eq_some_iff] at e
    obtain ⟨⟨t, ys⟩, e1, e2⟩ := e
    obtain ⟨a, vs, rfl, h1, r1⟩ := seqOf_ok w r e1
    cases t with
    | true => simp at e2
    | false =>
      simp at e2
      rw [intsL_ok e2 r1] at h1
      exact ⟨a, ns, rfl, SqL.of h1, QV.here (v := .d (.int ns.sum)) q w rfl⟩
  | _ :: _ :: _, _, h => exact h.elim
def bAll : List RV → M RV
  | [u] => (M.look fun W => (seqOf W u).bind fun p => if p.1 then none else blsL p.2).bind fun ns => M.ret (.d (.bl (ns.all id)))
  | _ => M.fail
theorem call_bAll {X : Cx} (hc : X.calm = true) (hK : X.K = G.K) : CallR X (.builtin "all") (rAll G.K) := by
  have := cr_all hc
  rw [hK] at this
  exact this
theorem cd_all : CallD G (rAll G.K) bAll := by
  intro c xs us Q w ru h
  match us, ru, h with
  | [], _, h => exact h.elim
  | [u], ru, h =>
    obtain ⟨x, rfl, r⟩ := vs1 ru
    obtain ⟨ns, e, q⟩ := wpM_look (wpM_bind.mp h)
    simp only [Option.bind_eq_some_iff] at e
    obtain ⟨⟨t, ys⟩, e1, e2⟩ := e
    obtain ⟨a, vs, rfl, h1, r1⟩ := seqOf_ok w r e1
    cases t with
    | true => simp at e2
    | false =>
      simp at e2
      rw [blsL_ok e2 r1] at h1
      exact ⟨a, ns, rfl, SqL.of h1, QV.here (v := .d (.bl (ns.all id))) q w rfl⟩
  | _ :: _ :: _, _, h => exact h.elim
/-- ord(one sign); int(an int, a truth) -/
def bOrd : List RV → M RV
  | [.d (.str x)] => (M.guard (x.length = 1)).bind fun _ => M.ret (.d (.int (x.cps.getD 0 0 : Nat)))
  | _ => M.fail
theorem cd_ord : CallD G (fun xs H Q => ∃ x, xs = [.str x] ∧ x.length = 1 ∧ Q (.int (x.cps.getD 0 0 : Nat)) H) bOrd := by
  intro c xs us Q w ru h
  match us, ru, h with
  | [], _, h => exact h.elim
  | [.r _], _, h => exact h.elim
  | [.d y], ru, h =>
    cases y <;> try exact h.elim
    case str z =>
      obtain ⟨x, rfl, r⟩ := vs1 ru
      cases r
      obtain ⟨hz, q⟩ := wpM_guard (wpM_bind.mp h)
      exact ⟨z, rfl, hz, QV.here (v := .d (.int (z.cps.getD 0 0 : Nat))) q w rfl⟩
  | .r _ :: _ :: _, _, h => exact h.elim
  | .d y :: _ :: _, _, h => cases y <;> exact h.elim
def bInt : List RV → M RV
  | [.d (.int i)] => M.ret (.d (.int i))
  | [.d (.bl k)] => M.ret (.d (.int (if k then 1 else 0)))
  | _ => M.fail
theorem cd_int : CallD G (fun xs H Q => (∃ i, xs = [.int i] ∧ Q (.int i) H) ∨ ∃ k, xs = [.bl k] ∧ Q (.int (if k then 1 else 0)) H) bInt := by
  intro c xs us Q w ru h
  match us, ru, h with
  | [], _, h => exact h.elim
  | [.r _], _, h => exact h.elim
  | [.d y], ru, h =>
    cases y <;> try exact h.elim
    case int i =>
      obtain ⟨x, rfl, r⟩ := vs1 ru
      cases r
      exact .inl ⟨i, rfl, QV.here (v := .d (.int i)) h w rfl⟩
    case bl k =>
      obtain ⟨x, rfl, r⟩ := vs1 ru
      cases r
      exact .inr ⟨k, rfl, QV.here (v := .d (.int (if k then 1 else 0))) h w rfl⟩
  | .r _ :: _ :: _, _, h => exact h.elim
  | .d y :: _ :: _, _, h => cases y <;> exact h.elim
/-! ### methods of lists that may change -/
def MthD (G : Gh) (r : V → List V → Hp → VK → Prop) (f : RV → List RV → M RV) : Prop := ∀ (c : Cf) (x : V) (u : RV) (xs : List V) (us : List RV) (Q : VK), WOk c → RepRV c u x → RepVs c us xs → wpM (f u us) c.W (QV c Q) (QE G c) → r x xs c.H Q
/-- the items at a label that may change -/
def lstAt (W : Wd) : RV → Option (Nat × List RV)
  | .r l => match W[l]? with
    | some (.lst xs) => some (l, xs)
    | _ => none
  | _ => none
theorem lstAt_ok {u : RV} {x : V} {l : Nat} {xs : List RV} (w : WOk c) (r : RepRV c u x) (h : lstAt c.W u = some (l, xs)) : x = .ref (c.ren l) ∧ c.W[l]? = some (.lst xs) ∧ ∃ vs, c.H (c.ren l) = some (.lst vs) ∧ RepVs c xs vs := by
  cases u with
  | d y => simp [lstAt] at h
  | r k =>
    obtain ⟨rfl, hl⟩ := r
    simp only [lstAt] at h
    cases e : c.W[k]? with
    | none => rw [e] at h; simp at h
    | some o =>
      rw [e] at h
      cases o with
      | fz y => simp at h
      | dK _ => simp at h
      | dT _ => simp at h
      | ins _ _ => simp at h
      | lst ys =>
        simp at h
        obtain ⟨rfl, rfl⟩ := h
        obtain ⟨vs, h1, h2⟩ := w.obj k _ e
        exact ⟨rfl, e, vs, h1, h2⟩
def setAt (l : Nat) (m : MO) : M Unit := fun W => some (.ok (), W.set l m)
theorem put_ok {l : Nat} {xs ys : List RV} {vs : List V} {v : RV} {x : V} {Q : VK} {E : DX → Wd → Prop} (w : WOk c) (e : c.W[l]? = some (.lst xs)) (r : RepVs c ys vs) (rv : RepRV c v x) (h : wpM ((setAt l (.lst ys)).bind fun _ => M.ret v) c.W (QV c Q) E) : Q x (upd c.H (c.ren l) (.lst vs)) := by
  have ex : Ext c (c.put l (.lst vs) (.lst ys)) := Ext.put e trivial
  exact h x (c.put l (.lst vs) (.lst ys)) rfl ex (w.put e trivial ⟨vs, upd_same, RepVs.mono ex r⟩) (rv.mono ex)
def mAppend (u : RV) : List RV → M RV
  | [v] => (M.look fun W => lstAt W u).bind fun p => (M.guard (p.2.length < sizeLine)).bind fun _ => (setAt p.1 (.lst (p.2 ++ [v]))).bind fun _ => M.ret (.d .non)
  | _ => M.fail
theorem md_append : MthD G rAppend mAppend := by
  intro c x u xs us Q w r rs h
  match us, rs, h with
  | [], _, h => exact h.elim
  | [v], rs, h =>
    obtain ⟨y, rfl, ry⟩ := vs1 rs
    obtain ⟨⟨l, ys⟩, e, q⟩ := wpM_look (wpM_bind.mp h)
    obtain ⟨rfl, e2, vs, h1, r1⟩ := lstAt_ok w r e
    obtain ⟨hz, q⟩ := wpM_guard (wpM_bind.mp q)
    exact ⟨_, vs, y, rfl, rfl, h1, by rw [← paired_len r1]; exact hz, put_ok w e2 (paired_app r1 (.cons ry .nil)) (v := .d .non) rfl q⟩
  | _ :: _ :: _, _, h => exact h.elim
def mPop (u : RV) : List RV → M RV
  | [.d (.int i)] => (M.look fun W => (lstAt W u).bind fun p => (seqIndex? i p.2.length).bind fun k => (p.2[k]?).map fun y => (p, k, y)).bind fun z => (M.guard (-(2 ^ 63) ≤ i ∧ i < 2 ^ 63)).bind fun _ => (setAt z.1.1 (.lst (z.1.2.eraseIdx z.2.1))).bind fun _ => M.ret z.2.2
  | _ => M.fail
theorem md_pop : MthD G rPopAt mPop := by
  intro c x u xs us Q w r rs h
  match us, rs, h with
  | [], _, h => exact h.elim
  | [.r _], _, h => exact h.elim
  | [.d v], rs, h =>
    cases v <;> try exact h.elim
    case int i =>
      obtain ⟨y, rfl, ry⟩ := vs1 rs
      cases ry
      obtain ⟨⟨⟨l, ys⟩, k, z⟩, e, q⟩ := wpM_look (wpM_bind.mp h)
      simp only [Option.bind_eq_some_iff, Option.map_eq_some_iff] at e
      obtain ⟨⟨l', ys'⟩, e1, k', e2, z', e3, e4⟩ := e
      injection e4 with e5 e6
      injection e6 with e7 e8
      injection e5 with e9 e10
      subst e9 e10 e7 e8
      obtain ⟨rfl, e5, vs, h1, r1⟩ := lstAt_ok w r e1
      obtain ⟨⟨hi1, hi2⟩, q⟩ := wpM_guard (wpM_bind.mp q)
      obtain ⟨zv, h2, r2⟩ := paired_get r1 e3
      exact ⟨_, vs, i, k', zv, rfl, rfl, h1, hi1, hi2, by rw [← paired_len r1]; exact e2, h2, put_ok w e5 (paired_erase k' r1) r2 q⟩
  | .r _ :: _ :: _, _, h => exact h.elim
  | .d v :: _ :: _, _, h => cases v <;> exact h.elim
end
section
variable {ι : Type} {𝒳 : ι → Cx} {G : Gh} {e o : Expr} {Fa Fb : Env → M RV} {es : List Expr} {R : Env → M (List RV)}
/-- o.m(..) of a list -/
def evMth (f : RV → List RV → M RV) (Fo : Env → M RV) (R : Env → M (List RV)) (δ : Env) : M RV := (Fo δ).bind fun u => (M.look fun W => (seqOf W u).bind fun p => if p.1 then none else some ()).bind fun _ => (R δ).bind fun us => f u us
theorem de_mthL {id : String} {name : Str} {apos cpos : Pos} {r : V → List V → Hp → VK → Prop} {f : RV → List RV → M RV} (hK : ∀ i, (𝒳 i).K = G.K) (slot : Slot "list" name id) (hty : typeOf (.builtin id) = pure (.type "method_descriptor")) (hm : ∀ i, MtR (𝒳 i) id r) (hd : MthD G r f) (ho : DE 𝒳 G o Fa) (ha : DA 𝒳 G (e :: es) R)
    (hbase : ∀ i, attributeBase o name (𝒳 i).env (eval o (𝒳 i).env) = eval o (𝒳 i).env := by intro _; rfl)
    (hfew : ∀ i, ((backTo cpos (starEach (e :: es) (𝒳 i).env)).all (fun x => !x.1) && (backToKw cpos (keywordEach [] (𝒳 i).env)).all (fun x => x.1.isSome)
      && decide ((e :: es).length + ([] : List Keyword).length + (if ([] : List Keyword).isEmpty then 0 else 1) < 30)) = true := by intro _; rfl)
    (hline : (apos.endLine == cpos.line) = true := by rfl) (hs : ∀ i, starEach (e :: es) (𝒳 i).env = (false, eval e (𝒳 i).env) :: starEach es (𝒳 i).env := by intro _; rfl) (hplain : ∀ i, (backTo cpos (starEach es (𝒳 i).env)).any (·.1) = false := by intro _; rfl) :
    DE 𝒳 G (.Call (.Attribute o name apos) (e :: es) [] cpos) (evMth f Fa R) := by
  obtain ⟨to, po, ro⟩ := ho
  obtain ⟨ta, pa, ra⟩ := ha
  refine ⟨tBM G.K "list" r to ta, fun i => ?_, fun c σ δ Q s w h => ?_⟩
  · have := pe_bm PySem.F.plainAttrs_list slot hty (hm i) (po i) (pa i) (hbase i) (hfew i) hline (hs i) (hplain i)
    rw [hK i] at this
    exact this
  refine ro c σ δ _ s w (wpM_mono (wpM_bind.mp h) (fun u W1 h1 x1 c1 hw e1 w1 r1 => ?_) fun _ _ q => q)
  subst hw
  obtain ⟨_, e, q⟩ := wpM_look (wpM_bind.mp h1)
  simp only [Option.bind_eq_some_iff] at e
  obtain ⟨⟨t, xs⟩, e2, e3⟩ := e
  obtain ⟨a, vs, rfl, h3, _⟩ := seqOf_ok w1 r1 e2
  cases t with
  | true => simp at e3
  | false =>
    refine ⟨.inl ⟨rfl, vs, SqL.of h3⟩, ?_⟩
    refine ra c1 σ δ _ (s.mono e1) w1 (wpM_mono (wpM_bind.mp q) (fun us W2 h4 ys c2 hw e4 w2 r2 => ?_) fun _ _ q => q.mono e1)
    subst hw
    exact hd c2 _ u ys us Q w2 (r1.mono e4) r2 (wpM_mono h4 (fun _ _ q => (q.mono e1).mono e4) fun _ _ q => (q.mono e1).mono e4)
/-! ### methods of texts -/
def evMth1 (f : Str → RV → M RV) (Fo Fa : Env → M RV) (δ : Env) : M RV := (Fo δ).bind fun u => (M.opt (match u with | .d (.str s) => some s | _ => none)).bind fun s => (Fa δ).bind fun v => f s v
def Mth1D (G : Gh) (r : V → List V → Hp → VK → Prop) (f : Str → RV → M RV) : Prop := ∀ (c : Cf) (s : Str) (x : V) (u : RV) (Q : VK), WOk c → RepRV c u x → wpM (f s u) c.W (QV c Q) (QE G c) → r (.str s) [x] c.H Q
theorem de_mthS {id : String} {name : Str} {apos pos : Pos} {r : V → List V → Hp → VK → Prop} {f : Str → RV → M RV} (slot : Slot "str" name id) (ty : typeOf (.builtin id) = pure (.type "method_descriptor")) (hm : ∀ i, MtR (𝒳 i) id r) (hd : Mth1D G r f) (ho : DE 𝒳 G o Fa) (ha : DE 𝒳 G e Fb)
    (hs : ∀ i, starEach [e] (𝒳 i).env = [(false, eval e (𝒳 i).env)] := by intro _; rfl) (hbase : ∀ i, attributeBase o name (𝒳 i).env (eval o (𝒳 i).env) = eval o (𝒳 i).env := by intro _; rfl) (hline : (apos.endLine == pos.line) = true := by rfl) :
    DE 𝒳 G (.Call (.Attribute o name apos) [e] [] pos) (evMth1 f Fa Fb) := by
  obtain ⟨to, po, ro⟩ := ho
  obtain ⟨ta, pa, ra⟩ := ha
  refine ⟨_, fun i => pe_m1 slot ty (hm i) (po i) (pa i) (hs i) (hbase i) hline, fun c σ δ Q s w h => ?_⟩
  refine ro c σ δ _ s w (wpM_mono (wpM_bind.mp h) (fun u W1 h1 x1 c1 hw e1 w1 r1 => ?_) fun _ _ q => q)
  subst hw
  obtain ⟨z, e, q⟩ := wpM_opt (wpM_bind.mp h1)
  have eu : u = .d (.str z) := by
    cases u with
    | r l => simp at e
    | d y => cases y <;> simp at e; rw [e]
  subst eu
  cases r1
  refine ⟨⟨z, rfl⟩, ?_⟩
  refine ra c1 σ δ _ (s.mono e1) w1 (wpM_mono (wpM_bind.mp q) (fun v W2 h2 x2 c2 hw e2 w2 r2 => ?_) fun _ _ q => q.mono e1)
  subst hw
  exact hd c2 z x2 v Q w2 r2 (wpM_mono h2 (fun _ _ q => (q.mono e1).mono e2) fun _ _ q => (q.mono e1).mono e2)
def mJoin (s : Str) (u : RV) : M RV := (M.look fun W => (seqOf W u).bind fun p => strsL p.2).bind fun ys => (M.guard ((ys.map (·.length)).sum + ys.length * s.length ≤ 16777216)).bind fun _ => M.ret (.d (.str (Txt.join s ys)))
abbrev rJoin (K : PySem.W.Frag) : V → List V → Hp → VK → Prop := fun x xs H Q => ∃ a p, ∃ ys : List Str, x = .str a ∧ xs = [.ref p] ∧ (SqL K H p (ys.map V.str) ∨ SqT K H p (ys.map V.str)) ∧ (ys.map (·.length)).sum + ys.length * a.length ≤ 16777216 ∧ Q (.str (Txt.join a ys)) H
theorem mt_bJoin {X : Cx} (hK : X.K = G.K) : MtR X "str.join" (rJoin G.K) := by
  have := mt_join (X := X)
  rw [hK] at this
  exact this
theorem md_join : Mth1D G (rJoin G.K) mJoin := by
  intro c s x u Q w r h
  obtain ⟨ys, e, q⟩ := wpM_look (wpM_bind.mp h)
  simp only [Option.bind_eq_some_iff] at e
  obtain ⟨⟨t, xs⟩, e1, e2⟩ := e
  obtain ⟨a, vs, rfl, h1, r1⟩ := seqOf_ok w r e1
  obtain ⟨hz, q⟩ := wpM_guard (wpM_bind.mp q)
  have ev := strsL_ok e2 r1
  subst ev
  refine ⟨s, a, ys, rfl, rfl, ?_, hz, QV.here (v := .d (.str (Txt.join s ys))) q w rfl⟩
  cases t with
  | true => exact .inr (SqT.of h1)
  | false => exact .inl (SqL.of h1)
def mCount (s : Str) (u : RV) : M RV := match u with
  | .d (.str b) => M.ret (.d (.int (Txt.count s b)))
  | _ => M.fail
theorem md_count : Mth1D G (fun x xs H Q => ∃ a b, x = .str a ∧ xs = [.str b] ∧ Q (.int (Txt.count a b)) H) mCount := by
  intro c s x u Q w r h
  cases u with
  | r l => exact h.elim
  | d y =>
    cases y <;> try exact h.elim
    case str b =>
      cases r
      exact ⟨s, b, rfl, rfl, QV.here (v := .d (.int (Txt.count s b))) h w rfl⟩
end
end DL
set_option Elab.async false
set_option linter.all false
set_option maxRecDepth 100000
set_option maxHeartbeats 4000000
/-! DL8: targets, statements, while. -/
namespace DL
open PySem PySem.Spec PyProof.Rows L2
/-- how a statement ends -/
inductive Fl where
  | nx | rt (v : RV) | bk | ct
def QS (c : Cf) (D : Ends) : Fl × Env → Wd → Prop := fun p W' => match p.1 with
  | .nx => ∀ σ' c', c'.W = W' → Ext c c' → WOk c' → SOk σ' p.2 c' → D.nx σ' c'.H
  | .bk => ∀ σ' c', c'.W = W' → Ext c c' → WOk c' → SOk σ' p.2 c' → D.bk σ' c'.H
  | .ct => ∀ σ' c', c'.W = W' → Ext c c' → WOk c' → SOk σ' p.2 c' → D.ct σ' c'.H
  | .rt v => ∀ x c', c'.W = W' → Ext c c' → WOk c' → RepRV c' v x → D.rt x c'.H
theorem QS.mono {c c1 : Cf} {D : Ends} {p : Fl × Env} {W : Wd} (e : Ext c c1) (h : QS c D p W) : QS c1 D p W := by
  obtain ⟨f, δ⟩ := p
  cases f
  case nx => exact fun σ' c' hw e' w s => h σ' c' hw (e.trans e') w s
  case bk => exact fun σ' c' hw e' w s => h σ' c' hw (e.trans e') w s
  case ct => exact fun σ' c' hw e' w s => h σ' c' hw (e.trans e') w s
  case rt v => exact fun x c' hw e' w r => h x c' hw (e.trans e') w r
def RdS (G : Gh) (t : TS) (F : Env → M (Fl × Env)) : Prop := ∀ (c : Cf) (σ : L2.St) (δ : Env) (D : Ends), SOk σ δ c → WOk c → wpM (F δ) c.W (QS c D) (QE G c) → t D σ c.H
/-- a target: it sets slots of vs alone -/
def RdG (G : Gh) (g : TG) (vs : List Nat) (F : RV → Env → M Env) : Prop := ∀ (c : Cf) (v : V) (u : RV) (σ : L2.St) (δ : Env) (Q : L2.St → Hp → Prop), SOk σ δ c → WOk c → RepRV c u v →
  wpM (F u δ) c.W (fun δ' W' => ∀ σ' c', c'.W = W' → Ext c c' → WOk c' → SOk σ' δ' c' → σ'.length = σ.length → (∀ k, k ∉ vs → σ'[k]? = σ[k]?) → Q σ' c'.H) (QE G c) → g v σ c.H Q
def RdGs (G : Gh) (g : TGs) (vs : List Nat) (F : List RV → Env → M Env) : Prop := ∀ (c : Cf) (xs : List V) (us : List RV) (σ : L2.St) (δ : Env) (Q : L2.St → Hp → Prop), SOk σ δ c → WOk c → RepVs c us xs →
  wpM (F us δ) c.W (fun δ' W' => ∀ σ' c', c'.W = W' → Ext c c' → WOk c' → SOk σ' δ' c' → σ'.length = σ.length → (∀ k, k ∉ vs → σ'[k]? = σ[k]?) → Q σ' c'.H) (QE G c) → g xs σ c.H Q
section
variable {ι : Type} {𝒳 : ι → Cx} {G : Gh} {e a b tg : Expr} {Fe Fa Fb : Env → M RV} {pos : Pos} {es : List Expr} {R : Env → M (List RV)} {vs : List Nat} {Tc : Env → M Bool} {st : Stmt} {sts ss1 ss2 : List Stmt} {S1 S2 : Env → M (Fl × Env)}
def DS (𝒳 : ι → Cx) (G : Gh) (st : Stmt) (F : Env → M (Fl × Env)) : Prop := ∃ t, (∀ i, PS (𝒳 i) st t) ∧ RdS G t F
def DSs (𝒳 : ι → Cx) (G : Gh) (st : List Stmt) (F : Env → M (Fl × Env)) : Prop := ∃ t, (∀ i, PSs (𝒳 i) st t) ∧ RdS G t F
def DG (𝒳 : ι → Cx) (G : Gh) (tg : Expr) (vs : List Nat) (F : RV → Env → M Env) : Prop := ∃ g, (∀ i, PG (𝒳 i) tg g) ∧ RdG G g vs F
def DGs (𝒳 : ι → Cx) (G : Gh) (ts : List Expr) (vs : List Nat) (F : List RV → Env → M Env) : Prop := ∃ g, (∀ i, PGs (𝒳 i) ts g) ∧ RdGs G g vs F
theorem DS.never : DS 𝒳 G st (fun _ => M.fail) := ⟨tNever, fun _ => ps_never, fun _ _ _ _ _ _ h => h.elim⟩
/-! ### targets -/
def gtName (i : Nat) (u : RV) (δ : Env) : M Env := M.ret (δ.set i (some u))
theorem dg_name (i : Nat) {x : Str} (hN : ∀ k, (𝒳 k).N.Nodup) (hi : ∀ k, (𝒳 k).N[i]? = some x := by intro _; rfl) (hx : ∀ k, Loc (𝒳 k).env.scope x := by intro _; first | exact Or.inl rfl | exact Or.inr rfl)
    (hf : ∀ k, (𝒳 k).fn x = true ∨ (𝒳 k).env.scope.names.lookup x = some .local := by intro _; first | exact .inl rfl | exact .inr rfl) : DG 𝒳 G (.Name x pos) [i] (gtName i) := by
  refine ⟨gName i, fun k => pg_name (hN k) (hi k) (hx k) (hf k), fun c v u σ δ Q s w r h => ?_⟩
  refine h (σ.set i (some v)) c rfl (Ext.refl c) w (s.set i r) (by rw [List.length_set]) fun k hk => ?_
  rw [List.getElem?_set_ne (fun z => hk (by rw [z]; exact List.mem_singleton_self k))]
def gtNil (us : List RV) (δ : Env) : M Env := match us with | [] => M.ret δ | _ => M.fail
def gtCons (F : RV → Env → M Env) (R : List RV → Env → M Env) (us : List RV) (δ : Env) : M Env := match us with | [] => M.fail | u :: us => (F u δ).bind fun δ' => R us δ'
theorem dgs_nil : DGs 𝒳 G [] [] gtNil := by
  refine ⟨_, fun _ => pgs_nil, fun c xs us σ δ Q s w r h => ?_⟩
  cases r with
  | nil => exact ⟨rfl, h σ c rfl (Ext.refl c) w s rfl fun _ _ => rfl⟩
  | cons _ _ => exact h.elim
theorem dgs_cons {vs2 : List Nat} {F : RV → Env → M Env} {Fr : List RV → Env → M Env} (h1 : DG 𝒳 G e vs F) (h2 : DGs 𝒳 G es vs2 Fr) (hs : ∀ i, (assignEach (e :: es) (𝒳 i).env).map (·.2) = assign e (𝒳 i).env :: (assignEach es (𝒳 i).env).map (·.2) := by intro _; rfl) : DGs 𝒳 G (e :: es) (vs ++ vs2) (gtCons F Fr) := by
  obtain ⟨g, pg, rg⟩ := h1
  obtain ⟨g2, pg2, rg2⟩ := h2
  refine ⟨_, fun i => pgs_cons (pg i) (pg2 i) (hs i), fun c xs us σ δ Q s w r h => ?_⟩
  cases r with
  | nil => exact h.elim
  | cons r1 r2 =>
    refine ⟨_, _, rfl, rg c _ _ σ δ _ s w r1 (wpM_mono (wpM_bind.mp h) (fun δ' W1 h1 σ' c1 hw e1 w1 s1 l1 k1 => ?_) fun _ _ q => q)⟩
    subst hw
    refine rg2 c1 _ _ σ' δ' Q s1 w1 (RepVs.mono e1 r2) (wpM_mono h1 (fun δ2 W2 h2 σ2 c2 hw e2 w2 s2 l2 k2 => ?_) fun _ _ q => q.mono e1)
    exact h2 σ2 c2 hw (e1.trans e2) w2 s2 (l2.trans l1) fun k hk => by
      rw [k2 k (fun z => hk (List.mem_append_right _ z)), k1 k (fun z => hk (List.mem_append_left _ z))]
theorem PG.or {X : Cx} {t t' : TG} (h : PG X tg t) (h' : PG X tg t') : PG X tg (fun v σ H Q => t v σ H Q ∨ t' v σ H Q) :=
  ⟨fun pins s σ H v u Q I r hw => hw.elim (h.run pins s σ H v u Q I r) (h'.run pins s σ H v u Q I r)⟩
def gtUnp (n : Nat) (F : List RV → Env → M Env) (u : RV) (δ : Env) : M Env := (M.look fun W => seqOf W u).bind fun p => (M.guard (p.2.length = n)).bind fun _ => F p.2 δ
theorem dg_tup {k n : Nat} {F : List RV → Env → M Env} (hK : ∀ i, (𝒳 i).K = G.K) (hc : ∀ i, (𝒳 i).calm = true) (h : DGs 𝒳 G es vs F) (hn : ∀ i, (assignEach es (𝒳 i).env).length = n := by intro _; rfl) (hst : ∀ i, (assignEach es (𝒳 i).env).findIdx? (·.1) = none := by intro _; rfl) :
    DG 𝒳 G (.Tuple es k pos) vs (gtUnp n F) := by
  obtain ⟨g, pg, rg⟩ := h
  refine ⟨fun v σ H Q => gTup G.K n g v σ H Q ∨ gUnl G.K n g v σ H Q, fun i => ?_, fun c v u σ δ Q s w r h => ?_⟩
  · have h1 := pg_tup (pos := pos) (k := k) (hc i) (pg i) (hn i) (hst i)
    have h2 := pg_unl (pos := pos) (k := k) (hc i) (pg i) (hn i) (hst i)
    rw [hK i] at h1 h2
    exact PG.or h1 h2
  · obtain ⟨⟨t, xs⟩, e, q⟩ := wpM_look (wpM_bind.mp h)
    obtain ⟨hl, q⟩ := wpM_guard (wpM_bind.mp q)
    obtain ⟨a, ws, rfl, h1, r1⟩ := seqOf_ok w r e
    have hl2 : ws.length = n := by rw [← paired_len r1]; exact hl
    have fin := rg c ws xs σ δ Q s w r1 q
    cases t with
    | true => exact .inl ⟨a, ws, rfl, SqT.of h1, hl2, fin⟩
    | false => exact .inr ⟨a, ws, rfl, SqL.of h1, hl2, fin⟩
def gtSub (Fo Fi : Env → M RV) (u : RV) (δ : Env) : M Env := (Fo δ).bind fun o => (Fi δ).bind fun i => (asI i).bind fun k => (M.look fun W => (lstAt W o).bind fun p => (ixN p.2.length k).map fun j => (p, j)).bind fun z => (setAt z.1.1 (.lst (z.1.2.set z.2 u))).bind fun _ => M.ret δ
theorem dg_sub (ha : DE 𝒳 G a Fa) (hb : DE 𝒳 G b Fb) (hv : ∀ i, ∀ v, assign (.Subscript a b pos) (𝒳 i).env v = (do
      let ov ← holding [v] (eval a (𝒳 i).env)
      let iv ← holding [v, ov] (eval b (𝒳 i).env)
      standAt pos
      holding [v, ov, iv] (setItem ov iv v)
      release [v, ov, iv] []) := by intro _ _; rfl) : DG 𝒳 G (.Subscript a b pos) [] (gtSub Fa Fb) := by
  obtain ⟨ta, pa, ra⟩ := ha
  obtain ⟨tb, pb, rb⟩ := hb
  refine ⟨_, fun i => pg_sub (pa i) (pb i) set_list (hv i), fun c v u σ δ Q s w r h => ?_⟩
  refine ra c σ δ _ s w (wpM_mono (wpM_bind.mp h) (fun o W1 h1 x1 c1 hw e1 w1 r1 => ?_) fun _ _ q => q)
  subst hw
  refine rb c1 σ δ _ (s.mono e1) w1 (wpM_mono (wpM_bind.mp h1) (fun i W2 h2 x2 c2 hw e2 w2 r2 => ?_) fun _ _ q => q.mono e1)
  subst hw
  obtain ⟨k, rfl, q⟩ := asI_ok (wpM_bind.mp h2)
  obtain ⟨⟨⟨l, ys⟩, j⟩, e3, q⟩ := wpM_look (wpM_bind.mp q)
  simp only [Option.bind_eq_some_iff, Option.map_eq_some_iff] at e3
  obtain ⟨⟨l', ys'⟩, e4, j', e5, e6⟩ := e3
  injection e6 with e7 e8
  injection e7 with e9 e10
  subst e9 e10 e8
  obtain ⟨rfl, e7, ws, h3, r3⟩ := lstAt_ok w2 (r1.mono e2) e4
  cases r2
  refine ⟨_, ws, k, j', rfl, rfl, h3, by rw [← paired_len r3]; exact e5, ?_⟩
  have ex : Ext c2 (c2.put l' (.lst (ws.set j' v)) (.lst (ys'.set j' u))) := Ext.put e7 trivial
  exact q σ (c2.put l' (.lst (ws.set j' v)) (.lst (ys'.set j' u))) rfl ((e1.trans e2).trans ex) (w2.put e7 trivial ⟨_, upd_same, RepVs.mono ex (paired_set ((r.mono e1).mono e2) j' r3)⟩) (((s.mono e1).mono e2).mono ex) rfl fun _ _ => rfl
/-! ### statements -/
def evNext (δ : Env) : M (Fl × Env) := M.ret (.nx, δ)
def evSeq (S1 S2 : Env → M (Fl × Env)) (δ : Env) : M (Fl × Env) := (S1 δ).bind fun p => match p.1 with | .nx => S2 p.2 | f => M.ret (f, p.2)
theorem RdS.seq {t u : TS} (h1 : RdS G t S1) (h2 : RdS G u S2) : RdS G (tSeq t u) (evSeq S1 S2) := by
  intro c σ δ D s w h
  refine h1 c σ δ _ s w (wpM_mono (wpM_bind.mp h) (fun p W1 q => ?_) fun _ _ q => q)
  obtain ⟨f, δ1⟩ := p
  cases f with
  | nx =>
    intro σ' c' hw e1 w1 s1
    subst hw
    exact h2 c' σ' δ1 D s1 w1 (wpM_mono q (fun _ _ q => q.mono e1) fun _ _ q => q.mono e1)
  | rt v => exact q
  | bk => exact q
  | ct => exact q
theorem dss_nil : DSs 𝒳 G [] evNext := ⟨_, fun _ => pss_nil, fun c σ δ D s w h => h σ c rfl (Ext.refl c) w s⟩
theorem dss_cons (h1 : DS 𝒳 G st S1) (h2 : DSs 𝒳 G sts S2) : DSs 𝒳 G (st :: sts) (evSeq S1 S2) := by
  obtain ⟨t, pt, rt⟩ := h1
  obtain ⟨u, pu, ru⟩ := h2
  exact ⟨_, fun i => pss_cons (pt i) (pu i), rt.seq ru⟩
theorem dss_one (h1 : DS 𝒳 G st S1) : DSs 𝒳 G [st] S1 := let ⟨t, pt, rt⟩ := h1; ⟨_, fun i => pss_one (pt i), rt⟩
theorem ds_pass : DS 𝒳 G (.Pass pos) evNext := ⟨_, fun _ => ps_pass, fun c σ δ D s w h => h σ c rfl (Ext.refl c) w s⟩
theorem ds_break : DS 𝒳 G (.Break pos) (fun δ => M.ret (.bk, δ)) := ⟨_, fun _ => ps_break, fun c σ δ D s w h => h σ c rfl (Ext.refl c) w s⟩
theorem ds_cont : DS 𝒳 G (.Continue pos) (fun δ => M.ret (.ct, δ)) := ⟨_, fun _ => ps_continue, fun c σ δ D s w h => h σ c rfl (Ext.refl c) w s⟩
def evDrop (F : Env → M RV) (δ : Env) : M (Fl × Env) := (F δ).bind fun _ => M.ret (.nx, δ)
theorem ds_expr (h : DE 𝒳 G e Fe) (hs : ∀ i, swapsWith e none pos.line (𝒳 i).env = pure false := by intro _; rfl) : DS 𝒳 G (.Expr e pos) (evDrop Fe) := by
  obtain ⟨t, p, r⟩ := h
  refine ⟨_, fun i => ps_expr (p i) (hs i), fun c σ δ D s w h => ?_⟩
  refine r c σ δ _ s w (wpM_mono (wpM_bind.mp h) (fun u W1 h1 x1 c1 hw e1 w1 r1 => ?_) fun _ _ q => q)
  exact h1 σ c1 hw e1 w1 (s.mono e1)
def evRet (F : Env → M RV) (δ : Env) : M (Fl × Env) := (F δ).bind fun v => M.ret (.rt v, δ)
theorem ds_ret (h : DE 𝒳 G e Fe) : DS 𝒳 G (.Return (some e) pos) (evRet Fe) := by
  obtain ⟨t, p, r⟩ := h
  refine ⟨_, fun i => ps_ret (p i), fun c σ δ D s w h => ?_⟩
  exact r c σ δ _ s w (wpM_mono (wpM_bind.mp h) (fun u W1 h1 x1 c1 hw e1 w1 r1 => h1 x1 c1 hw e1 w1 r1) fun _ _ q => q)
theorem ds_retN : DS 𝒳 G (.Return none pos) (fun δ => M.ret (.rt (.d .non), δ)) := ⟨_, fun _ => ps_retN, fun c σ δ D s w h => h .non c rfl (Ext.refl c) w rfl⟩
def evAsg (F : Env → M RV) (T : RV → Env → M Env) (δ : Env) : M (Fl × Env) := (F δ).bind fun v => (T v δ).bind fun δ' => M.ret (.nx, δ')
theorem RdE.asg {te : TE} {g : TG} {T : RV → Env → M Env} (re : RdE G te Fe) (rg : RdG G g vs T) : RdS G (tAsg te g) (evAsg Fe T) := by
  intro c σ δ D s w h
  refine re c σ δ _ s w (wpM_mono (wpM_bind.mp h) (fun u W1 h1 x1 c1 hw e1 w1 r1 => ?_) fun _ _ q => q)
  subst hw
  exact rg c1 x1 u σ δ _ (s.mono e1) w1 r1 (wpM_mono (wpM_bind.mp h1) (fun δ' W2 h2 σ' c2 hw e2 w2 s2 _ _ => h2 σ' c2 hw (e1.trans e2) w2 s2) fun _ _ q => q.mono e1)
theorem ds_asg {T : RV → Env → M Env} (he : DE 𝒳 G e Fe) (hg : DG 𝒳 G tg vs T) (hs : ∀ i, swapsWithSole [tg] e pos.line (𝒳 i).env = pure false := by intro _; rfl) (hw : ∀ i, swappedStores [tg] e (𝒳 i).env = pure none := by intro _; rfl)
    (h1 : ∀ i, (assignEach [tg] (𝒳 i).env).map (·.2) = [assign tg (𝒳 i).env] := by intro _; rfl) : DS 𝒳 G (.Assign [tg] e pos) (evAsg Fe T) := by
  obtain ⟨t, p, r⟩ := he
  obtain ⟨g, pg, rg⟩ := hg
  exact ⟨_, fun i => ps_asg (p i) (pg i) (hs i) (hw i) (h1 i), r.asg rg⟩
/-- a, b = x, y with names: stored from the right -/
def evPar (i j : Nat) (R : Env → M (List RV)) (δ : Env) : M (Fl × Env) := (R δ).bind fun us => match us with | [u, v] => M.ret (.nx, (δ.set i (some u)).set j (some v)) | _ => M.fail
theorem ds_par (i j : Nat) {x y : Str} {px py pt : Pos} {kt k2 pt2} (hc : ∀ k, (𝒳 k).calm = true) (hN : ∀ k, (𝒳 k).N.Nodup) (ha : DA 𝒳 G [a, b] R) (hi : ∀ k, (𝒳 k).N[i]? = some x := by intro _; rfl) (hj : ∀ k, (𝒳 k).N[j]? = some y := by intro _; rfl) (hij : i ≠ j := by decide)
    (hx : ∀ k, (𝒳 k).env.scope.names.lookup x = some .local := by intro _; rfl) (hy : ∀ k, (𝒳 k).env.scope.names.lookup y = some .local := by intro _; rfl)
    (hw : ∀ k, swappedStores [.Tuple [.Name x px, .Name y py] kt pt] (.Tuple [a, b] k2 pt2) (𝒳 k).env = pure (some [x, y]) := by intro _; rfl)
    (hs : ∀ k, swapsWithSole [.Tuple [.Name x px, .Name y py] kt pt] (.Tuple [a, b] k2 pt2) pos.line (𝒳 k).env = pure false := by intro _; rfl) : DS 𝒳 G (.Assign [.Tuple [.Name x px, .Name y py] kt pt] (.Tuple [a, b] k2 pt2) pos) (evPar i j R) := by
  obtain ⟨t, p, r⟩ := ha
  refine ⟨_, fun k => ps_par (hc k) (hN k) (hi k) (hj k) hij (hx k) (hy k) (p k) (hw k) (hs k), fun c σ δ D s w h => ?_⟩
  refine r c σ δ _ s w (wpM_mono (wpM_bind.mp h) (fun us W1 h1 xs c1 hw e1 w1 r1 => ?_) fun _ _ q => q)
  match us, r1, h1 with
  | [], _, h => exact h.elim
  | [_], _, h => exact h.elim
  | [u, v], r1, h =>
    obtain ⟨x1, x2, rfl, q1, q2⟩ := vs2 r1
    exact ⟨x1, x2, rfl, h _ c1 hw e1 w1 (((s.mono e1).set i q1).set j q2)⟩
  | _ :: _ :: _ :: _, _, h => exact h.elim
def evPar3 (i j l : Nat) (R : Env → M (List RV)) (δ : Env) : M (Fl × Env) := (R δ).bind fun us => match us with | [u, v, z] => M.ret (.nx, ((δ.set i (some u)).set j (some v)).set l (some z)) | _ => M.fail
theorem vs3 {c : Cf} {u v z : RV} {xs : List V} (r : RepVs c [u, v, z] xs) : ∃ x y t, xs = [x, y, t] ∧ RepRV c u x ∧ RepRV c v y ∧ RepRV c z t := by cases r with | cons h t => cases t with | cons h2 t => cases t with | cons h3 t => cases t; exact ⟨_, _, _, rfl, h, h2, h3⟩
theorem ds_par3 (i j l : Nat) {d : Expr} {x y z : Str} {px py pz pt : Pos} {kt k2 pt2} (hc : ∀ k, (𝒳 k).calm = true) (hN : ∀ k, (𝒳 k).N.Nodup) (ha : DA 𝒳 G [a, b, d] R) (hi : ∀ k, (𝒳 k).N[i]? = some x := by intro _; rfl) (hj : ∀ k, (𝒳 k).N[j]? = some y := by intro _; rfl) (hl : ∀ k, (𝒳 k).N[l]? = some z := by intro _; rfl)
    (hij : i ≠ j := by decide) (hil : i ≠ l := by decide) (hjl : j ≠ l := by decide)
    (hx : ∀ k, (𝒳 k).env.scope.names.lookup x = some .local := by intro _; rfl) (hy : ∀ k, (𝒳 k).env.scope.names.lookup y = some .local := by intro _; rfl) (hz : ∀ k, (𝒳 k).env.scope.names.lookup z = some .local := by intro _; rfl)
    (hw : ∀ k, swappedStores [.Tuple [.Name x px, .Name y py, .Name z pz] kt pt] (.Tuple [a, b, d] k2 pt2) (𝒳 k).env = pure (some [x, y, z]) := by intro _; rfl)
    (hs : ∀ k, swapsWithSole [.Tuple [.Name x px, .Name y py, .Name z pz] kt pt] (.Tuple [a, b, d] k2 pt2) pos.line (𝒳 k).env = pure false := by intro _; rfl) : DS 𝒳 G (.Assign [.Tuple [.Name x px, .Name y py, .Name z pz] kt pt] (.Tuple [a, b, d] k2 pt2) pos) (evPar3 i j l R) := by
  obtain ⟨t, p, r⟩ := ha
  refine ⟨_, fun k => ps_par3 (hc k) (hN k) (hi k) (hj k) (hl k) hij hil hjl (hx k) (hy k) (hz k) (p k) (hw k) (hs k), fun c σ δ D s w h => ?_⟩
  refine r c σ δ _ s w (wpM_mono (wpM_bind.mp h) (fun us W1 h1 xs c1 hw e1 w1 r1 => ?_) fun _ _ q => q)
  match us, r1, h1 with
  | [], _, h => exact h.elim
  | [_], _, h => exact h.elim
  | [_, _], _, h => exact h.elim
  | [u, v, z], r1, h =>
    obtain ⟨x1, x2, x3, rfl, q1, q2, q3⟩ := vs3 r1
    exact ⟨x1, x2, x3, rfl, h _ c1 hw e1 w1 ((((s.mono e1).set i q1).set j q2).set l q3)⟩
  | _ :: _ :: _ :: _ :: _, _, h => exact h.elim
/-- name op= e, ints -/
def evAug (i : Nat) (g : Int → Int → Int) (F : Env → M RV) (δ : Env) : M (Fl × Env) := (evVar i δ).bind fun u => (F δ).bind fun v => (M.opt (int2 u v)).bind fun p => M.ret (.nx, δ.set i (some (.d (.int (g p.1 p.2)))))
theorem ds_aug (i : Nat) {x : Str} {op : Operator} {g : Int → Int → Int} {pos' : Pos} (hN : ∀ k, (𝒳 k).N.Nodup) (hp : ∀ k, PIp (𝒳 k) op (ipI g)) (he : DE 𝒳 G e Fe) (hi : ∀ k, (𝒳 k).N[i]? = some x := by intro _; rfl) (hx : ∀ k, Loc (𝒳 k).env.scope x := by intro _; first | exact Or.inl rfl | exact Or.inr rfl)
    (hf : ∀ k, (𝒳 k).fn x = true ∨ (𝒳 k).env.scope.names.lookup x = some .local := by intro _; first | exact .inl rfl | exact .inr rfl) : DS 𝒳 G (.AugAssign (.Name x pos') op e pos) (evAug i g Fe) := by
  obtain ⟨t, p, r⟩ := he
  refine ⟨_, fun k => ps_aug (hN k) (hi k) (hx k) (p k) (hp k) (hf k), fun c σ δ D s w h => ?_⟩
  obtain ⟨u, e1, q⟩ := wpM_opt (wpM_bind.mp h)
  have e2 : δ[i]? = some (some u) := by
    cases z : δ[i]? with
    | none => rw [z] at e1; simp at e1
    | some y => rw [z] at e1; simp at e1; rw [e1]
  obtain ⟨v, h1, h2⟩ := s.get i u e2
  refine ⟨v, h1, r c σ δ _ s w (wpM_mono (wpM_bind.mp q) (fun u2 W1 q1 x1 c1 hw e3 w1 r1 => ?_) fun _ _ q => q)⟩
  obtain ⟨⟨m, n⟩, e4, q2⟩ := wpM_opt (wpM_bind.mp q1)
  obtain ⟨rfl, rfl⟩ := int2_ok e4
  exact ⟨m, n, h2, r1, q2 _ c1 hw e3 w1 ((s.mono e3).set (rv := .d (.int (g m n))) i rfl)⟩
def evIfS (T : Env → M Bool) (S1 S2 : Env → M (Fl × Env)) (δ : Env) : M (Fl × Env) := (T δ).bind fun b => if b then S1 δ else S2 δ
theorem ds_if {c : Expr} (hc : DT 𝒳 G c Tc) (h1 : DSs 𝒳 G ss1 S1) (h2 : DSs 𝒳 G ss2 S2) : DS 𝒳 G (.If c ss1 ss2 pos) (evIfS Tc S1 S2) := by
  obtain ⟨tc, pc, rc⟩ := hc
  obtain ⟨t, pt, rt⟩ := h1
  obtain ⟨u, pu, ru⟩ := h2
  refine ⟨_, fun i => ps_if (pc i) (pt i) (pu i), fun c σ δ D s w h => ?_⟩
  refine rc c σ δ _ s w (wpM_mono (wpM_bind.mp h) (fun k W1 h1 c1 hw e1 w1 => ?_) fun _ _ q => q)
  subst hw
  cases k with
  | true => exact rt c1 σ δ D (s.mono e1) w1 (wpM_mono h1 (fun _ _ q => q.mono e1) fun _ _ q => q.mono e1)
  | false => exact ru c1 σ δ D (s.mono e1) w1 (wpM_mono h1 (fun _ _ q => q.mono e1) fun _ _ q => q.mono e1)
/-! ### while, by fuel -/
def evWhile (T : Env → M Bool) (B : Env → M (Fl × Env)) : Nat → Env → M (Fl × Env)
  | 0, _ => M.fail
  | n + 1, δ => (T δ).bind fun b => if b then (B δ).bind fun p => match p.1 with
    | .nx => evWhile T B n p.2
    | .ct => evWhile T B n p.2
    | .bk => M.ret (.nx, p.2)
    | .rt v => M.ret (.rt v, p.2)
    else M.ret (.nx, δ)
theorem ds_while (n : Nat) {c : Expr} {body : List Stmt} {B : Env → M (Fl × Env)} (hp : ∀ i, PassesOwn (model (𝒳 i).prog (𝒳 i).w) (𝒳 i).A (𝒳 i).env (𝒳 i).xe) (hc : DT 𝒳 G c Tc) (hb : DSs 𝒳 G body B) : DS 𝒳 G (.While c body [] pos) (evWhile Tc B n) := by
  obtain ⟨tc, pc, rc⟩ := hc
  obtain ⟨t, pt, rt⟩ := hb
  refine ⟨_, fun i => ps_while (hp i) (pc i) (pt i), fun c σ δ D s w h => ?_⟩
  refine ⟨fun m σ H => ∃ c2 δ2, c2.H = H ∧ Ext c c2 ∧ WOk c2 ∧ SOk σ δ2 c2 ∧ wpM (evWhile Tc B m δ2) c2.W (QS c2 D) (QE G c2), ⟨n, c, δ, rfl, Ext.refl c, w, s, h⟩, ?_⟩
  rintro m σ H ⟨c2, δ2, rfl, e2, w2, s2, h2⟩
  cases m with
  | zero => exact h2.elim
  | succ m =>
    refine rc c2 σ δ2 _ s2 w2 (wpM_mono (wpM_bind.mp h2) (fun k W1 h1 c1 hw e1 w1 => ?_) fun _ _ q => q)
    subst hw
    cases k with
    | false => exact h1 σ c1 rfl e1 w1 (s2.mono e1)
    | true =>
      show (if true = true then _ else _)
      rw [if_pos rfl]
      refine ⟨fun σ' H' => ∃ c3 δ3, c3.H = H' ∧ Ext c c3 ∧ WOk c3 ∧ SOk σ' δ3 c3 ∧ wpM (evWhile Tc B m δ3) c3.W (QS c3 D) (QE G c3), fun σ' H' z => ⟨m, Nat.lt_succ_self m, z⟩, ?_⟩
      refine rt c1 σ δ2 _ (s2.mono e1) w1 (wpM_mono (wpM_bind.mp h1) (fun p W3 h3 => ?_) fun _ _ q => q.mono e1)
      obtain ⟨f, δ3⟩ := p
      cases f with
      | nx =>
        intro σ' c3 hw e3 w3 s3
        subst hw
        exact ⟨c3, δ3, rfl, (e2.trans e1).trans e3, w3, s3, wpM_mono h3 (fun _ _ q => (q.mono e1).mono e3) fun _ _ q => (q.mono e1).mono e3⟩
      | ct =>
        intro σ' c3 hw e3 w3 s3
        subst hw
        exact ⟨c3, δ3, rfl, (e2.trans e1).trans e3, w3, s3, wpM_mono h3 (fun _ _ q => (q.mono e1).mono e3) fun _ _ q => (q.mono e1).mono e3⟩
      | bk => exact fun σ' c3 hw e3 w3 s3 => h3 σ' c3 hw (e1.trans e3) w3 s3
      | rt v => exact fun x c3 hw e3 w3 r3 => h3 x c3 hw (e1.trans e3) w3 r3
end
end DL
set_option Elab.async false
set_option linter.all false
set_option maxRecDepth 100000
set_option maxHeartbeats 4000000
/-! DL9: enumerate of a text, of a tuple (over the library's own rules of iterators). -/
namespace DL
open PySem PySem.Spec PyProof.Rows L2
/-- the text's signs, each in a new pair -/
def IteS (x : Str) : It := ⟨fun i _ => i < x.cps.size, fun i H v H' => ∃ T ch, v = .ref T ∧ H T = none ∧ H' = upd H T (.tup [.int (i : Nat), .str ⟨#[ch]⟩]) ∧ x.cps[i]? = some ch, fun i _ => x.cps.size ≤ i⟩
theorem turn_enumS {P : Program} {w : PySem.World} {K : PySem.W.Frag} {elts : List Expr} {kk : Nat} {tpos : Pos} (x : Str) (t : Tok) (e it : Addr) :
    Turn P w K (.Tuple elts kk tpos) (IteS x) [e, it] e (fun i h => i ≤ x.cps.size ∧ (∃ old, IsEnum h e it ((i : Nat) : Int) old) ∧ h.IsStrIter it (strIterType x) x t i ∧ e ≠ it) where
  mem := by simp
  obj := fun i h st b hb => by
    obtain ⟨_, ⟨old, he⟩, ⟨o, ho, hc, hd⟩, _⟩ := st
    have e' : b = e ∨ b = it := by simpa using hb
    rcases e' with z | z
    · rw [z]; exact ⟨_, he, fun v q => nomatch q⟩
    · rw [z]; exact ⟨o, ho, fun v q => by rw [hd] at q; cases q⟩
  keep := fun i h h' st k => let ⟨hle, ⟨old, he⟩, ⟨o, ho, r⟩, hne⟩ := st; ⟨hle, ⟨old, k e (by simp) _ he⟩, ⟨o, k it (by simp) o ho, r⟩, hne⟩
  item := by
    intro X hP hw hK hc i pins s σ H E I hf st hg
    subst hP hw hK
    obtain ⟨_, ⟨old, he⟩, hit, hne⟩ := st
    have hel : e < s.heap.objs.size := Heap.lt_size he
    have hil : it < s.heap.objs.size := by obtain ⟨_, q, _⟩ := hit; exact Heap.lt_size q
    have Dr := Draws.text (prog := X.prog) (w := X.w) (A := X.A.in1) (show X.A.in1.handled = none from I.ok.hd hc) it x t
    refine wpAny_pyNext_enum_itemD (St := fun i h => h.IsStrIter it (strIterType x) x t i) Dr he hit hg hne (by simpa using hne) fun u h' tk hP ho hit' hT hsz hk => ?_
    obtain ⟨ch, tu, hx, rfl⟩ := hP
    refine ⟨_, rfl, wpAny_letOwnedTupleGo_enum (s := { s with heap := h', toks := tk + 1 }) ho fun h'' he' sb => ?_⟩
    have hT2 : h''.get? s.heap.objs.size = some { cls := .type "tuple", data := .seq #[.int i tk, .str ⟨#[ch]⟩ tu] } := (sb.2 _ (Nat.ne_of_gt hel)).trans hT
    have new : ObjOk X.prog X.w (upd H s.heap.objs.size (.tup [.int (i : Nat), .str ⟨#[ch]⟩])) h'' s.heap.objs.size (.tup [.int (i : Nat), .str ⟨#[ch]⟩]) :=
      ⟨by show 2 ≤ sizeLine; decide, [.int i tk, .str ⟨#[ch]⟩ tu], .cons ⟨_, rfl⟩ (.cons ⟨_, rfl⟩ .nil), ⟨_, hT2, rfl, _, rfl⟩⟩
    have I1 : Inv X pins σ (upd H s.heap.objs.size (.tup [.int (i : Nat), .str ⟨#[ch]⟩])) { s with heap := h'', toks := tk + 1 } :=
      I.turnedNew (ch := [e, it]) (fun b ob hb q => (sb.2 b (fun z => hb (by simp [z]))).trans (hk b ob (fun z => hb (by simp [z])) (fun z => hb (by simp [z])) q)) hf (Nat.le_refl _) new
    refine ⟨.ref s.heap.objs.size, _, I1, rfl, ⟨_, ch, rfl, I.hok.fresh (Nat.le_refl _), rfl, hx⟩, ⟨by have : i < x.cps.size := hg; omega, ⟨.str ⟨#[ch]⟩ tu, ?_⟩, (let ⟨o, q, r⟩ := hit'; ⟨o, (sb.2 it (Ne.symm hne)).trans q, r⟩), hne⟩, fun b hb => ?_⟩
    · have e1 : ((i + 1 : Nat) : Int) = (i : Int) + 1 := by omega
      rw [e1]; exact he'
    · have hb' : b < s.heap.objs.size := by
        have e' : b = e ∨ b = it := by simpa using hb
        rcases e' with z | z
        · rw [z]; exact hel
        · rw [z]; exact hil
      rw [upd_ne (Nat.ne_of_lt hb')]
      exact (hf b hb).1
  done := by
    intro X hP hw hK hc i pins s σ H E I hf st hg
    subst hP hw hK
    obtain ⟨hle, ⟨old, he⟩, hit, hne⟩ := st
    have e1 : i = x.cps.size := Nat.le_antisymm hle hg
    subst e1
    obtain ⟨f0, f1, f2, f3, f4, f5⟩ := hf it (by simp)
    have Dr := Draws.text (prog := X.prog) (w := X.w) (A := X.A.in1) (show X.A.in1.handled = none from I.ok.hd hc) it x t
    exact wpAny_pyNext_enum_endD (St := fun i h => h.IsStrIter it (strIterType x) x t i) Dr he hit fun h' eb => ⟨rfl, I.turned (t' := s.toks) (fun b o hb q => eb b o hb q) f0 f1 f3 f4 f5⟩
  self := fun A i s Q E st h => let ⟨_, ⟨_, he⟩, _⟩ := st; wpAny_pyIter_enum he h
def iEnumS (ta : TA) : TI := fun σ H R => ta σ H fun vs H1 => ∃ x, vs = [.str x] ∧ R (IteS x) H1
theorem pi_enumS {X : Cx} {e : Expr} {ta : TA} {p pos tpos : Pos} {elts : List Expr} {kk : Nat} (hg : Gl X "enumerate") (hm : X.mg "enumerate" = none) (ha : PA X [e] ta) (hs : starEach [e] X.env = [(false, eval e X.env)] := by rfl) :
    PI X (.Tuple elts kk tpos) (.Call (.Name "enumerate" p) [e] [] pos) (iEnumS ta) := by
  refine ⟨fun pins s σ H R I h => ?_⟩
  refine Call_ (ld_blt I hg hm boot_enumerate (PyProof.Rows.callWith_type1 (thn (ha.run pos pins s σ H _ I h) fun us s1 ⟨vs, H1, I1, r1, q1⟩ => ?_) hs rfl))
  obtain ⟨x, ex, q⟩ := q1
  subst ex
  cases r1 with
  | cons r rr =>
    cases rr
    obtain ⟨t, rfl⟩ := r
    refine call_enumerate_str fun h' he hit hsz hk => wpAny_pyIter_enum he ?_
    have I2 : Inv X pins σ H1 { s1 with heap := h' } := I1.kept (t' := s1.toks) hk
    refine ⟨s1.heap.objs.size + 1, [s1.heap.objs.size + 1, s1.heap.objs.size], _, _, H1, rfl, I2, turn_enumS x t (s1.heap.objs.size + 1) s1.heap.objs.size, ⟨Nat.zero_le _, ⟨.none, he⟩, hit, Nat.succ_ne_self _⟩, fun b hb => ?_, q⟩
    have e' : b = s1.heap.objs.size + 1 ∨ b = s1.heap.objs.size := by simpa using hb
    have hle : s1.heap.objs.size ≤ b := by
      rcases e' with z | z
      · rw [z]; exact Nat.le_add_right _ _
      · rw [z]; exact Nat.le_refl _
    exact I1.fpOk hle (I1.hok.fresh hle)
end DL
set_option Elab.async false
set_option linter.all false
set_option maxRecDepth 100000
set_option maxHeartbeats 4000000
/-! DL10: what a for walks; for; comprehensions. -/
namespace DL
open PySem PySem.Spec PyProof.Rows L2 RZ
/-- the turns of J over the data ds, from c on -/
def Src (c : Cf) (J : It) (ds : List D) : Prop := ∃ (Gd : Hp → Prop) (Y : Nat → Hp → V → Hp → Prop), Walk J ds.length Gd Y ∧ (∀ c2, Wk c c2 → Gd c2.H) ∧
  ∀ (i : Nat) (x : V) (H2 : Hp) (c2 : Cf) (d : D), ds[i]? = some d → Wk c c2 → WOk c2 → Y i c2.H x H2 → ∃ c3, c3.H = H2 ∧ c3.W = c2.W ∧ Ext c2 c3 ∧ WOk c3 ∧ Rep c3 d x
theorem src_list {c : Cf} {K : PySem.W.Frag} {a : Addr} {xs : List D} (r : Rep c (.lst xs) (.ref a)) : Src c (Itl K a) xs := by
  obtain ⟨a', vs, e, h, n, r⟩ := r
  cases e
  refine ⟨_, _, by rw [repL_len r]; exact walk_list (xs := vs), fun c2 k => SqL.of (k.at h n), fun i x H2 c2 d hd k w y => ?_⟩
  obtain ⟨rfl, hx⟩ := y
  obtain ⟨v, hv, rv⟩ := repL_get r hd
  rw [hv] at hx
  cases hx
  exact ⟨c2, rfl, rfl, Ext.refl c2, w, Rep.monoW k _ _ rv⟩
theorem src_tup {c : Cf} {K : PySem.W.Frag} {a : Addr} {xs : List D} (r : Rep c (.tup xs) (.ref a)) : Src c (Itt K a) xs := by
  obtain ⟨a', vs, e, h, n, r⟩ := r
  cases e
  refine ⟨_, _, by rw [repL_len r]; exact walk_tup (xs := vs), fun c2 k => SqT.of (k.at h n), fun i x H2 c2 d hd k w y => ?_⟩
  obtain ⟨rfl, hx⟩ := y
  obtain ⟨v, hv, rv⟩ := repL_get r hd
  rw [hv] at hx
  cases hx
  exact ⟨c2, rfl, rfl, Ext.refl c2, w, Rep.monoW k _ _ rv⟩
theorem src_str {c : Cf} {z : Str} : Src c (Its z) (charsOf z) := by
  refine ⟨_, _, by unfold charsOf; rw [List.length_map, Array.length_toList]; exact walk_str (z := z), fun c2 k => trivial, fun i x H2 c2 d hd k w y => ?_⟩
  obtain ⟨rfl, ch, hx, rfl⟩ := y
  refine ⟨c2, rfl, rfl, Ext.refl c2, w, ?_⟩
  unfold charsOf at hd
  rw [List.getElem?_map, Array.getElem?_toList, hx] at hd
  cases hd
  rfl
/-- lo, lo + 1, .. -/
def intsFrom (lo : Int) (n : Nat) : List D := (List.range n).map fun i => D.int (lo + (i : Nat))
theorem src_range {c : Cf} {lo : Int} {n : Nat} : Src c (Itr lo n) (intsFrom lo n) := by
  refine ⟨_, _, by unfold intsFrom; rw [List.length_map, List.length_range]; exact walk_range, fun c2 k => trivial, fun i x H2 c2 d hd k w y => ?_⟩
  obtain ⟨rfl, rfl⟩ := y
  refine ⟨c2, rfl, rfl, Ext.refl c2, w, ?_⟩
  unfold intsFrom at hd
  rw [List.getElem?_map] at hd
  cases e : (List.range n)[i]? with
  | none => rw [e] at hd; simp at hd
  | some j =>
    rw [e] at hd
    have hj := List.getElem?_eq_some_iff.mp e
    obtain ⟨h1, h2⟩ := hj
    rw [List.getElem_range] at h2
    subst h2
    cases hd
    rfl
theorem lay_pair {c2 : Cf} {T : Addr} {x y : V} {a b : D} (w : WOk c2) (hT : c2.H T = none) (ra : Rep c2 a x) (rb : Rep c2 b y) : ∃ c3, c3.H = upd c2.H T (.tup [x, y]) ∧ c3.W = c2.W ∧ Ext c2 c3 ∧ WOk c3 ∧ Rep c3 (.tup [a, b]) (.ref T) := by
  obtain ⟨e, w3⟩ := w.lay (o := .tup [x, y]) hT
  exact ⟨c2.lay T (.tup [x, y]), rfl, rfl, e, w3, T, [x, y], rfl, upd_same, w.layAv hT, x, [y], rfl, Rep.mono e _ _ ra, y, [], rfl, Rep.mono e _ _ rb, rfl⟩
def enumD (xs : List D) : List D := xs.zipIdx.map fun p => D.tup [.int (p.2 : Nat), p.1]
theorem enumD_get {xs : List D} {i : Nat} {d : D} (h : (enumD xs)[i]? = some d) : ∃ x, xs[i]? = some x ∧ d = .tup [.int (i : Nat), x] := by
  unfold enumD at h
  rw [List.getElem?_map, List.getElem?_zipIdx] at h
  cases e : xs[i]? with
  | none => rw [e] at h; simp at h
  | some x => rw [e] at h; simp at h; exact ⟨x, rfl, h.symm⟩
theorem enumD_len {xs : List D} : (enumD xs).length = xs.length := by unfold enumD; rw [List.length_map, List.length_zipIdx]
theorem src_enum {c : Cf} {K : PySem.W.Frag} {a : Addr} {xs : List D} (r : Rep c (.lst xs) (.ref a)) : Src c (Ite K a) (enumD xs) := by
  obtain ⟨a', vs, e, h, n, r⟩ := r
  cases e
  refine ⟨_, _, by rw [enumD_len, repL_len r]; exact walk_enum (xs := vs), fun c2 k => SqL.of (k.at h n), fun i x H2 c2 d hd k w y => ?_⟩
  obtain ⟨T, p, q, rfl, hT, rfl, e1, e2⟩ := y
  dsimp only at e1 e2
  obtain ⟨x, hx, rfl⟩ := enumD_get hd
  obtain ⟨v, hv, rv⟩ := repL_get r hx
  rw [hv] at e2
  cases e2
  cases e1
  exact lay_pair w hT rfl (Rep.monoW k _ _ rv)
theorem walk_enumS {z : Str} : Walk (IteS z) z.cps.size (fun _ => True) (YPair (fun i => some (.int (i : Nat))) (fun i => z.cps[i]?.map fun ch => V.str ⟨#[ch]⟩)) := by
  refine ⟨fun _ _ hi _ => hi, fun _ _ => Nat.le_refl _, fun i H v H' _ _ y => ?_⟩
  obtain ⟨T, ch, h1, h2, h3, h4⟩ := y
  exact ⟨T, .int (i : Nat), .str ⟨#[ch]⟩, h1, h2, h3, rfl, by dsimp only; rw [h4]; rfl⟩
theorem src_enumS {c : Cf} {z : Str} : Src c (IteS z) (enumD (charsOf z)) := by
  refine ⟨_, _, by rw [enumD_len]; unfold charsOf; rw [List.length_map, Array.length_toList]; exact walk_enumS (z := z), fun c2 k => trivial, fun i x H2 c2 d hd k w y => ?_⟩
  obtain ⟨T, p, q, rfl, hT, rfl, e1, e2⟩ := y
  dsimp only at e1 e2
  obtain ⟨x, hx, rfl⟩ := enumD_get hd
  unfold charsOf at hx
  rw [List.getElem?_map, Array.getElem?_toList] at hx
  cases e : z.cps[i]? with
  | none => rw [e] at hx; simp at hx
  | some ch =>
    rw [e] at hx e2
    cases hx
    cases e2
    cases e1
    exact lay_pair w hT rfl rfl
def zipD (xs ys : List D) : List D := (xs.zip ys).map fun p => D.tup [p.1, p.2]
theorem zipD_get {xs ys : List D} {i : Nat} {d : D} (h : (zipD xs ys)[i]? = some d) : ∃ x y, xs[i]? = some x ∧ ys[i]? = some y ∧ d = .tup [x, y] := by
  unfold zipD at h
  rw [List.getElem?_map] at h
  cases e : (xs.zip ys)[i]? with
  | none => rw [e] at h; simp at h
  | some p =>
    rw [e] at h
    obtain ⟨h1, h2⟩ := List.getElem?_zip_eq_some.mp e
    simp at h
    exact ⟨p.1, p.2, h1, h2, h.symm⟩
theorem zipD_len {xs ys : List D} : (zipD xs ys).length = min xs.length ys.length := by unfold zipD; rw [List.length_map, List.length_zip]
theorem src_zip {c : Cf} {K : PySem.W.Frag} {a b : Addr} {xs ys : List D} (r : Rep c (.lst xs) (.ref a)) (r2 : Rep c (.lst ys) (.ref b)) : Src c (Itz K a b) (zipD xs ys) := by
  obtain ⟨a', vs, e, h, n, r⟩ := r
  cases e
  obtain ⟨b', ws, e, h2, n2, r2⟩ := r2
  cases e
  refine ⟨_, _, walk_zip (xs := vs) (ys := ws) (by rw [zipD_len, repL_len r, repL_len r2]), fun c2 k => ⟨SqL.of (k.at h n), SqL.of (k.at h2 n2)⟩, fun i x H2 c2 d hd k w y => ?_⟩
  obtain ⟨T, p, q, rfl, hT, rfl, e1, e2⟩ := y
  dsimp only at e1 e2
  obtain ⟨x, y, hx, hy, rfl⟩ := zipD_get hd
  obtain ⟨v, hv, rv⟩ := repL_get r hx
  obtain ⟨v2, hv2, rv2⟩ := repL_get r2 hy
  rw [hv] at e1
  rw [hv2] at e2
  cases e1
  cases e2
  exact lay_pair w hT (Rep.monoW k _ _ rv) (Rep.monoW k _ _ rv2)
theorem walk_zipT {K : PySem.W.Frag} {a b : Addr} {xs ys : List V} {n : Nat} (hn : n = min xs.length ys.length) : Walk (ItzT K a b) n (fun H => SqT K H a xs ∧ SqT K H b ys) (YPair (fun i => xs[i]?) (fun i => ys[i]?)) := by
  subst hn
  refine ⟨fun i _ hi q => ?_, fun _ q => ⟨xs, ys, q.1, q.2, by omega⟩, fun i H v H' _ q y => ?_⟩
  · have h1 : i < xs.length := by omega
    have h2 : i < ys.length := by omega
    exact ⟨xs, ys, xs[i], ys[i], q.1, q.2, by simp [h1], by simp [h2]⟩
  · obtain ⟨T, x, z, h1, h2, h3, h4, h5⟩ := y
    exact ⟨T, x, z, h1, h2, h3, h4 xs q.1, h5 ys q.2⟩
theorem src_zipT {c : Cf} {K : PySem.W.Frag} {a b : Addr} {xs ys : List D} (r : Rep c (.tup xs) (.ref a)) (r2 : Rep c (.tup ys) (.ref b)) : Src c (ItzT K a b) (zipD xs ys) := by
  obtain ⟨a', vs, e, h, n, r⟩ := r
  cases e
  obtain ⟨b', ws, e, h2, n2, r2⟩ := r2
  cases e
  refine ⟨_, _, walk_zipT (xs := vs) (ys := ws) (by rw [zipD_len, repL_len r, repL_len r2]), fun c2 k => ⟨SqT.of (k.at h n), SqT.of (k.at h2 n2)⟩, fun i x H2 c2 d hd k w y => ?_⟩
  obtain ⟨T, p, q, rfl, hT, rfl, e1, e2⟩ := y
  dsimp only at e1 e2
  obtain ⟨x, y, hx, hy, rfl⟩ := zipD_get hd
  obtain ⟨v, hv, rv⟩ := repL_get r hx
  obtain ⟨v2, hv2, rv2⟩ := repL_get r2 hy
  rw [hv] at e1
  rw [hv2] at e2
  cases e1
  cases e2
  exact lay_pair w hT (Rep.monoW k _ _ rv) (Rep.monoW k _ _ rv2)
/-! ### what is walked -/
def RdI (G : Gh) (wi : TI) (S : Env → M (List D)) : Prop := ∀ (c : Cf) (σ : L2.St) (δ : Env) (R : It → Hp → Prop), SOk σ δ c → WOk c → wpM (S δ) c.W (fun ds W' => ∀ J c', c'.W = W' → Ext c c' → WOk c' → Src c' J ds → R J c'.H) (QE G c) → wi σ c.H R
section
variable {ι : Type} {𝒳 : ι → Cx} {G : Gh} {e a b tg : Expr} {Fe Fa Fb : Env → M RV} {pos : Pos} {R : Env → M (List RV)}
def DI (𝒳 : ι → Cx) (G : Gh) (tg e : Expr) (S : Env → M (List D)) : Prop := ∃ wi, (∀ i, PI (𝒳 i) tg e wi) ∧ RdI G wi S
theorem PI.or {X : Cx} {w1 w2 : TI} (h1 : PI X tg e w1) (h2 : PI X tg e w2) : PI X tg e (fun σ H R => w1 σ H R ∨ w2 σ H R) := ⟨fun pins s σ H R I h => h.elim (h1.run pins s σ H R I) (h2.run pins s σ H R I)⟩
def itemsOf : D → M (List D)
  | .lst xs => M.ret xs
  | .tup xs => M.ret xs
  | .str z => M.ret (charsOf z)
  | _ => M.fail
def evIter (Fe : Env → M RV) (δ : Env) : M (List D) := (Fe δ).bind fun u => (toD u).bind itemsOf
theorem wpM_val {α : Type} {m : M α} {W W' : Wd} {a : α} {Q : α → Wd → Prop} {E : DX → Wd → Prop} (e : m W = some (.ok a, W')) : wpM m W Q E ↔ Q a W' := by unfold wpM; rw [e]
theorem toD_noerr {u : RV} {W W' : Wd} {x : DX} : toD u W ≠ some (.error x, W') := by
  intro h
  cases u with
  | d y => cases h
  | r l =>
    simp only [toD] at h
    split at h
    · split at h <;> cases h
    · cases h
theorem di_any (hK : ∀ i, (𝒳 i).K = G.K) (h : DE 𝒳 G e Fe) : DI 𝒳 G tg e (evIter Fe) := by
  obtain ⟨t, p, r⟩ := h
  refine ⟨fun σ H R => iList G.K t σ H R ∨ iTup G.K t σ H R ∨ iStr t σ H R, fun i => ?_, fun c σ δ R s w h => ?_⟩
  · have h1 := pi_list (tg := tg) (p i)
    have h2 := pi_tup (tg := tg) (p i)
    rw [hK i] at h1 h2
    exact PI.or h1 (PI.or h2 (pi_str (p i)))
  have hb := wpM_bind.mp h
  cases hF : Fe δ c.W with
  | none => unfold wpM at hb; rw [hF] at hb; exact hb.elim
  | some q =>
    obtain ⟨z, W1⟩ := q
    cases z with
    | error x =>
      refine .inl (r c σ δ _ s w ?_)
      unfold wpM at hb ⊢
      rw [hF] at hb ⊢
      exact hb
    | ok u =>
      rw [wpM_val hF] at hb
      have hb2 := wpM_bind.mp hb
      cases hT : toD u W1 with
      | none => unfold wpM at hb2; rw [hT] at hb2; exact hb2.elim
      | some q2 =>
        obtain ⟨z2, W2⟩ := q2
        cases z2 with
        | error x => exact absurd hT toD_noerr
        | ok d =>
          rw [wpM_val hT] at hb2
          have go : ∀ (Q : VK), (∀ x c2, c2.W = W2 → Ext c c2 → WOk c2 → Rep c2 d x → Q x c2.H) → t σ c.H Q := fun Q hq => by
            refine r c σ δ Q s w ((wpM_val hF).mpr fun x c1 hw e1 w1 r1 => ?_)
            subst hw
            obtain ⟨c2, d2, h1, e2, w2, r2, h3⟩ := toD_ok (Q := fun d' W' => d' = d ∧ W' = W2) (E := fun _ _ => False) w1 r1 ((wpM_val hT).mpr ⟨rfl, rfl⟩)
            obtain ⟨rfl, h4⟩ := h3
            rw [← h1]
            exact hq x c2 h4 (e1.trans e2) w2 r2
          cases d <;> try exact hb2.elim
          case lst xs =>
            refine .inl (go _ fun x c2 hw e2 w2 r2 => ?_)
            have r2' := r2
            obtain ⟨a, vs, rfl, h1, _⟩ := r2'
            exact ⟨a, rfl, ⟨vs, SqL.of h1⟩, hb2 _ c2 hw e2 w2 (src_list r2)⟩
          case tup xs =>
            refine .inr (.inl (go _ fun x c2 hw e2 w2 r2 => ?_))
            have r2' := r2
            obtain ⟨a, vs, rfl, h1, _⟩ := r2'
            exact ⟨a, rfl, ⟨vs, SqT.of h1⟩, hb2 _ c2 hw e2 w2 (src_tup r2)⟩
          case str z =>
            refine .inr (.inr (go _ fun x c2 hw e2 w2 r2 => ?_))
            cases r2
            exact ⟨z, rfl, hb2 _ c2 hw e2 w2 src_str⟩
/-- range(n), range(a, b) -/
def evRange1 (R : Env → M (List RV)) (δ : Env) : M (List D) := (R δ).bind fun us => (M.opt (intsL us)).bind fun ns => match ns with
  | [j] => (M.guard (-(2 ^ 62) ≤ j ∧ j < 2 ^ 62)).bind fun _ => M.ret (intsFrom 0 j.toNat)
  | _ => M.fail
def evRange2 (R : Env → M (List RV)) (δ : Env) : M (List D) := (R δ).bind fun us => (M.opt (intsL us)).bind fun ns => match ns with
  | [i, j] => (M.guard (-(2 ^ 62) ≤ i ∧ i < 2 ^ 62 ∧ -(2 ^ 62) ≤ j ∧ j < 2 ^ 62)).bind fun _ => M.ret (intsFrom i (j - i).toNat)
  | _ => M.fail
theorem di_range1 {p : Pos} (hm : ∀ i, (𝒳 i).mg "range" = none) (ha : DA 𝒳 G [a] R) (hg : ∀ i, Gl (𝒳 i) "range" := by intro _; rfl) (hs : ∀ i, starEach [a] (𝒳 i).env = [(false, eval a (𝒳 i).env)] := by intro _; rfl) : DI 𝒳 G tg (.Call (.Name "range" p) [a] [] pos) (evRange1 R) := by
  obtain ⟨t, pt, rt⟩ := ha
  refine ⟨iRng1 t, fun i => pi_range1 (hg i) (hm i) (pt i) (hs i), fun c σ δ R' s w h => ?_⟩
  refine rt c σ δ _ s w (wpM_mono (wpM_bind.mp h) (fun us W1 h1 xs c1 hw e1 w1 r1 => ?_) fun _ _ q => q)
  obtain ⟨ns, e2, q⟩ := wpM_opt (wpM_bind.mp h1)
  match ns, e2, q with
  | [j], e2, q =>
    obtain ⟨⟨g1, g2⟩, q⟩ := wpM_guard (wpM_bind.mp q)
    have := intsL_ok e2 r1
    subst this
    exact ⟨j, rfl, g1, g2, q _ c1 hw e1 w1 src_range⟩
  | [], _, q => exact q.elim
  | _ :: _ :: _, _, q => exact q.elim
theorem di_range2 {p : Pos} (hm : ∀ i, (𝒳 i).mg "range" = none) (ha : DA 𝒳 G [a, b] R) (hg : ∀ i, Gl (𝒳 i) "range" := by intro _; rfl) (hs : ∀ i, starEach [a, b] (𝒳 i).env = [(false, eval a (𝒳 i).env), (false, eval b (𝒳 i).env)] := by intro _; rfl) (hs2 : ∀ i, starEach [b] (𝒳 i).env = [(false, eval b (𝒳 i).env)] := by intro _; rfl) :
    DI 𝒳 G tg (.Call (.Name "range" p) [a, b] [] pos) (evRange2 R) := by
  obtain ⟨t, pt, rt⟩ := ha
  refine ⟨iRng2 t, fun i => pi_range2 (hg i) (hm i) (pt i) (hs i) (hs2 i), fun c σ δ R' s w h => ?_⟩
  refine rt c σ δ _ s w (wpM_mono (wpM_bind.mp h) (fun us W1 h1 xs c1 hw e1 w1 r1 => ?_) fun _ _ q => q)
  obtain ⟨ns, e2, q⟩ := wpM_opt (wpM_bind.mp h1)
  match ns, e2, q with
  | [i, j], e2, q =>
    obtain ⟨g1, q⟩ := wpM_guard (wpM_bind.mp q)
    have := intsL_ok e2 r1
    subst this
    exact ⟨i, j, rfl, g1, q _ c1 hw e1 w1 src_range⟩
  | [], _, q => exact q.elim
  | [_], _, q => exact q.elim
  | _ :: _ :: _ :: _, _, q => exact q.elim
/-- enumerate(a list, a text) -/
def itemsE : D → M (List D)
  | .lst xs => M.ret (enumD xs)
  | .str z => M.ret (enumD (charsOf z))
  | _ => M.fail
def evEnum (R : Env → M (List RV)) (δ : Env) : M (List D) := (R δ).bind fun us => match us with
  | [u] => (toD u).bind itemsE
  | _ => M.fail
/-- an argument list of one thing that is then made pure: what comes is known ahead -/
theorem args1 {t : TA} {c : Cf} {σ : L2.St} {δ : Env} {F : D → M (List D)} {Q0 : List D → Wd → Prop} (r : RdA G t R) (s : SOk σ δ c) (w : WOk c) (h : wpM ((R δ).bind fun us => match us with | [u] => (toD u).bind F | _ => M.fail) c.W Q0 (QE G c)) :
    (∀ Q, t σ c.H Q) ∨ ∃ d W2, wpM (F d) W2 Q0 (QE G c) ∧ ∀ (Q : List V → Hp → Prop), (∀ x c2, c2.W = W2 → Ext c c2 → WOk c2 → Rep c2 d x → Q [x] c2.H) → t σ c.H Q := by
  have hb := wpM_bind.mp h
  cases hF : R δ c.W with
  | none => unfold wpM at hb; rw [hF] at hb; exact hb.elim
  | some q =>
    obtain ⟨z, W1⟩ := q
    cases z with
    | error x =>
      refine .inl fun Q => r c σ δ Q s w ?_
      unfold wpM at hb ⊢
      rw [hF] at hb ⊢
      exact hb
    | ok us =>
      rw [wpM_val hF] at hb
      match us, hF, hb with
      | [], _, hb => exact hb.elim
      | [u], hF, hb =>
        have hb2 := wpM_bind.mp hb
        cases hT : toD u W1 with
        | none => unfold wpM at hb2; rw [hT] at hb2; exact hb2.elim
        | some q2 =>
          obtain ⟨z2, W2⟩ := q2
          cases z2 with
          | error x => exact absurd hT toD_noerr
          | ok d =>
            rw [wpM_val hT] at hb2
            refine .inr ⟨d, W2, hb2, fun Q hq => ?_⟩
            refine r c σ δ Q s w ((wpM_val hF).mpr fun xs c1 hw e1 w1 r1 => ?_)
            subst hw
            obtain ⟨x, rfl, r1'⟩ := vs1 r1
            obtain ⟨c2, d2, h1, e2, w2, r2, h3⟩ := toD_ok (Q := fun d' W' => d' = d ∧ W' = W2) (E := fun _ _ => False) w1 r1' ((wpM_val hT).mpr ⟨rfl, rfl⟩)
            obtain ⟨rfl, h4⟩ := h3
            rw [← h1]
            exact hq x c2 h4 (e1.trans e2) w2 r2
      | _ :: _ :: _, _, hb => exact hb.elim
theorem di_enum {p tpos : Pos} {elts : List Expr} {kk : Nat} (hK : ∀ i, (𝒳 i).K = G.K) (hm : ∀ i, (𝒳 i).mg "enumerate" = none) (ha : DA 𝒳 G [a] R) (hg : ∀ i, Gl (𝒳 i) "enumerate" := by intro _; rfl) (hs : ∀ i, starEach [a] (𝒳 i).env = [(false, eval a (𝒳 i).env)] := by intro _; rfl) :
    DI 𝒳 G (.Tuple elts kk tpos) (.Call (.Name "enumerate" p) [a] [] pos) (evEnum R) := by
  obtain ⟨t, pt, rt⟩ := ha
  refine ⟨fun σ H R => iEnum G.K t σ H R ∨ iEnumS t σ H R, fun i => ?_, fun c σ δ R' s w h => ?_⟩
  · have h1 := pi_enum (tpos := tpos) (elts := elts) (kk := kk) (p := p) (pos := pos) (hg i) (hm i) (pt i) (hs i)
    rw [hK i] at h1
    exact PI.or h1 (pi_enumS (hg i) (hm i) (pt i) (hs i))
  rcases args1 rt s w h with h1 | ⟨d, W2, h1, go⟩
  · exact .inl (h1 _)
  · cases d <;> try exact h1.elim
    case lst xs =>
      refine .inl (go _ fun x c2 hw e2 w2 r2 => ?_)
      have r2' := r2
      obtain ⟨a, vs, rfl, h2, _⟩ := r2'
      exact ⟨a, vs, rfl, SqL.of h2, h1 _ c2 hw e2 w2 (src_enum r2)⟩
    case str z =>
      refine .inr (go _ fun x c2 hw e2 w2 r2 => ?_)
      cases r2
      exact ⟨z, rfl, h1 _ c2 hw e2 w2 src_enumS⟩
/-- zip of two lists, of two tuples -/
def itemsZ : D → D → M (List D)
  | .lst xs, .lst ys => M.ret (zipD xs ys)
  | .tup xs, .tup ys => M.ret (zipD xs ys)
  | _, _ => M.fail
def evZip (R : Env → M (List RV)) (δ : Env) : M (List D) := (R δ).bind fun us => match us with
  | [u, v] => (toD u).bind fun x => (toD v).bind fun y => itemsZ x y
  | _ => M.fail
theorem args2 {t : TA} {c : Cf} {σ : L2.St} {δ : Env} {F : D → D → M (List D)} {Q0 : List D → Wd → Prop} (r : RdA G t R) (s : SOk σ δ c) (w : WOk c) (h : wpM ((R δ).bind fun us => match us with | [u, v] => (toD u).bind fun x => (toD v).bind fun y => F x y | _ => M.fail) c.W Q0 (QE G c)) :
    (∀ Q, t σ c.H Q) ∨ ∃ d d' W2, wpM (F d d') W2 Q0 (QE G c) ∧ ∀ (Q : List V → Hp → Prop), (∀ x y c2, c2.W = W2 → Ext c c2 → WOk c2 → Rep c2 d x → Rep c2 d' y → Q [x, y] c2.H) → t σ c.H Q := by
  have hb := wpM_bind.mp h
  cases hF : R δ c.W with
  | none => unfold wpM at hb; rw [hF] at hb; exact hb.elim
  | some q =>
    obtain ⟨z, W1⟩ := q
    cases z with
    | error x =>
      refine .inl fun Q => r c σ δ Q s w ?_
      unfold wpM at hb ⊢
      rw [hF] at hb ⊢
      exact hb
    | ok us =>
      rw [wpM_val hF] at hb
      match us, hF, hb with
      | [], _, hb => exact hb.elim
      | [_], _, hb => exact hb.elim
      | [u, v], hF, hb =>
        have hb2 := wpM_bind.mp hb
        cases hT : toD u W1 with
        | none => unfold wpM at hb2; rw [hT] at hb2; exact hb2.elim
        | some q2 =>
          obtain ⟨z2, W2⟩ := q2
          cases z2 with
          | error x => exact absurd hT toD_noerr
          | ok d =>
            rw [wpM_val hT] at hb2
            have hb3 := wpM_bind.mp hb2
            cases hT2 : toD v W2 with
            | none => unfold wpM at hb3; rw [hT2] at hb3; exact hb3.elim
            | some q3 =>
              obtain ⟨z3, W3⟩ := q3
              cases z3 with
              | error x => exact absurd hT2 toD_noerr
              | ok d' =>
                rw [wpM_val hT2] at hb3
                refine .inr ⟨d, d', W3, hb3, fun Q hq => ?_⟩
                refine r c σ δ Q s w ((wpM_val hF).mpr fun xs c1 hw e1 w1 r1 => ?_)
                subst hw
                obtain ⟨x, y, rfl, r1', r2⟩ := vs2 r1
                obtain ⟨c2, d2, h1, e2, w2, r3, h3⟩ := toD_ok (Q := fun d' W' => d' = d ∧ W' = W2) (E := fun _ _ => False) w1 r1' ((wpM_val hT).mpr ⟨rfl, rfl⟩)
                obtain ⟨rfl, h4⟩ := h3
                subst h4
                obtain ⟨c3, d3, h5, e3, w3, r4, h6⟩ := toD_ok (Q := fun d0 W' => d0 = d' ∧ W' = W3) (E := fun _ _ => False) w2 (r2.mono e2) ((wpM_val hT2).mpr ⟨rfl, rfl⟩)
                obtain ⟨rfl, h7⟩ := h6
                rw [← h1, ← h5]
                exact hq x y c3 h7 ((e1.trans e2).trans e3) w3 (Rep.mono e3 _ _ r3) r4
      | _ :: _ :: _ :: _, _, hb => exact hb.elim
theorem di_zip {p tpos : Pos} {elts : List Expr} {kk : Nat} (hK : ∀ i, (𝒳 i).K = G.K) (hm : ∀ i, (𝒳 i).mg "zip" = none) (ha : DA 𝒳 G [a, b] R) (hg : ∀ i, Gl (𝒳 i) "zip" := by intro _; rfl)
    (hs : ∀ i, starEach [a, b] (𝒳 i).env = (false, eval a (𝒳 i).env) :: starEach [b] (𝒳 i).env := by intro _; rfl) (hpl : ∀ i, (backTo pos (starEach [b] (𝒳 i).env)).any (·.1) = false := by intro _; rfl) :
    DI 𝒳 G (.Tuple elts kk tpos) (.Call (.Name "zip" p) [a, b] [] pos) (evZip R) := by
  obtain ⟨t, pt, rt⟩ := ha
  refine ⟨iZipA G.K t, fun i => ?_, fun c σ δ R' s w h => ?_⟩
  · have h1 := pi_zipA (tpos := tpos) (elts := elts) (kk := kk) (p := p) (pos := pos) (hg i) (hm i) (pt i) (hs i) (hpl i)
    rw [hK i] at h1
    exact h1
  rcases args2 rt s w h with h1 | ⟨d, d', W2, h1, go⟩
  · exact h1 _
  · cases d <;> (try exact h1.elim) <;> cases d' <;> try exact h1.elim
    case lst.lst xs ys =>
      refine go _ fun x y c2 hw e2 w2 r2 r3 => ?_
      have r2' := r2
      have r3' := r3
      obtain ⟨a, vs, rfl, h2, _⟩ := r2'
      obtain ⟨b, ws, rfl, h3, _⟩ := r3'
      exact ⟨a, b, vs, ws, rfl, .inl ⟨SqL.of h2, SqL.of h3, h1 _ c2 hw e2 w2 (src_zip r2 r3)⟩⟩
    case tup.tup xs ys =>
      refine go _ fun x y c2 hw e2 w2 r2 r3 => ?_
      have r2' := r2
      have r3' := r3
      obtain ⟨a, vs, rfl, h2, _⟩ := r2'
      obtain ⟨b, ws, rfl, h3, _⟩ := r3'
      exact ⟨a, b, vs, ws, rfl, .inr ⟨SqT.of h2, SqT.of h3, h1 _ c2 hw e2 w2 (src_zipT r2 r3)⟩⟩
/-! ### for -/
def goFor (T : RV → Env → M Env) (B : Env → M (Fl × Env)) : List D → Env → M (Fl × Env)
  | [], δ => M.ret (.nx, δ)
  | d :: ds, δ => (T (.d d) δ).bind fun δ1 => (B δ1).bind fun p => match p.1 with
    | .nx => goFor T B ds p.2
    | .ct => goFor T B ds p.2
    | .bk => M.ret (.nx, p.2)
    | .rt v => M.ret (.rt v, p.2)
def evFor (S : Env → M (List D)) (T : RV → Env → M Env) (B : Env → M (Fl × Env)) (δ : Env) : M (Fl × Env) := (S δ).bind fun ds => goFor T B ds δ
theorem ds_for {vs : List Nat} {S : Env → M (List D)} {T : RV → Env → M Env} {B : Env → M (Fl × Env)} {body : List Stmt} (hp : ∀ i, PassesOwn (model (𝒳 i).prog (𝒳 i).w) (𝒳 i).A (𝒳 i).env (𝒳 i).xe) (hc : ∀ i, (𝒳 i).calm = true) (hi : DI 𝒳 G tg e S) (hg : DG 𝒳 G tg vs T) (hb : DSs 𝒳 G body B)
    (hs : ∀ i, ∀ x, foldedSetIterable e (𝒳 i).env x = pure x := by intro _ _; rfl) : DS 𝒳 G (.For tg e body [] pos) (evFor S T B) := by
  obtain ⟨wi, pi, ri⟩ := hi
  obtain ⟨g, pg, rg⟩ := hg
  obtain ⟨t, pt, rt⟩ := hb
  refine ⟨_, fun i => ps_for (hp i) (hc i) (pi i) (pg i) (pt i) (hs i), fun c σ δ D s w h => ?_⟩
  refine ri c σ δ _ s w (wpM_mono (wpM_bind.mp h) (fun ds W1 h1 J c1 hw e1 w1 src => ?_) fun _ _ q => q)
  subst hw
  obtain ⟨Gd, Y, wk, hG, hY⟩ := src
  refine for_it wk (fun i σ H => ∃ c2 δ2, c2.H = H ∧ Ext c1 c2 ∧ WOk c2 ∧ SOk σ δ2 c2 ∧ wpM (goFor T B (ds.drop i) δ2) c2.W (QS c2 D) (QE G c2)) ⟨c1, δ, rfl, Ext.refl c1, w1, s.mono e1, wpM_mono h1 (fun _ _ q => q.mono e1) fun _ _ q => q.mono e1⟩ ?_ ?_ ?_
  · rintro i σ H _ ⟨c2, δ2, rfl, e2, w2, s2, _⟩
    exact hG c2 e2.wk
  · rintro i x σ H H' hi ⟨c2, δ2, rfl, e2, w2, s2, h2⟩ y
    rw [List.drop_eq_getElem_cons hi] at h2
    obtain ⟨c3, rfl, hw3, e3, w3, r3⟩ := hY i x H' c2 _ (List.getElem?_eq_getElem hi) e2.wk w2 y
    rw [← hw3] at h2
    refine rg c3 x (.d ds[i]) σ δ2 _ (s2.mono e3) w3 (show RepRV c3 (.d _) x from r3) (wpM_mono (wpM_bind.mp h2) (fun δ4 W4 h4 σ4 c4 hw e4 w4 s4 _ _ => ?_) fun _ _ q => q.mono e3)
    subst hw
    refine rt c4 σ4 δ4 _ s4 w4 (wpM_mono (wpM_bind.mp h4) (fun p W5 h5 => ?_) fun _ _ q => (q.mono e3).mono e4)
    obtain ⟨f, δ5⟩ := p
    cases f with
    | nx =>
      intro σ5 c5 hw e5 w5 s5
      subst hw
      exact ⟨c5, δ5, rfl, ((e2.trans e3).trans e4).trans e5, w5, s5, wpM_mono h5 (fun _ _ q => ((q.mono e3).mono e4).mono e5) fun _ _ q => ((q.mono e3).mono e4).mono e5⟩
    | ct =>
      intro σ5 c5 hw e5 w5 s5
      subst hw
      exact ⟨c5, δ5, rfl, ((e2.trans e3).trans e4).trans e5, w5, s5, wpM_mono h5 (fun _ _ q => ((q.mono e3).mono e4).mono e5) fun _ _ q => ((q.mono e3).mono e4).mono e5⟩
    | bk => exact fun σ5 c5 hw e5 w5 s5 => h5 σ5 c5 hw ((e3.trans e4).trans e5) w5 s5
    | rt v => exact fun x c5 hw e5 w5 r5 => h5 x c5 hw ((e3.trans e4).trans e5) w5 r5
  · rintro σ H ⟨c2, δ2, rfl, e2, w2, s2, h2⟩
    rw [List.drop_length] at h2
    exact h2 σ c2 rfl (Ext.refl c2) w2 s2
end
end DL
set_option Elab.async false
set_option linter.all false
set_option maxRecDepth 100000
set_option maxHeartbeats 4000000
/-! DL11: comprehensions. -/
namespace DL
open PySem PySem.Spec PyProof.Rows L2 RZ
theorem Wk.refl (c : Cf) : Wk c c := (Ext.refl c).wk
theorem Wk.trans {c c1 c2 : Cf} (a : Wk c c1) (b : Wk c1 c2) : Wk c c2 :=
  ⟨fun x o h n => b.keep x o (a.keep x o h n).1 (a.keep x o h n).2, fun l h => (b.ren l (Nat.lt_of_lt_of_le h a.len)).trans (a.ren l h), Nat.le_trans a.len b.len⟩
/-- the new list stands in the heap, not to be touched -/
abbrev Cf.plus (c : Cf) (p : Addr) (o : HO) : Cf := ⟨upd c.H p o, c.ren, c.W, fun a => c.Ao a ∨ a = p⟩
abbrev Cf.minus (c : Cf) (p : Addr) (A : Addr → Prop) : Cf := ⟨fun b => if b = p then none else c.H b, c.ren, c.W, A⟩
section
variable {c c' : Cf} {p : Addr} {o : HO}
theorem Cf.live_plus {b : Addr} : (c.plus p o).live b ↔ c.live b := Iff.rfl
theorem Wk.plus (w : WOk c) (h : c.H p = none) : Wk c (c.plus p o) := by
  refine ⟨fun b u hb n => ⟨lay_keep h b u hb, fun z => ?_⟩, fun _ _ => rfl, Nat.le_refl _⟩
  rcases z with (z | z) | z
  · exact n (.inl z)
  · subst z; rw [h] at hb; cases hb
  · exact n (.inr z)
theorem WOk.plus (w : WOk c) (h : c.H p = none) : WOk (c.plus p o) := by
  refine ⟨fun l u hl => (w.obj l u hl).monoW (Wk.plus w h) fun _ ho q => lay_keep h _ _ q, w.inj, fun l u hl m z => ?_, fun a z => ?_⟩
  · rcases z with z | z
    · exact w.out l u hl m z
    · obtain ⟨ho, q⟩ := (w.obj l u hl).at m
      have z' : c.ren l = p := z
      rw [z', h] at q; cases q
  · rcases z with z | z
    · obtain ⟨u, hu⟩ := w.ao a z
      exact ⟨u, lay_keep h _ _ hu⟩
    · subst z; exact ⟨o, upd_same⟩
theorem SOk.monoW {σ : L2.St} {δ : Env} (s : SOk σ δ c) (e : Wk c c') : SOk σ δ c' :=
  ⟨s.len, fun i rv h => let ⟨v, h1, h2⟩ := s.get i rv h; ⟨v, h1, h2.monoW e⟩⟩
theorem plus_at (w : WOk c) (h : c.H p = none) (e : Ext (c.plus p o) c') : c'.H p = some o := by
  refine e.keep p o upd_same fun z => ?_
  obtain ⟨l, u, hl, m, q⟩ := z
  obtain ⟨ho, q2⟩ := (w.obj l u hl).at m
  have q' : c.ren l = p := q
  rw [q', h] at q2; cases q2
theorem minus_wk (e : Ext (c.plus p o) c') (w' : WOk c') : Wk c' (c'.minus p c.Ao) := by
  have hp : c'.Ao p := by rw [e.ao]; exact .inr rfl
  refine ⟨fun b u hb n => ⟨?_, fun z => ?_⟩, fun _ _ => rfl, Nat.le_refl _⟩
  · show (if b = p then none else c'.H b) = _
    rw [if_neg (fun (z : b = p) => n (.inl (by rw [z]; exact hp)))]; exact hb
  · rcases z with z | z
    · exact n (.inl (by rw [e.ao]; exact .inl z))
    · exact n (.inr z)
theorem minus_ext (w : WOk c) (h : c.H p = none) (e : Ext (c.plus p o) c') : Ext c (c'.minus p c.Ao) := by
  refine ⟨fun b u hb n => ?_, fun b u hb n => e.dead b u (lay_keep h b u hb) n, fun l hl => e.ren l hl, e.len, rfl⟩
  show (if b = p then none else c'.H b) = _
  rw [if_neg (ne_of_none hb h)]
  exact e.keep b u (lay_keep h b u hb) n
theorem minus_ok (w : WOk c) (h : c.H p = none) (e : Ext (c.plus p o) c') (w' : WOk c') : WOk (c'.minus p c.Ao) := by
  have hp : c'.Ao p := by rw [e.ao]; exact .inr rfl
  have ha : ∀ a, c.Ao a → c'.Ao a := fun a z => by rw [e.ao]; exact .inl z
  refine ⟨fun l u hl => (w'.obj l u hl).monoW (minus_wk e w') fun m ho q => ?_, w'.inj, fun l u hl m z => w'.out l u hl m (ha _ z), fun a z => ?_⟩
  · show (if c'.ren l = p then none else c'.H (c'.ren l)) = _
    rw [if_neg (fun (z : c'.ren l = p) => w'.out l u hl m (by rw [z]; exact hp))]; exact q
  · obtain ⟨u, hu⟩ := w'.ao a (ha a z)
    refine ⟨u, ?_⟩
    show (if a = p then none else c'.H a) = _
    rw [if_neg (fun q => ?_)]
    · exact hu
    · obtain ⟨x, hx⟩ := w.ao a z
      rw [q, h] at hx; cases hx
theorem minus_upd (h : c'.H p = some o) {A : Addr → Prop} {o' : HO} : upd c'.H p o' = upd (c'.minus p A).H p o' := by
  funext b
  by_cases q : b = p
  · subst q; rw [upd_same, upd_same]
  · rw [upd_ne q, upd_ne q]
    show _ = (if b = p then none else c'.H b)
    rw [if_neg q]
theorem minus_upd' (h : c'.H p = some o) {A : Addr → Prop} : c'.H = upd (c'.minus p A).H p o := by
  funext b
  by_cases q : b = p
  · subst q; rw [upd_same, h]
  · rw [upd_ne q]
    show _ = (if b = p then none else c'.H b)
    rw [if_neg q]
theorem minus_none {A : Addr → Prop} : (c'.minus p A).H p = none := by show (if p = p then none else _) = none; rw [if_pos rfl]
end
/-! ### the block's own slots -/
def wipeD (δ : Env) : List Nat → Env
  | [] => δ
  | v :: vs => (wipeD δ vs).set v none
theorem wipeD_len (δ : Env) : ∀ vs : List Nat, (wipeD δ vs).length = δ.length
  | [] => rfl
  | v :: vs => by unfold wipeD; rw [List.length_set, wipeD_len δ vs]
theorem wipeD_some {δ : Env} {i : Nat} {x : RV} : ∀ {vs : List Nat}, (wipeD δ vs)[i]? = some (some x) → δ[i]? = some (some x) ∧ i ∉ vs
  | [], h => ⟨h, by simp⟩
  | v :: vs, h => by
    unfold wipeD at h
    by_cases hi : v = i
    · subst hi
      by_cases hv : v < (wipeD δ vs).length
      · rw [List.getElem?_set_self hv] at h; cases h
      · rw [List.getElem?_eq_none (by simpa using hv)] at h; cases h
    · rw [List.getElem?_set_ne hi] at h
      obtain ⟨h1, h2⟩ := wipeD_some h
      exact ⟨h1, by simp only [List.mem_cons, not_or]; exact ⟨fun e => hi e.symm, h2⟩⟩
theorem wipe_out {σ : L2.St} {i : Nat} : ∀ {vs : List Nat}, i ∉ vs → (wipe σ vs)[i]? = σ[i]?
  | [], _ => rfl
  | v :: vs, h => by
    unfold wipe
    simp only [List.mem_cons, not_or] at h
    rw [List.getElem?_set_ne (fun e => h.1 e.symm)]
    exact wipe_out h.2
theorem wipe_in {σ : L2.St} {i : Nat} : ∀ {vs : List Nat}, i ∈ vs → i < σ.length → (wipe σ vs)[i]? = some none
  | v :: vs, h, hl => by
    unfold wipe
    by_cases e : v = i
    · subst e; rw [List.getElem?_set_self (by rw [wipe_length]; exact hl)]
    · rw [List.getElem?_set_ne e]
      exact wipe_in (by simp only [List.mem_cons] at h; exact h.resolve_left fun z => e z.symm) hl
theorem wipe_eq {σ σ' : L2.St} {vs : List Nat} (hl : σ'.length = σ.length) (h : ∀ k, k ∉ vs → σ'[k]? = σ[k]?) : wipe σ' vs = wipe σ vs := by
  apply List.ext_getElem?
  intro k
  by_cases q : k ∈ vs
  · by_cases lt : k < σ.length
    · rw [wipe_in q lt, wipe_in q (by rw [hl]; exact lt)]
    · rw [List.getElem?_eq_none (by rw [wipe_length, hl]; omega), List.getElem?_eq_none (by rw [wipe_length]; omega)]
  · rw [wipe_out q, wipe_out q, h k q]
theorem SOk.wipe {σ : L2.St} {δ : Env} {c : Cf} (s : SOk σ δ c) (vs : List Nat) : SOk (wipe σ vs) (wipeD δ vs) c := by
  refine ⟨by rw [wipe_length, wipeD_len, s.len], fun i rv h => ?_⟩
  obtain ⟨h1, h2⟩ := wipeD_some h
  obtain ⟨v, h3, h4⟩ := s.get i rv h1
  exact ⟨v, by rw [wipe_out h2]; exact h3, h4⟩
/-! ### no exceptions within -/
def noEr {α : Type} (m : M α) : M α := fun W => match m W with
  | some (.error _, _) => none
  | r => r
theorem wpM_noEr {α : Type} {m : M α} {W : Wd} {Q : α → Wd → Prop} {E E' : DX → Wd → Prop} (h : wpM (noEr m) W Q E) : wpM m W Q E' := by
  unfold wpM noEr at *
  cases e : m W with
  | none => rw [e] at h; exact h.elim
  | some p =>
    obtain ⟨r, W'⟩ := p
    rw [e] at h
    cases r with
    | ok a => exact h
    | error x => exact h.elim
def Gh.calm (G : Gh) : Gh := { G with Ex := fun _ _ _ => False }
theorem QE.calm {G : Gh} {c : Cf} {e : DX} {W : Wd} (h : QE G.calm c e W) : QE G c e W := fun C d c' hw e' w r => (h C d c' hw e' w r).elim
abbrev BX := Shared × Hp × Addr × List (Str × Addr) × List Addr
abbrev blkF {ι : Type} (𝒳 : ι → Cx) (scope : Scope) : ι × BX → Cx := fun q => (𝒳 q.1).blk q.2.1 q.2.2.1 scope (compEnvC scope q.2.2.2.2.1 q.2.2.2.1 (𝒳 q.1).env) q.2.2.2.2.2
section
variable {ι : Type} {𝒳 : ι → Cx} {G : Gh} {elt tg iter : Expr} {ifs : List Expr} {scope : Scope} {own : List (Str × Nat)} {pos spos : Pos} {S : Env → M (List D)} {T : RV → Env → M Env} {C : Env → M Bool} {E : Env → M RV} {vs : List Nat}
def DTs (𝒳 : ι → Cx) (G : Gh) (ifs : List Expr) (C : Env → M Bool) : Prop := ∃ t, (∀ i, PTs (𝒳 i) ifs t) ∧ RdT G t C
theorem dts_nil : DTs 𝒳 G [] (fun _ => M.ret true) := ⟨_, fun _ => pts_nil, fun c σ δ Q s w h => h c rfl (Ext.refl c) w⟩
theorem dts_one {e : Expr} (h : DT 𝒳 G e C) : DTs 𝒳 G [e] C := let ⟨_, p, r⟩ := h; ⟨_, fun i => pts_one (p i), r⟩
def goLc (mk : Bool) (T : RV → Env → M Env) (C : Env → M Bool) (E : Env → M RV) (δ : Env) : List D → List RV → M RV
  | [], acc => newL mk acc
  | d :: ds, acc => (T (.d d) δ).bind fun δ1 => (C δ1).bind fun b => if b then (E δ1).bind fun v => (M.guard (acc.length < sizeLine)).bind fun _ => goLc mk T C E δ ds (acc ++ [v]) else goLc mk T C E δ ds acc
def evLc (mk : Bool) (own : List Nat) (S : Env → M (List D)) (T : RV → Env → M Env) (C : Env → M Bool) (E : Env → M RV) (δ : Env) : M RV := (S δ).bind fun ds => noEr (goLc mk T C E (wipeD δ own) ds [])
theorem rd_lc {mk : Bool} {wi : TI} {g : TG} {tt : TT} {te : TE} (own : List Nat) (hi : RdI G wi S) (hg : RdG G.calm g vs T) (ht : RdT G.calm tt C) (he : RdE G.calm te E) (hsub : ∀ k, k ∈ vs → k ∈ own) :
    RdE G (tLc wi g tt te own) (evLc mk own S T C E) := by
  intro c σ δ Q s w h
  refine hi c σ δ _ s w (wpM_mono (wpM_bind.mp h) (fun ds W1 h1 J c1 hw e1 w1 src => ?_) fun _ _ q => q)
  subst hw
  have h1 := wpM_noEr (E' := fun _ _ => False) h1
  intro D hD
  obtain ⟨Gd, Y, wk, hG, hY⟩ := src
  refine lc_it wk (fun i H => ∃ c2 us acc, H = upd c2.H D (.lst acc) ∧ c2.H D = none ∧ Ext c1 c2 ∧ WOk c2 ∧ RepVs c2 us acc ∧ wpM (goLc mk T C E (wipeD δ own) (ds.drop i) us) c2.W (QV c2 Q) (fun _ _ => False)) ?_ ?_ ?_ ?_
  · exact ⟨c1, [], [], rfl, hD, Ext.refl c1, w1, .nil, wpM_mono h1 (fun _ _ q => q.mono e1) fun _ _ q => q.elim⟩
  · rintro i H _ ⟨c2, us, acc, rfl, hd, e2, w2, r2, _⟩
    exact hG (c2.plus D (.lst acc)) (e2.wk.trans (Wk.plus w2 hd))
  · rintro i x H H' hi ⟨c2, us, acc, rfl, hd, e2, w2, r2, h2⟩ y
    rw [List.drop_eq_getElem_cons hi] at h2
    have wp : WOk (c2.plus D (.lst acc)) := w2.plus hd
    obtain ⟨c3, rfl, hw3, e3, w3, r3⟩ := hY i x H' (c2.plus D (.lst acc)) _ (List.getElem?_eq_getElem hi) (e2.wk.trans (Wk.plus w2 hd)) wp y
    have hw3' : c2.W = c3.W := hw3.symm
    rw [hw3'] at h2
    have s3 : SOk (wipe σ own) (wipeD δ own) c3 := ((((s.mono e1).mono e2).monoW (Wk.plus w2 hd)).mono e3).wipe own
    refine hg c3 x (.d ds[i]) _ _ _ s3 w3 (show RepRV c3 (.d _) x from r3) (wpM_mono (wpM_bind.mp h2) (fun δ4 W4 h4 σ4 c4 hw e4 w4 s4 l4 k4 => ?_) fun _ _ q => q.elim)
    subst hw
    refine ⟨?_, ?_⟩
    · rw [wipe_eq l4 fun k hk => k4 k fun z => hk (hsub k z)]
      exact wipe_eq (wipe_length _ _) fun k hk => wipe_out hk
    refine ht c4 σ4 δ4 _ s4 w4 (wpM_mono (wpM_bind.mp h4) (fun b W5 h5 c5 hw e5 w5 => ?_) fun _ _ q => q.elim)
    subst hw
    have e35 := (e3.trans e4).trans e5
    cases b with
    | false =>
      show (if false = true then _ else _)
      rw [if_neg (by decide)]
      refine ⟨c5.minus D c2.Ao, us, acc, minus_upd' (plus_at w2 hd e35), minus_none, e2.trans (minus_ext w2 hd e35), minus_ok w2 hd e35 w5, RepVs.mono (minus_ext w2 hd e35) r2, wpM_mono h5 (fun _ _ q => QV.mono (minus_ext w2 hd e35) q) fun _ _ q => q.elim⟩
    | true =>
      show (if true = true then _ else _)
      rw [if_pos rfl]
      refine he c5 σ4 δ4 _ (s4.mono e5) w5 (wpM_mono (wpM_bind.mp h5) (fun u W6 h6 y6 c6 hw e6 w6 r6 => ?_) fun _ _ q => q.elim)
      subst hw
      have e36 := e35.trans e6
      obtain ⟨hz, h7⟩ := wpM_guard (wpM_bind.mp h6)
      have hz' : acc.length < sizeLine := by rw [← paired_len r2]; exact hz
      refine ⟨acc, plus_at w2 hd e36, hz', c6.minus D c2.Ao, us ++ [u], acc ++ [y6], minus_upd (plus_at w2 hd e36), minus_none, e2.trans (minus_ext w2 hd e36), minus_ok w2 hd e36 w6, ?_, wpM_mono h7 (fun _ _ q => QV.mono (minus_ext w2 hd e36) q) fun _ _ q => q.elim⟩
      exact paired_app (RepVs.mono (minus_ext w2 hd e36) r2) (.cons (r6.monoW (minus_wk e36 w6)) .nil)
  · rintro H ⟨c2, us, acc, rfl, hd, e2, w2, r2, h2⟩
    rw [List.drop_length] at h2
    exact newL_ok w2 r2 h2 D hd
theorem de_lc (mk : Bool) (N : List Str) (sc : Scope) (own : List (Str × Nat)) (ok : BlkOk N sc scope own) (hsub : ∀ k, k ∈ vs → k ∈ own.map (·.2)) (hc : ∀ i, (𝒳 i).calm = true) (hN : ∀ i, (𝒳 i).N.Nodup)
    (hi : DI 𝒳 G tg iter S) (hg : DG (blkF 𝒳 scope) G.calm tg vs T) (ht : DTs (blkF 𝒳 scope) G.calm ifs C) (he : DE (blkF 𝒳 scope) G.calm elt E)
    (eN : ∀ i, (𝒳 i).N = N := by intro _; rfl) (es : ∀ i, (𝒳 i).env.scope = sc := by intro _; rfl) (hs : ∀ i, ∀ x, foldedSetIterable iter (𝒳 i).env x = pure x := by intro _ _; rfl) : DE 𝒳 G (.ListComp elt [⟨tg, iter, ifs, 0⟩] scope pos) (evLc mk (own.map (·.2)) S T C E) := by
  obtain ⟨wi, pi, ri⟩ := hi
  obtain ⟨g, pg, rg⟩ := hg
  obtain ⟨tt, pt, rt⟩ := ht
  obtain ⟨te, pe, re⟩ := he
  exact ⟨_, fun i => pe_lc (hc i) (hN i) (pi i) (by rw [eN i, es i]; exact ok) (fun s H C cl fp => pg (i, s, H, C, cl, fp)) (fun s H C cl fp => pt (i, s, H, C, cl, fp)) (fun s H C cl fp => pe (i, s, H, C, cl, fp)) (hs i), rd_lc _ ri rg rt re hsub⟩
/-- name = [..] -/
theorem ds_setLc (mk : Bool) (N : List Str) (sc : Scope) (own : List (Str × Nat)) (i : Nat) {y : Str} {py : Pos} (ok : BlkOk N sc scope own) (hsub : ∀ k, k ∈ vs → k ∈ own.map (·.2)) (hc : ∀ i, (𝒳 i).calm = true) (hN : ∀ i, (𝒳 i).N.Nodup)
    (hi : DI 𝒳 G tg iter S) (hg : DG (blkF 𝒳 scope) G.calm tg vs T) (ht : DTs (blkF 𝒳 scope) G.calm ifs C) (he : DE (blkF 𝒳 scope) G.calm elt E)
    (hy : N[i]? = some y) (hyl : sc.names.lookup y = some .local) (hsw : ∀ i, swapsWith (.ListComp elt [⟨tg, iter, ifs, 0⟩] scope pos) (some (.Name y py)) spos.line (𝒳 i).env = pure true)
    (eN : ∀ i, (𝒳 i).N = N := by intro _; rfl) (es : ∀ i, (𝒳 i).env.scope = sc := by intro _; rfl) (hs : ∀ i, ∀ x, foldedSetIterable iter (𝒳 i).env x = pure x := by intro _ _; rfl) :
    DS 𝒳 G (.Assign [.Name y py] (.ListComp elt [⟨tg, iter, ifs, 0⟩] scope pos) spos) (evAsg (evLc mk (own.map (·.2)) S T C E) (gtName i)) := by
  obtain ⟨wi, pi, ri⟩ := hi
  obtain ⟨g, pg, rg⟩ := hg
  obtain ⟨tt, pt, rt⟩ := ht
  obtain ⟨te, pe, re⟩ := he
  refine ⟨_, fun k => ps_setLc (hc k) (hN k) (by rw [eN k]; exact hy) (by rw [es k]; exact hyl) (hsw k) (pi k) (by rw [eN k, es k]; exact ok) (fun s H C cl fp => pg (k, s, H, C, cl, fp)) (fun s H C cl fp => pt (k, s, H, C, cl, fp)) (fun s H C cl fp => pe (k, s, H, C, cl, fp)) (hs k), ?_⟩
  refine RdE.asg (vs := [i]) (rd_lc _ ri rg rt re hsub) ?_
  intro c v u σ δ Q s w r h
  refine h (σ.set i (some v)) c rfl (Ext.refl c) w (s.set i r) (by rw [List.length_set]) fun k hk => ?_
  rw [List.getElem?_set_ne (fun z => hk (by rw [z]; exact List.mem_singleton_self k))]
end
end DL
set_option Elab.async false
set_option linter.all false
set_option maxRecDepth 100000
set_option maxHeartbeats 4000000
/-! DL12: defs and calls. -/
namespace DL
open PySem PySem.Spec PyProof.Rows L2 RZ
def startD (n : Nat) (rvs : List RV) : Env := rvs.map some ++ List.replicate (n - rvs.length) none
theorem start_ok {N : List Str} {vs : List V} {rvs : List RV} {c : Cf} (r : RepVs c rvs vs) : SOk (L2.start N vs) (startD N.length rvs) c := by
  have hl := paired_len r
  refine ⟨by unfold L2.start startD; simp [hl], fun i rv h => ?_⟩
  unfold startD at h
  unfold L2.start
  by_cases q : i < rvs.length
  · rw [List.getElem?_append_left (by rw [List.length_map]; exact q), List.getElem?_map] at h
    have h2 : rvs[i]? = some rv := by
      cases e : rvs[i]? with
      | none => rw [e] at h; simp at h
      | some z => rw [e] at h; simp at h; rw [h]
    obtain ⟨v, h3, h4⟩ := paired_get r h2
    refine ⟨v, ?_, h4⟩
    rw [List.getElem?_append_left (by rw [List.length_map, ← hl]; exact q), List.getElem?_map, h3]
    rfl
  · rw [List.getElem?_append_right (by rw [List.length_map]; omega), List.getElem?_replicate] at h
    split at h <;> cases h
def fnD0 (n : Nat) (F : Env → M (Fl × Env)) (rvs : List RV) : M RV := (F (startD n rvs)).bind fun p => match p.1 with
  | .rt v => M.ret v
  | .nx => M.ret (.d .non)
  | _ => M.fail
/-! ### what a call leaves: the labels that it made are let go, if what it tells is no label -/
def RV.below (n : Nat) : RV → Bool
  | .d _ => true
  | .r l => decide (l < n)
def MO.below (n : Nat) : MO → Bool
  | .lst xs => xs.all (RV.below n)
  | .ins _ fs => fs.all fun p => p.2.below n
  | _ => true
def gcOk (W W' : Wd) : Prop := W.length ≤ W'.length ∧ ∀ (l : Nat) (o : MO), l < W.length → W'[l]? = some o → W[l]? = some o ∨ o.below W.length = true
open Classical in
noncomputable def gcW (W W' : Wd) : Wd := if gcOk W W' then W'.take W.length else W'
abbrev Cf.cut (c : Cf) (n : Nat) : Cf := ⟨c.H, c.ren, c.W.take n, c.Ao⟩
section
variable {c c' : Cf} {n : Nat}
theorem cut_look {W : Wd} {l : Nat} {o : MO} (h : (W.take n)[l]? = some o) : l < n ∧ W[l]? = some o := by
  rw [List.getElem?_take] at h
  split at h
  · exact ⟨by assumption, h⟩
  · cases h
theorem cut_kp : Kp c' (c'.cut n) := fun b o h n => ⟨h, fun z => n (z.elim .inl fun ⟨l, u, hl, m, q⟩ => .inr ⟨l, u, (cut_look hl).2, m, q⟩)⟩
theorem below_vs : ∀ {xs : List RV} {vs : List V}, RepVs c xs vs → xs.all (RV.below c.W.length) = true
  | [], _, _ => rfl
  | .d _ :: xs, _, .cons _ t => by rw [List.all_cons, below_vs t]; rfl
  | .r l :: xs, _, .cons q t => by rw [List.all_cons, below_vs t, Bool.and_true]; exact decide_eq_true q.2
theorem below_fs : ∀ {xs : List (Str × RV)} {vs : List (Str × V)}, RepFs c xs vs → xs.all (fun p => p.2.below c.W.length) = true
  | [], _, _ => rfl
  | (_, .d _) :: xs, _, .cons _ t => by rw [List.all_cons, below_fs t]; rfl
  | (_, .r l) :: xs, _, .cons q t => by rw [List.all_cons, below_fs t, Bool.and_true]; exact decide_eq_true q.2.2
theorem below_o {o : MO} {a : Addr} (h : RepO c o a) : o.below c.W.length = true := by
  cases o with
  | lst xs => obtain ⟨vs, _, h⟩ := h; exact below_vs h
  | ins C fs => obtain ⟨dx, vs, _, h⟩ := h; exact below_fs h
  | _ => rfl
theorem cut_rv {x : RV} {v : V} (hn : n ≤ c'.W.length) (b : x.below n = true) (r : RepRV c' x v) : RepRV (c'.cut n) x v := by
  cases x with
  | d x => exact Rep.monoK cut_kp x v r
  | r l =>
    refine ⟨r.1, ?_⟩
    show l < (c'.W.take n).length
    rw [List.length_take, Nat.min_eq_left hn]
    exact of_decide_eq_true b
theorem cut_vs (hn : n ≤ c'.W.length) : ∀ {xs : List RV} {vs : List V}, xs.all (RV.below n) = true → RepVs c' xs vs → RepVs (c'.cut n) xs vs
  | [], _, _, .nil => .nil
  | x :: xs, _, b, .cons q t => by
    rw [List.all_cons, Bool.and_eq_true] at b
    exact .cons (cut_rv hn b.1 q) (cut_vs hn b.2 t)
theorem cut_fs (hn : n ≤ c'.W.length) : ∀ {xs : List (Str × RV)} {vs : List (Str × V)}, xs.all (fun p => p.2.below n) = true → RepFs c' xs vs → RepFs (c'.cut n) xs vs
  | [], _, _, .nil => .nil
  | x :: xs, _, b, .cons q t => by
    rw [List.all_cons, Bool.and_eq_true] at b
    exact .cons ⟨q.1, cut_rv hn b.1 q.2⟩ (cut_fs hn b.2 t)
theorem cut_o {o : MO} {a : Addr} (hn : n ≤ c'.W.length) (b : o.below n = true) (r : RepO c' o a) : RepO (c'.cut n) o a := by
  cases o with
  | lst xs => obtain ⟨vs, h1, h2⟩ := r; exact ⟨vs, h1, cut_vs hn b h2⟩
  | ins C fs => obtain ⟨dx, vs, h1, h2⟩ := r; exact ⟨dx, vs, h1, cut_fs hn b h2⟩
  | fz x => exact Rep.monoK cut_kp x _ r
  | dK kvs => obtain ⟨vs, h1, h2⟩ := r; exact ⟨vs, h1, RepK.monoK cut_kp _ _ h2⟩
  | dT kvs => obtain ⟨vs, h1, h2⟩ := r; exact ⟨vs, h1, RepT.monoK cut_kp _ _ h2⟩
theorem cut_ok (w : WOk c) (e : Ext c c') (w' : WOk c') (g : gcOk c.W c'.W) : Ext c (c'.cut c.W.length) ∧ WOk (c'.cut c.W.length) := by
  refine ⟨⟨e.keep, fun b o h n z => e.dead b o h n ?_, e.ren, ?_, e.ao⟩, ⟨fun l o h => ?_, fun l l' o o' h m h' m' q => w'.inj l l' o o' (cut_look h).2 m (cut_look h').2 m' q, fun l o h m => w'.out l o (cut_look h).2 m, w'.ao⟩⟩
  · obtain ⟨l, u, hl, m, q⟩ := z
    exact ⟨l, u, (cut_look hl).2, m, q⟩
  · show c.W.length ≤ (c'.W.take c.W.length).length
    rw [List.length_take, Nat.min_eq_left e.len]; exact Nat.le_refl _
  · obtain ⟨hl, h2⟩ := cut_look h
    refine cut_o e.len ?_ (w'.obj l o h2)
    rcases g.2 l o hl h2 with q | q
    · exact below_o (w.obj l o q)
    · exact q
end
noncomputable def gcM (m : M RV) : M RV := fun W => match m W with
  | some (.ok (.d x), W') => some (.ok (.d x), gcW W W')
  | some (.error e, W') => some (.error e, gcW W W')
  | r => r
theorem gc_qv {c : Cf} {Q : VK} {x : D} {W' : Wd} (w : WOk c) (h : QV c Q (.d x) (gcW c.W W')) : QV c Q (.d x) W' := by
  intro y c' hw e w' r
  unfold gcW at h
  by_cases g : gcOk c.W W'
  · rw [if_pos g] at h
    subst hw
    obtain ⟨e2, w2⟩ := cut_ok w e w' g
    exact h y (c'.cut c.W.length) rfl e2 w2 (Rep.monoK cut_kp x y r)
  · rw [if_neg g] at h
    exact h y c' hw e w' r
theorem gc_qe {G : Gh} {c : Cf} {x : DX} {W' : Wd} (w : WOk c) (h : QE G c x (gcW c.W W')) : QE G c x W' := by
  intro C d c' hw e w' r
  unfold gcW at h
  by_cases g : gcOk c.W W'
  · rw [if_pos g] at h
    subst hw
    obtain ⟨e2, w2⟩ := cut_ok w e w' g
    refine h C d (c'.cut c.W.length) rfl e2 w2 ⟨r.1, r.2.elim (fun ⟨dd, ws, h1, h2, h3⟩ => .inl ⟨dd, ws, h1, h2, ?_⟩) .inr⟩
    exact Paired.mapP h3 fun _ _ q => ⟨q.1, Rep.monoK cut_kp _ _ q.2⟩
  · rw [if_neg g] at h
    exact h C d c' hw e w' r
theorem gcM_ok {G : Gh} {c : Cf} {Q : VK} {m : M RV} (w : WOk c) (h : wpM (gcM m) c.W (QV c Q) (QE G c)) : wpM m c.W (QV c Q) (QE G c) := by
  unfold wpM gcM at h
  unfold wpM
  cases e : m c.W with
  | none => rw [e] at h; exact h.elim
  | some p =>
    obtain ⟨r, W'⟩ := p
    rw [e] at h
    cases r with
    | error x => exact gc_qe w h
    | ok v =>
      cases v with
      | d x => exact gc_qv w h
      | r l => exact h
noncomputable def fnD (n : Nat) (F : Env → M (Fl × Env)) (rvs : List RV) : M RV := gcM (fnD0 n F rvs)
def spW (K : PySem.W.Frag) (cv : Str → Value) (n : Nat) (Fn : List RV → M RV) : Sp := fun vs H Q E => ∃ c rvs, c.H = H ∧ WOk c ∧ RepVs c rvs vs ∧ rvs.length = n ∧ wpM (Fn rvs) c.W (QV c Q) (QE ⟨K, E, cv⟩ c)
section
variable {P : Program} {w : World} {K : PySem.W.Frag} {mg : Str → Option Value} {base : Heap} {cv : Str → Value}
theorem rd_body {G : Gh} {t : TS} {Fb : Env → M (Fl × Env)} {N : List Str} {vs : List V} {rvs : List RV} {c : Cf} {Q : VK} (rt : RdS G t Fb) (w : WOk c) (r : RepVs c rvs vs) (h : wpM (fnD N.length Fb rvs) c.W (QV c Q) (QE G c)) :
    t { nx := fun _ H' => Q .non H', rt := Q } (L2.start N vs) c.H := by
  have h := gcM_ok w h
  refine rt c _ (startD N.length rvs) _ (start_ok r) w (wpM_mono (wpM_bind.mp h) (fun p W1 q => ?_) fun _ _ q => q)
  obtain ⟨f, δ'⟩ := p
  cases f with
  | nx => exact fun σ' c' hw e' w' _ => q .non c' hw e' w' rfl
  | rt v => exact fun x c' hw e' w' r' => q x c' hw e' w' r'
  | bk => exact q.elim
  | ct => exact q.elim
/-- a def from its body's derivation -/
theorem okD {x qual : Str} {st : Stmt} {f : Addr} {fd : FuncData} {N ps : List Str} {k : Nat} {Fb : Env → M (Fl × Env)} (F : Fun K x qual st f fd) (S : FnScope N ps (defScope st))
    (hb : ∀ (cdv : Value) (A : Around) (outer : List PySem.Env) (s : Shared) (H : Hp) (E : XK), Room k (A.deeper (envOfC qual (defScope st) s.heap.objs.size f cdv)) →
      DSs (fun _ : Unit => cxOf (L2.CX P w) P w K mg base N qual (defScope st) f cdv A outer s H E) ⟨K, E, cv⟩ (defBody st) Fb) :
    FnOk P w K mg base (L2.CX P w) (k + 1) f fd ps (spW K cv ps.length (fnD N.length Fb)) := by
  refine F.okX S (fun vs H Q E h => ?_) (fun cdv A outer s H vs Q E hr h => ?_)
  · obtain ⟨c, rvs, _, _, r, hl, _⟩ := h
    rw [← hl, paired_len r]
  · obtain ⟨c, rvs, rfl, wk, r, hl, h⟩ := h
    obtain ⟨t, pt, rt⟩ := hb cdv A outer s c.H E hr
    exact ⟨t, pt (), rd_body rt wk r h⟩
theorem ok0 {f : Addr} {fd : FuncData} {ps : List Str} : FnOk P w K mg base (L2.CX P w) 0 f fd ps (spW K cv ps.length fun _ => M.fail) :=
  ⟨fun vs H Q E h => by obtain ⟨c, rvs, _, _, r, hl, _⟩ := h; rw [← hl, paired_len r], fun A outer s H args us vs Q E hr he hb hv hs => by obtain ⟨c, rvs, _, _, _, _, h⟩ := hs; exact h.elim⟩
/-- a def of the module, that may be called by its name -/
structure CalD (P : Program) (w : World) (K : PySem.W.Frag) (mg : Str → Option Value) (base : Heap) (cv : Str → Value) (k : Nat) (x : Str) (n : Nat) (Fn : List RV → M RV) : Prop where
  ex : ∃ (f : Addr) (fd : FuncData) (ps : List Str), ps.length = n ∧ FnOk P w K mg base (L2.CX P w) k f fd ps (spW K cv n Fn) ∧ mg x = some (.ref f) ∧ PySem.W.keepIn K (.ref f) = true ∧ Binds K fd ps []
theorem CalD.mono {j k : Nat} {x : Str} {n : Nat} {Fn : List RV → M RV} (c : CalD P w K mg base cv j x n Fn) (h : j ≤ k) : CalD P w K mg base cv k x n Fn :=
  let ⟨f, fd, ps, e, F, q⟩ := c.ex; ⟨f, fd, ps, e, F.mono h, q⟩
end
section
variable {ι : Type} {𝒳 : ι → Cx} {G : Gh} {e : Expr} {es : List Expr} {x : Str} {p pos : Pos} {R : Env → M (List RV)} {Fn : List RV → M RV} {k j n : Nat}
def evCallF (n : Nat) (Fn : List RV → M RV) (R : Env → M (List RV)) (δ : Env) : M RV := (R δ).bind fun us => (M.guard (us.length = n)).bind fun _ => Fn us
theorem rd_callF {t : TA} {K : PySem.W.Frag} (hK : K = G.K) (rt : RdA G t R) : RdE G (tCall (spW K G.cv n Fn) [] G.Ex t) (evCallF n Fn R) := by
  subst hK
  intro c σ δ Q s w h
  refine rt c σ δ _ s w (wpM_mono (wpM_bind.mp h) (fun us W1 h1 xs c1 hw e1 w1 r1 => ?_) fun _ _ q => q)
  subst hw
  obtain ⟨hl, q⟩ := wpM_guard (wpM_bind.mp h1)
  exact ⟨c1, us, rfl, w1, by rw [List.append_nil]; exact r1, hl, wpM_mono q (fun _ _ q => q.mono e1) fun _ _ q => q.mono e1⟩
theorem de_call (hF : ∀ i, CalD (𝒳 i).prog (𝒳 i).w (𝒳 i).K (𝒳 i).mg (𝒳 i).base G.cv j x n Fn) (hr : ∀ i, Room k (𝒳 i).A) (hx : ∀ i, Passes (L2.CX (𝒳 i).prog (𝒳 i).w) (𝒳 i) G.Ex) (hK : ∀ i, (𝒳 i).K = G.K) (ha : DA 𝒳 G (e :: es) R)
    (hjk : j ≤ k := by omega) (hg : ∀ i, Gl (𝒳 i) x := by intro _; rfl) (hdb : (x == ("__debug__" : Str)) = false := by decide) (he : ∀ i, starEach (e :: es) (𝒳 i).env = (false, eval e (𝒳 i).env) :: starEach es (𝒳 i).env := by intro _; rfl) (hpl : ∀ i, (backTo pos (starEach es (𝒳 i).env)).any (·.1) = false := by intro _; rfl) :
    DE 𝒳 G (.Call (.Name x p) (e :: es) [] pos) (evCallF n Fn R) := by
  obtain ⟨t, pt, rt⟩ := ha
  refine ⟨_, fun i => ?_, rd_callF rfl rt⟩
  obtain ⟨f, fd, ps, hn, F, hm, hk, hb⟩ := (hF i).ex
  rw [hK i] at F hb hk
  have F' : FnOk (𝒳 i).prog (𝒳 i).w (𝒳 i).K (𝒳 i).mg (𝒳 i).base (L2.CX (𝒳 i).prog (𝒳 i).w) j f fd ps (spW G.K G.cv n Fn) := by rw [hK i]; exact F
  exact pe_call (F'.mono hjk) (hr i) (hg i) hm (by rw [hK i]; exact hk) (by rw [hK i]; exact hb) .nil (hx i) (pt i) hdb (he i) (hpl i)
theorem de_call0 (hF : ∀ i, CalD (𝒳 i).prog (𝒳 i).w (𝒳 i).K (𝒳 i).mg (𝒳 i).base G.cv j x n Fn) (hr : ∀ i, Room k (𝒳 i).A) (hx : ∀ i, Passes (L2.CX (𝒳 i).prog (𝒳 i).w) (𝒳 i) G.Ex) (hK : ∀ i, (𝒳 i).K = G.K)
    (hjk : j ≤ k := by omega) (hg : ∀ i, Gl (𝒳 i) x := by intro _; rfl) (hdb : (x == ("__debug__" : Str)) = false := by decide) :
    DE 𝒳 G (.Call (.Name x p) [] [] pos) (evCallF n Fn evNil) := by
  refine ⟨_, fun i => ?_, rd_callF (t := tNil) rfl fun c σ δ Q s w h => h [] c rfl (Ext.refl c) w .nil⟩
  obtain ⟨f, fd, ps, hn, F, hm, hk, hb⟩ := (hF i).ex
  rw [hK i] at F hb hk
  have F' : FnOk (𝒳 i).prog (𝒳 i).w (𝒳 i).K (𝒳 i).mg (𝒳 i).base (L2.CX (𝒳 i).prog (𝒳 i).w) j f fd ps (spW G.K G.cv n Fn) := by rw [hK i]; exact F
  exact pe_call0 (F'.mono hjk) (hr i) (hg i) hm (by rw [hK i]; exact hk) (by rw [hK i]; exact hb) .nil (hx i) hdb
end
end DL
set_option Elab.async false
set_option linter.all false
set_option maxRecDepth 100000
set_option maxHeartbeats 4000000
/-! DL13: short words for printed terms; the law's own def. -/
namespace DL
open PySem PySem.Spec PyProof.Rows L2 RZ
abbrev cI (n : Int) (_ : Env) : M RV := M.ret (.d (.int n))
abbrev cS (z : Str) (_ : Env) : M RV := M.ret (.d (.str z))
abbrev cB (b : Bool) (_ : Env) : M RV := M.ret (.d (.bl b))
abbrev cN (_ : Env) : M RV := M.ret (.d .non)
abbrev cT (t : Ty) (_ : Env) : M RV := M.ret (.d (.ty t))
abbrev evNever (_ : Env) : M RV := M.fail
abbrev evYes (_ : Env) : M Bool := M.ret true
abbrev oN (_ : Env) : M (Option Int) := M.ret none
abbrev oS (F : Env → M RV) (δ : Env) : M (Option Int) := (F δ).bind fun u => (asI u).bind fun i => M.ret (some i)
def evFrz (F : Env → M RV) (δ : Env) : M RV := (F δ).bind fun u => (toD u).bind fun d => M.ret (.d d)
section
variable {ι : Type} {𝒳 : ι → Cx} {G : Gh} {e : Expr} {Fe : Env → M RV} {pos : Pos}
theorem de_frz (h : DE 𝒳 G e Fe) : DE 𝒳 G e (evFrz Fe) := by
  obtain ⟨t, p, r⟩ := h
  refine ⟨t, p, fun c σ δ Q s w h => ?_⟩
  refine r c σ δ _ s w (wpM_mono (wpM_bind.mp h) (fun u W1 h1 x c1 hw e1 w1 r1 => ?_) fun _ _ q => q)
  subst hw
  obtain ⟨c2, d, h2, e2, w2, r2, q⟩ := toD_ok w1 r1 (wpM_bind.mp h1)
  rw [← h2]
  exact q x c2 rfl (e1.trans e2) w2 r2
/-- - an int -/
def evNeg (F : Env → M RV) (δ : Env) : M RV := (F δ).bind fun u => (asI u).bind fun i => M.ret (.d (.int (-i)))
end
theorem sub_by {own : List (Str × Nat)} {vs : List Nat} (h : vs.all (fun k => (own.map (·.2)).contains k) = true) : ∀ k, k ∈ vs → k ∈ own.map (·.2) := fun k hk => by
  have := List.all_eq_true.mp h k hk
  simpa using this
section
variable {P : Program} {w : World} {K : PySem.W.Frag} {mg : Str → Option Value} {base : Heap} {cv : Str → Value}
/-- what stands behind the top of a def -/
structure TopD (K : PySem.W.Frag) (mg : Str → Option Value) (x : Str) (st : Stmt) (ps : List Str) : Prop where
  ex : ∃ (f : Addr) (fd : FuncData), Fun K x x st f fd ∧ mg x = some (.ref f) ∧ Binds K fd ps []
theorem TopD.cal {x : Str} {st : Stmt} {N ps : List Str} {k : Nat} {Fb : Env → M (Fl × Env)} (t : TopD K mg x st ps) (S : FnScope N ps (defScope st))
    (hb : ∀ (f : Addr) (cdv : Value) (A : Around) (outer : List PySem.Env) (s : Shared) (H : Hp) (E : XK), Room k (A.deeper (envOfC x (defScope st) s.heap.objs.size f cdv)) →
      DSs (fun _ : Unit => cxOf (L2.CX P w) P w K mg base N x (defScope st) f cdv A outer s H E) ⟨K, E, cv⟩ (defBody st) Fb) :
    CalD P w K mg base cv (k + 1) x ps.length (fnD N.length Fb) := by
  obtain ⟨f, fd, F, hm, hb'⟩ := t.ex
  exact ⟨f, fd, ps, rfl, okD F S (hb f), hm, F.kp, hb'⟩
theorem TopD.zero {x : Str} {st : Stmt} {ps : List Str} (t : TopD K mg x st ps) : CalD P w K mg base cv 0 x ps.length (fun _ => M.fail) := by
  obtain ⟨f, fd, F, hm, hb'⟩ := t.ex
  exact ⟨f, fd, ps, rfl, ok0, hm, F.kp, hb'⟩
/-! ### the script -/
def intL (ns : List Int) : List RV := ns.map fun i => .d (.int i)
theorem intL_rep {c : Cf} (ns : List Int) : RepVs c (intL ns) (ns.map V.int) := by
  unfold intL
  induction ns with
  | nil => exact .nil
  | cons i r ih => exact .cons rfl ih
/-- the stream, as the law starts it: its cells, then itself -/
def startW (ns : List Int) : Wd := [.lst (intL ns), .lst [.r 0, .d (.int 0), .d (.int 0), .d (.int 43)]]
def spStart (K : PySem.W.Frag) : Sp := fun vs H Q _ => ∃ (a : Addr) (ns : List Int), vs = [.ref a] ∧ SqL K H a (ns.map V.int) ∧ ∀ c, c.W = startW ns → WOk c → Q (.ref (c.ren 1)) c.H
theorem start_law {H : Hp} {p q : Addr} {ns : List Int} (hp : H p = none) (hq : upd H p (.lst (ns.map V.int)) q = none) :
    ∃ c : Cf, c.H = upd (upd H p (.lst (ns.map V.int))) q (.lst [.ref p, .int 0, .int 0, .int 43]) ∧ c.W = startW ns ∧ WOk c ∧ c.ren 1 = q := by
  let c0 : Cf := ⟨H, fun _ => p, [], fun _ => False⟩
  have w0 : WOk c0 := ⟨fun l o h => by simp [c0] at h, fun l l' o o' h => by simp [c0] at h, fun l o h => by simp [c0] at h, fun a h => h.elim⟩
  let c1 : Cf := c0.new p (.lst (ns.map V.int)) (.lst (intL ns))
  have w1 : WOk c1 := w0.new hp ⟨_, upd_same, intL_rep ns⟩
  have r0 : c1.ren 0 = p := ren_last (c := c0)
  have w2 : WOk (c1.new q (.lst [.ref p, .int 0, .int 0, .int 43]) (.lst [.r 0, .d (.int 0), .d (.int 0), .d (.int 43)])) := by
    refine w1.new hq ⟨_, upd_same, .cons ?_ (.cons rfl (.cons rfl (.cons rfl .nil)))⟩
    refine ⟨?_, by simp [c1, c0]⟩
    rw [ren_new (by simp [c1, c0]), r0]
  exact ⟨_, rfl, rfl, w2, ren_last (c := c1)⟩
abbrev rOf (K : PySem.W.Frag) : List V → Hp → VK → Prop := fun xs H Q => ∃ p ys, xs = [.ref p] ∧ (SqL K H p ys ∨ SqT K H p ys) ∧ ∀ l, H l = none → Q (.ref l) (upd H l (.lst ys))
/-- _law_start's reading: return [list(script), 0, 0, 43] -/
theorem rd_start {vs : List V} {H : Hp} {Q : VK} {E : XK} (h : spStart K vs H Q E) :
    tRet (tLst (tCons (tCB (rOf K) (tCons (tVar 0) tNil)) (tCons (tC (.int 0)) (tCons (tC (.int 0)) (tCons (tC (.int 43)) tNil))))) { nx := fun _ H' => Q .non H', rt := Q } (L2.start ["script"] vs) H := by
  obtain ⟨a, ns, rfl, hS, q⟩ := h
  refine ⟨.ref a, rfl, a, _, rfl, .inl hS, fun p hp => ⟨by show 4 ≤ sizeLine; decide, fun r hr => ?_⟩⟩
  obtain ⟨c, h1, h2, h3, h4⟩ := start_law hp hr
  have := q c h2 h3
  rw [h4, h1] at this
  exact this
def spLawD (K : PySem.W.Frag) : Sp := fun vs H Q _ => ∃ (a : Addr) (ns : List Int), vs = [.ref a] ∧ SqL K H a (ns.map V.int) ∧ ns.length ≤ 63 ∧ ∀ H', Q (.bl true) H'
def lawEnv (n : Nat) : Env := none :: some (.r 1) :: List.replicate (n - 2) none
theorem lawEnv_ok {n : Nat} {c : Cf} {vs : List V} {N : List Str} (hn : N.length = n) (h2 : 2 ≤ n) (h1 : vs.length = 1) (hw : 2 ≤ c.W.length) : SOk ((L2.start N vs).set 1 (some (.ref (c.ren 1)))) (lawEnv n) c := by
  refine ⟨by unfold L2.start lawEnv; simp [hn, h1]; omega, fun i rv h => ?_⟩
  match i, h with
  | 0, h => simp [lawEnv] at h
  | 1, h =>
    simp [lawEnv] at h
    subst h
    refine ⟨.ref (c.ren 1), ?_, rfl, by omega⟩
    rw [List.getElem?_set_self]
    unfold L2.start
    simp [h1]; omega
  | i + 2, h =>
    simp only [lawEnv, List.getElem?_cons_succ, List.getElem?_replicate] at h
    split at h <;> cases h
theorem okLaw {st first : Stmt} {rest : List Stmt} {f : Addr} {fd : FuncData} {N : List Str} {k n : Nat} {Fb : Env → M (Fl × Env)} (F : Fun K "law" "law" st f fd) (S : FnScope N ["script"] (defScope st)) (hst : defBody st = first :: rest) (hn : N.length = n) (h2 : 2 ≤ n)
    (h1 : ∀ (cdv : Value) (A : Around) (outer : List PySem.Env) (s : Shared) (H : Hp) (E : XK), Room k (A.deeper (envOfC "law" (defScope st) s.heap.objs.size f cdv)) →
      PS (cxOf (L2.CX P w) P w K mg base N "law" (defScope st) f cdv A outer s H E) first (tAsg (tCall (spStart K) [] E (tCons (tVar 0) tNil)) (gName 1)))
    (hb : ∀ (cdv : Value) (A : Around) (outer : List PySem.Env) (s : Shared) (H : Hp) (E : XK), Room k (A.deeper (envOfC "law" (defScope st) s.heap.objs.size f cdv)) →
      DSs (fun _ : Unit => cxOf (L2.CX P w) P w K mg base N "law" (defScope st) f cdv A outer s H E) ⟨K, E, cv⟩ rest Fb)
    (math : ∀ ns : List Int, ns.length ≤ 63 → wpM (Fb (lawEnv n)) (startW ns) (fun p _ => p.1 = .rt (.d (.bl true))) (fun _ _ => False)) :
    FnOk P w K mg base (L2.CX P w) (k + 1) f fd ["script"] (spLawD K) := by
  refine F.okX S (fun vs H Q E h => ?_) (fun cdv A outer s H vs Q E hr h => ?_)
  · obtain ⟨a, ns, rfl, _⟩ := h
    rfl
  · obtain ⟨a, ns, rfl, hS, hl, q⟩ := h
    obtain ⟨t, pt, rt⟩ := hb cdv A outer s H E hr
    rw [hst]
    refine ⟨_, pss_cons (h1 cdv A outer s H E hr) (pt ()), ?_⟩
    refine ⟨.ref a, by unfold L2.start; rfl, a, ns, rfl, hS, fun c hw w => ?_⟩
    refine rt c _ (lawEnv n) _ (lawEnv_ok hn h2 rfl (by rw [hw]; exact Nat.le_refl 2)) w ?_
    rw [hw]
    refine wpM_mono (math ns hl) (fun p W' hp => ?_) fun _ _ z => z.elim
    obtain ⟨f', δ'⟩ := p
    cases hp
    intro x c' _ _ _ r
    cases r
    exact q _
end
end DL
set_option Elab.async false
set_option linter.all false
set_option maxRecDepth 100000
set_option maxHeartbeats 4000000
/-! DL14: readings evaluated, step by step (named continuations, so that simp sees the head alone). -/
namespace DL
open PySem PySem.Spec PyProof.Rows L2 RZ
section
variable {α β : Type} {W : Wd} {E : DX → Wd → Prop} {δ : Env}
def kB (f : α → M β) (Q : β → Wd → Prop) (E : DX → Wd → Prop) (a : α) (W : Wd) : Prop := wpM (f a) W Q E
@[simp] theorem kB_ap {f : α → M β} {Q : β → Wd → Prop} {a : α} : kB f Q E a W = wpM (f a) W Q E := (rfl)
theorem w_bind {m : M α} {f : α → M β} {Q : β → Wd → Prop} : wpM (m.bind f) W Q E = wpM m W (kB f Q E) E := propext wpM_bind
@[simp] theorem w_ret {a : α} {Q : α → Wd → Prop} : wpM (M.ret a) W Q E = Q a W := (rfl)
@[simp] theorem w_opt {a : α} {Q : α → Wd → Prop} : wpM (M.opt (some a)) W Q E = Q a W := (rfl)
@[simp] theorem w_guard {p : Prop} [Decidable p] {Q : Unit → Wd → Prop} : wpM (M.guard p) W Q E = (p ∧ Q () W) := by
  unfold wpM M.guard
  by_cases h : p <;> simp [h]
@[simp] theorem w_set {l : Nat} {m : MO} {Q : Unit → Wd → Prop} : wpM (setAt l m) W Q E = Q () (W.set l m) := (rfl)
def lookK (o : Option α) (Q : α → Wd → Prop) (W : Wd) : Prop := match o with | some a => Q a W | none => False
@[simp] theorem lookK_some {a : α} {Q : α → Wd → Prop} : lookK (some a) Q W = Q a W := (rfl)
theorem w_look {f : Wd → Option α} {Q : α → Wd → Prop} : wpM (M.look f) W Q E = lookK (f W) Q W := by
  unfold wpM M.look lookK
  cases f W <;> rfl
@[simp] theorem w_ite {c : Prop} [Decidable c] {a b : M α} {Q : α → Wd → Prop} : wpM (if c then a else b) W Q E = if c then wpM a W Q E else wpM b W Q E := by split <;> rfl
end
section
variable {W : Wd} {E : DX → Wd → Prop} {δ : Env} {Q : RV → Wd → Prop} {QS' : Fl × Env → Wd → Prop} {QB' : Bool → Wd → Prop} {QL : List RV → Wd → Prop} {QG : Env → Wd → Prop} {Fa Fb F : Env → M RV} {R : Env → M (List RV)} {S1 S2 : Env → M (Fl × Env)} {Ta Tb : Env → M Bool}
/-! statements -/
def seqF (S2 : Env → M (Fl × Env)) (p : Fl × Env) : M (Fl × Env) := match p.1 with | .nx => S2 p.2 | f => M.ret (f, p.2)
@[simp] theorem w_seq : wpM (evSeq S1 S2 δ) W QS' E = wpM (S1 δ) W (kB (seqF S2) QS' E) E := propext wpM_bind
@[simp] theorem seqF_nx : seqF S2 (.nx, δ) = S2 δ := (rfl)
@[simp] theorem seqF_rt {v : RV} : seqF S2 (.rt v, δ) = M.ret (.rt v, δ) := (rfl)
@[simp] theorem seqF_bk : seqF S2 (.bk, δ) = M.ret (.bk, δ) := (rfl)
@[simp] theorem seqF_ct : seqF S2 (.ct, δ) = M.ret (.ct, δ) := (rfl)
@[simp] theorem w_next : wpM (evNext δ) W QS' E = QS' (.nx, δ) W := (rfl)
def retF (δ : Env) (v : RV) : M (Fl × Env) := M.ret (.rt v, δ)
@[simp] theorem w_evRet : wpM (evRet F δ) W QS' E = wpM (F δ) W (kB (retF δ) QS' E) E := propext wpM_bind
@[simp] theorem retF_ap {v : RV} : retF δ v = M.ret (.rt v, δ) := (rfl)
def dropF (δ : Env) (_ : RV) : M (Fl × Env) := M.ret (.nx, δ)
@[simp] theorem w_drop : wpM (evDrop F δ) W QS' E = wpM (F δ) W (kB (dropF δ) QS' E) E := propext wpM_bind
@[simp] theorem dropF_ap {v : RV} : dropF δ v = M.ret (.nx, δ) := (rfl)
def nxF (δ' : Env) : M (Fl × Env) := M.ret (.nx, δ')
@[simp] theorem nxF_ap : nxF δ = M.ret (.nx, δ) := (rfl)
def asgF (T : RV → Env → M Env) (δ : Env) (v : RV) : M (Fl × Env) := (T v δ).bind nxF
@[simp] theorem w_asg {T : RV → Env → M Env} : wpM (evAsg F T δ) W QS' E = wpM (F δ) W (kB (asgF T δ) QS' E) E := propext wpM_bind
@[simp] theorem w_asgF {T : RV → Env → M Env} {v : RV} : wpM (asgF T δ v) W QS' E = wpM (T v δ) W (kB nxF QS' E) E := propext wpM_bind
@[simp] theorem w_gtName {i : Nat} {v : RV} : wpM (gtName i v δ) W QG E = QG (δ.set i (some v)) W := (rfl)
def par2F (i j : Nat) (δ : Env) (us : List RV) : M (Fl × Env) := match us with | [u, v] => M.ret (.nx, (δ.set i (some u)).set j (some v)) | _ => M.fail
@[simp] theorem w_par {i j : Nat} : wpM (evPar i j R δ) W QS' E = wpM (R δ) W (kB (par2F i j δ) QS' E) E := propext wpM_bind
@[simp] theorem par2F_ap {i j : Nat} {u v : RV} : par2F i j δ [u, v] = M.ret (.nx, (δ.set i (some u)).set j (some v)) := (rfl)
def par3F (i j l : Nat) (δ : Env) (us : List RV) : M (Fl × Env) := match us with | [u, v, z] => M.ret (.nx, ((δ.set i (some u)).set j (some v)).set l (some z)) | _ => M.fail
@[simp] theorem w_par3 {i j l : Nat} : wpM (evPar3 i j l R δ) W QS' E = wpM (R δ) W (kB (par3F i j l δ) QS' E) E := propext wpM_bind
@[simp] theorem par3F_ap {i j l : Nat} {u v z : RV} : par3F i j l δ [u, v, z] = M.ret (.nx, ((δ.set i (some u)).set j (some v)).set l (some z)) := (rfl)
def ifSF (S1 S2 : Env → M (Fl × Env)) (δ : Env) (b : Bool) : M (Fl × Env) := if b then S1 δ else S2 δ
@[simp] theorem w_ifS : wpM (evIfS Ta S1 S2 δ) W QS' E = wpM (Ta δ) W (kB (ifSF S1 S2 δ) QS' E) E := propext wpM_bind
@[simp] theorem ifSF_t : ifSF S1 S2 δ true = S1 δ := (rfl)
@[simp] theorem ifSF_f : ifSF S1 S2 δ false = S2 δ := (rfl)
/-! targets -/
def unpF (n : Nat) (Fr : List RV → Env → M Env) (δ : Env) (p : Bool × List RV) : M Env := (M.guard (p.2.length = n)).bind fun _ => Fr p.2 δ
@[simp] theorem w_unp {n : Nat} {Fr : List RV → Env → M Env} {u : RV} : wpM (gtUnp n Fr u δ) W QG E = lookK (seqOf W u) (kB (unpF n Fr δ) QG E) W := by
  unfold gtUnp
  rw [w_bind, w_look]; rfl
@[simp] theorem w_unpF {n : Nat} {Fr : List RV → Env → M Env} {t : Bool} {us : List RV} : wpM (unpF n Fr δ (t, us)) W QG E = (us.length = n ∧ wpM (Fr us δ) W QG E) := by
  unfold unpF
  rw [w_bind, w_guard]; rfl
def gtConsF (Rr : List RV → Env → M Env) (us : List RV) (δ : Env) : M Env := Rr us δ
@[simp] theorem gtConsF_ap {Rr : List RV → Env → M Env} {us : List RV} : gtConsF Rr us δ = Rr us δ := (rfl)
@[simp] theorem w_gtCons {Fg : RV → Env → M Env} {Rr : List RV → Env → M Env} {u : RV} {us : List RV} : wpM (gtCons Fg Rr (u :: us) δ) W QG E = wpM (Fg u δ) W (kB (gtConsF Rr us) QG E) E := propext wpM_bind
@[simp] theorem w_gtNil : wpM (gtNil [] δ) W QG E = QG δ W := (rfl)
def subA (Fi : Env → M RV) (u : RV) (δ : Env) (o : RV) : M Env := (Fi δ).bind fun i => (asI i).bind fun k => (M.look fun W => (lstAt W o).bind fun p => (ixN p.2.length k).map fun j => (p, j)).bind fun z => (setAt z.1.1 (.lst (z.1.2.set z.2 u))).bind fun _ => M.ret δ
@[simp] theorem w_gtSub {u : RV} : wpM (gtSub Fa Fb u δ) W QG E = wpM (Fa δ) W (kB (subA Fb u δ) QG E) E := propext wpM_bind
def subB (u : RV) (δ : Env) (o : RV) (i : RV) : M Env := (asI i).bind fun k => (M.look fun W => (lstAt W o).bind fun p => (ixN p.2.length k).map fun j => (p, j)).bind fun z => (setAt z.1.1 (.lst (z.1.2.set z.2 u))).bind fun _ => M.ret δ
@[simp] theorem w_subA {u o : RV} : wpM (subA Fb u δ o) W QG E = wpM (Fb δ) W (kB (subB u δ o) QG E) E := propext wpM_bind
def subK (u : RV) (l : Nat) (xs : List RV) (o : Option Nat) (δ : Env) (QG : Env → Wd → Prop) (W : Wd) : Prop := match o with | some j => QG δ (W.set l (.lst (xs.set j u))) | none => False
@[simp] theorem subK_some {u : RV} {l j : Nat} {xs : List RV} : subK u l xs (some j) δ QG W = QG δ (W.set l (.lst (xs.set j u))) := (rfl)
def subK0 (u : RV) (k : Int) (o : Option (Nat × List RV)) (δ : Env) (QG : Env → Wd → Prop) (W : Wd) : Prop := match o with | some (l, xs) => subK u l xs (ixN xs.length k) δ QG W | none => False
@[simp] theorem subK0_some {u : RV} {k : Int} {l : Nat} {xs : List RV} : subK0 u k (some (l, xs)) δ QG W = subK u l xs (ixN xs.length k) δ QG W := (rfl)
@[simp] theorem w_subB {u o : RV} {k : Int} : wpM (subB u δ o (.d (.int k))) W QG E = subK0 u k (lstAt W o) δ QG W := by
  unfold subB subK0
  show wpM ((M.look _).bind _) W QG E = _
  rw [w_bind, w_look]
  cases lstAt W o with
  | none => rfl
  | some p =>
    obtain ⟨l, xs⟩ := p
    unfold subK
    dsimp only [Option.bind]
    cases ixN xs.length k <;> rfl
/-! expressions -/
@[simp] theorem w_var {i : Nat} : wpM (evVar i δ) W Q E = wpM (M.opt (δ[i]?.join)) W Q E := (rfl)
def ev2a (op : RV → RV → M RV) (Fb : Env → M RV) (δ : Env) (u : RV) : M RV := (Fb δ).bind (op u)
@[simp] theorem w_ev2 {op : RV → RV → M RV} : wpM (ev2 op Fa Fb δ) W Q E = wpM (Fa δ) W (kB (ev2a op Fb δ) Q E) E := propext wpM_bind
@[simp] theorem w_ev2a {op : RV → RV → M RV} {u : RV} : wpM (ev2a op Fb δ u) W Q E = wpM (Fb δ) W (kB (op u) Q E) E := propext wpM_bind
@[simp] theorem w_evB : wpM (evB F δ) W QB' E = wpM (F δ) W (kB asB QB' E) E := propext wpM_bind
@[simp] theorem asB_bl {b : Bool} : asB (.d (.bl b)) = M.ret b := (rfl)
@[simp] theorem asI_int {b : Int} : asI (.d (.int b)) = M.ret b := (rfl)
def andF (Fb : Env → M RV) (δ : Env) (u : RV) : M RV := (asB u).bind fun c => if c then Fb δ else M.ret (.d (.bl false))
@[simp] theorem w_and : wpM (evAnd Fa Fb δ) W Q E = wpM (Fa δ) W (kB (andF Fb δ) Q E) E := propext wpM_bind
@[simp] theorem andF_t : andF Fb δ (.d (.bl true)) = Fb δ := (rfl)
@[simp] theorem andF_f : andF Fb δ (.d (.bl false)) = M.ret (.d (.bl false)) := (rfl)
def orF (Fb : Env → M RV) (δ : Env) (u : RV) : M RV := (asB u).bind fun c => if c then M.ret (.d (.bl true)) else Fb δ
@[simp] theorem w_or : wpM (evOr Fa Fb δ) W Q E = wpM (Fa δ) W (kB (orF Fb δ) Q E) E := propext wpM_bind
@[simp] theorem orF_t : orF Fb δ (.d (.bl true)) = M.ret (.d (.bl true)) := (rfl)
@[simp] theorem orF_f : orF Fb δ (.d (.bl false)) = Fb δ := (rfl)
def notF (u : RV) : M RV := (asB u).bind fun c => M.ret (.d (.bl !c))
@[simp] theorem w_not : wpM (evNot Fa δ) W Q E = wpM (Fa δ) W (kB notF Q E) E := propext wpM_bind
@[simp] theorem notF_ap {b : Bool} : notF (.d (.bl b)) = M.ret (.d (.bl !b)) := (rfl)
def andTF (Tb : Env → M Bool) (δ : Env) (c : Bool) : M Bool := if c then Tb δ else M.ret false
@[simp] theorem w_andT : wpM (evAndT Ta Tb δ) W QB' E = wpM (Ta δ) W (kB (andTF Tb δ) QB' E) E := propext wpM_bind
@[simp] theorem andTF_t : andTF Tb δ true = Tb δ := (rfl)
@[simp] theorem andTF_f : andTF Tb δ false = M.ret false := (rfl)
def orTF (Tb : Env → M Bool) (δ : Env) (c : Bool) : M Bool := if c then M.ret true else Tb δ
@[simp] theorem w_orT : wpM (evOrT Ta Tb δ) W QB' E = wpM (Ta δ) W (kB (orTF Tb δ) QB' E) E := propext wpM_bind
@[simp] theorem orTF_t : orTF Tb δ true = M.ret true := (rfl)
@[simp] theorem orTF_f : orTF Tb δ false = Tb δ := (rfl)
def notTF (c : Bool) : M Bool := M.ret !c
@[simp] theorem w_notT : wpM (evNotT Ta δ) W QB' E = wpM (Ta δ) W (kB notTF QB' E) E := propext wpM_bind
@[simp] theorem notTF_ap {b : Bool} : notTF b = M.ret (!b) := (rfl)
def ifEF (Fa Fb : Env → M RV) (δ : Env) (c : Bool) : M RV := if c then Fa δ else Fb δ
@[simp] theorem w_if : wpM (evIf Ta Fa Fb δ) W Q E = wpM (Ta δ) W (kB (ifEF Fa Fb δ) Q E) E := propext wpM_bind
@[simp] theorem ifEF_t : ifEF Fa Fb δ true = Fa δ := (rfl)
@[simp] theorem ifEF_f : ifEF Fa Fb δ false = Fb δ := (rfl)
@[simp] theorem w_nil : wpM (evNil δ) W QL E = QL [] W := (rfl)
def consA (R : Env → M (List RV)) (δ : Env) (v : RV) : M (List RV) := (R δ).bind fun vs => M.ret (v :: vs)
def consB (v : RV) (vs : List RV) : M (List RV) := M.ret (v :: vs)
@[simp] theorem w_cons : wpM (evCons F R δ) W QL E = wpM (F δ) W (kB (consA R δ) QL E) E := propext wpM_bind
@[simp] theorem w_consA {v : RV} : wpM (consA R δ v) W QL E = wpM (R δ) W (kB (consB v) QL E) E := propext wpM_bind
@[simp] theorem consB_ap {v : RV} {vs : List RV} : consB v vs = M.ret (v :: vs) := (rfl)
@[simp] theorem w_call {f : List RV → M RV} : wpM (evCall f R δ) W Q E = wpM (R δ) W (kB f Q E) E := propext wpM_bind
def callA (n : Nat) (Fn : List RV → M RV) (us : List RV) : M RV := (M.guard (us.length = n)).bind fun _ => Fn us
@[simp] theorem w_callF {n : Nat} {Fn : List RV → M RV} : wpM (evCallF n Fn R δ) W Q E = wpM (R δ) W (kB (callA n Fn) Q E) E := propext wpM_bind
@[simp] theorem w_callA {n : Nat} {Fn : List RV → M RV} {us : List RV} : wpM (callA n Fn us) W Q E = (us.length = n ∧ wpM (Fn us) W Q E) := by
  unfold callA
  rw [w_bind, w_guard]; rfl
def lstF (mk : Bool) (vs : List RV) : M RV := (M.guard (vs.length ≤ sizeLine)).bind fun _ => newL mk vs
@[simp] theorem w_lst {mk : Bool} : wpM (evLst mk R δ) W Q E = wpM (R δ) W (kB (lstF mk) Q E) E := propext wpM_bind
@[simp] theorem w_lstF {mk : Bool} {vs : List RV} : wpM (lstF mk vs) W Q E = (vs.length ≤ sizeLine ∧ wpM (newL mk vs) W Q E) := by
  unfold lstF
  rw [w_bind, w_guard]; rfl
def tupF (vs : List RV) : M RV := (M.guard (vs.length ≤ sizeLine)).bind fun _ => newT vs
@[simp] theorem w_tup : wpM (evTup R δ) W Q E = wpM (R δ) W (kB tupF Q E) E := propext wpM_bind
@[simp] theorem w_tupF {vs : List RV} : wpM (tupF vs) W Q E = (vs.length ≤ sizeLine ∧ wpM (newT vs) W Q E) := by
  unfold tupF
  rw [w_bind, w_guard]; rfl
@[simp] theorem w_newL_t {vs : List RV} : wpM (newL true vs) W Q E = Q (.r W.length) (W ++ [.lst vs]) := (rfl)
theorem toDs_d : ∀ {ds : List D} {W : Wd}, toDs (ds.map RV.d) W = some (.ok ds, W)
  | [], _ => rfl
  | d :: ds, W => by
    show (toDs (ds.map RV.d)).bind _ W = _
    unfold M.bind
    rw [toDs_d]; rfl
@[simp] theorem w_newL_f {ds : List D} : wpM (newL false (ds.map RV.d)) W Q E = Q (.d (.lst ds)) W := by
  show wpM ((toDs _).bind _) W Q E = _
  rw [w_bind]
  unfold wpM
  rw [toDs_d]; rfl
@[simp] theorem w_newT {ds : List D} : wpM (newT (ds.map RV.d)) W Q E = Q (.d (.tup ds)) W := by
  show wpM ((toDs _).bind _) W Q E = _
  rw [w_bind]
  unfold wpM
  rw [toDs_d]; rfl
/-! display of pure things, by how many -/
@[simp] theorem w_newL_0 : wpM (newL false []) W Q E = Q (.d (.lst [])) W := w_newL_f (ds := [])
@[simp] theorem w_newL_1 {a : D} : wpM (newL false [.d a]) W Q E = Q (.d (.lst [a])) W := w_newL_f (ds := [a])
@[simp] theorem w_newL_2 {a b : D} : wpM (newL false [.d a, .d b]) W Q E = Q (.d (.lst [a, b])) W := w_newL_f (ds := [a, b])
@[simp] theorem w_newL_3 {a b c : D} : wpM (newL false [.d a, .d b, .d c]) W Q E = Q (.d (.lst [a, b, c])) W := w_newL_f (ds := [a, b, c])
@[simp] theorem w_newL_4 {a b c d : D} : wpM (newL false [.d a, .d b, .d c, .d d]) W Q E = Q (.d (.lst [a, b, c, d])) W := w_newL_f (ds := [a, b, c, d])
@[simp] theorem w_newL_5 {a b c d e : D} : wpM (newL false [.d a, .d b, .d c, .d d, .d e]) W Q E = Q (.d (.lst [a, b, c, d, e])) W := w_newL_f (ds := [a, b, c, d, e])
@[simp] theorem w_newL_6 {a b c d e f : D} : wpM (newL false [.d a, .d b, .d c, .d d, .d e, .d f]) W Q E = Q (.d (.lst [a, b, c, d, e, f])) W := w_newL_f (ds := [a, b, c, d, e, f])
@[simp] theorem w_newL_8 {a b c d e f g h : D} : wpM (newL false [.d a, .d b, .d c, .d d, .d e, .d f, .d g, .d h]) W Q E = Q (.d (.lst [a, b, c, d, e, f, g, h])) W := w_newL_f (ds := [a, b, c, d, e, f, g, h])
@[simp] theorem w_newT_0 : wpM (newT []) W Q E = Q (.d (.tup [])) W := w_newT (ds := [])
@[simp] theorem w_newT_1 {a : D} : wpM (newT [.d a]) W Q E = Q (.d (.tup [a])) W := w_newT (ds := [a])
@[simp] theorem w_newT_2 {a b : D} : wpM (newT [.d a, .d b]) W Q E = Q (.d (.tup [a, b])) W := w_newT (ds := [a, b])
@[simp] theorem w_newT_3 {a b c : D} : wpM (newT [.d a, .d b, .d c]) W Q E = Q (.d (.tup [a, b, c])) W := w_newT (ds := [a, b, c])
@[simp] theorem w_newT_4 {a b c d : D} : wpM (newT [.d a, .d b, .d c, .d d]) W Q E = Q (.d (.tup [a, b, c, d])) W := w_newT (ds := [a, b, c, d])
@[simp] theorem w_newT_5 {a b c d e : D} : wpM (newT [.d a, .d b, .d c, .d d, .d e]) W Q E = Q (.d (.tup [a, b, c, d, e])) W := w_newT (ds := [a, b, c, d, e])
/-! operators -/
@[simp] theorem opAdd_i {mk : Bool} {i j : Int} : opAdd mk (.d (.int i)) (.d (.int j)) = M.ret (.d (.int (i + j))) := (rfl)
@[simp] theorem opSub_i {i j : Int} : opSub (.d (.int i)) (.d (.int j)) = M.ret (.d (.int (i - j))) := (rfl)
@[simp] theorem w_opMul {mk : Bool} {i j : Int} : wpM (opMul mk (.d (.int i)) (.d (.int j))) W Q E = (CMulW i j ∧ Q (.d (.int (i * j))) W) := by
  show wpM ((M.guard _).bind _) W Q E = _
  rw [w_bind, w_guard]; rfl
@[simp] theorem w_opMod {i j : Int} : wpM (opMod (.d (.int i)) (.d (.int j))) W Q E = (0 < j ∧ Q (.d (.int (i % j))) W) := by
  show wpM ((M.guard _).bind _) W Q E = _
  rw [w_bind, w_guard]; rfl
@[simp] theorem w_opDiv {i j : Int} : wpM (opDiv (.d (.int i)) (.d (.int j))) W Q E = (CDivG i j ∧ Q (.d (.int (i.fdiv j))) W) := by
  show wpM ((M.guard _).bind _) W Q E = _
  rw [w_bind, w_guard]; rfl
@[simp] theorem w_opPow {i j : Int} : wpM (opPow (.d (.int i)) (.d (.int j))) W Q E = (CPow i j ∧ Q (.d (.int (i ^ j.toNat))) W) := by
  show wpM ((M.guard _).bind _) W Q E = _
  rw [w_bind, w_guard]; rfl
@[simp] theorem opLt_i {i j : Int} : opLt (.d (.int i)) (.d (.int j)) = M.ret (.d (.bl (decide (i < j)))) := (rfl)
@[simp] theorem opLe_i {i j : Int} : opLe (.d (.int i)) (.d (.int j)) = M.ret (.d (.bl (decide (i ≤ j)))) := (rfl)
@[simp] theorem opGt_i {i j : Int} : opGt (.d (.int i)) (.d (.int j)) = M.ret (.d (.bl (decide (j < i)))) := (rfl)
@[simp] theorem opGe_i {i j : Int} : opGe (.d (.int i)) (.d (.int j)) = M.ret (.d (.bl (decide (j ≤ i)))) := (rfl)
@[simp] theorem opEq_i {n : Bool} {i j : Int} : opEq n (.d (.int i)) (.d (.int j)) = M.ret (.d (.bl (decide (i = j) != n))) := (rfl)
@[simp] theorem opEq_s {n : Bool} {i j : Str} : opEq n (.d (.str i)) (.d (.str j)) = M.ret (.d (.bl (decide (i = j) != n))) := (rfl)
@[simp] theorem opEq_b {n : Bool} {i j : Bool} : opEq n (.d (.bl i)) (.d (.bl j)) = M.ret (.d (.bl (decide (i = j) != n))) := (rfl)
@[simp] theorem opIs_b {n : Bool} {i j : Bool} : opIs n (.d (.bl i)) (.d (.bl j)) = M.ret (.d (.bl (decide (i = j) != n))) := (rfl)
@[simp] theorem opIn_s {n : Bool} {i j : Str} : opIn n (.d (.str i)) (.d (.str j)) = M.ret (.d (.bl (strIn i j != n))) := (rfl)
@[simp] theorem w_opAddS {mk : Bool} {i j : Str} : wpM (opAdd mk (.d (.str i)) (.d (.str j))) W Q E = (i.length + j.length ≤ sizeLine ∧ Q (.d (.str (i ++ j))) W) := by
  show wpM ((M.guard _).bind _) W Q E = _
  rw [w_bind, w_guard]; rfl
/-! worlds -/
def seqM : Option MO → Option (Bool × List RV)
  | some (.lst xs) => some (false, xs)
  | some (.fz (.lst xs)) => some (false, xs.map .d)
  | some (.fz (.tup xs)) => some (true, xs.map .d)
  | _ => none
@[simp] theorem seqOf_r {l : Nat} : seqOf W (.r l) = seqM (W[l]?) := (rfl)
@[simp] theorem seqOf_l {xs : List D} : seqOf W (.d (.lst xs)) = some (false, xs.map .d) := (rfl)
@[simp] theorem seqOf_t {xs : List D} : seqOf W (.d (.tup xs)) = some (true, xs.map .d) := (rfl)
@[simp] theorem seqM_l {xs : List RV} : seqM (some (.lst xs)) = some (false, xs) := (rfl)
@[simp] theorem seqM_fl {xs : List D} : seqM (some (.fz (.lst xs))) = some (false, xs.map .d) := (rfl)
@[simp] theorem seqM_ft {xs : List D} : seqM (some (.fz (.tup xs))) = some (true, xs.map .d) := (rfl)
def lstM (l : Nat) : Option MO → Option (Nat × List RV)
  | some (.lst xs) => some (l, xs)
  | _ => none
@[simp] theorem lstAt_r {l : Nat} : lstAt W (.r l) = lstM l (W[l]?) := (rfl)
@[simp] theorem lstM_l {l : Nat} {xs : List RV} : lstM l (some (.lst xs)) = some (l, xs) := (rfl)
def ixK (i : Int) (o : Option (Bool × List RV)) : Option RV := match o with | some p => atI p.2 i | none => none
@[simp] theorem ixK_some {i : Int} {t : Bool} {xs : List RV} : ixK i (some (t, xs)) = atI xs i := (rfl)
theorem w_opIxL {u : RV} {i : Int} : wpM (opIxL u (.d (.int i))) W Q E = lookK (ixK i (seqOf W u)) Q W := by
  unfold opIxL
  rw [w_look]
  unfold ixK
  cases seqOf W u <;> rfl
@[simp] theorem w_opIx_r {l : Nat} {i : Int} : wpM (opIx (.r l) (.d (.int i))) W Q E = lookK (ixK i (seqOf W (.r l))) Q W := w_opIxL
@[simp] theorem w_opIx_l {xs : List D} {i : Int} : wpM (opIx (.d (.lst xs)) (.d (.int i))) W Q E = lookK (ixK i (seqOf W (.d (.lst xs)))) Q W := w_opIxL
@[simp] theorem w_opIx_t {xs : List D} {i : Int} : wpM (opIx (.d (.tup xs)) (.d (.int i))) W Q E = lookK (ixK i (seqOf W (.d (.tup xs)))) Q W := w_opIxL
@[simp] theorem atI_0 {α : Type} {a : α} {l : List α} : atI (a :: l) 0 = some a := by simp [atI, ixN]
@[simp] theorem atI_1 {α : Type} {a b : α} {l : List α} : atI (a :: b :: l) 1 = some b := by
  unfold atI ixN
  rw [if_pos (by decide), if_pos (by simp; omega)]; rfl
@[simp] theorem atI_2 {α : Type} {a b c : α} {l : List α} : atI (a :: b :: c :: l) 2 = some c := by
  unfold atI ixN
  rw [if_pos (by decide), if_pos (by simp; omega)]; rfl
@[simp] theorem atI_3 {α : Type} {a b c d : α} {l : List α} : atI (a :: b :: c :: d :: l) 3 = some d := by
  unfold atI ixN
  rw [if_pos (by decide), if_pos (by simp; omega)]; rfl
@[simp] theorem ixN_4_1 : ixN 4 1 = some 1 := (rfl)
@[simp] theorem ixN_4_2 : ixN 4 2 = some 2 := (rfl)
@[simp] theorem ixN_4_3 : ixN 4 3 = some 3 := (rfl)
@[simp] theorem ixN_3_0 : ixN 3 0 = some 0 := (rfl)
@[simp] theorem ixN_3_1 : ixN 3 1 = some 1 := (rfl)
@[simp] theorem ixN_3_2 : ixN 3 2 = some 2 := (rfl)
/-! built-in functions -/
@[simp] theorem bInt_i {i : Int} : bInt [.d (.int i)] = M.ret (.d (.int i)) := (rfl)
@[simp] theorem w_bLen_s {z : Str} : wpM (bLen [.d (.str z)]) W Q E = (z.length ≤ sizeLine ∧ Q (.d (.int z.length)) W) := by
  show wpM ((M.guard _).bind _) W Q E = _
  rw [w_bind, w_guard]; rfl
def lenF (p : Bool × List RV) : M RV := M.ret (.d (.int p.2.length))
@[simp] theorem lenF_ap {t : Bool} {xs : List RV} : lenF (t, xs) = M.ret (.d (.int xs.length)) := (rfl)
@[simp] theorem w_bLen_r {l : Nat} : wpM (bLen [.r l]) W Q E = lookK (seqOf W (.r l)) (kB lenF Q E) W := by
  show wpM ((M.look _).bind _) W Q E = _
  rw [w_bind, w_look]; rfl
@[simp] theorem w_bLen_l {xs : List D} : wpM (bLen [.d (.lst xs)]) W Q E = Q (.d (.int xs.length)) W := by
  unfold bLen
  dsimp only
  rw [w_bind, w_look]
  show Q (.d (.int ((xs.map RV.d).length : Nat))) W = _
  rw [List.length_map]
@[simp] theorem w_bLen_t {xs : List D} : wpM (bLen [.d (.tup xs)]) W Q E = Q (.d (.int xs.length)) W := by
  unfold bLen
  dsimp only
  rw [w_bind, w_look]
  show Q (.d (.int ((xs.map RV.d).length : Nat))) W = _
  rw [List.length_map]
@[simp] theorem w_bOrd {z : Str} : wpM (bOrd [.d (.str z)]) W Q E = (z.length = 1 ∧ Q (.d (.int (z.cps.getD 0 0 : Nat))) W) := by
  show wpM ((M.guard _).bind _) W Q E = _
  rw [w_bind, w_guard]; rfl
def isiK (ts : List Ty) (t : Option Ty) (Q : RV → Wd → Prop) (W : Wd) : Prop := match t with | some t => Q (.d (.bl (ts.any t.sub))) W | none => False
@[simp] theorem isiK_some {ts : List Ty} {t : Ty} : isiK ts (some t) Q W = Q (.d (.bl (ts.any t.sub))) W := (rfl)
def isiT (o : Option (List Ty)) (t : Option Ty) (Q : RV → Wd → Prop) (W : Wd) : Prop := match o with | some ts => isiK ts t Q W | none => False
@[simp] theorem isiT_some {ts : List Ty} {t : Option Ty} : isiT (some ts) t Q W = isiK ts t Q W := (rfl)
@[simp] theorem w_bIsi {u : RV} {y : D} : wpM (bIsi [u, .d y]) W Q E = isiT (tysOf y) (tyOf W u) Q W := by
  show wpM ((M.opt _).bind _) W Q E = _
  rw [w_bind]
  cases tysOf y with
  | none => rfl
  | some ts =>
    show wpM ((M.look _).bind _) W Q E = _
    rw [w_bind, w_look]
    show lookK (tyOf W u) _ W = isiK ts (tyOf W u) Q W
    cases tyOf W u <;> rfl
@[simp] theorem tysOf_1 {t : Ty} (h : t ≠ .non) : tysOf (.ty t) = some [t] := by
  show (if t = .non then none else some [t]) = _
  rw [if_neg h]
/-! methods -/
def mthA (f : RV → List RV → M RV) (R : Env → M (List RV)) (δ : Env) (u : RV) : M RV := (M.look fun W => (seqOf W u).bind fun p => if p.1 then none else some ()).bind fun _ => (R δ).bind fun us => f u us
@[simp] theorem w_mth {f : RV → List RV → M RV} : wpM (evMth f F R δ) W Q E = wpM (F δ) W (kB (mthA f R δ) Q E) E := propext wpM_bind
def mthK (f : RV → List RV → M RV) (R : Env → M (List RV)) (δ : Env) (u : RV) (o : Option (Bool × List RV)) (Q : RV → Wd → Prop) (E : DX → Wd → Prop) (W : Wd) : Prop := match o with
  | some (false, _) => wpM (R δ) W (kB (f u) Q E) E
  | _ => False
@[simp] theorem mthK_l {f : RV → List RV → M RV} {u : RV} {xs : List RV} : mthK f R δ u (some (false, xs)) Q E W = wpM (R δ) W (kB (f u) Q E) E := (rfl)
@[simp] theorem w_mthA {f : RV → List RV → M RV} {u : RV} : wpM (mthA f R δ u) W Q E = mthK f R δ u (seqOf W u) Q E W := by
  unfold mthA mthK
  rw [w_bind, w_look]
  cases seqOf W u with
  | none => rfl
  | some p =>
    obtain ⟨t, xs⟩ := p
    cases t with
    | true => rfl
    | false =>
      show wpM ((R δ).bind _) W Q E = _
      rw [w_bind]
def popK (i : Int) (o : Option (Nat × List RV)) (Q : RV → Wd → Prop) (W : Wd) : Prop := match o with
  | some (l, xs) => match seqIndex? i xs.length with
    | some k => match xs[k]? with
      | some y => (-(2 ^ 63) ≤ i ∧ i < 2 ^ 63) ∧ Q y (W.set l (.lst (xs.eraseIdx k)))
      | none => False
    | none => False
  | none => False
@[simp] theorem w_mPop {u : RV} {i : Int} : wpM (mPop u [.d (.int i)]) W Q E = popK i (lstAt W u) Q W := by
  unfold mPop popK
  rw [w_bind, w_look]
  cases lstAt W u with
  | none => rfl
  | some p =>
    obtain ⟨l, xs⟩ := p
    dsimp only [Option.bind]
    cases seqIndex? i xs.length with
    | none => rfl
    | some k =>
      dsimp only
      cases xs[k]? with
      | none => rfl
      | some y =>
        simp only [Option.map, lookK_some, kB_ap]
        rw [w_bind, w_guard]
        rfl
theorem popK_at {i : Int} {l k : Nat} {xs : List RV} {y : RV} (h1 : 0 ≤ i) (h2 : i.toNat = k) (h3 : xs[k]? = some y) (h4 : i < 2 ^ 63) : popK i (some (l, xs)) Q W = Q y (W.set l (.lst (xs.eraseIdx k))) := by
  have lt : k < xs.length := (List.getElem?_eq_some_iff.mp h3).1
  have e : seqIndex? i xs.length = some k := by
    unfold seqIndex?
    have h5 : ¬ i < 0 := by omega
    have h6 : i < (xs.length : Int) := by omega
    simp only [if_neg h5]
    simp [h1, h6, h2]
  unfold popK
  dsimp only
  rw [e]
  dsimp only
  rw [h3]
  dsimp only
  exact propext ⟨fun h => h.2, fun h => ⟨⟨by omega, h4⟩, h⟩⟩
def appK (v : RV) (o : Option (Nat × List RV)) (Q : RV → Wd → Prop) (W : Wd) : Prop := match o with
  | some (l, xs) => xs.length < sizeLine ∧ Q (.d .non) (W.set l (.lst (xs ++ [v])))
  | none => False
@[simp] theorem appK_some {v : RV} {l : Nat} {xs : List RV} : appK v (some (l, xs)) Q W = (xs.length < sizeLine ∧ Q (.d .non) (W.set l (.lst (xs ++ [v])))) := (rfl)
@[simp] theorem w_mAppend {u v : RV} : wpM (mAppend u [v]) W Q E = appK v (lstAt W u) Q W := by
  unfold mAppend appK
  rw [w_bind, w_look]
  cases lstAt W u with
  | none => rfl
  | some p =>
    obtain ⟨l, xs⟩ := p
    simp only [lookK_some, kB_ap]
    rw [w_bind, w_guard]
    rfl
/-! defs -/
def gcQ (W0 : Wd) (Q : RV → Wd → Prop) (v : RV) (W : Wd) : Prop := match v with
  | .d x => Q (.d x) (gcW W0 W)
  | .r l => Q (.r l) W
def gcE (W0 : Wd) (E : DX → Wd → Prop) (x : DX) (W : Wd) : Prop := E x (gcW W0 W)
@[simp] theorem gcQ_d {W0 : Wd} {x : D} : gcQ W0 Q (.d x) W = Q (.d x) (gcW W0 W) := (rfl)
@[simp] theorem gcQ_r {W0 : Wd} {l : Nat} : gcQ W0 Q (.r l) W = Q (.r l) W := (rfl)
@[simp] theorem gcE_ap {W0 : Wd} {x : DX} : gcE W0 E x W = E x (gcW W0 W) := (rfl)
def kFn (W0 : Wd) (Q : RV → Wd → Prop) (p : Fl × Env) (W : Wd) : Prop := match p.1 with
  | .rt v => gcQ W0 Q v W
  | .nx => gcQ W0 Q (.d .non) W
  | _ => False
theorem w_gcM {m : M RV} : wpM (gcM m) W Q E = wpM m W (gcQ W Q) (gcE W E) := by
  unfold wpM gcM
  cases m W with
  | none => rfl
  | some p =>
    obtain ⟨r, W'⟩ := p
    cases r with
    | error x => rfl
    | ok v => cases v <;> rfl
theorem w_fnD {n : Nat} {Fm : Env → M (Fl × Env)} {rvs : List RV} : wpM (fnD n Fm rvs) W Q E = wpM (Fm (startD n rvs)) W (kFn W Q) (gcE W E) := by
  unfold fnD
  rw [w_gcM]
  unfold fnD0
  rw [w_bind]
  congr 1
  funext p W'
  obtain ⟨f, δ'⟩ := p
  cases f <;> rfl
@[simp] theorem kFn_rt {W0 : Wd} {v : RV} : kFn W0 Q (.rt v, δ) W = gcQ W0 Q v W := (rfl)
@[simp] theorem kFn_nx {W0 : Wd} : kFn W0 Q (.nx, δ) W = gcQ W0 Q (.d .non) W := (rfl)
/-! ### what is left behind a call -/
theorem gcW_of {W W' W1 X : Wd} (h : W' = W1 ++ X) (hl : W1.length = W.length) (g : ∀ (l : Nat) (o : MO), l < W.length → W1[l]? = some o → W[l]? = some o ∨ o.below W.length = true) : gcW W W' = W1 := by
  subst h
  unfold gcW
  rw [if_pos ⟨by rw [List.length_append]; omega, fun l o h1 h2 => g l o h1 (by rwa [List.getElem?_append_left (by omega)] at h2)⟩]
  rw [← hl, List.take_left]
@[simp] theorem gcW_app {W X : Wd} : gcW W (W ++ X) = W := gcW_of rfl rfl fun _ _ _ h => .inl h
@[simp] theorem gcW_self {W : Wd} : gcW W W = W := by have := gcW_app (W := W) (X := []); rwa [List.append_nil] at this
theorem gcW_len {W W' : Wd} (h : W'.length = W.length) : gcW W W' = W' := by
  unfold gcW
  split
  · rw [← h, List.take_length]
  · rfl
end
end DL
set_option Elab.async false
set_option linter.all false
set_option maxRecDepth 100000
set_option maxHeartbeats 4000000
/-! DL15: loops evaluated. -/
namespace DL
open PySem PySem.Spec PyProof.Rows L2 RZ
section
variable {W : Wd} {E : DX → Wd → Prop} {δ : Env} {Q : RV → Wd → Prop} {QS' : Fl × Env → Wd → Prop} {QB' : Bool → Wd → Prop} {QL : List RV → Wd → Prop} {QG : Env → Wd → Prop} {QD : List D → Wd → Prop} {Fa Fb F : Env → M RV} {R : Env → M (List RV)} {B : Env → M (Fl × Env)} {Ta : Env → M Bool} {T : RV → Env → M Env} {S : Env → M (List D)}
theorem wpM_and {α : Type} {m : M α} {Q Q' : α → Wd → Prop} (h : wpM m W Q E) (h' : ∀ a W', Q a W' → Q' a W') : wpM m W Q' E := wpM_mono h h' fun _ _ e => e
/-! while -/
def whG (T : Env → M Bool) (B : Env → M (Fl × Env)) (n : Nat) (p : Fl × Env) : M (Fl × Env) := match p.1 with
  | .nx => evWhile T B n p.2
  | .ct => evWhile T B n p.2
  | .bk => M.ret (.nx, p.2)
  | .rt v => M.ret (.rt v, p.2)
@[simp] theorem whG_nx {n : Nat} : whG Ta B n (.nx, δ) = evWhile Ta B n δ := (rfl)
@[simp] theorem whG_ct {n : Nat} : whG Ta B n (.ct, δ) = evWhile Ta B n δ := (rfl)
@[simp] theorem whG_bk {n : Nat} : whG Ta B n (.bk, δ) = M.ret (.nx, δ) := (rfl)
@[simp] theorem whG_rt {n : Nat} {v : RV} : whG Ta B n (.rt v, δ) = M.ret (.rt v, δ) := (rfl)
def whF (T : Env → M Bool) (B : Env → M (Fl × Env)) (n : Nat) (δ : Env) (b : Bool) : M (Fl × Env) := if b then (B δ).bind (whG T B n) else M.ret (.nx, δ)
@[simp] theorem w_whF_t {n : Nat} : wpM (whF Ta B n δ true) W QS' E = wpM (B δ) W (kB (whG Ta B n) QS' E) E := propext wpM_bind
@[simp] theorem w_whF_f {n : Nat} : wpM (whF Ta B n δ false) W QS' E = QS' (.nx, δ) W := (rfl)
theorem w_while {n : Nat} : wpM (evWhile Ta B (n + 1) δ) W QS' E = wpM (Ta δ) W (kB (whF Ta B n δ) QS' E) E := by
  rw [evWhile, w_bind]
  congr 1
/-! for -/
def forF (T : RV → Env → M Env) (B : Env → M (Fl × Env)) (δ : Env) (ds : List D) : M (Fl × Env) := goFor T B ds δ
@[simp] theorem w_for : wpM (evFor S T B δ) W QS' E = wpM (S δ) W (kB (forF T B δ) QS' E) E := propext wpM_bind
def forG (T : RV → Env → M Env) (B : Env → M (Fl × Env)) (ds : List D) (p : Fl × Env) : M (Fl × Env) := match p.1 with
  | .nx => goFor T B ds p.2
  | .ct => goFor T B ds p.2
  | .bk => M.ret (.nx, p.2)
  | .rt v => M.ret (.rt v, p.2)
@[simp] theorem forG_nx {ds : List D} : forG T B ds (.nx, δ) = goFor T B ds δ := (rfl)
@[simp] theorem forG_ct {ds : List D} : forG T B ds (.ct, δ) = goFor T B ds δ := (rfl)
@[simp] theorem forG_bk {ds : List D} : forG T B ds (.bk, δ) = M.ret (.nx, δ) := (rfl)
@[simp] theorem forG_rt {ds : List D} {v : RV} : forG T B ds (.rt v, δ) = M.ret (.rt v, δ) := (rfl)
def forH (T : RV → Env → M Env) (B : Env → M (Fl × Env)) (ds : List D) (δ : Env) : M (Fl × Env) := (B δ).bind (forG T B ds)
@[simp] theorem w_forH {ds : List D} : wpM (forH T B ds δ) W QS' E = wpM (B δ) W (kB (forG T B ds) QS' E) E := propext wpM_bind
theorem w_goFor {d : D} {ds : List D} : wpM (goFor T B (d :: ds) δ) W QS' E = wpM (T (.d d) δ) W (kB (forH T B ds) QS' E) E := by
  rw [goFor, w_bind]
  rfl
theorem w_goFor0 : wpM (goFor T B [] δ) W QS' E = QS' (.nx, δ) W := rfl
/-- a for without break, by an invariant -/
theorem goFor_inv (P : Nat → Env → Wd → Prop) (ds0 : List D) (step : ∀ i d δ W, ds0[i]? = some d → P i δ W → wpM (T (.d d) δ) W (kB (fun δ1 => B δ1) (fun p W' => (p.1 = .nx ∨ p.1 = .ct) ∧ P (i + 1) p.2 W') E) E) :
    ∀ (ds : List D) (i : Nat) (δ : Env) (W : Wd), ds = ds0.drop i → i ≤ ds0.length → P i δ W → wpM (goFor T B ds δ) W (fun p W' => p.1 = .nx ∧ P ds0.length p.2 W') E
  | [], i, δ, W, e, hi, h => by
    have : i = ds0.length := by
      have := congrArg List.length e
      rw [List.length_nil, List.length_drop] at this
      omega
    subst this
    exact ⟨rfl, h⟩
  | d :: ds, i, δ, W, e, hi, h => by
    have hlt : i < ds0.length := by
      have := congrArg List.length e
      rw [List.length_cons, List.length_drop] at this
      omega
    rw [List.drop_eq_getElem_cons hlt] at e
    injection e with e1 e2
    rw [w_goFor]
    refine wpM_mono (step i d δ W (by rw [List.getElem?_eq_getElem hlt, e1]) h) (fun δ1 W1 h1 => ?_) fun _ _ e => e
    rw [kB_ap, w_forH]
    refine wpM_mono h1 (fun p W2 h2 => ?_) fun _ _ e => e
    obtain ⟨f, δ2⟩ := p
    obtain ⟨hf, h2⟩ := h2
    rcases hf with hf | hf
    · obtain rfl : f = .nx := hf
      exact goFor_inv P ds0 step ds (i + 1) δ2 W2 e2 hlt h2
    · obtain rfl : f = .ct := hf
      exact goFor_inv P ds0 step ds (i + 1) δ2 W2 e2 hlt h2
/-! what is walked -/
def iterA (u : RV) : M (List D) := (toD u).bind itemsOf
@[simp] theorem w_iter : wpM (evIter F δ) W QD E = wpM (F δ) W (kB iterA QD E) E := propext wpM_bind
@[simp] theorem iterA_l {xs : List D} : iterA (.d (.lst xs)) = M.ret xs := (rfl)
@[simp] theorem iterA_t {xs : List D} : iterA (.d (.tup xs)) = M.ret xs := (rfl)
@[simp] theorem iterA_s {z : Str} : iterA (.d (.str z)) = M.ret (charsOf z) := (rfl)
def rng1 (us : List RV) : M (List D) := (M.opt (intsL us)).bind fun ns => match ns with
  | [j] => (M.guard (-(2 ^ 62) ≤ j ∧ j < 2 ^ 62)).bind fun _ => M.ret (intsFrom 0 j.toNat)
  | _ => M.fail
@[simp] theorem w_range1 : wpM (evRange1 R δ) W QD E = wpM (R δ) W (kB rng1 QD E) E := propext wpM_bind
theorem w_rng1 {j : Int} : wpM (rng1 [.d (.int j)]) W QD E = ((-(2 ^ 62) ≤ j ∧ j < 2 ^ 62) ∧ QD (intsFrom 0 j.toNat) W) := by
  show wpM ((M.guard _).bind _) W QD E = _
  rw [w_bind, w_guard]; rfl
@[simp] theorem w_rng1n {k : Nat} : wpM (rng1 [.d (.int (k : Nat))]) W QD E = (k < 2 ^ 62 ∧ QD (intsFrom 0 k) W) := by
  rw [w_rng1]
  refine propext ⟨fun h => ⟨?_, ?_⟩, fun h => ⟨⟨?_, ?_⟩, ?_⟩⟩
  · have := h.1.2; omega
  · have := h.2; rwa [Int.toNat_natCast] at this
  · omega
  · have := h.1; omega
  · rw [Int.toNat_natCast]; exact h.2
@[simp] theorem w_rng1l {k : Nat} : wpM (rng1 [.d (.int (@OfNat.ofNat Int k instOfNat))]) W QD E = (k < 2 ^ 62 ∧ QD (intsFrom 0 k) W) := w_rng1n (k := k)
def rng2 (us : List RV) : M (List D) := (M.opt (intsL us)).bind fun ns => match ns with
  | [i, j] => (M.guard (-(2 ^ 62) ≤ i ∧ i < 2 ^ 62 ∧ -(2 ^ 62) ≤ j ∧ j < 2 ^ 62)).bind fun _ => M.ret (intsFrom i (j - i).toNat)
  | _ => M.fail
@[simp] theorem w_range2 : wpM (evRange2 R δ) W QD E = wpM (R δ) W (kB rng2 QD E) E := propext wpM_bind
@[simp] theorem w_rng2 {i j : Int} : wpM (rng2 [.d (.int i), .d (.int j)]) W QD E = ((-(2 ^ 62) ≤ i ∧ i < 2 ^ 62 ∧ -(2 ^ 62) ≤ j ∧ j < 2 ^ 62) ∧ QD (intsFrom i (j - i).toNat) W) := by
  show wpM ((M.guard _).bind _) W QD E = _
  rw [w_bind, w_guard]; rfl
def enumA (us : List RV) : M (List D) := match us with
  | [u] => (toD u).bind itemsE
  | _ => M.fail
@[simp] theorem w_enum : wpM (evEnum R δ) W QD E = wpM (R δ) W (kB enumA QD E) E := by
  unfold evEnum
  rw [w_bind]
  congr 2
@[simp] theorem enumA_l {xs : List D} : enumA [.d (.lst xs)] = M.ret (enumD xs) := (rfl)
@[simp] theorem enumA_s {z : Str} : enumA [.d (.str z)] = M.ret (enumD (charsOf z)) := (rfl)
def zipA (us : List RV) : M (List D) := match us with
  | [u, v] => (toD u).bind fun x => (toD v).bind fun y => itemsZ x y
  | _ => M.fail
@[simp] theorem w_zip : wpM (evZip R δ) W QD E = wpM (R δ) W (kB zipA QD E) E := by
  unfold evZip
  rw [w_bind]
  congr 2
@[simp] theorem zipA_l {xs ys : List D} : zipA [.d (.lst xs), .d (.lst ys)] = M.ret (zipD xs ys) := (rfl)
@[simp] theorem zipA_t {xs ys : List D} : zipA [.d (.tup xs), .d (.tup ys)] = M.ret (zipD xs ys) := (rfl)
/-! toD, freezing -/
@[simp] theorem w_toD_d {x : D} {QX : D → Wd → Prop} : wpM (toD (.d x)) W QX E = QX x W := (rfl)
def frzP (l : Nat) (m : MO) (o : Option D) (QX : D → Wd → Prop) (W : Wd) : Prop := match o with
  | some d => QX d (if isFz m then W else W.set l (.fz d))
  | none => False
def frzM (l : Nat) (o : Option MO) (QX : D → Wd → Prop) (W : Wd) : Prop := match o with
  | some m => frzP l m (pureM m) QX W
  | none => False
@[simp] theorem w_toD_r {l : Nat} {QX : D → Wd → Prop} : wpM (toD (.r l)) W QX E = frzM l (W[l]?) QX W := by
  unfold wpM toD frzM
  dsimp only
  cases W[l]? with
  | none => rfl
  | some o =>
    dsimp only
    unfold frzP
    cases pureM o <;> rfl
def frzL (l : Nat) (o : Option (List D)) (QX : D → Wd → Prop) (W : Wd) : Prop := match o with | some ds => QX (.lst ds) (W.set l (.fz (.lst ds))) | none => False
@[simp] theorem frzL_some {l : Nat} {ds : List D} {QX : D → Wd → Prop} : frzL l (some ds) QX W = QX (.lst ds) (W.set l (.fz (.lst ds))) := (rfl)
@[simp] theorem frzM_lst {l : Nat} {xs : List RV} {QX : D → Wd → Prop} : frzM l (some (.lst xs)) QX W = frzL l (pureL xs) QX W := by
  unfold frzM frzP frzL pureM
  dsimp only
  cases pureL xs <;> rfl
def frzO (l : Nat) (C : Addr) (o : Option (List (Str × D))) (QX : D → Wd → Prop) (W : Wd) : Prop := match o with | some ds => QX (.obj C ds) (W.set l (.fz (.obj C ds))) | none => False
@[simp] theorem frzO_some {l : Nat} {C : Addr} {ds : List (Str × D)} {QX : D → Wd → Prop} : frzO l C (some ds) QX W = QX (.obj C ds) (W.set l (.fz (.obj C ds))) := (rfl)
@[simp] theorem frzM_ins {l : Nat} {C : Addr} {xs : List (Str × RV)} {QX : D → Wd → Prop} : frzM l (some (.ins C xs)) QX W = frzO l C (pureF xs) QX W := by
  unfold frzM frzP frzO pureM
  dsimp only
  cases pureF xs <;> rfl
@[simp] theorem frzM_dK {l : Nat} {ds : List (Key × D)} {QX : D → Wd → Prop} : frzM l (some (.dK ds)) QX W = QX (.dK ds) (W.set l (.fz (.dK ds))) := (rfl)
@[simp] theorem frzM_dT {l : Nat} {ds : List (List Key × D)} {QX : D → Wd → Prop} : frzM l (some (.dT ds)) QX W = QX (.dT ds) (W.set l (.fz (.dT ds))) := (rfl)
@[simp] theorem frzM_no {l : Nat} {QX : D → Wd → Prop} : frzM l none QX W = False := (rfl)
@[simp] theorem pureL_nil : pureL [] = some [] := (rfl)
@[simp] theorem pureL_cons {z : D} {r : List RV} : pureL (.d z :: r) = (pureL r).map (z :: ·) := (rfl)
@[simp] theorem pureF_nil : pureF [] = some [] := (rfl)
@[simp] theorem pureF_cons {f : Str} {z : D} {r : List (Str × RV)} : pureF ((f, .d z) :: r) = (pureF r).map ((f, z) :: ·) := (rfl)
@[simp] theorem pureL_map : ∀ {ds : List D}, pureL (ds.map RV.d) = some ds
  | [] => rfl
  | d :: ds => by
    show (pureL (ds.map RV.d)).map (d :: ·) = _
    rw [pureL_map]; rfl
theorem frzM_l {l : Nat} {ds : List D} {QX : D → Wd → Prop} : frzM l (some (.lst (ds.map RV.d))) QX W = QX (.lst ds) (W.set l (.fz (.lst ds))) := by
  rw [frzM_lst, pureL_map]; rfl
@[simp] theorem frzM_f {l : Nat} {x : D} {QX : D → Wd → Prop} : frzM l (some (.fz x)) QX W = QX x W := (rfl)
def frzA (u : RV) : M RV := (toD u).bind fun d => M.ret (.d d)
def frzB (d : D) : M RV := M.ret (.d d)
@[simp] theorem frzB_ap {d : D} : frzB d = M.ret (.d d) := (rfl)
@[simp] theorem w_frz : wpM (evFrz F δ) W Q E = wpM (F δ) W (kB frzA Q E) E := propext wpM_bind
@[simp] theorem w_frzA {u : RV} : wpM (frzA u) W Q E = wpM (toD u) W (kB frzB Q E) E := propext wpM_bind
@[simp] theorem w_iterA_r {l : Nat} : wpM (iterA (.r l)) W QD E = frzM l (W[l]?) (kB itemsOf QD E) W := by
  show wpM ((toD _).bind _) W QD E = _
  rw [w_bind, w_toD_r]
@[simp] theorem itemsOf_l {xs : List D} : itemsOf (.lst xs) = M.ret xs := (rfl)
@[simp] theorem itemsOf_t {xs : List D} : itemsOf (.tup xs) = M.ret xs := (rfl)
/-! comprehensions -/
theorem w_noEr {α : Type} {m : M α} {QX : α → Wd → Prop} (h : wpM m W QX (fun _ _ => False)) : wpM (noEr m) W QX E := by
  unfold wpM at h
  unfold wpM noEr
  cases e : m W with
  | none => rw [e] at h; exact h.elim
  | some p =>
    obtain ⟨r, W'⟩ := p
    rw [e] at h
    cases r with
    | ok a => exact h
    | error x => exact h.elim
def lcF (mk : Bool) (T : RV → Env → M Env) (C : Env → M Bool) (Ee : Env → M RV) (δ : Env) (ds : List D) : M RV := noEr (goLc mk T C Ee δ ds [])
@[simp] theorem w_lc {mk : Bool} {own : List Nat} : wpM (evLc mk own S T Ta F δ) W Q E = wpM (S δ) W (kB (lcF mk T Ta F (wipeD δ own)) Q E) E := propext wpM_bind
def lcC (mk : Bool) (T : RV → Env → M Env) (C : Env → M Bool) (Ee : Env → M RV) (δ : Env) (ds : List D) (acc : List RV) (δ1 : Env) : M RV := (C δ1).bind fun b => if b then (Ee δ1).bind fun v => (M.guard (acc.length < sizeLine)).bind fun _ => goLc mk T C Ee δ ds (acc ++ [v]) else goLc mk T C Ee δ ds acc
def lcI (mk : Bool) (T : RV → Env → M Env) (C : Env → M Bool) (Ee : Env → M RV) (δ : Env) (ds : List D) (acc : List RV) (δ1 : Env) (b : Bool) : M RV := if b then (Ee δ1).bind fun v => (M.guard (acc.length < sizeLine)).bind fun _ => goLc mk T C Ee δ ds (acc ++ [v]) else goLc mk T C Ee δ ds acc
def lcV (mk : Bool) (T : RV → Env → M Env) (C : Env → M Bool) (Ee : Env → M RV) (δ : Env) (ds : List D) (acc : List RV) (v : RV) : M RV := (M.guard (acc.length < sizeLine)).bind fun _ => goLc mk T C Ee δ ds (acc ++ [v])
theorem w_goLc {mk : Bool} {d : D} {ds : List D} {acc : List RV} : wpM (goLc mk T Ta F δ (d :: ds) acc) W Q E = wpM (T (.d d) δ) W (kB (lcC mk T Ta F δ ds acc) Q E) E := by
  rw [goLc, w_bind]
  rfl
theorem w_goLc0 {mk : Bool} {acc : List RV} : wpM (goLc mk T Ta F δ [] acc) W Q E = wpM (newL mk acc) W Q E := rfl
@[simp] theorem w_lcC {mk : Bool} {ds : List D} {acc : List RV} {δ1 : Env} : wpM (lcC mk T Ta F δ ds acc δ1) W Q E = wpM (Ta δ1) W (kB (lcI mk T Ta F δ ds acc δ1) Q E) E := propext wpM_bind
@[simp] theorem w_lcI_f {mk : Bool} {ds : List D} {acc : List RV} {δ1 : Env} : wpM (lcI mk T Ta F δ ds acc δ1 false) W Q E = wpM (goLc mk T Ta F δ ds acc) W Q E := (rfl)
@[simp] theorem w_lcI_t {mk : Bool} {ds : List D} {acc : List RV} {δ1 : Env} : wpM (lcI mk T Ta F δ ds acc δ1 true) W Q E = wpM (F δ1) W (kB (lcV mk T Ta F δ ds acc) Q E) E := propext wpM_bind
@[simp] theorem w_lcV {mk : Bool} {ds : List D} {acc : List RV} {v : RV} : wpM (lcV mk T Ta F δ ds acc v) W Q E = (acc.length < sizeLine ∧ wpM (goLc mk T Ta F δ ds (acc ++ [v])) W Q E) := by
  unfold lcV
  rw [w_bind, w_guard]; rfl
/-- a comprehension by an invariant over what is gathered -/
theorem goLc_inv {mk : Bool} (P : Nat → List RV → Wd → Prop) (ds0 : List D) (hz : ds0.length < sizeLine)
    (step : ∀ i d acc W, ds0[i]? = some d → P i acc W → wpM (T (.d d) δ) W (fun δ1 W1 => wpM (Ta δ1) W1 (fun b W2 => if b then wpM (F δ1) W2 (fun v W3 => P (i + 1) (acc ++ [v]) W3) E else P (i + 1) acc W2) E) E) :
    ∀ (ds : List D) (i : Nat) (acc : List RV) (W : Wd), ds = ds0.drop i → i ≤ ds0.length → acc.length ≤ i → P i acc W → (∀ acc W, acc.length ≤ ds0.length → P ds0.length acc W → wpM (newL mk acc) W Q E) → wpM (goLc mk T Ta F δ ds acc) W Q E
  | [], i, acc, W, e, hi, hl, h, fin => by
    have : i = ds0.length := by
      have := congrArg List.length e
      rw [List.length_nil, List.length_drop] at this
      omega
    subst this
    exact fin acc W hl h
  | d :: ds, i, acc, W, e, hi, hl, h, fin => by
    have hlt : i < ds0.length := by
      have := congrArg List.length e
      rw [List.length_cons, List.length_drop] at this
      omega
    rw [List.drop_eq_getElem_cons hlt] at e
    injection e with e1 e2
    rw [w_goLc]
    refine wpM_mono (step i d acc W (by rw [List.getElem?_eq_getElem hlt, e1]) h) (fun δ1 W1 h1 => ?_) fun _ _ e => e
    rw [kB_ap, w_lcC]
    refine wpM_mono h1 (fun b W2 h2 => ?_) fun _ _ e => e
    cases b with
    | false => exact goLc_inv P ds0 hz step ds (i + 1) acc W2 e2 hlt (by omega) h2 fin
    | true =>
      rw [kB_ap, w_lcI_t]
      refine wpM_mono h2 (fun v W3 h3 => ?_) fun _ _ e => e
      rw [kB_ap, w_lcV]
      exact ⟨by omega, goLc_inv P ds0 hz step ds (i + 1) (acc ++ [v]) W3 e2 hlt (by rw [List.length_append, List.length_singleton]; omega) h3 fin⟩
/-- a comprehension of pure tests and items, the world left as it is -/
theorem goLc_fm {ds0 : List D} (c : D → Bool) (f : D → D) (hz : ds0.length < sizeLine)
    (step : ∀ d, d ∈ ds0 → wpM (T (.d d) δ) W (fun δ1 W1 => wpM (Ta δ1) W1 (fun b W2 => b = c d ∧ (b = true → wpM (F δ1) W2 (fun v W3 => v = .d (f d) ∧ W3 = W) E) ∧ (b = false → W2 = W)) E) E) (h : Q (.d (.lst ((ds0.filter c).map f))) W) :
    wpM (goLc false T Ta F δ ds0 []) W Q E := by
  refine goLc_inv (P := fun i acc W' => acc = ((((ds0.take i).filter c).map f).map RV.d) ∧ W' = W) ds0 hz (fun i d acc W' hd hp => ?_) ds0 0 [] W rfl (Nat.zero_le _) (Nat.le_refl _) ⟨by simp, rfl⟩ fun acc W' _ hp => ?_
  · obtain ⟨rfl, rfl⟩ := hp
    have hm := List.mem_of_getElem? hd
    refine wpM_and (step d hm) fun δ1 W1 h1 => wpM_and h1 fun b W2 h2 => ?_
    obtain ⟨rfl, h3, h4⟩ := h2
    rw [List.take_add_one, hd]
    cases e : c d with
    | true =>
      rw [if_pos rfl]
      refine wpM_and (h3 e) fun v W3 h5 => ?_
      obtain ⟨rfl, rfl⟩ := h5
      simp [List.filter_append, e]
    | false =>
      rw [if_neg (by decide)]
      rw [h4 e]
      simp [List.filter_append, e]
  · obtain ⟨rfl, rfl⟩ := hp
    rw [w_newL_f, List.take_length]
    exact h
end
end DL
set_option Elab.async false
set_option linter.all false
set_option maxRecDepth 100000
set_option maxHeartbeats 4000000
/-! DL16: slices, joins, list(), +, evaluated. -/
namespace DL
open PySem PySem.Spec PyProof.Rows L2 RZ
section
variable {W : Wd} {E : DX → Wd → Prop} {δ : Env} {Q : RV → Wd → Prop} {QO : Option Int → Wd → Prop} {Fa Fb F : Env → M RV} {R : Env → M (List RV)} {Lo Hi : Env → M (Option Int)}
def oSF (u : RV) : M (Option Int) := (asI u).bind fun i => M.ret (some i)
@[simp] theorem oSF_i {i : Int} : oSF (.d (.int i)) = M.ret (some i) := (rfl)
@[simp] theorem w_oS : wpM (oS F δ) W QO E = wpM (F δ) W (kB oSF QO E) E := propext wpM_bind
def slA (mk : Bool) (Lo Hi : Env → M (Option Int)) (δ : Env) (u : RV) : M RV := (Lo δ).bind fun lo => (Hi δ).bind fun hi => opSl mk u lo hi
def slB (mk : Bool) (Hi : Env → M (Option Int)) (δ : Env) (u : RV) (lo : Option Int) : M RV := (Hi δ).bind fun hi => opSl mk u lo hi
def slC (mk : Bool) (u : RV) (lo hi : Option Int) : M RV := opSl mk u lo hi
@[simp] theorem w_sl {mk : Bool} : wpM (evSl mk F Lo Hi δ) W Q E = wpM (F δ) W (kB (slA mk Lo Hi δ) Q E) E := propext wpM_bind
@[simp] theorem w_slA {mk : Bool} {u : RV} : wpM (slA mk Lo Hi δ u) W Q E = wpM (Lo δ) W (kB (slB mk Hi δ u) Q E) E := propext wpM_bind
@[simp] theorem w_slB {mk : Bool} {u : RV} {lo : Option Int} : wpM (slB mk Hi δ u lo) W Q E = wpM (Hi δ) W (kB (slC mk u lo) Q E) E := propext wpM_bind
@[simp] theorem w_slC_s {mk : Bool} {z : Str} {lo hi : Option Int} : wpM (slC mk (.d (.str z)) lo hi) W Q E = (z.length ≤ sizeLine ∧ Q (.d (.str (cutS z lo hi))) W) := by
  show wpM ((M.guard _).bind _) W Q E = _
  rw [w_bind, w_guard]; rfl
theorem cutL_map {α β : Type} (f : α → β) (xs : List α) (lo hi : Option Int) : cutL (xs.map f) lo hi = (cutL xs lo hi).map f := by
  unfold cutL
  rw [List.length_map, ← List.map_drop, ← List.map_take]
def slK (mk : Bool) (lo hi : Option Int) (p : Bool × List RV) : M RV := if p.1 then (M.guard (¬ (HT.sIx p.2.length 0 lo = 0 ∧ HT.sIx p.2.length p.2.length hi = p.2.length))).bind fun _ => newT (cutL p.2 lo hi) else newL mk (cutL p.2 lo hi)
@[simp] theorem slK_f {mk : Bool} {lo hi : Option Int} {xs : List RV} : slK mk lo hi (false, xs) = newL mk (cutL xs lo hi) := (rfl)
@[simp] theorem w_slC_r {mk : Bool} {l : Nat} {lo hi : Option Int} : wpM (slC mk (.r l) lo hi) W Q E = lookK (seqOf W (.r l)) (kB (slK mk lo hi) Q E) W := by
  show wpM ((M.look _).bind _) W Q E = _
  rw [w_bind, w_look]; rfl
@[simp] theorem w_slC_l {xs : List D} {lo hi : Option Int} : wpM (slC false (.d (.lst xs)) lo hi) W Q E = Q (.d (.lst (cutL xs lo hi))) W := by
  unfold slC opSl
  dsimp only
  rw [w_bind, w_look]
  show wpM (newL false (cutL (xs.map RV.d) lo hi)) W Q E = _
  rw [cutL_map, w_newL_f]
@[simp] theorem w_slC_lt {xs : List D} {lo hi : Option Int} : wpM (slC true (.d (.lst xs)) lo hi) W Q E = Q (.r W.length) (W ++ [.lst ((cutL xs lo hi).map RV.d)]) := by
  unfold slC opSl
  dsimp only
  rw [w_bind, w_look]
  show wpM (newL true (cutL (xs.map RV.d) lo hi)) W Q E = _
  rw [cutL_map]; rfl
/-! methods of texts -/
def mth1B (f : Str → RV → M RV) (s : Str) (v : RV) : M RV := f s v
@[simp] theorem mth1B_ap {f : Str → RV → M RV} {s : Str} {v : RV} : mth1B f s v = f s v := (rfl)
def mth1A (f : Str → RV → M RV) (Fa : Env → M RV) (δ : Env) (u : RV) : M RV := (M.opt (match u with | .d (.str s) => some s | _ => none)).bind fun s => (Fa δ).bind fun v => f s v
@[simp] theorem w_mth1 {f : Str → RV → M RV} : wpM (evMth1 f F Fa δ) W Q E = wpM (F δ) W (kB (mth1A f Fa δ) Q E) E := propext wpM_bind
@[simp] theorem w_mth1A {f : Str → RV → M RV} {s : Str} : wpM (mth1A f Fa δ (.d (.str s))) W Q E = wpM (Fa δ) W (kB (mth1B f s) Q E) E := by
  show wpM ((Fa δ).bind _) W Q E = _
  rw [w_bind]; rfl
theorem strsL_map : ∀ ys : List Str, strsL ((ys.map D.str).map RV.d) = some ys
  | [] => rfl
  | y :: ys => by
    show (strsL ((ys.map D.str).map RV.d)).map (y :: ·) = _
    rw [strsL_map]; rfl
def joinF (s : Str) (ys : List Str) : M RV := (M.guard ((ys.map (·.length)).sum + ys.length * s.length ≤ 16777216)).bind fun _ => M.ret (.d (.str (Txt.join s ys)))
@[simp] theorem w_joinF {s : Str} {ys : List Str} : wpM (joinF s ys) W Q E = ((ys.map (·.length)).sum + ys.length * s.length ≤ 16777216 ∧ Q (.d (.str (Txt.join s ys))) W) := by
  unfold joinF
  rw [w_bind, w_guard]; rfl
def joinK (o : Option (Bool × List RV)) : Option (List Str) := o.bind fun p => strsL p.2
@[simp] theorem joinK_some {t : Bool} {xs : List RV} : joinK (some (t, xs)) = strsL xs := (rfl)
@[simp] theorem w_mJoin {s : Str} {u : RV} : wpM (mJoin s u) W Q E = lookK (joinK (seqOf W u)) (kB (joinF s) Q E) W := by
  unfold mJoin
  rw [w_bind, w_look]; rfl
@[simp] theorem mCount_s {s b : Str} : mCount s (.d (.str b)) = M.ret (.d (.int (Txt.count s b))) := (rfl)
/-! list(), tuple() -/
@[simp] theorem w_bList_l {mk : Bool} {xs : List D} : wpM (bList mk [.d (.lst xs)]) W Q E = wpM (newL mk (xs.map RV.d)) W Q E := by
  unfold bList
  dsimp only
  rw [w_bind, w_look]; rfl
@[simp] theorem w_bList_t {mk : Bool} {xs : List D} : wpM (bList mk [.d (.tup xs)]) W Q E = wpM (newL mk (xs.map RV.d)) W Q E := by
  unfold bList
  dsimp only
  rw [w_bind, w_look]; rfl
@[simp] theorem w_bList_s {mk : Bool} {z : Str} : wpM (bList mk [.d (.str z)]) W Q E = (z.cps.size ≤ sizeLine ∧ wpM (newL mk ((charsOf z).map RV.d)) W Q E) := by
  show wpM ((M.guard _).bind _) W Q E = _
  rw [w_bind, w_guard]; rfl
def listF (mk : Bool) (p : Bool × List RV) : M RV := newL mk p.2
@[simp] theorem listF_ap {mk t : Bool} {xs : List RV} : listF mk (t, xs) = newL mk xs := (rfl)
@[simp] theorem w_bList_r {mk : Bool} {l : Nat} : wpM (bList mk [.r l]) W Q E = lookK (seqOf W (.r l)) (kB (listF mk) Q E) W := by
  show wpM ((M.look _).bind _) W Q E = _
  rw [w_bind, w_look]; rfl
theorem w_bTuple_l {xs : List D} : wpM (bTuple [.d (.lst xs)]) W Q E = Q (.d (.tup xs)) W := by
  unfold bTuple
  dsimp only
  rw [w_bind, w_look]
  show wpM (newT (xs.map RV.d)) W Q E = _
  rw [w_newT]
/-! + of lists -/
def catF (mk : Bool) (xs ys : List RV) : M RV := (M.guard (xs.length + ys.length ≤ sizeLine)).bind fun _ => newL mk (xs ++ ys)
@[simp] theorem w_catF {mk : Bool} {xs ys : List RV} : wpM (catF mk xs ys) W Q E = (xs.length + ys.length ≤ sizeLine ∧ wpM (newL mk (xs ++ ys)) W Q E) := by
  unfold catF
  rw [w_bind, w_guard]; rfl
def catK (mk : Bool) (ys : List RV) (o : Option (Bool × List RV)) (Q : RV → Wd → Prop) (E : DX → Wd → Prop) (W : Wd) : Prop := match o with
  | some (false, xs) => wpM (catF mk xs ys) W Q E
  | _ => False
@[simp] theorem catK_f {mk : Bool} {xs ys : List RV} : catK mk ys (some (false, xs)) Q E W = wpM (catF mk xs ys) W Q E := (rfl)
@[simp] theorem w_add_rl {mk : Bool} {l : Nat} {ys : List D} : wpM (opAdd mk (.r l) (.d (.lst ys))) W Q E = catK mk (ys.map RV.d) (seqOf W (.r l)) Q E W := by
  have e : opAdd mk (.r l) (.d (.lst ys)) = opCat mk (.r l) (.d (.lst ys)) := rfl
  rw [e]
  unfold opCat catK
  rw [w_bind, w_look]
  cases h : seqOf W (.r l) with
  | none => rfl
  | some p =>
    obtain ⟨t, xs⟩ := p
    cases t with
    | true => rfl
    | false => rfl
@[simp] theorem w_add_ll {mk : Bool} {xs ys : List D} : wpM (opAdd mk (.d (.lst xs)) (.d (.lst ys))) W Q E = wpM (catF mk (xs.map RV.d) (ys.map RV.d)) W Q E := by
  have e : opAdd mk (.d (.lst xs)) (.d (.lst ys)) = opCat mk (.d (.lst xs)) (.d (.lst ys)) := rfl
  rw [e]
  unfold opCat
  rw [w_bind, w_look]
  rfl
def sumK (o : Option (Bool × List RV)) : Option (List Int) := o.bind fun p => if p.1 then none else intsL p.2
@[simp] theorem sumK_some {xs : List RV} : sumK (some (false, xs)) = intsL xs := (rfl)
def sumF (ns : List Int) : M RV := M.ret (.d (.int ns.sum))
@[simp] theorem sumF_ap {ns : List Int} : sumF ns = M.ret (.d (.int ns.sum)) := (rfl)
@[simp] theorem w_bSum {u : RV} : wpM (bSum [u]) W Q E = lookK (sumK (seqOf W u)) (kB sumF Q E) W := by
  show wpM ((M.look _).bind _) W Q E = _
  rw [w_bind, w_look]; rfl
theorem intsL_map : ∀ ns : List Int, intsL ((ns.map D.int).map RV.d) = some ns
  | [] => rfl
  | y :: ys => by
    show (intsL ((ys.map D.int).map RV.d)).map (y :: ·) = _
    rw [intsL_map]; rfl
end
end DL
set_option Elab.async false
set_option linter.all false
set_option maxRecDepth 100000
set_option maxHeartbeats 4000000
/-! DZ: dict(zip(..)) over two iterators of any kind. -/
namespace DL
open PySem PySem.Spec PyProof.Rows L2 RZ
open PySem.W (KdxIt kdx_alive)
section
variable {prog : Program} {w : World} {A : Around} {E : Value → Shared → Prop} {s : Shared} {z TI TO i1 i2 T : Addr} {f : Bool} {oT : Obj} {fp1 fp2 : List Addr} {n1 n2 i : Nat} {P1 P2 : Nat → Value → Prop} {St1 St2 : Nat → Heap → Prop}
abbrev ZH (h : Heap) (z TI TO T : Addr) (f : Bool) : Prop := IsZipHeld h z TI TO T f
theorem dz_item {Q : Value → Shared → Prop} (S : ZipSep2 z TI TO i1 i2 fp1 fp2) (D1 : Draws prog w A i1 fp1 n1 P1 St1) (D2 : Draws prog w A i2 fp2 n2 P2 St2)
    (hz : ZH s.heap z TI TO T f) (hT : s.heap.get? T = some oT) (hTI : IsTupOf2 s.heap TI (.ref i1) (.ref i2)) (st1 : St1 i s.heap) (st2 : St2 i s.heap) (lt1 : i < n1) (lt2 : i < n2)
    (hQ : ∀ x1 x2 h' tk, P1 i x1 → P2 i x2 → ZH h' z TI TO T true → St1 (i + 1) h' → St2 (i + 1) h' → IsTupOf2 h' s.heap.objs.size x1 x2 →
      (∀ c o, c ≠ z → c ≠ i1 → c ≠ i2 → s.heap.get? c = some o → h'.get? c = some o) → Q (.ref s.heap.objs.size) { s with heap := h', toks := tk }) :
    wpAny (model prog w) A (Builtin.«zip.__next__» ⟨[.ref z], []⟩) (fun fin t => ∃ v, fin = .done (.ret v) ∧ Q v t) E s := by
  obtain ⟨hp, g, d, t0, os⟩ := s
  show wpAny _ A (field (.ref z) 2 >>= _) _ E ⟨hp, g, d, t0, os⟩
  refine wpAny_bind (wpAny_field (x := Value.bool false) hz rfl rfl ?_)
  show wpAny _ A (field (.ref z) 3 >>= _) _ E ⟨hp, g, d, t0, os⟩
  refine wpAny_bind (wpAny_field (x := Value.ref TI) hz rfl rfl (wpAny_bind (wpAny_seqItems hTI rfl ?_)))
  show wpAny _ A (Builtin.SmallTypes.ownedTupleIsFree (.ref z) >>= _) _ E ⟨hp, g, d, t0, os⟩
  refine wpAny_bind (wpAny_tupleHeld_zip hz hT fun a0 za sa => ?_)
  have ka : Heap.SameBut z hp a0 := sa
  simp only [Bool.false_eq_true, if_false, ← Array.forIn_toList, List.forIn_cons, List.forIn_nil]
  refine wpAny_bind (wpAny_bind (wpAny_bind (wpAny_holding ?_)))
  show wpAny _ A (Builtin.SmallTypes.nextOf (.ref i1) >>= _) _ E ⟨a0, g, d, t0, os⟩
  refine wpAny_bind (D1.item i _ _ _ lt1 (D1.over st1 ka S.zf1) fun x1 b0 t1 px1 sb1 kb => wpAny_pure (wpAny_pure ?_))
  have kb' : Heap.SameBut i1 a0 b0 := kb
  refine wpAny_bind (wpAny_bind (wpAny_holding ?_))
  show wpAny _ A (Builtin.SmallTypes.nextOf (.ref i2) >>= _) _ E ⟨b0, g, d, t1, os⟩
  refine wpAny_bind (D2.item i _ _ _ lt2 (D2.over (D2.over st2 ka S.zf2) kb' S.sep1_2) fun x2 c0 t2 px2 sc2 kc => wpAny_pure (wpAny_pure (wpAny_pure ?_)))
  have kc' : Heap.SameBut i2 b0 c0 := kc
  show wpAny _ A (newTuple [x1, x2] >>= fun v => ret v) _ E ⟨c0, g, d, t2, os⟩
  have hsz : c0.objs.size = hp.objs.size := by rw [kc'.1, kb'.1, ka.1]
  have up : ∀ c o, c ≠ z → c ≠ i1 → c ≠ i2 → hp.get? c = some o → c0.get? c = some o := fun c o m1 m2 m3 e => kc'.extBut _ _ m3 (kb'.extBut _ _ m2 (ka.extBut _ _ m1 e))
  have zc : ZH c0 z TI TO T true := kc'.extBut _ _ S.zi2 (kb'.extBut _ _ S.zi1 za)
  refine wpAny_bind (wpAny_newTuple (wpAny_pure ⟨_, rfl, ?_⟩))
  have q := hQ x1 x2 (c0.push { cls := .type "tuple", data := .seq #[x1, x2] }) t2 px1 px2 (Heap.get?_push_of_some _ zc)
    (D1.frame _ _ _ (D1.over sb1 kc' S.sep2_1) fun b _ o e => Heap.get?_push_of_some _ e) (D2.frame _ _ _ sc2 fun b _ o e => Heap.get?_push_of_some _ e)
    (by rw [← hsz]; exact Heap.get?_push_size _ rfl) fun c o m1 m2 m3 e => Heap.get?_push_of_some _ (up c o m1 m2 m3 e)
  show Q (.ref c0.objs.size) _
  rw [hsz]
  exact q
theorem dz_end {Q : Fin → Shared → Prop} (S : ZipSep2 z TI TO i1 i2 fp1 fp2) (D1 : Draws prog w A i1 fp1 n1 P1 St1) (D2 : Draws prog w A i2 fp2 n2 P2 St2)
    (hz : ZH s.heap z TI TO T f) (hT : s.heap.get? T = some oT) (hTI : IsTupOf2 s.heap TI (.ref i1) (.ref i2)) (st1 : St1 i s.heap) (st2 : St2 i s.heap) (le1 : i ≤ n1) (le2 : i ≤ n2) (hend : i = n1 ∨ i = n2)
    (hE : ∀ h' tk e, (∀ c o, c ≠ z → c ≠ i1 → c ≠ i2 → s.heap.get? c = some o → h'.get? c = some o) → (∃ o, h'.get? e = some o ∧ o.cls = .type "StopIteration") → E (.ref e) { s with heap := h', toks := tk }) :
    wpAny (model prog w) A (Builtin.«zip.__next__» ⟨[.ref z], []⟩) Q E s := by
  obtain ⟨hp, g, d, t0, os⟩ := s
  show wpAny _ A (field (.ref z) 2 >>= _) _ E ⟨hp, g, d, t0, os⟩
  refine wpAny_bind (wpAny_field (x := Value.bool false) hz rfl rfl ?_)
  show wpAny _ A (field (.ref z) 3 >>= _) _ E ⟨hp, g, d, t0, os⟩
  refine wpAny_bind (wpAny_field (x := Value.ref TI) hz rfl rfl (wpAny_bind (wpAny_seqItems hTI rfl ?_)))
  show wpAny _ A (Builtin.SmallTypes.ownedTupleIsFree (.ref z) >>= _) _ E ⟨hp, g, d, t0, os⟩
  refine wpAny_bind (wpAny_tupleHeld_zip hz hT fun a0 za sa => ?_)
  have ka : Heap.SameBut z hp a0 := sa
  simp only [Bool.false_eq_true, if_false, ← Array.forIn_toList, List.forIn_cons, List.forIn_nil]
  refine wpAny_bind (wpAny_bind (wpAny_bind (wpAny_holding ?_)))
  show wpAny _ A (Builtin.SmallTypes.nextOf (.ref i1) >>= _) _ E ⟨a0, g, d, t0, os⟩
  by_cases lt1 : i < n1
  · refine wpAny_bind (D1.item i _ _ _ lt1 (D1.over st1 ka S.zf1) fun x1 b0 t1 px1 sb1 kb => wpAny_pure (wpAny_pure ?_))
    have kb' : Heap.SameBut i1 a0 b0 := kb
    have hi : i = n2 := by omega
    refine wpAny_bind (wpAny_bind (wpAny_holding ?_))
    show wpAny _ A (Builtin.SmallTypes.nextOf (.ref i2) >>= _) _ E ⟨b0, g, d, t1, os⟩
    refine wpAny_bind (D2.done ⟨b0, g, d, t1, os⟩ _ _ (by rw [← hi]; exact D2.over (D2.over st2 ka S.zf2) kb' S.sep1_2) fun c0 e kc he => ?_)
    exact hE c0 t1 e (fun c o m1 m2 m3 x => kc c o m3 (kb'.extBut _ _ m2 (ka.extBut _ _ m1 x))) he
  · have hi : i = n1 := by omega
    refine wpAny_bind (D1.done ⟨a0, g, d, t0, os⟩ _ _ (by rw [← hi]; exact D1.over st1 ka S.zf1) fun c0 e kc he => ?_)
    exact hE c0 t0 e (fun c o m1 m2 m3 x => kc c o m2 (ka.extBut _ _ m1 x)) he
theorem dz_next {Q : Option Value → Shared → Prop} (S : ZipSep2 z TI TO i1 i2 fp1 fp2) (D1 : Draws prog w A.in1 i1 fp1 n1 P1 St1) (D2 : Draws prog w A.in1 i2 fp2 n2 P2 St2)
    (hz : ZH s.heap z TI TO T f) (hT : s.heap.get? T = some oT) (hTI : IsTupOf2 s.heap TI (.ref i1) (.ref i2)) (st1 : St1 i s.heap) (st2 : St2 i s.heap) (lt1 : i < n1) (lt2 : i < n2)
    (hQ : ∀ x1 x2 h' tk, P1 i x1 → P2 i x2 → ZH h' z TI TO T true → St1 (i + 1) h' → St2 (i + 1) h' → IsTupOf2 h' s.heap.objs.size x1 x2 →
      (∀ c o, c ≠ z → c ≠ i1 → c ≠ i2 → s.heap.get? c = some o → h'.get? c = some o) → Q (some (.ref s.heap.objs.size)) { s with heap := h', toks := tk }) :
    wpAny (model prog w) A (pyNext (.ref z)) Q E s := by
  have ty : s.TypeIs (.ref z) "zip" := ⟨_, hz, rfl⟩
  unfold pyNext
  refine wpAny_bind (wpAny_attempt (wpAny_callSpecial?_slot (name := PySem.Str.ofString "__next__") ty PySem.F.slot_zip_next ?_))
  refine wpAny_call_entry PySem.F.slot_zip_next ty PySem.F.entry_zip_next ?_ (PySem.F.args_zip_next_1 _)
  exact dz_item S D1 D2 hz hT hTI st1 st2 lt1 lt2 fun x1 x2 h' tk p1 p2 b1 b2 b3 b4 b5 => wpAny_pure (hQ x1 x2 h' tk p1 p2 b1 b2 b3 b4 b5)
theorem dz_done {Q : Option Value → Shared → Prop} (S : ZipSep2 z TI TO i1 i2 fp1 fp2) (D1 : Draws prog w A.in1 i1 fp1 n1 P1 St1) (D2 : Draws prog w A.in1 i2 fp2 n2 P2 St2)
    (hz : ZH s.heap z TI TO T f) (hT : s.heap.get? T = some oT) (hTI : IsTupOf2 s.heap TI (.ref i1) (.ref i2)) (st1 : St1 i s.heap) (st2 : St2 i s.heap) (le1 : i ≤ n1) (le2 : i ≤ n2) (hend : i = n1 ∨ i = n2)
    (hQ : ∀ h' tk, (∀ c o, c ≠ z → c ≠ i1 → c ≠ i2 → s.heap.get? c = some o → h'.get? c = some o) → Q none { s with heap := h', toks := tk }) : wpAny (model prog w) A (pyNext (.ref z)) Q E s := by
  have ty : s.TypeIs (.ref z) "zip" := ⟨_, hz, rfl⟩
  unfold pyNext
  refine wpAny_bind (wpAny_attempt (wpAny_callSpecial?_slot (name := PySem.Str.ofString "__next__") ty PySem.F.slot_zip_next ?_))
  refine wpAny_call_entry PySem.F.slot_zip_next ty PySem.F.entry_zip_next (dz_end S D1 D2 hz hT hTI st1 st2 le1 le2 hend fun h' tk e hk he => ?_) (PySem.F.args_zip_next_1 _)
  obtain ⟨o, ho, hc⟩ := he
  exact wpAny_bind (wpAny_isInstance (T := "StopIteration") (b := true) ⟨o, ho, hc⟩ isSubtype_stop (wpAny_pure (hQ _ _ hk)))
end
/-- what stands of a zip of a text and a list -/
structure TL (z TI TO i1 i2 l : Addr) (x : PySem.Str) (t : Tok) (its : Array Value) (h : Heap) : Prop where
  zip : IsZip h z TI TO .none
  ti : IsTupOf2 h TI (.ref i1) (.ref i2)
  to : ∃ a b, IsTupOf2 h TO a b
  s1 : h.IsStrIter i1 (strIterType x) x t 0
  s2 : h.IsListIter i2 l 0
  ls : h.IsList l its
theorem pairs_tl {prog : Program} {w : World} {z TI TO i1 i2 l : Addr} (S : ZipSep2 z TI TO i1 i2 [i1] [i2, l]) (hne : l ≠ i2) (hTl : TI ≠ l) (x : PySem.Str) (t : Tok) (its : Array Value) :
    PairArg prog w "zip" z [z, TI, TO, i1, i2, l] [z, TO, i1, i2] (min x.cps.size its.size) (fun i k v => (∃ c u, x.cps[i]? = some c ∧ k = .str ⟨#[c]⟩ u) ∧ its[i]? = some v) (TL z TI TO i1 i2 l x t its) where
  type := fun s ok => ⟨_, ok.zip, rfl⟩
  notDict := by decide
  keep := fun h h' ok hk => by
    obtain ⟨a, b, e⟩ := ok.to
    obtain ⟨o1, e1, r1⟩ := ok.s1
    exact ⟨hk _ _ ok.zip, hk _ _ ok.ti, ⟨a, b, hk _ _ e⟩, ⟨o1, hk _ _ e1, r1⟩, ok.s2.at fun o e => hk _ o e, ok.ls.at fun o e => hk _ o e⟩
  there := fun h ok b hb => by
    obtain ⟨a, c, e⟩ := ok.to
    obtain ⟨o1, e1, _⟩ := ok.s1
    obtain ⟨o2, e2, _⟩ := ok.s2
    obtain ⟨o3, e3, _⟩ := ok.ls
    simp only [List.mem_cons, List.not_mem_nil, or_false] at hb
    rcases hb with rfl | rfl | rfl | rfl | rfl | rfl
    · exact ⟨_, ok.zip⟩
    · exact ⟨_, ok.ti⟩
    · exact ⟨_, e⟩
    · exact ⟨_, e1⟩
    · exact ⟨_, e2⟩
    · exact ⟨_, e3⟩
  sub := fun b hb => by
    simp only [List.mem_cons, List.not_mem_nil, or_false] at hb ⊢
    rcases hb with h | h | h | h <;> simp [h]
  noKeys := fun A s Q E hA ok h => getAttrOr_miss_zip ok.zip rfl rfl rfl zip_no_keys (by decide +kernel) hA h
  iter := fun A s d Q E hA ok hd hdf hc => by
    obtain ⟨a, b, eTO⟩ := ok.to
    simp only [List.mem_cons, List.not_mem_nil, or_false, not_or] at hdf
    obtain ⟨dz, dTI, dTO, d1, d2, dl⟩ := hdf
    have D1 : ∀ A' : Around, A'.handled = none → Draws prog w A' i1 [i1] x.cps.size (fun i v => ∃ c u, x.cps[i]? = some c ∧ v = .str ⟨#[c]⟩ u) (fun i h => h.IsStrIter i1 (strIterType x) x t i) := fun A' h => Draws.text h i1 x t
    have D2 : ∀ A' : Around, A'.handled = none → Draws prog w A' i2 [i2, l] its.size (fun i v => its[i]? = some v) (fun i h => h.IsListIter i2 l i ∧ h.IsList l its) := fun A' h => Draws.list h i2 l hne its
    refine wpAny_pyIter_zip ok.zip (hc z [z, TO, i1, i2] (fun i h => IsTupOf2 h TI (.ref i1) (.ref i2) ∧ h.IsStrIter i1 (strIterType x) x t i ∧ (h.IsListIter i2 l i ∧ h.IsList l its) ∧
      ((IsZip h z TI TO .none ∧ ∃ a b, IsTupOf2 h TO a b) ∨ ∃ T f oT, ZH h z TI TO T f ∧ h.get? T = some oT ∧ T ≠ z ∧ T ≠ i1 ∧ T ≠ i2 ∧ T ≠ d)) s.heap s.toks ?_
      ⟨ok.ti, ok.s1, ⟨ok.s2, ok.ls⟩, .inl ⟨ok.zip, a, b, eTO⟩⟩ (fun _ _ e => e) fun b hb => .inl hb)
    exact {
      off := fun hm => by
        simp only [List.mem_cons, List.not_mem_nil, or_false] at hm
        rcases hm with e | e | e | e
        · exact dz e
        · exact dTO e
        · exact d1 e
        · exact d2 e
      frame := fun i h₁ h₂ st hk => by
        obtain ⟨q1, q2, ⟨q3, q4⟩, q5⟩ := st
        obtain ⟨o1, e1, r1⟩ := q2
        refine ⟨hk _ _ (Ne.symm dTI) q1, ⟨o1, hk _ _ (Ne.symm d1) e1, r1⟩, ⟨q3.at fun o e => hk _ o (Ne.symm d2) e, q4.at fun o e => hk _ o (Ne.symm dl) e⟩, ?_⟩
        rcases q5 with ⟨hz, a, b, e⟩ | ⟨T, f, oT, hz, hT, m1, m2, m3, m4⟩
        · exact .inl ⟨hk _ _ (Ne.symm dz) hz, a, b, hk _ _ (Ne.symm dTO) e⟩
        · exact .inr ⟨T, f, oT, hk _ _ (Ne.symm dz) hz, hk _ _ m4 hT, m1, m2, m3, m4⟩
      item := fun i s₁ Q₁ E₁ hi st hds hQ => by
        obtain ⟨q1, q2, q34, q5⟩ := st
        have l1 : i < x.cps.size := Nat.lt_of_lt_of_le hi (Nat.min_le_left ..)
        have l2 : i < its.size := Nat.lt_of_lt_of_le hi (Nat.min_le_right ..)
        have away : ∀ {c o}, s₁.heap.get? c = some o → s₁.heap.objs.size ≠ c := fun e => Nat.ne_of_gt (Heap.lt_size e)
        have w1 : s₁.heap.objs.size ≠ i1 := let ⟨_, e, _⟩ := q2; away e
        have w2 : s₁.heap.objs.size ≠ i2 := let ⟨_, e, _⟩ := q34.1; away e
        rcases q5 with ⟨hz, a, b, e⟩ | ⟨T, f, oT, hz, hT, m1, m2, m3, m4⟩
        · refine wpAny_pyNext_zipD2_item S (D1 _ hA) (D2 _ hA) hz q1 e q2 q34 l1 l2 fun x1 x2 h' tk p1 p2 b1 b2 c1 c2 b3 b4 b5 => ?_
          exact hQ s₁.heap.objs.size _ _ h' tk ⟨p1, p2⟩ (.inl ⟨_, b3, rfl, _, rfl⟩) ⟨b5 _ _ S.TIz S.TITO S.TIi1 S.TIi2 q1, c1, c2, .inr ⟨s₁.heap.objs.size, false, _, b1, b3, away hz, w1, w2, Nat.ne_of_gt hds⟩⟩
            fun c o hc e => b5 c o (fun q => hc (by simp [q])) (fun q => hc (by simp [q])) (fun q => hc (by simp [q])) (fun q => hc (by simp [q])) e
        · refine dz_next S (D1 _ hA) (D2 _ hA) hz hT q1 q2 q34 l1 l2 fun x1 x2 h' tk p1 p2 b1 c1 c2 b3 b5 => ?_
          exact hQ s₁.heap.objs.size _ _ h' tk ⟨p1, p2⟩ (.inl ⟨_, b3, rfl, _, rfl⟩) ⟨b5 _ _ S.TIz S.TIi1 S.TIi2 q1, c1, c2, .inr ⟨T, true, oT, b1, b5 _ _ m1 m2 m3 hT, m1, m2, m3, m4⟩⟩
            fun c o hc e => b5 c o (fun q => hc (by simp [q])) (fun q => hc (by simp [q])) (fun q => hc (by simp [q])) e
      done := fun s₁ Q₁ E₁ st hQ => by
        obtain ⟨q1, q2, q34, q5⟩ := st
        have hend : min x.cps.size its.size = x.cps.size ∨ min x.cps.size its.size = its.size := by omega
        rcases q5 with ⟨hz, a, b, e⟩ | ⟨T, f, oT, hz, hT, m1, m2, m3, m4⟩
        · exact wpAny_pyNext_zipD2_end S (D1 _ hA) (D2 _ hA) hz q1 e q2 q34 (Nat.min_le_left ..) (Nat.min_le_right ..) hend fun h' tk hk => hQ h' tk fun c o hc e => hk c o (fun q => hc (by simp [q])) (fun q => hc (by simp [q])) (fun q => hc (by simp [q])) (fun q => hc (by simp [q])) e
        · exact dz_done S (D1 _ hA) (D2 _ hA) hz hT q1 q2 q34 (Nat.min_le_left ..) (Nat.min_le_right ..) hend fun h' tk hk => hQ h' tk fun c o hc e => hk c o (fun q => hc (by simp [q])) (fun q => hc (by simp [q])) (fun q => hc (by simp [q])) e }
end DL
set_option Elab.async false
set_option linter.all false
set_option maxRecDepth 100000
set_option maxHeartbeats 4000000
/-! DL17: dict(zip(a text, a list)). -/
namespace DL
open PySem PySem.Spec PyProof.Rows L2 RZ
def dictZip (u v : RV) : M RV := match u, v with
  | .d (.str z), .d (.lst xs) => (M.guard (z.cps.toList.Nodup ∧ z.cps.size ≤ 1000 ∧ xs.length ≤ 1000)).bind fun _ => M.ret (.d (.dK ((z.cps.toList.zip xs).map fun p => ((Sum.inr (⟨#[p.1]⟩ : Str) : Key), p.2))))
  | _, _ => M.fail
def evDictZip (Fa Fb : Env → M RV) : Env → M RV := ev2 dictZip Fa Fb
@[simp] theorem w_dictZip {Fa Fb : Env → M RV} {δ : Env} {W : Wd} {Q : RV → Wd → Prop} {E : DX → Wd → Prop} : wpM (evDictZip Fa Fb δ) W Q E = wpM (ev2 dictZip Fa Fb δ) W Q E := (rfl)
@[simp] theorem w_dictZipB {z : Str} {xs : List D} {W : Wd} {Q : RV → Wd → Prop} {E : DX → Wd → Prop} : wpM (dictZip (.d (.str z)) (.d (.lst xs))) W Q E = ((z.cps.toList.Nodup ∧ z.cps.size ≤ 1000 ∧ xs.length ≤ 1000) ∧ Q (.d (.dK ((z.cps.toList.zip xs).map fun p => ((Sum.inr (⟨#[p.1]⟩ : Str) : Key), p.2)))) W) := by
  show wpM ((M.guard _).bind _) W Q E = _
  rw [w_bind, w_guard]; rfl
/-- the pairs of a text and a list -/
abbrev zkv {α : Type} (z : Str) (xs : List α) : List (Key × α) := (z.cps.toList.zip xs).map fun p => ((Sum.inr (⟨#[p.1]⟩ : Str) : Key), p.2)
def tDZ (K : PySem.W.Frag) (ta : TA) : TE := fun σ H Q => ta σ H fun vs H1 => ∃ (z : Str) (l : Addr) (xs : List V), vs = [.str z, .ref l] ∧ SqL K H1 l xs ∧ z.cps.size ≤ 1000 ∧ ∀ p, H1 p = none → Q (.ref p) (upd H1 p (.dK (mergeK [] (zkv z xs))))
theorem kv_zip {α : List Nat} : ∀ {l : List Nat} {xs : List V} {us : List Value}, Vals xs us → KV ((l.zip xs).map fun p => ((Sum.inr (⟨#[p.1]⟩ : Str) : Key), p.2)) ((l.zip us).map fun p => ((Sum.inr (⟨#[p.1]⟩ : Str) : Key), p.2))
  | [], _, _, _ => by simp; exact .nil
  | _ :: _, _, _, .nil => by simp; exact .nil
  | _ :: _, _, _, .cons r t => .cons ⟨rfl, r⟩ (kv_zip (α := α) t)
theorem nm1 {a b : Nat} (h : a ≠ b) : (show Addr from a) ∉ ([b] : List Addr) := fun m => h (List.mem_singleton.mp m)
theorem nm2 {a b c : Nat} (h : a ≠ b) (h2 : a ≠ c) : (show Addr from a) ∉ ([b, c] : List Addr) := fun m => by
  rcases List.mem_cons.mp m with e | e
  · exact h e
  · exact h2 (List.mem_singleton.mp e)
theorem ne_n {a b : Nat} (h : a ≠ b) : (show Addr from a) ≠ (show Addr from b) := h
theorem nlt1 {n l : Nat} (h : l < n) : (show Addr from l) ≠ (show Addr from (n + 1)) := ne_n (by omega)
theorem nlt2 {n l : Nat} (h : l < n) : (show Addr from (n + 2)) ≠ (show Addr from l) := ne_n (by omega)
theorem sep5 (n l : Nat) (h : l < n) : ZipSep2 (n + 4) (n + 2) (n + 3) n (n + 1) [n] [n + 1, l] :=
  ⟨ne_n (by omega), ne_n (by omega), ne_n (by omega), ne_n (by omega), List.mem_singleton_self n, nm1 (by omega), nm1 (by omega), ne_n (by omega), List.mem_cons_self, nm2 (by omega) (by omega), nm2 (by omega) (by omega), nm2 (by omega) (by omega), nm1 (by omega)⟩
theorem pe_dictZip {X : Cx} {a b : Expr} {ta : TA} {p1 p2 pos pos2 : Pos} (hcalm : X.calm = true) (hg : Gl X "dict") (hm : X.mg "dict" = none) (hgz : Gl X "zip") (hmz : X.mg "zip" = none) (ha : PA X [a, b] ta)
    (hs0 : starEach [.Call (.Name "zip" p2) [a, b] [] pos2] X.env = [(false, eval (.Call (.Name "zip" p2) [a, b] [] pos2) X.env)] := by rfl) (hpl0 : (backTo pos (starEach [] X.env)).any (·.1) = false := by rfl)
    (hs : starEach [a, b] X.env = (false, eval a X.env) :: starEach [b] X.env := by rfl) (hpl : (backTo pos2 (starEach [b] X.env)).any (·.1) = false := by rfl) :
    PE X (.Call (.Name "dict" p1) [.Call (.Name "zip" p2) [a, b] [] pos2] [] pos) (tDZ X.K ta) := by
  refine ⟨fun pins s σ H Q I h => ?_⟩
  refine Call_ (ld_blt I hg hm PyProof.Rows.boot_dict (PyProof.Rows.callWith_type1 ?_ hs0 hpl0))
  rw [hs0]
  show wpAny _ _ (spliced [(false, eval (.Call (.Name "zip" p2) [a, b] [] pos2) X.env)]) _ _ _
  refine Calls.spliced_cons ?_
  refine Call_ (ld_blt I hgz hmz PyProof.Rows.boot_zip (PyProof.Rows.callWith_type1 (thn (ha.run pos2 pins s σ H _ I h) fun us s1 ⟨vs, H1, I1, r1, q1⟩ => ?_) hs hpl))
  obtain ⟨z, l, xs, ex, hq, hz1, q⟩ := q1
  subst ex
  cases r1 with
  | cons r rr =>
    cases rr with
    | cons r' rr =>
      cases rr
      obtain ⟨t, rfl⟩ := r
      cases r'
      obtain ⟨its, rv, pl, hlen⟩ := I1.list hq
      have hlt := pl.lt
      refine zip_begins2 (begins_text z t) (begins_list l its.toArray) trivial pl.isList fun h' hz hTI hTO g1 g2 hsz hk => ?_
      refine Calls.spliced_nil ?_
      have S5 := sep5 s1.heap.objs.size l hlt
      have ok : TL (s1.heap.objs.size + 4) (s1.heap.objs.size + 2) (s1.heap.objs.size + 3) s1.heap.objs.size (s1.heap.objs.size + 1) l z t its.toArray h' :=
        ⟨hz, hTI, ⟨_, _, hTO⟩, ⟨_, g1, rfl, rfl⟩, ⟨_, g2, rfl, rfl⟩, pl.isList.at fun o e => hk _ o e⟩
      have nl := nlt1 hlt
      have nt := nlt2 hlt
      have hits : its.length = xs.length := rv.length.symm
      refine PySem.call_dict_pairs (knd := mixKind X.prog X.w) (kvs := zkv z its) (pairs_tl S5 nl nt z t its.toArray) (I1.ok.hd hcalm) ok ⟨?_, ?_⟩ ?_ fun h2 tk hd2 hk2 => ?_
      · simp [zkv]
      · rintro i key v ⟨⟨c, u, h1, rfl⟩, h2⟩
        refine ⟨Sum.inr ⟨#[c]⟩, ?_, keyIs_str _ u⟩
        have h3 : its[i]? = some v := by simpa using h2
        have h4 : z.cps.toList[i]? = some c := by simpa using h1
        unfold zkv
        rw [List.getElem?_map, (List.getElem?_zip_eq_some (z := (c, v))).mpr ⟨h4, h3⟩]
        rfl
      · have : sizeLine > 1000 := by decide
        have e : min z.cps.size its.toArray.size ≤ z.cps.size := Nat.min_le_left ..
        omega
      · have le : s1.heap.objs.size ≤ h'.objs.size := by rw [hsz]; exact Nat.le_add_right _ _
        have hm2 : (h'.objs.size == sysModules) = false := beq_eq_false_iff_ne.mpr (Nat.ne_of_gt (Nat.lt_of_lt_of_le I1.big le))
        have hlen2 : (mergeK [] (zkv z xs)).length ≤ sizeLine := by
          refine Nat.le_trans (length_mergeK (zkv z xs) []) ?_
          have h1 : sizeLine > 1000 := by decide
          have h2 : (zkv z xs).length ≤ z.cps.size := by simp [zkv]; exact Nat.min_le_left ..
          rw [List.length_nil]
          omega
        have k : ∀ b o, s1.heap.get? b = some o → h2.get? b = some o := fun b o e => hk2 b o (fun hm => by
          have lt := Heap.lt_size e
          simp only [List.mem_cons, List.not_mem_nil, or_false] at hm
          have lt' : b < s1.heap.objs.size := lt
          rcases hm with q | q | q | q <;> rw [q] at lt' <;> exact absurd lt' (Nat.not_lt.mpr (by first | exact Nat.le_add_right _ _ | exact Nat.le_refl _))) (hk b o e)
        exact ⟨.ref h'.objs.size, upd H1 h'.objs.size (.dK (mergeK [] (zkv z xs))), I1.laid (t' := tk) k le (show ObjOk X.prog X.w _ _ _ (.dK (mergeK [] (zkv z xs))) from ⟨hlen2, hm2, merged [] (zkv z its), KV.merge (kv_zip (α := []) rv) .nil, hd2⟩), rfl, q _ (I1.hok.fresh le)⟩
section
variable {ι : Type} {𝒳 : ι → Cx} {G : Gh} {a b : Expr} {Fa Fb : Env → M RV} {pos p1 p2 pos2 : Pos}
theorem rep_zip {c : Cf} : ∀ {l : List Nat} {xs : List D} {vs : List V}, RepL c xs vs → RepK c ((l.zip xs).map fun p => ((Sum.inr (⟨#[p.1]⟩ : Str) : Key), p.2)) ((l.zip vs).map fun p => ((Sum.inr (⟨#[p.1]⟩ : Str) : Key), p.2))
  | [], _, _, _ => rfl
  | _ :: _, [], _, r => by cases r; rfl
  | ch :: l, x :: xs, _, r => by
    obtain ⟨v, vs, rfl, h1, h2⟩ := r
    exact ⟨v, _, rfl, h1, rep_zip h2⟩
theorem merge_aux : ∀ (l : List Nat) (vs : List V) (acc : List (Key × V)), l.Nodup → (∀ q, q ∈ acc → ∀ c, c ∈ l → q.1 ≠ (Sum.inr (⟨#[c]⟩ : Str) : Key)) →
    mergeK acc ((l.zip vs).map fun p => ((Sum.inr (⟨#[p.1]⟩ : Str) : Key), p.2)) = acc ++ (l.zip vs).map fun p => ((Sum.inr (⟨#[p.1]⟩ : Str) : Key), p.2)
  | [], _, acc, _, _ => by simp [mergeK]
  | _ :: _, [], acc, _, _ => by simp [mergeK]
  | c :: l, v :: vs, acc, hn, ha => by
    have hn' := List.nodup_cons.mp hn
    have hp : putK acc (Sum.inr (⟨#[c]⟩ : Str) : Key) v = acc ++ [((Sum.inr (⟨#[c]⟩ : Str) : Key), v)] := by
      unfold putK
      rw [if_neg]
      intro h
      obtain ⟨q, hq, e⟩ := List.any_eq_true.mp h
      exact ha q hq c List.mem_cons_self (of_decide_eq_true e)
    have ih := merge_aux l vs (acc ++ [((Sum.inr (⟨#[c]⟩ : Str) : Key), v)]) hn'.2 fun q hq c' hc' => by
      rcases List.mem_append.mp hq with h | h
      · exact ha q h c' (List.mem_cons_of_mem _ hc')
      · rw [List.mem_singleton.mp h]
        intro e
        have e1 := Sum.inr.inj e
        injection e1 with e2
        injection e2 with e3
        injection e3 with e4
        exact hn'.1 (e4 ▸ hc')
    show mergeK (putK acc _ v) _ = _
    rw [hp]
    refine ih.trans ?_
    simp
theorem merge_zip {l : List Nat} {vs : List V} (h : l.Nodup) : mergeK [] ((l.zip vs).map fun p => ((Sum.inr (⟨#[p.1]⟩ : Str) : Key), p.2)) = (l.zip vs).map fun p => ((Sum.inr (⟨#[p.1]⟩ : Str) : Key), p.2) := by
  rw [merge_aux l vs [] h (fun _ hq => nomatch hq)]
  rfl
theorem de_dictZip (hc : ∀ i, (𝒳 i).calm = true) (hK : ∀ i, (𝒳 i).K = G.K) (hm : ∀ i, (𝒳 i).mg "dict" = none) (hz : ∀ i, (𝒳 i).mg "zip" = none) (ha : DE 𝒳 G a Fa) (hb : DE 𝒳 G b Fb) (hg : ∀ i, Gl (𝒳 i) "dict" := by intro _; rfl) (hgz : ∀ i, Gl (𝒳 i) "zip" := by intro _; rfl)
    (hs0 : ∀ i, starEach [.Call (.Name "zip" p2) [a, b] [] pos2] (𝒳 i).env = [(false, eval (.Call (.Name "zip" p2) [a, b] [] pos2) (𝒳 i).env)] := by intro _; rfl) (hpl0 : ∀ i, (backTo pos (starEach [] (𝒳 i).env)).any (·.1) = false := by intro _; rfl)
    (hs : ∀ i, starEach [a, b] (𝒳 i).env = (false, eval a (𝒳 i).env) :: starEach [b] (𝒳 i).env := by intro _; rfl) (hs1 : ∀ i, starEach [b] (𝒳 i).env = (false, eval b (𝒳 i).env) :: starEach [] (𝒳 i).env := by intro _; rfl) (hpl : ∀ i, (backTo pos2 (starEach [b] (𝒳 i).env)).any (·.1) = false := by intro _; rfl) :
    DE 𝒳 G (.Call (.Name "dict" p1) [.Call (.Name "zip" p2) [a, b] [] pos2] [] pos) (evDictZip Fa Fb) := by
  obtain ⟨ta, pa, ra⟩ := ha
  obtain ⟨tb, pb, rb⟩ := hb
  refine ⟨tDZ G.K (tCons ta (tCons tb tNil)), fun i => ?_, fun c σ δ Q s w h => ?_⟩
  · have := pe_dictZip (p1 := p1) (pos := pos) (hc i) (hg i) (hm i) (hgz i) (hz i) (pa_cons (pa i) (pa_cons (pb i) pa_nil (hs1 i)) (hs i)) (hs0 i) (hpl0 i) (hs i) (hpl i)
    rw [hK i] at this
    exact this
  refine ra c σ δ _ s w (wpM_mono (wpM_bind.mp h) (fun u W1 h1 x1 c1 hw e1 w1 r1 => ?_) fun _ _ q => q)
  subst hw
  refine rb c1 σ δ _ (s.mono e1) w1 (wpM_mono (wpM_bind.mp h1) (fun v W2 h2 x2 c2 hw e2 w2 r2 => ?_) fun _ _ q => q.mono e1)
  subst hw
  have r1' := r1.mono e2
  cases u with
  | r _ => exact h2.elim
  | d x =>
    cases x <;> try exact h2.elim
    case str z =>
      cases v with
      | r _ => exact h2.elim
      | d y =>
        cases y <;> try exact h2.elim
        case lst xs =>
          obtain ⟨⟨g1, g2, g3⟩, q⟩ := wpM_guard (wpM_bind.mp h2)
          obtain ⟨l, vs, rfl, h3, n3, r3⟩ := r2
          cases r1'
          refine ⟨z, l, vs, rfl, SqL.of h3, g2, fun p hp => ?_⟩
          have em := merge_zip (vs := vs) g1
          show Q (.ref p) (upd c2.H p (.dK (mergeK [] (zkv z vs))))
          rw [show mergeK [] (zkv z vs) = zkv z vs from em]
          obtain ⟨e, w3⟩ := w2.lay (o := .dK (zkv z vs)) hp
          refine q (.ref p) (c2.lay p (.dK (zkv z vs))) rfl ((e1.trans e2).trans e) w3 ?_
          exact ⟨p, zkv z vs, rfl, upd_same, w2.layAv hp, rep_zip (RepL.mono e _ _ r3)⟩
end
end DL
set_option Elab.async false
set_option linter.all false
set_option maxRecDepth 100000
set_option maxHeartbeats 4000000
/-! DL18: names of the module that stand for whole numbers, - x, abs, min, max, gcd, str of a number, empty dict. -/
namespace DL
open PySem PySem.Spec PyProof.Rows L2 RZ
section
variable {ι : Type} {𝒳 : ι → Cx} {G : Gh} {e a b : Expr} {es : List Expr} {Fe Fa Fb : Env → M RV} {R : Env → M (List RV)} {pos p : Pos} {x : Str}
theorem de_glob {n : Int} {t : Tok} (hm : ∀ i, (𝒳 i).mg x = some (.int n t)) (hg : ∀ i, Gl (𝒳 i) x := by intro _; rfl) (hd : (x == ("__debug__" : Str)) = false := by decide) : DE 𝒳 G (.Name x pos) (cI n) :=
  ⟨_, fun i => pe_glob (v := .int n) (hg i) (hm i) ⟨t, rfl⟩ hd, fun c σ δ Q s w h => QV.here (v := .d (.int n)) h w rfl⟩
theorem de_neg (ha : DE 𝒳 G a Fa) : DE 𝒳 G (.UnaryOp .USub a pos) (evNeg Fa) := by
  obtain ⟨t, pt, rt⟩ := ha
  refine ⟨_, fun i => pe_un un_neg (pt i), fun c σ δ Q s w h => ?_⟩
  refine rt c σ δ _ s w (wpM_mono (wpM_bind.mp h) (fun u W1 h1 y c1 hw e1 w1 r1 => ?_) fun _ _ q => q)
  subst hw
  obtain ⟨i, rfl, q⟩ := asI_ok (wpM_bind.mp h1)
  exact ⟨i, r1, QV.here (v := .d (.int (-i))) (QV.mono e1 q) w1 rfl⟩
def bAbs : List RV → M RV
  | [.d (.int i)] => M.ret (.d (.int (if i < 0 then -i else i)))
  | _ => M.fail
theorem cd_abs : CallD G (fun xs H Q => ∃ i, xs = [.int i] ∧ Q (.int (if i < 0 then -i else i)) H) bAbs := by
  intro c xs us Q w ru h
  match us, ru, h with
  | [.d (.int i)], ru, h =>
    obtain ⟨y, rfl, r⟩ := vs1 ru
    cases r
    exact ⟨i, rfl, QV.here (v := .d (.int _)) h w rfl⟩
  | [], _, h => exact h.elim
  | [.r _], _, h => exact h.elim
  | .r _ :: _ :: _, _, h => exact h.elim
  | .d y :: _ :: _, _, h => cases y <;> exact h.elim
  | [.d .non], _, h => exact h.elim
  | [.d (.bl _)], _, h => exact h.elim
  | [.d (.str _)], _, h => exact h.elim
  | [.d (.ty _)], _, h => exact h.elim
  | [.d (.frz _)], _, h => exact h.elim
  | [.d (.lst _)], _, h => exact h.elim
  | [.d (.tup _)], _, h => exact h.elim
  | [.d (.dK _)], _, h => exact h.elim
  | [.d (.dT _)], _, h => exact h.elim
/-- a function of two whole numbers -/
def b2i (g : Int → Int → Int) (us : List RV) : M RV := match us with
  | [u, v] => (M.opt (int2 u v)).bind fun q => M.ret (.d (.int (g q.1 q.2)))
  | _ => M.fail
theorem cd_2i {g : Int → Int → Int} : CallD G (fun xs H Q => ∃ i j, xs = [.int i, .int j] ∧ Q (.int (g i j)) H) (b2i g) := by
  intro c xs us Q w ru h
  match us, ru, h with
  | [u, v], ru, h =>
    obtain ⟨y, z, rfl, r1, r2⟩ := vs2 ru
    obtain ⟨⟨i, j⟩, e, q⟩ := wpM_opt (wpM_bind.mp h)
    obtain ⟨rfl, rfl⟩ := int2_ok e
    cases r1
    cases r2
    exact ⟨i, j, rfl, QV.here (v := .d (.int _)) q w rfl⟩
  | [], _, h => exact h.elim
  | [_], _, h => exact h.elim
  | _ :: _ :: _ :: _, _, h => exact h.elim
abbrev bMax := b2i fun i j => if j > i then j else i
abbrev bMin := b2i fun i j => if j < i then j else i
abbrev bGcd := b2i fun i j => ((Nat.gcd i.natAbs j.natAbs : Nat) : Int)
/-- a call of a built-in function that a module's name stands for -/
theorem de_callG {id : String} {r : List V → Hp → VK → Prop} {f : List RV → M RV} (hc : ∀ i, CallR (𝒳 i) (.builtin id) r) (hr : CallD G r f) (hm : ∀ i, (𝒳 i).mg x = some (.builtin id)) (ha : DA 𝒳 G (e :: es) R) (hg : ∀ i, Gl (𝒳 i) x := by intro _; rfl)
    (hdb : (x == ("__debug__" : Str)) = false := by decide) (he : ∀ i, starEach (e :: es) (𝒳 i).env = (false, eval e (𝒳 i).env) :: starEach es (𝒳 i).env := by intro _; rfl) (hpl : ∀ i, (backTo pos (starEach es (𝒳 i).env)).any (·.1) = false := by intro _; rfl) :
    DE 𝒳 G (.Call (.Name x p) (e :: es) [] pos) (evCall f R) := by
  obtain ⟨t, pt, rt⟩ := ha
  exact ⟨_, fun i => pe_callBfun (hc i) (hg i) (hm i) (pt i) hdb (he i) (hpl i), rt.call hr⟩
def bStr : List RV → M RV
  | [.d (.int i)] => (M.guard (i.natAbs.log2 < 1920)).bind fun _ => M.ret (.d (.str (toString i)))
  | _ => M.fail
theorem cd_str : CallD G (fun xs H Q => ∃ i, xs = [.int i] ∧ i.natAbs.log2 < 1920 ∧ Q (.str (toString i)) H) bStr := by
  intro c xs us Q w ru h
  match us, ru, h with
  | [.d (.int i)], ru, h =>
    obtain ⟨y, rfl, r⟩ := vs1 ru
    cases r
    obtain ⟨g, q⟩ := wpM_guard (wpM_bind.mp h)
    exact ⟨i, rfl, g, QV.here (v := .d (.str (toString i))) q w rfl⟩
  | [], _, h => exact h.elim
  | [.r _], _, h => exact h.elim
  | .r _ :: _ :: _, _, h => exact h.elim
  | .d y :: _ :: _, _, h => cases y <;> exact h.elim
  | [.d .non], _, h => exact h.elim
  | [.d (.bl _)], _, h => exact h.elim
  | [.d (.str _)], _, h => exact h.elim
  | [.d (.ty _)], _, h => exact h.elim
  | [.d (.frz _)], _, h => exact h.elim
  | [.d (.lst _)], _, h => exact h.elim
  | [.d (.tup _)], _, h => exact h.elim
  | [.d (.dK _)], _, h => exact h.elim
  | [.d (.dT _)], _, h => exact h.elim
theorem de_dict0 : DE 𝒳 G (.Dict [] [] pos) (fun _ => M.ret (.d (.dK []))) := by
  refine ⟨_, fun i => pe_dnewK, fun c σ δ Q s w h p hp => ?_⟩
  obtain ⟨e, w2⟩ := w.lay (o := .dK []) hp
  exact h (.ref p) (c.lay p (.dK [])) rfl e w2 ⟨p, [], rfl, upd_same, w.layAv hp, rfl⟩
end
end DL
set_option Elab.async false
set_option linter.all false
set_option maxRecDepth 100000
set_option maxHeartbeats 4000000
/-! DL19: sorted(xs, key=f), f a function of the program: only what f promises in the layer is used (its call may touch generators, tokens, slots of frames). -/
namespace DL
open PySem PySem.Calls PyProof.Rows PySem.W
section
variable {prog : Program} {w : World} {A : Around} {E : Value → Shared → Prop} {s : Shared} {a kS : Addr} {b : Bool} {vs : List Value} {e1 : Nat} {P : PySem.Fin → Shared → Prop}
theorem keyJ_rest {f : Value} {ns : List Int} {J : Shared → Prop} (j0 : J s) (nk : s.heap.get? kS = some (seqObj "list" #[] 0)) (na : s.heap.get? a = some (seqObj "list" #[] e1)) (hka : kS ≠ a) (hlen : ns.length = vs.length) (hZ : vs.length ≤ sizeLine)
    (up : ∀ s' kA e (g : Array Value → Array Value), J s' → s'.heap.get? kS = some (seqObj "list" kA e) → J { s' with heap := s'.heap.update kS (Obj.mapSeq g) })
    (turn : ∀ (i : Nat) (v : Value) (k : Int), vs[i]? = some v → ns[i]? = some k → ∀ s', J s' → (∃ kA e, s'.heap.get? kS = some (seqObj "list" kA e)) → s'.heap.get? a = some (seqObj "list" #[] e1) →
      wpAny (model prog w) A (call f [v]) (fun u s'' => J s'' ∧ (∃ t, u = .int k t) ∧ s''.heap.get? kS = s'.heap.get? kS ∧ s''.heap.get? a = s'.heap.get? a) (fun _ _ => False) s')
    (done : ∀ s' kA e, J s' → s'.heap.get? kS = some (seqObj "list" kA e) → s'.heap.get? a = some (seqObj "list" #[] e1) → EachIs (fun v k => ∃ t, v = .int k t) kA.toList ns → kA.size = vs.length →
      wpAny (model prog w) A (ksk_end a b vs.toArray e1 (.ref kS) kA) P E s') :
    wpAny (model prog w) A (ksk_rest a f b vs.toArray e1 (.ref kS)) P E s := by
  unfold ksk_rest
  refine wpAny_bind (wpAny_rule ?_)
  first
    | rw [List.forIn_toArray]
    | (rw [← Array.forIn_toList]; simp only [List.toList_toArray])
    | rw [← Array.forIn_toList]
  refine wpAny_bind (ksk_fold (fun i s' => J s' ∧ (∃ kA e, s'.heap.get? kS = some (seqObj "list" kA e) ∧ EachIs (fun v k => ∃ t, v = .int k t) kA.toList (ns.take i)) ∧ s'.heap.get? a = some (seqObj "list" #[] e1)) vs 0 s
    ⟨j0, ⟨#[], 0, nk, by rw [List.take_zero]; exact EachIs.nil⟩, na⟩ ?one ?fin)
  case one =>
    rintro j x s' hx ⟨hj, ⟨kA, e, nk', hk⟩, na'⟩
    simp only [Nat.zero_add] at hk ⊢
    have hlt : j < vs.length := (List.getElem?_eq_some_iff.mp hx).1
    obtain ⟨k, hkj⟩ : ∃ k, ns[j]? = some k := ⟨_, List.getElem?_eq_getElem (by omega)⟩
    have hz : kA.size ≤ vs.length := by
      have h2 := hk.length
      rw [Array.length_toList, List.length_take] at h2
      omega
    refine wpAny_bind (wpAny_attempt (wpAny_mono (turn j x k hx hkj s' hj ⟨kA, e, nk'⟩ na') (fun v s'' q => ?_) fun _ _ q => q.elim))
    obtain ⟨hj2, ⟨t, rfl⟩, k2, a2⟩ := q
    try dsimp only
    have nk2 := k2.trans nk'
    obtain ⟨c2, hc2⟩ : ∃ c2, (s''.heap.update kS (Obj.mapSeq (·.push (.int k t)))).get? kS = some (seqObj "list" (kA.push (.int k t)) c2) := ⟨_, get?_update_seq nk2 (·.push (.int k t))⟩
    refine wpAny_bind (listUpdate_at nk2 rfl ?_ (Nat.le_trans hz hZ) (Nat.le_trans (Nat.le_of_eq (Array.size_push ..)) (Nat.succ_le_succ (Nat.le_trans hz hZ))))
    refine wpAny_pure ⟨rfl, up s'' kA e _ hj2 nk2, ⟨_, c2, hc2, ?_⟩, ((Heap.SameBut.update s''.heap kS _).2 a hka.symm).trans (a2.trans na')⟩
    have ek : ns.take (j + 1) = ns.take j ++ [k] := by rw [List.take_add_one, hkj]; simp
    have ea : (kA.push (Value.int k t)).toList = kA.toList ++ [.int k t] := by simp
    rw [ek, ea]
    exact each_snoc (R := fun (v : Value) (k : Int) => ∃ t, v = .int k t) ⟨t, rfl⟩ hk
  case fin =>
    rintro s' ⟨hj, ⟨kA, e, nk', hk⟩, na'⟩
    have e3 : ns.take (0 + vs.length) = ns := List.take_of_length_le (by omega)
    rw [e3] at hk
    refine wpAny_bind (listItems_at nk' rfl ?_)
    refine done s' kA e hj nk' na' hk ?_
    have h2 := hk.length
    rw [Array.length_toList] at h2
    omega
theorem keyJ_tree {f : Value} {n : Nat} {ns : List Int} (J : Addr → Shared → Prop) (ho : s.heap.get? a = some (seqObj "list" vs.toArray n)) (hlen : ns.length = vs.length) (hZ : vs.length ≤ sizeLine) (hu : ∀ d, d ∈ ns.map PyData.int → A.units + d.depth < cLine)
    (j0 : ∀ kS h', s.heap.objs.size ≤ kS → (∀ b o, b ≠ a → s.heap.get? b = some o → h'.get? b = some o) → J kS { s with heap := h' })
    (up : ∀ kS s' kA e (g : Array Value → Array Value), s.heap.objs.size ≤ kS → J kS s' → s'.heap.get? kS = some (seqObj "list" kA e) → J kS { s' with heap := s'.heap.update kS (Obj.mapSeq g) })
    (turn : ∀ (i : Nat) (v : Value) (k : Int), vs[i]? = some v → ns[i]? = some k → ∀ kS s', s.heap.objs.size ≤ kS → J kS s' → (∃ o, s'.heap.get? kS = some o) → (∃ o, s'.heap.get? a = some o) →
      wpAny (model prog w) A (call f [v]) (fun u s'' => J kS s'' ∧ (∃ t, u = .int k t) ∧ s''.heap.get? kS = s'.heap.get? kS ∧ s''.heap.get? a = s'.heap.get? a) (fun _ _ => False) s')
    (h : ∀ kS s' h' tk out c, s.heap.objs.size ≤ kS → kS ≠ a → J kS s' → (∀ b o, b ≠ a → b ≠ kS → s'.heap.get? b = some o → h'.get? b = some o) → h'.get? a = some (seqObj "list" (List.toArray out) c) → KeyedOut b (ns.map PyData.int) vs out →
      P (.done (.ret .none)) { s' with heap := h', toks := tk }) :
    wpAny (model prog w) A (ksk_tree a f b) P E s := by
  have ha : a < s.heap.objs.size := Heap.lt_size ho
  obtain ⟨e1, ho1⟩ : ∃ e1, (s.heap.update a (Obj.mapSeq fun _ => (#[] : Array Value))).get? a = some (seqObj "list" #[] e1) := ⟨_, get?_update_seq ho fun _ => #[]⟩
  have hkS : ((s.heap.update a (Obj.mapSeq fun _ => (#[] : Array Value))).push (seqObj "tuple" vs.toArray 0)).objs.size = s.heap.objs.size + 1 := by rw [size_push', Heap.size_update]
  have hge : s.heap.objs.size ≤ ((s.heap.update a (Obj.mapSeq fun _ => (#[] : Array Value))).push (seqObj "tuple" vs.toArray 0)).objs.size := by rw [hkS]; omega
  have hne : ((s.heap.update a (Obj.mapSeq fun _ => (#[] : Array Value))).push (seqObj "tuple" vs.toArray 0)).objs.size ≠ a := by rw [hkS]; exact Nat.ne_of_gt (Nat.lt_succ_of_lt ha)
  unfold ksk_tree
  refine wpAny_bind (listItems_at ho rfl ?_)
  refine wpAny_bind (listUpdate_at ho rfl ?_ (by rw [List.size_toArray]; exact hZ) (Nat.zero_le _))
  refine wpAny_bind (seqEpoch_at ho1 rfl ?_)
  refine wpAny_bind (wpAny_newTuple ?_ (by show vs.length ≤ _; exact hZ))
  refine wpAny_bind (wpAny_newList ?_ (Nat.zero_le _))
  refine wpAny_holding ?_
  refine keyJ_rest (ns := ns) (J := J _) (s := { s with heap := ((s.heap.update a (Obj.mapSeq fun _ => (#[] : Array Value))).push (seqObj "tuple" vs.toArray 0)).push (seqObj "list" #[] 0) })
    (kS := ((s.heap.update a (Obj.mapSeq fun _ => (#[] : Array Value))).push (seqObj "tuple" vs.toArray 0)).objs.size)
    (j0 _ _ hge fun x o hx q => sortingHeap_old hx q) (Heap.get?_push_size _ rfl) (Heap.get?_push_of_some _ (Heap.get?_push_of_some _ ho1)) hne hlen hZ
    (fun s' kA e g hj q => up _ s' kA e g hge hj q) (fun i v k h1 h2 s' hj h3 h4 => ?_) (fun s' kA e hj q1 q2 he hsz => ?_)
  · obtain ⟨kA, e, h3⟩ := h3
    exact turn i v k h1 h2 _ s' hge hj ⟨_, h3⟩ ⟨_, h4⟩
  · obtain ⟨G, g1, g2⟩ := L2.restrict s'.heap fun x => decide (x ≠ ((s.heap.update a (Obj.mapSeq fun _ => (#[] : Array Value))).push (seqObj "tuple" vs.toArray 0)).objs.size)
    have kp : KeepsBut a G s'.heap := fun x o _ q => by
      by_cases hx : x = ((s.heap.update a (Obj.mapSeq fun _ => (#[] : Array Value))).push (seqObj "tuple" vs.toArray 0)).objs.size
      · rw [g2 x (decide_eq_false fun z => z hx)] at q; cases q
      · rw [g1 x (decide_eq_true hx)] at q; exact q
    have hal : AllAlike (ns.map PyData.int) := by
      intro d hd d' hd'
      obtain ⟨i, _, rfl⟩ := List.mem_map.mp hd
      obtain ⟨j, _, rfl⟩ := List.mem_map.mp hd'
      rfl
    have hsk : Sortable (ns.map PyData.int) := .inr fun d hd => by
      obtain ⟨i, _, rfl⟩ := List.mem_map.mp hd
      exact ⟨by simp, by simp⟩
    have hk' : ∀ {us : List Value} {ms : List Int}, EachIs (fun v k => ∃ t, v = Value.int k t) us ms → EachIs (fun v k => ∃ as, Reads s'.heap v k as) us (ms.map PyData.int) := by
      intro us ms q
      induction q with
      | nil => exact .nil
      | cons q _ ih =>
        obtain ⟨t, rfl⟩ := q
        exact .cons ⟨[], .int _ t⟩ ih
    refine keyH_end (κ := dataKind s'.heap (ns.map PyData.int)) (h₁ := G) kp (g2 _ (decide_eq_false fun z => z rfl)) q1 q2 hne (SortsAt.data (hk' he) hal hsk hu) hsz hZ fun h3 tk3 c k3 n3 => ?_
    exact h _ s' h3 tk3 _ c hge hne hj (fun x o hx hx2 q => k3 x o hx (by rw [g1 x (decide_eq_true hx2)]; exact q)) n3 ⟨s'.heap, kA.toList, hal, rfl, hk' he⟩
end
end DL
set_option Elab.async false
set_option linter.all false
set_option maxRecDepth 100000
set_option maxHeartbeats 4000000
/-! DL20: sorted(xs, key=f) in the layer. -/
namespace DL
open PySem PySem.Spec PyProof.Rows L2 RZ
def byKey {β : Type} (xs : List (β × Int)) : List (β × Int) := xs.mergeSort fun x y => decide (x.2 ≤ y.2)
def rSKF (K : PySem.W.Frag) (cv : Str → Value) (f : Addr) (Fn : List RV → M RV) : List V → List V → Hp → VK → Prop := fun vs zs H Q => ∃ (l : Addr) (xs : List V) (c : Cf) (rvs : List RV) (ks : List Int), vs = [V.ref l] ∧ zs = [V.ref f] ∧ c.H = H ∧ SqL K c.H l xs ∧ WOk c ∧ RepVs c rvs xs ∧
  ks.length = rvs.length ∧ (∀ (i : Nat) (u : RV) (k : Int), rvs[i]? = some u → ks[i]? = some k → wpM (Fn [u]) c.W (fun r W1 => r = .d (.int k) ∧ W1 = c.W) (fun _ _ => False)) ∧
  ∀ (c' : Cf) (p : Addr), Ext c c' → c'.W = c.W → WOk c' → c'.H p = none → Q (.ref p) (upd c'.H p (.lst ((byKey (xs.zip ks)).map (·.1))))
section
variable {X : Cx} {f : Addr} {fd : FuncData} {ps : List Str} {k : Nat} {Fn : List RV → M RV} {cv : Str → Value}
theorem cx_false {P : Program} {w : World} {outer : List PySem.Env} {H : Hp} {s s' : Shared} {u : Value} (h : L2.CX P w outer H s (fun _ _ _ => False) u s') : False := by
  obtain ⟨_, _, _, _, _, h⟩ := h
  exact h.2.2.2.2.2.2.2
theorem each_zip {α : Type} : ∀ {xs : List V} {us : List Value} {ks : List α}, Vals xs us → ks.length = xs.length → PySem.W.EachIs (fun (u : Value) (p : V × α) => RelV p.1 u) us (xs.zip ks)
  | _, _, ks, .nil, h => by
    cases ks with
    | nil => exact .nil
    | cons _ _ => simp at h
  | _, _, ks, .cons r t, h => by
    cases ks with
    | nil => simp at h
    | cons k ks => exact .cons r (each_zip t (by simpa using h))
theorem vals_each {α : Type} {us : List Value} {ps : List (V × α)} (h : PySem.W.EachIs (fun (u : Value) (p : V × α) => RelV p.1 u) us ps) : Vals (ps.map (·.1)) us := by
  induction h with
  | nil => exact .nil
  | cons r _ ih => exact .cons r ih
theorem cr_sortedKeyF (F : FnOk X.prog X.w X.K X.mg X.base (L2.CX X.prog X.w) k f fd ps (spW X.K cv 1 Fn)) (hp : ps.length = 1) (hr : Room (k + 2) X.A) (hb : Binds X.K fd ps []) :
    CallRK X (.builtin "sorted") [Str.ofString "key"] (rSKF X.K cv f Fn) := by
  intro pins s σ H vs zs us ws Q I r rz h
  obtain ⟨l, xs, c, rvs, ks, rfl, rfl, rfl, hs, wk, rp, hkl, hf, q⟩ := h
  obtain rfl := Vals.ref1 r
  obtain ⟨w1, rfl, e1⟩ := vals1 rz
  obtain rfl : w1 = Value.ref f := e1
  obtain ⟨its, rv, hl, hz⟩ := I.list hs
  have hrx : rvs.length = xs.length := paired_len rp
  have hrl : xs.length = its.length := rv.length
  have hlt : X.env.locals < s.heap.objs.size := I.lt
  obtain ⟨a, ha⟩ : ∃ a : Addr, a = s.heap.objs.size + 1 := ⟨_, rfl⟩
  have hal : s.heap.objs.size ≤ a := by rw [ha]; exact Nat.le_succ _
  have far : ∀ b : Addr, s.heap.objs.size ≤ b → (b ∈ X.ex ∨ X.s_0.heap.objs.size ≤ b) ∧ b ≠ X.env.locals ∧ (∀ x c, X.env.cells.lookup x = some c → c ≠ b) ∧ (∀ p ∈ X.pn ++ pins, p.1 ≠ b) ∧ b ∉ frs X.stack := by
    intro b hb
    refine ⟨.inr (Nat.le_trans I.sz hb), Nat.ne_of_gt (Nat.lt_of_lt_of_le hlt hb), fun x c e z => ?_, fun p hp z => ?_, fun z => ?_⟩
    · obtain ⟨v, o, ho, _⟩ := I.cell x c e
      exact absurd (Nat.lt_of_lt_of_le (Heap.lt_size ho) hb) (by rw [z]; exact Nat.lt_irrefl _)
    · exact absurd (Nat.lt_of_lt_of_le (Heap.lt_size (I.pin p hp).1) hb) (by rw [z]; exact Nat.lt_irrefl _)
    · rcases List.mem_cons.mp (I.stkSub b z) with e | e
      · exact absurd (Nat.lt_of_lt_of_le hlt hb) (by rw [e]; exact Nat.lt_irrefl _)
      · exact I.nofs hb e
  have hfresh : ∀ b, s.heap.objs.size ≤ b → c.H b = none := fun b hb => I.hok.fresh hb
  refine PySem.W.sorted_of_sort hl.isList (by rw [← hrl]; exact hz) (PyProof.Rows.ksk_s1 _ _) (fun _ => PyProof.Rows.ksk_l1 _ _) fun E' => ?_
  have hks : Builtin.«list.sort» { pos := [Value.ref (s.heap.objs.size + 1)], kw := [Str.ofString "key"].zip [Value.ref f] } = PyProof.Rows.ksk_tree (s.heap.objs.size + 1) (.ref f) false := PyProof.Rows.ksk_t1 _ _
  rw [hks]
  have hcs : s.heap.objs.size + 1 < (PySem.W.copyHeap s.heap its).objs.size := Heap.lt_size (PySem.W.copyHeap_at s.heap its)
  refine keyJ_tree (ns := ks) (a := s.heap.objs.size + 1) (s := { s with heap := PySem.W.copyHeap s.heap its })
    (fun kS s' => ∃ c' : Cf, c'.W = c.W ∧ Ext c c' ∧ WOk c' ∧ Inv X pins σ c'.H s' ∧ c'.H (s.heap.objs.size + 1) = none ∧ c'.H kS = none ∧ s'.os = s.os)
    (PySem.W.copyHeap_at s.heap its) (by omega) (by rw [← hrl]; exact hz) ?u ?z0 ?up ?turn ?fin
  case u =>
    intro d hd
    obtain ⟨i, _, rfl⟩ := List.mem_map.mp hd
    have := hr.un
    show X.A.units + 1 + 1 + _ < _
    simp only [PyData.depth]
    omega
  case z0 =>
    intro kS h' hk hh
    have hk' : s.heap.objs.size ≤ kS := Nat.le_trans (Nat.le_of_lt (Nat.lt_of_succ_lt hcs)) hk
    have fa := far (s.heap.objs.size + 1) (by omega)
    have I2 : L2.Inv X pins σ c.H { s with heap := h', toks := s.toks } := I.turned (it := s.heap.objs.size + 1) (fun b o hb e => hh b o hb (PySem.W.copyHeap_old e)) (hfresh _ (by omega)) fa.2.1 fa.1 fa.2.2.1 fa.2.2.2.1
    exact ⟨c, rfl, Ext.refl c, wk, I2, hfresh _ (by omega), hfresh _ hk', rfl⟩
  case up =>
    intro kS s' kA e g hk hj hg
    obtain ⟨c', h1, h2, h3, I2, h4, h5, h6⟩ := hj
    have hk' : s.heap.objs.size ≤ kS := Nat.le_trans (Nat.le_of_lt (Nat.lt_of_succ_lt hcs)) hk
    have fa := far kS hk'
    have I3 : L2.Inv X pins σ c'.H { s' with heap := s'.heap.update kS (Obj.mapSeq g), toks := s'.toks } := I2.turned (it := kS) (fun b o hb e => by rw [Heap.get?_update_ne _ _ _ _ hb]; exact e) h5 fa.2.1 fa.1 fa.2.2.1 fa.2.2.2.1
    exact ⟨c', h1, h2, h3, I3, h4, h5, h6⟩
  case turn =>
    intro i u k' hu hki kS s' hk hj ho1 ho2
    obtain ⟨c', h1, h2, h3, I2, h4, h5, h6⟩ := hj
    have hk' : s.heap.objs.size ≤ kS := Nat.le_trans (Nat.le_of_lt (Nat.lt_of_succ_lt hcs)) hk
    have fk := far kS hk'
    have fa := far (s.heap.objs.size + 1) (by omega)
    have il : i < its.length := (List.getElem?_eq_some_iff.mp hu).1
    obtain ⟨ru, hru⟩ : ∃ ru, rvs[i]? = some ru := ⟨_, List.getElem?_eq_getElem (by omega)⟩
    obtain ⟨x, hx, hrx'⟩ := paired_get rp hru
    obtain ⟨u', hu', rxu⟩ := paired_get rv hx
    rw [hu] at hu'
    cases hu'
    have hw := hf i ru k' hru hki
    rw [← h1] at hw
    have hsp : spW X.K cv 1 Fn [x] c'.H (fun v H' => v = .int k' ∧ ∃ c2 : Cf, c2.H = H' ∧ c2.W = c.W ∧ Ext c' c2 ∧ WOk c2) (fun _ _ _ => False) := by
      refine ⟨c', [ru], rfl, h3, .cons (hrx'.mono h2) .nil, rfl, wpM_mono hw (fun r W1 q => ?_) fun _ _ q => q.elim⟩
      obtain ⟨rfl, rfl⟩ := q
      intro y c2 hw2 e2 w2 r2
      exact ⟨r2, c2, rfl, hw2.trans h1, e2, w2⟩
    have hv : Vals [x] [u] := .cons rxu .nil
    refine wpAny_call (codeAny_mono (F.run X.A.in1.in1 X.stack s' c'.H ⟨[u], []⟩ [u] [x] _ _ hr.in1.in1 I2.env0.in1.in1 (by have := hb s' [u] I2.kIn (by simp [hp]); simpa using this) hv hsp) fun r s2 hq => ?_)
    cases r with
    | error e => exact (cx_false hq).elim
    | ok fl =>
      cases fl with
      | next => exact False.elim hq
      | brk => exact False.elim hq
      | cont => exact False.elim hq
      | ret z =>
        obtain ⟨v, H', os, bare, un, hok, rz', rfl, c2, rfl, w2, e2, wk2⟩ := hq
        obtain ⟨o1, ho1⟩ := ho1
        obtain ⟨o2, ho2⟩ := ho2
        exact ⟨⟨c2, w2, h2.trans e2, wk2, I2.call' (ch := []) os un hok bare (fun b z => absurd z (by simp)), un.free _ _ ho2 h4 (by simp), un.free _ _ ho1 h5 (by simp), os.trans h6⟩, rz', (un.keep _ _ ho1 h5 fk.2.2.2.2 (by simp)).trans ho1.symm, (un.keep _ _ ho2 h4 fa.2.2.2.2 (by simp)).trans ho2.symm⟩
  case fin =>
    intro kS s' h' tk out cc hk hne hj hkeep hout ko
    obtain ⟨c', h1, h2, h3, I2, h4, h5, h6⟩ := hj
    have hk' : s.heap.objs.size ≤ kS := Nat.le_trans (Nat.le_of_lt (Nat.lt_of_succ_lt hcs)) hk
    have fk := far kS hk'
    have fa := far (s.heap.objs.size + 1) (by omega)
    refine ⟨rfl, ?_⟩
    have hbs : (xs.zip ks).map (fun p => PyData.int p.2) = ks.map PyData.int := by
      have : (xs.zip ks).map Prod.snd = ks := List.map_snd_zip (by omega)
      calc (xs.zip ks).map (fun p => PyData.int p.2) = ((xs.zip ks).map Prod.snd).map PyData.int := by rw [List.map_map]; rfl
        _ = ks.map PyData.int := by rw [this]
    have hE : PySem.W.EachIs (fun (u : Value) (p : V × Int) => RelV p.1 u) its (xs.zip ks) := each_zip rv (by omega)
    have e3 := PySem.W.keyedOut_each (fun p : V × Int => PyData.int p.2) (by rw [hbs]; exact ko) hE
    rw [PySem.W.dataLe_int] at e3
    have e4 : Vals ((byKey (xs.zip ks)).map (·.1)) out := vals_each e3
    have hlen : ((byKey (xs.zip ks)).map (·.1)).length ≤ sizeLine := by
      unfold byKey
      rw [List.length_map, List.length_mergeSort, List.length_zip]
      omega
    obtain ⟨G1, g1, g1'⟩ := L2.restrict s'.heap fun x => decide (x ≠ kS)
    obtain ⟨G2, g2, g2'⟩ := L2.restrict G1 fun x => decide (x ≠ s.heap.objs.size + 1)
    have I3 : L2.Inv X pins σ c'.H { s' with heap := G1, toks := s'.toks } := I2.turned (it := kS) (fun b o hb e => by rw [g1 b (decide_eq_true hb)]; exact e) h5 fk.2.1 fk.1 fk.2.2.1 fk.2.2.2.1
    have I4 := I3.turned (h' := G2) (t' := s'.toks) (it := s.heap.objs.size + 1) (fun b o hb e => by rw [g2 b (decide_eq_true hb)]; exact e) h4 fa.2.1 fa.1 fa.2.2.1 fa.2.2.2.1
    have I5 := I4.laidN (h' := h') (a := s.heap.objs.size + 1) (o := .lst ((byKey (xs.zip ks)).map (·.1))) (t' := tk) (fun b o e => by
      by_cases hb : b = s.heap.objs.size + 1
      · rw [g2' b (decide_eq_false fun z => z hb)] at e; cases e
      · rw [g2 b (decide_eq_true hb)] at e
        by_cases hb2 : b = kS
        · rw [g1' b (decide_eq_false fun z => z hb2)] at e; cases e
        · rw [g1 b (decide_eq_true hb2)] at e
          exact hkeep b o hb hb2 e) (g2' _ (decide_eq_false fun z => z rfl)) h4 ⟨hlen, out, cc, e4, hout⟩
    exact ⟨.ref _, _, I5, rfl, q c' _ h2 h1 h3 h4⟩
end
end DL
set_option Elab.async false
set_option linter.all false
set_option maxRecDepth 100000
set_option maxHeartbeats 4000000
/-! DL21: the rule of sorted(xs, key=f). -/
namespace DL
open PySem PySem.Spec PyProof.Rows L2 RZ
def KeysOK (Fn : List RV → M RV) (xs : List D) (W : Wd) (ks : List Int) : Prop := ks.length = xs.length ∧ ∀ (i : Nat) (u : D) (k : Int), xs[i]? = some u → ks[i]? = some k → wpM (Fn [.d u]) W (fun r W1 => r = .d (.int k) ∧ W1 = W) (fun _ _ => False)
open Classical in
noncomputable def sortK (Fn : List RV → M RV) (xs : List D) : M RV := fun W => if h : ∃ ks, KeysOK Fn xs W ks then some (.ok (.d (.lst ((byKey (xs.zip h.choose)).map (·.1)))), W) else none
noncomputable def evSortK (Fn : List RV → M RV) (Fe : Env → M RV) (δ : Env) : M RV := (Fe δ).bind fun u => match u with
  | .d (.lst xs) => sortK Fn xs
  | _ => M.fail
theorem sortK_out {Fn : List RV → M RV} {xs : List D} {W : Wd} {Q : RV → Wd → Prop} {E : DX → Wd → Prop} (h : wpM (sortK Fn xs) W Q E) : ∃ ks, KeysOK Fn xs W ks ∧ Q (.d (.lst ((byKey (xs.zip ks)).map (·.1)))) W := by
  unfold wpM sortK at h
  by_cases q : ∃ ks, KeysOK Fn xs W ks
  · rw [dif_pos q] at h
    exact ⟨_, q.choose_spec, h⟩
  · rw [dif_neg q] at h
    exact h.elim
theorem w_sortK {Fn : List RV → M RV} {xs : List D} {W : Wd} {Q : RV → Wd → Prop} {E : DX → Wd → Prop} {ks : List Int} (k : KeysOK Fn xs W ks) (h : Q (.d (.lst ((byKey (xs.zip ks)).map (·.1)))) W) : wpM (sortK Fn xs) W Q E := by
  have q : ∃ ks, KeysOK Fn xs W ks := ⟨ks, k⟩
  unfold wpM sortK
  rw [dif_pos q]
  have e : q.choose = ks := by
    refine List.ext_getElem? fun i => ?_
    have c := q.choose_spec
    by_cases hi : i < xs.length
    · obtain ⟨u, hu⟩ : ∃ u, xs[i]? = some u := ⟨_, List.getElem?_eq_getElem hi⟩
      obtain ⟨a, ha⟩ : ∃ a, q.choose[i]? = some a := ⟨_, List.getElem?_eq_getElem (by rw [c.1]; exact hi)⟩
      obtain ⟨b, hb⟩ : ∃ b, ks[i]? = some b := ⟨_, List.getElem?_eq_getElem (by rw [k.1]; exact hi)⟩
      have h1 := c.2 i u a hu ha
      have h2 := k.2 i u b hu hb
      unfold wpM at h1 h2
      rw [ha, hb]
      cases e : Fn [.d u] W with
      | none => rw [e] at h1; exact h1.elim
      | some p =>
        obtain ⟨r, W1⟩ := p
        rw [e] at h1 h2
        cases r with
        | error _ => exact h1.elim
        | ok r =>
          have := h1.1.symm.trans h2.1
          cases this
          rfl
    · rw [List.getElem?_eq_none (by rw [c.1]; omega), List.getElem?_eq_none (by rw [k.1]; omega)]
  show Q _ W
  rw [e]
  exact h
theorem rSKF_any {K : PySem.W.Frag} {cv : Str → Value} {f : Addr} {Fn : List RV → M RV} {v : V} {H : Hp} {Q : VK} : rSKF K cv f Fn [v] [V.ref f] H Q = rSKF K cv 0 Fn [v] [V.ref 0] H Q :=
  propext ⟨fun ⟨l, xs, c, rvs, ks, h1, _, h3⟩ => ⟨l, xs, c, rvs, ks, h1, rfl, h3⟩, fun ⟨l, xs, c, rvs, ks, h1, _, h3⟩ => ⟨l, xs, c, rvs, ks, h1, rfl, h3⟩⟩
theorem zip_getD {α : Type} {xs : List α} {ks : List Int} {p : α × Int} (h : p ∈ xs.zip ks) : ∃ i : Nat, xs[i]? = some p.1 ∧ ks[i]? = some p.2 := by
  obtain ⟨i, hi⟩ := List.mem_iff_getElem?.mp h
  rw [List.getElem?_zip_eq_some] at hi
  exact ⟨i, hi⟩
theorem byKey_map {α β : Type} (g : α → β) (xs : List (α × Int)) : (byKey xs).map (fun p => (g p.1, p.2)) = byKey (xs.map fun p => (g p.1, p.2)) := by
  unfold byKey
  exact List.map_mergeSort fun a _ b _ => rfl
/-- sorted alike: what stands for the items stands for them in the new order -/
theorem zip3_fst {α β : Type} : ∀ {xs : List α} {ys : List β} {ks : List Int}, xs.length = ys.length → ((xs.zip ys).zip ks).map (fun p => (p.1.1, p.2)) = xs.zip ks
  | [], [], _, _ => by simp
  | [], _ :: _, _, h => by simp at h
  | _ :: _, [], _, h => by simp at h
  | _ :: _, _ :: _, [], _ => by simp
  | x :: xs, y :: ys, k :: ks, h => by
    have := zip3_fst (xs := xs) (ys := ys) (ks := ks) (by simpa using h)
    simp only [List.zip_cons_cons, List.map_cons, this]
theorem zip3_snd {α β : Type} : ∀ {xs : List α} {ys : List β} {ks : List Int}, xs.length = ys.length → ((xs.zip ys).zip ks).map (fun p => (p.1.2, p.2)) = ys.zip ks
  | [], [], _, _ => by simp
  | [], _ :: _, _, h => by simp at h
  | _ :: _, [], _, h => by simp at h
  | _ :: _, _ :: _, [], _ => by simp
  | x :: xs, y :: ys, k :: ks, h => by
    have := zip3_snd (xs := xs) (ys := ys) (ks := ks) (by simpa using h)
    simp only [List.zip_cons_cons, List.map_cons, this]
theorem repL_each {c : Cf} : ∀ {ps : List ((D × V) × Int)}, (∀ p ∈ ps, Rep c p.1.1 p.1.2) → RepL c (ps.map fun p => p.1.1) (ps.map fun p => p.1.2)
  | [], _ => rfl
  | p :: ps, h => ⟨_, _, rfl, h p (by simp), repL_each fun q hq => h q (by simp [hq])⟩
/-- sorted alike: what stands for the items stands for them in the new order -/
theorem rep_byKey {c : Cf} {ds : List D} {vs : List V} {ks : List Int} (r : RepL c ds vs) : RepL c ((byKey (ds.zip ks)).map (·.1)) ((byKey (vs.zip ks)).map (·.1)) := by
  have hl := repL_len r
  have z := repL_each (c := c) (ps := byKey ((ds.zip vs).zip ks)) fun p hp => by
    have hp2 : p ∈ (ds.zip vs).zip ks := List.mem_mergeSort.mp hp
    obtain ⟨i, h1, _⟩ := zip_getD hp2
    rw [List.getElem?_zip_eq_some] at h1
    obtain ⟨v, hv, rr⟩ := repL_get r h1.1
    rw [h1.2] at hv
    cases hv
    exact rr
  rw [← zip3_fst (ks := ks) hl, ← zip3_snd (ks := ks) hl, ← byKey_map (fun p : D × V => p.1), ← byKey_map (fun p : D × V => p.2), List.map_map, List.map_map]
  exact z
section
variable {ι : Type} {𝒳 : ι → Cx} {G : Gh} {e : Expr} {y : Str} {p p2 pos kp : Pos} {Fe : Env → M RV} {Fn : List RV → M RV} {k j : Nat}
theorem de_sortedKey (hF : ∀ i, CalD (𝒳 i).prog (𝒳 i).w (𝒳 i).K (𝒳 i).mg (𝒳 i).base G.cv j y 1 Fn) (hr : ∀ i, Room k (𝒳 i).A) (hK : ∀ i, (𝒳 i).K = G.K) (hm : ∀ i, (𝒳 i).mg "sorted" = none) (ha : DE 𝒳 G e Fe)
    (hjk : j + 2 ≤ k := by omega) (hg : ∀ i, Gl (𝒳 i) "sorted" := by intro _; rfl) (hgy : ∀ i, Gl (𝒳 i) y := by intro _; rfl) (hdb : (y == ("__debug__" : Str)) = false := by decide)
    (hs : ∀ i, starEach [e] (𝒳 i).env = (false, eval e (𝒳 i).env) :: starEach [] (𝒳 i).env := by intro _; rfl) (he : ∀ i, backTo pos (starEach [e] (𝒳 i).env) = (false, eval e (𝒳 i).env) :: backTo pos (starEach [] (𝒳 i).env) := by intro _; rfl) (hpl : ∀ i, (backTo pos (starEach [e] (𝒳 i).env)).any (·.1) = false := by intro _; rfl) :
    DE 𝒳 G (.Call (.Name "sorted" p) [e] [⟨some "key", .Name y p2, kp⟩] pos) (evSortK Fn Fe) := by
  obtain ⟨t, pt, rt⟩ := ha
  refine ⟨tCKw (rSKF G.K G.cv 0 Fn) (tCons t tNil) (tCons (tC (V.ref 0)) tNil), fun i => ?_, fun c σ δ Q s w h => ?_⟩
  · obtain ⟨f, fd, ps, hn, F, hmy, hk, hb⟩ := (hF i).ex
    have q := pe_callBK (pos := pos) (p := p) (kws := [⟨some "key", .Name y p2, kp⟩]) (cr_sortedKeyF F hn ((hr i).mono hjk) hb) (hg i) (hm i) (by decide +kernel) (pa_cons (pt i) pa_nil (hs i)) (pk_cons (pe_glob (v := .ref f) (hgy i) hmy rfl hdb) pk_nil) (by decide) (by decide) (he i) (hpl i)
    have e2 : tCKw (rSKF G.K G.cv 0 Fn) (tCons t tNil) (tCons (tC (V.ref 0)) tNil) = tCKw (rSKF (𝒳 i).K G.cv f Fn) (tCons t tNil) (tCons (tC (V.ref f)) tNil) := by
      rw [hK i]
      funext σ H Q
      show t σ H (fun x H1 => rSKF G.K G.cv 0 Fn [x] [V.ref 0] H1 Q) = t σ H (fun x H1 => rSKF G.K G.cv f Fn [x] [V.ref f] H1 Q)
      congr 1
      funext x H1
      exact rSKF_any.symm
    rw [e2]
    exact q
  · refine rt c σ δ _ s w (wpM_mono (wpM_bind.mp h) (fun u W1 h1 x c1 hw e1 w1 r1 => ?_) fun _ _ q => q)
    subst hw
    match u, r1, h1 with
    | .d (.lst xs), r1, h1 =>
      obtain ⟨l, vs, rfl, hl, nl, rr⟩ := r1
      obtain ⟨ks, hk, q⟩ := sortK_out h1
      refine ⟨l, vs, c1, xs.map RV.d, ks, rfl, rfl, rfl, SqL.of hl, w1, repL_vs rr, by rw [List.length_map]; exact hk.1, fun i u k' hu hk' => ?_, fun c2 p e2 hw2 w2 hp => ?_⟩
      · rw [List.getElem?_map] at hu
        cases hx : xs[i]? with
        | none => rw [hx] at hu; simp at hu
        | some d =>
          rw [hx] at hu
          obtain rfl : RV.d d = u := by simpa using hu
          exact hk.2 i d k' hx hk'
      · obtain ⟨e3, w3⟩ := w2.lay (o := .lst ((byKey (vs.zip ks)).map (·.1))) hp
        refine q (.ref p) (c2.lay p (.lst ((byKey (vs.zip ks)).map (·.1)))) hw2 (e1.trans (e2.trans e3)) w3 ⟨p, _, rfl, upd_same, w2.layAv hp, ?_⟩
        exact RepL.mono e3 _ _ (rep_byKey (RepL.mono e2 _ _ rr))
    | .r _, _, h1 => exact h1.elim
    | .d .non, _, h1 => exact h1.elim
    | .d (.bl _), _, h1 => exact h1.elim
    | .d (.int _), _, h1 => exact h1.elim
    | .d (.str _), _, h1 => exact h1.elim
    | .d (.ty _), _, h1 => exact h1.elim
    | .d (.frz _), _, h1 => exact h1.elim
    | .d (.tup _), _, h1 => exact h1.elim
    | .d (.dK _), _, h1 => exact h1.elim
    | .d (.dT _), _, h1 => exact h1.elim
end
end DL
set_option Elab.async false
set_option linter.all false
set_option maxRecDepth 100000
set_option maxHeartbeats 4000000
/-! DL22: a display of a dict with one entry. -/
namespace DL
open PySem PySem.Spec PyProof.Rows L2 RZ
/-- the key of data -/
def keyD : RV → Option Key
  | .d (.int n) => some (.inl n)
  | .d (.str s) => some (.inr s)
  | _ => none
def pureD : RV → Option D
  | .d x => some x
  | _ => none
def evDisp1 (Fk Fv : Env → M RV) (δ : Env) : M RV := (Fk δ).bind fun k => (M.opt (keyD k)).bind fun q => (Fv δ).bind fun v => (M.opt (pureD v)).bind fun x => M.ret (.d (.dK [(q, x)]))
section
variable {c c' : Cf} {p : Addr} {o : HO}
abbrev Cf.un (c' : Cf) (A : Addr → Prop) : Cf := ⟨c'.H, c'.ren, c'.W, A⟩
theorem un_wk (e : Ext (c.plus p o) c') : Wk c' (c'.un c.Ao) := by
  refine ⟨fun b u hb n => ⟨hb, fun z => ?_⟩, fun _ _ => rfl, Nat.le_refl _⟩
  rcases z with z | z
  · exact n (.inl (by rw [e.ao]; exact .inl z))
  · exact n (.inr z)
theorem un_ext (h : c.H p = none) (e : Ext (c.plus p o) c') : Ext c (c'.un c.Ao) :=
  ⟨fun b u hb n => e.keep b u (lay_keep h b u hb) n, fun b u hb n => e.dead b u (lay_keep h b u hb) n, fun l hl => e.ren l hl, e.len, rfl⟩
theorem un_ok (e : Ext (c.plus p o) c') (w' : WOk c') : WOk (c'.un c.Ao) := by
  have ha : ∀ a, c.Ao a → c'.Ao a := fun a z => by rw [e.ao]; exact .inl z
  exact ⟨fun l u hl => (w'.obj l u hl).monoW (un_wk e) fun _ _ q => q, w'.inj, fun l u hl m z => w'.out l u hl m (ha _ z), fun a z => w'.ao a (ha a z)⟩
end
theorem RepF.monoW {c c' : Cf} (e : Wk c c') {fs : List (Str × D)} {ws : List (Str × V)} (h : RepF c fs ws) : RepF c' fs ws := Paired.mapP h fun _ _ q => ⟨q.1, Rep.monoW e _ _ q.2⟩
theorem hX {G : Gh} {c : Cf} {p : Addr} {o : HO} {x : DX} {W : Wd} (w : WOk c) (h : c.H p = none) (q : QE G c x W) : QE G (c.plus p o) x W := fun C d c' hw e w' r =>
  q C d (c'.un c.Ao) hw (un_ext h e) (un_ok e w') ⟨r.1, r.2.elim (fun ⟨dd, ws, h1, h2, h3⟩ => .inl ⟨dd, ws, h1, h2, h3.monoW (un_wk e)⟩) .inr⟩
section
variable {ι : Type} {𝒳 : ι → Cx} {G : Gh} {ke v : Expr} {pos : Pos} {Fk Fv : Env → M RV}
theorem de_disp1 (hk : DE 𝒳 G ke Fk) (hv : DE 𝒳 G v Fv) : DE 𝒳 G (.Dict [some ke] [v] pos) (evDisp1 Fk Fv) := by
  obtain ⟨tk, pk, rk⟩ := hk
  obtain ⟨tv, pv, rv⟩ := hv
  refine ⟨_, fun i => pe_disp (pps_cons (pk i) (pv i) pps_nil) (by rfl) (by rfl) (fun z => by cases z) (by simp), fun c σ δ Q s w h => ?_⟩
  intro p hp
  have s1 : SOk σ δ (c.plus p (.dK [])) := s.monoW (Wk.plus w hp)
  refine rk (c.plus p (.dK [])) σ δ _ s1 (WOk.plus w hp) (wpM_mono (wpM_bind.mp h) (fun u W1 h1 x c1 hw e1 w1 r1 => ?_) fun _ _ q => hX w hp q)
  subst hw
  obtain ⟨q, hq, h2⟩ := wpM_opt (wpM_bind.mp h1)
  refine rv c1 σ δ _ (s1.mono e1) w1 (wpM_mono (wpM_bind.mp h2) (fun u2 W2 h3 y c2 hw2 e2 w2 r2 => ?_) fun _ _ q => (hX w hp q).mono e1)
  subst hw2
  obtain ⟨d, hd, h4⟩ := wpM_opt (wpM_bind.mp h3)
  have e12 := e1.trans e2
  have hx : x = kV q := by
    cases u with
    | r _ => cases hq
    | d u => cases u <;> first | (cases hq; exact r1) | cases hq
  refine ⟨plus_at w hp e12, [(q, y)], by rw [hx]; rfl, by simp, ?_⟩
  have hm := minus_none (c' := c2) (p := p) (A := c.Ao)
  obtain ⟨e3, w3⟩ := (minus_ok w hp e12 w2).lay (o := .dK [(q, y)]) hm
  have ry : Rep c2 d y := by
    cases u2 with
    | r _ => cases hd
    | d u2 => cases hd; exact r2
  have ry' : Rep ((c2.minus p c.Ao).lay p (.dK [(q, y)])) d y := Rep.mono e3 _ _ (Rep.monoW (minus_wk e12 w2) _ _ ry)
  have q5 := h4 (.ref p) ((c2.minus p c.Ao).lay p (.dK [(q, y)])) rfl ((minus_ext w hp e12).trans e3) w3 ⟨p, [(q, y)], rfl, upd_same, (minus_ok w hp e12 w2).layAv hm, y, [], rfl, ry', rfl⟩
  have e6 : upd c2.H p (.dK (mergeK [] [(q, y)])) = ((c2.minus p c.Ao).lay p (.dK [(q, y)])).H := minus_upd (plus_at w hp e12)
  rw [e6]
  exact q5
end
end DL
set_option Elab.async false
set_option linter.all false
set_option maxRecDepth 100000
set_option maxHeartbeats 4000000
/-! DL23: enumerate of a tuple. -/
namespace PySem
open Sem (wp)
open AutoSeq1 (wpAny_loadPart')
theorem dl_meets_enum1 {v : Value} {o : Obj} {H : Heap → Prop} (B : Begins v o H) :
    Meets (Builtin.«enumerate.__new__» ⟨[.type "enumerate", v], []⟩) (fun _ R s => H s.heap ∧
      R (.ok (.ret (.ref (s.heap.push o).objs.size))) { s with heap := (s.heap.push o).push { cls := .type "enumerate", data := .fields #[.none, .bool false, .ref s.heap.objs.size, rawInt 0, .none, .none] } }) :=
  .of_wp fun prog w A R s h => by
    obtain ⟨hp, g, d, tk, os⟩ := s; obtain ⟨h1, h⟩ := h
    have hsub := sub_enumerate
    have q1 : ∀ {A' : Around} {E : Value → Shared → Prop} {Q : Value → Shared → Prop}, Q (.ref hp.objs.size) ⟨hp.push o, g, d, tk, os⟩ → wpAny (model prog w) A' (pyIter v) Q E ⟨hp, g, d, tk, os⟩ :=
      fun q => B.iter prog w _ _ ⟨hp, g, d, tk, os⟩ _ h1 q
    wp_walk using q1
    refine wpAny_stack_any fun st => wpAny_pure ?_
    split
    · rename_i c _ _ _ _ _
      cases (c == Value.type "enumerate")
      · wp_walk using q1
        exact ⟨_, rfl, h⟩
      · wp_walk using q1
        exact ⟨_, rfl, h⟩
    · wp_walk using q1
      exact ⟨_, rfl, h⟩
section
variable {prog : Program} {w : World} {A : Around} {E : Value → Shared → Prop} {s : Shared}
theorem dl_enum1 {v : Value} {o : Obj} {H : Heap → Prop} {Q : Value → Shared → Prop} (B : Begins v o H) (h1 : H s.heap)
    (h : ∀ h', IsEnum h' (s.heap.objs.size + 1) s.heap.objs.size 0 .none → h'.get? s.heap.objs.size = some o → h'.objs.size = s.heap.objs.size + 2 →
      (∀ b o, s.heap.get? b = some o → h'.get? b = some o) → Q (.ref (s.heap.objs.size + 1)) { s with heap := h' }) :
    wpAny (model prog w) A (call (.type "enumerate") [v]) Q E s := by
  refine callType_new F.called_enumerate (by decide) (F.typeCall_enumerate_1 _) (F.newCall_enumerate_1 _) (fun obj => F.args_object_init_2 obj _) F.entry_enumerate_new
    (dl_meets_enum1 B) ⟨h1, ?_⟩
  have hz : (s.heap.push o).objs.size = s.heap.objs.size + 1 := Heap.size_push ..
  show _ ∧ _
  rw [hz]
  have he : IsEnum ((s.heap.push o).push { cls := .type "enumerate", data := .fields #[.none, .bool false, .ref s.heap.objs.size, rawInt 0, .none, .none] }) (s.heap.objs.size + 1) s.heap.objs.size 0 .none := by
    have := Heap.get?_push_size (s.heap.push o) (o := { cls := .type "enumerate", data := .fields #[.none, .bool false, .ref s.heap.objs.size, rawInt 0, .none, .none] }) rfl
    rw [hz] at this; exact this
  refine ⟨⟨_, he, rfl⟩, h _ he (Heap.get?_push_of_some _ (Heap.get?_push_size _ B.free)) (by rw [Heap.size_push, hz]) fun b o x => Heap.get?_push_of_some _ (Heap.get?_push_of_some _ x)⟩
end
end PySem
namespace DL
open PySem PySem.Spec PyProof.Rows L2
/-- the tuple at a as it stands at each turn, each item in a new pair -/
def IteT (K : PySem.W.Frag) (a : Addr) : It :=
  ⟨fun i H => ∃ (xs : List V) (x : V), SqT K H a xs ∧ xs[i]? = some x, fun i H v H' => ∃ T x, v = .ref T ∧ H T = none ∧ H' = upd H T (.tup [.int (i : Nat), x]) ∧ ∀ xs, SqT K H a xs → xs[i]? = some x, fun i H => ∃ xs : List V, SqT K H a xs ∧ xs.length ≤ i⟩
theorem turn_enumT {P : Program} {w : PySem.World} {K : PySem.W.Frag} {elts : List Expr} {kk : Nat} {tpos : Pos} (a e it : Addr) :
    Turn P w K (.Tuple elts kk tpos) (IteT K a) [e, it] e (fun i h => (∃ old, IsEnum h e it ((i : Nat) : Int) old) ∧ h.IsTupleIter it a i ∧ e ≠ it ∧ e ≠ a ∧ a ≠ it) where
  mem := by simp
  obj := fun i h st b hb => by
    obtain ⟨⟨old, he⟩, ⟨o, ho, hc, hd⟩, _⟩ := st
    have e' : b = e ∨ b = it := by simpa using hb
    rcases e' with z | z
    · rw [z]; exact ⟨_, he, fun v q => nomatch q⟩
    · rw [z]; exact ⟨o, ho, fun v q => by rw [hd] at q; cases q⟩
  keep := fun i h h' st k => let ⟨⟨old, he⟩, hi, hne⟩ := st; ⟨⟨old, k e (by simp) _ he⟩, hi.at fun o q => k it (by simp) o q, hne⟩
  item := by
    intro X hP hw hK hc i pins s σ H E I hf st hg
    subst hP hw hK
    obtain ⟨⟨old, he⟩, hit, hne, hea, hai⟩ := st
    obtain ⟨xs, x, hq, hx⟩ := hg
    obtain ⟨its, rv, p, hz⟩ := I.tuple hq
    obtain ⟨u, hu, ru⟩ := rv.get hx
    have hel : e < s.heap.objs.size := Heap.lt_size he
    have hil : it < s.heap.objs.size := by obtain ⟨_, q, _⟩ := hit; exact Heap.lt_size q
    have Dr := Draws.tuple (prog := X.prog) (w := X.w) (A := X.A.in1) (show X.A.in1.handled = none from I.ok.hd hc) it a hai its.toArray
    have hi : i < its.toArray.size := by
      have := (List.getElem?_eq_some_iff.mp hu).1
      simpa using this
    refine wpAny_pyNext_enum_itemD Dr he ⟨hit, p⟩ hi hne (by simp; exact ⟨hne, hea⟩) fun u' h' tk hP ho hit' hT hsz hk => ?_
    have hu' : u' = u := by
      have hP' : its.toArray[i]? = some u' := hP
      rw [List.getElem?_toArray, hu] at hP'
      exact (Option.some.inj hP').symm
    subst hu'
    refine ⟨_, rfl, wpAny_letOwnedTupleGo_enum (s := { s with heap := h', toks := tk + 1 }) ho fun h'' he' sb => ?_⟩
    have hT2 : h''.get? s.heap.objs.size = some { cls := .type "tuple", data := .seq #[.int i tk, u'] } := (sb.2 _ (Nat.ne_of_gt hel)).trans hT
    have new : ObjOk X.prog X.w (upd H s.heap.objs.size (.tup [.int (i : Nat), x])) h'' s.heap.objs.size (.tup [.int (i : Nat), x]) :=
      ⟨by show 2 ≤ sizeLine; decide, [.int i tk, u'], .cons ⟨_, rfl⟩ (.cons ru .nil), ⟨_, hT2, rfl, _, rfl⟩⟩
    have I1 : Inv X pins σ (upd H s.heap.objs.size (.tup [.int (i : Nat), x])) { s with heap := h'', toks := tk + 1 } :=
      I.turnedNew (ch := [e, it]) (fun b ob hb q => (sb.2 b (fun z => hb (by simp [z]))).trans (hk b ob (fun z => hb (by simp [z])) (fun z => hb (by simp [z])) q)) hf (Nat.le_refl _) new
    refine ⟨.ref s.heap.objs.size, _, I1, rfl, ⟨_, x, rfl, I.hok.fresh (Nat.le_refl _), rfl, fun ys hy => by rw [I.tuple_inj hy hq]; exact hx⟩, ⟨⟨u', ?_⟩, hit'.1.at fun o q => (sb.2 it (Ne.symm hne)).trans q, hne, hea, hai⟩, fun b hb => ?_⟩
    · have e1 : ((i + 1 : Nat) : Int) = (i : Int) + 1 := by omega
      rw [e1]; exact he'
    · have hb' : b < s.heap.objs.size := by
        have e' : b = e ∨ b = it := by simpa using hb
        rcases e' with z | z
        · rw [z]; exact hel
        · rw [z]; exact hil
      rw [upd_ne (Nat.ne_of_lt hb')]
      exact (hf b hb).1
  done := by
    intro X hP hw hK hc i pins s σ H E I hf st hg
    subst hP hw hK
    obtain ⟨⟨old, he⟩, hit, hne, hea, hai⟩ := st
    obtain ⟨xs, hq, hx⟩ := hg
    obtain ⟨its, rv, p, hz⟩ := I.tuple hq
    obtain ⟨f0, f1, f2, f3, f4, f5⟩ := hf it (by simp)
    have hl := rv.length
    have hT : s.TypeIs (.ref e) "enumerate" := ⟨_, he, rfl⟩
    unfold pyNext
    refine wpAny_bind (wpAny_attempt (wpAny_callSpecial?_slot (name := Str.ofString "__next__") hT F.slot_enumerate_next
      (wpAny_call_entry F.slot_enumerate_next hT F.entry_enumerate_next ?_ (F.args_enumerate_next_1 _))))
    show wpAny _ _ (field (.ref e) 2 >>= _) _ _ _
    refine wpAny_bind (wpAny_field he rfl (x := .ref it) rfl ?_)
    refine wpAny_bind (wpAny_nextOf_tuple_end (items := its.toArray) (show X.A.in1.handled = none from I.ok.hd hc) hit p (by simp; omega) fun h' x he' hx' => ?_)
    obtain ⟨o, ho, hc'⟩ := hx'
    refine wpAny_bind (wpAny_isInstance (T := "StopIteration") (b := true) ⟨o, ho, hc'⟩ isSubtype_stop ?_)
    exact wpAny_pure ⟨rfl, I.turned (t' := s.toks) (fun b o hb q => he' b o hb q) f0 f1 f3 f4 f5⟩
  self := fun A i s Q E st h => let ⟨⟨_, he⟩, _⟩ := st; wpAny_pyIter_enum he h
def iEnumT (K : PySem.W.Frag) (ta : TA) : TI := fun σ H R => ta σ H fun vs H1 => ∃ a xs, vs = [.ref a] ∧ SqT K H1 a xs ∧ R (IteT K a) H1
theorem pi_enumT {X : Cx} {e : Expr} {ta : TA} {p pos tpos : Pos} {elts : List Expr} {kk : Nat} (hg : Gl X "enumerate") (hm : X.mg "enumerate" = none) (ha : PA X [e] ta) (hs : starEach [e] X.env = [(false, eval e X.env)] := by rfl) :
    PI X (.Tuple elts kk tpos) (.Call (.Name "enumerate" p) [e] [] pos) (iEnumT X.K ta) := by
  refine ⟨fun pins s σ H R I h => ?_⟩
  refine Call_ (ld_blt I hg hm boot_enumerate (PyProof.Rows.callWith_type1 (thn (ha.run pos pins s σ H _ I h) fun us s1 ⟨vs, H1, I1, r1, q1⟩ => ?_) hs rfl))
  obtain ⟨a, xs, ex, hq, q⟩ := q1
  subst ex
  cases r1 with
  | cons r rr =>
    cases rr
    cases r
    obtain ⟨its, rv, p', hz⟩ := I1.tuple hq
    have ht : s1.heap.IsTuple a its.toArray := p'
    have hal : a < s1.heap.objs.size := by obtain ⟨o, ho, _⟩ := id ht; exact Heap.lt_size ho
    refine dl_enum1 (begins_tuple a its.toArray) ht fun h' he hit hsz hk => wpAny_pyIter_enum he ?_
    have I2 : Inv X pins σ H1 { s1 with heap := h' } := I1.kept (t' := s1.toks) hk
    refine ⟨s1.heap.objs.size + 1, [s1.heap.objs.size + 1, s1.heap.objs.size], _, _, H1, rfl, I2, turn_enumT a (s1.heap.objs.size + 1) s1.heap.objs.size, ⟨⟨.none, he⟩, ⟨_, hit, rfl, rfl⟩, Nat.succ_ne_self _, Nat.ne_of_gt (Nat.lt_succ_of_lt hal), Nat.ne_of_lt hal⟩, fun b hb => ?_, q⟩
    have e' : b = s1.heap.objs.size + 1 ∨ b = s1.heap.objs.size := by simpa using hb
    have hle : s1.heap.objs.size ≤ b := by
      rcases e' with z | z
      · rw [z]; exact Nat.le_add_right _ _
      · rw [z]; exact Nat.le_refl _
    exact I1.fpOk hle (I1.hok.fresh hle)
theorem src_enumT {c : Cf} {K : PySem.W.Frag} {a : Addr} {xs : List D} (r : Rep c (.tup xs) (.ref a)) : Src c (IteT K a) (enumD xs) := by
  obtain ⟨a', vs, e, h, n, r⟩ := r
  cases e
  refine ⟨fun H => SqT K H a vs, YPair (fun i => some (.int (i : Nat))) (fun i => vs[i]?), ⟨fun i _ hi q => ?_, fun _ q => ⟨vs, q, by rw [enumD_len, repL_len r]; exact Nat.le_refl _⟩, fun i H v H' _ q y => ?_⟩, fun c2 k => SqT.of (k.at h n), fun i x H2 c2 d hd k w y => ?_⟩
  · have hi' : i < vs.length := by rw [enumD_len, repL_len r] at hi; exact hi
    exact ⟨vs, vs[i], q, by simp [hi']⟩
  · obtain ⟨T, x, h1, h2, h3, h4⟩ := y
    exact ⟨T, .int (i : Nat), x, h1, h2, h3, rfl, h4 vs q⟩
  · obtain ⟨T, p, q, rfl, hT, rfl, e1, e2⟩ := y
    dsimp only at e1 e2
    obtain ⟨x, hx, rfl⟩ := enumD_get hd
    obtain ⟨v, hv, rv⟩ := repL_get r hx
    rw [hv] at e2
    cases e2
    cases e1
    exact lay_pair w hT rfl (Rep.monoW k _ _ rv)
def itemsE2 : D → M (List D)
  | .lst xs => M.ret (enumD xs)
  | .tup xs => M.ret (enumD xs)
  | .str z => M.ret (enumD (charsOf z))
  | _ => M.fail
def evEnum2 (R : Env → M (List RV)) (δ : Env) : M (List D) := (R δ).bind fun us => match us with
  | [u] => (toD u).bind itemsE2
  | _ => M.fail
section
variable {ι : Type} {𝒳 : ι → Cx} {G : Gh} {e a : Expr} {pos : Pos} {R : Env → M (List RV)}
theorem di_enum2 {p tpos : Pos} {elts : List Expr} {kk : Nat} (hK : ∀ i, (𝒳 i).K = G.K) (hm : ∀ i, (𝒳 i).mg "enumerate" = none) (ha : DA 𝒳 G [a] R) (hg : ∀ i, Gl (𝒳 i) "enumerate" := by intro _; rfl) (hs : ∀ i, starEach [a] (𝒳 i).env = [(false, eval a (𝒳 i).env)] := by intro _; rfl) :
    DI 𝒳 G (.Tuple elts kk tpos) (.Call (.Name "enumerate" p) [a] [] pos) (evEnum2 R) := by
  obtain ⟨t, pt, rt⟩ := ha
  refine ⟨fun σ H R => iEnum G.K t σ H R ∨ iEnumT G.K t σ H R ∨ iEnumS t σ H R, fun i => ?_, fun c σ δ R' s w h => ?_⟩
  · have h1 := pi_enum (tpos := tpos) (elts := elts) (kk := kk) (p := p) (pos := pos) (hg i) (hm i) (pt i) (hs i)
    have h2 := pi_enumT (tpos := tpos) (elts := elts) (kk := kk) (p := p) (pos := pos) (hg i) (hm i) (pt i) (hs i)
    rw [hK i] at h1 h2
    exact PI.or h1 (PI.or h2 (pi_enumS (hg i) (hm i) (pt i) (hs i)))
  rcases args1 rt s w h with h1 | ⟨d, W2, h1, go⟩
  · exact .inl (h1 _)
  · cases d <;> try exact h1.elim
    case lst xs =>
      refine .inl (go _ fun x c2 hw e2 w2 r2 => ?_)
      have r2' := r2
      obtain ⟨a, vs, rfl, h2, _⟩ := r2'
      exact ⟨a, vs, rfl, SqL.of h2, h1 _ c2 hw e2 w2 (src_enum r2)⟩
    case tup xs =>
      refine .inr (.inl (go _ fun x c2 hw e2 w2 r2 => ?_))
      have r2' := r2
      obtain ⟨a, vs, rfl, h2, _⟩ := r2'
      exact ⟨a, vs, rfl, SqT.of h2, h1 _ c2 hw e2 w2 (src_enumT r2)⟩
    case str z =>
      refine .inr (.inr (go _ fun x c2 hw e2 w2 r2 => ?_))
      cases r2
      exact ⟨z, rfl, h1 _ c2 hw e2 w2 src_enumS⟩
end
section
variable {W : Wd} {E : DX → Wd → Prop} {δ : Env} {QD : List D → Wd → Prop} {R : Env → M (List RV)}
def enumA2 (us : List RV) : M (List D) := match us with
  | [u] => (toD u).bind itemsE2
  | _ => M.fail
@[simp] theorem w_enum2 : wpM (evEnum2 R δ) W QD E = wpM (R δ) W (kB enumA2 QD E) E := by
  unfold evEnum2
  rw [w_bind]
  congr 2
@[simp] theorem enumA2_l {xs : List D} : enumA2 [.d (.lst xs)] = M.ret (enumD xs) := (rfl)
@[simp] theorem enumA2_t {xs : List D} : enumA2 [.d (.tup xs)] = M.ret (enumD xs) := (rfl)
@[simp] theorem enumA2_s {z : Str} : enumA2 [.d (.str z)] = M.ret (enumD (charsOf z)) := (rfl)
@[simp] theorem itemsE2_l {xs : List D} : itemsE2 (.lst xs) = M.ret (enumD xs) := (rfl)
@[simp] theorem itemsE2_t {xs : List D} : itemsE2 (.tup xs) = M.ret (enumD xs) := (rfl)
@[simp] theorem w_enumA2_r {l : Nat} : wpM (enumA2 [.r l]) W QD E = frzM l (W[l]?) (kB itemsE2 QD E) W := by
  show wpM ((toD _).bind _) W QD E = _
  rw [w_bind, w_toD_r]
end
end DL
set_option Elab.async false
set_option linter.all false
set_option maxRecDepth 100000
set_option maxHeartbeats 4000000
/-! DL24: a, b = x, y through a tuple that nobody holds. -/
namespace DL
open PySem PySem.Spec PyProof.Rows L2
def nxP (δ' : Env) : M (Fl × Env) := M.ret (.nx, δ')
def evParT (n : Nat) (R : Env → M (List RV)) (T : List RV → Env → M Env) (δ : Env) : M (Fl × Env) := (R δ).bind fun us => (M.guard (us.length ≤ sizeLine ∧ us.length = n)).bind fun _ => (T us δ).bind nxP
section
variable {ι : Type} {𝒳 : ι → Cx} {G : Gh} {es ts : List Expr} {pos p1 p2 : Pos} {R : Env → M (List RV)} {vs : List Nat} {T : List RV → Env → M Env}
theorem ds_parT {n k : Nat} {k2} (hK : ∀ i, (𝒳 i).K = G.K) (hc : ∀ i, (𝒳 i).calm = true) (ha : DA 𝒳 G es R) (hg : DGs 𝒳 G ts vs T) (hn : ∀ i, (assignEach ts (𝒳 i).env).length = n := by intro _; rfl) (hst : ∀ i, (assignEach ts (𝒳 i).env).findIdx? (·.1) = none := by intro _; rfl)
    (hs : ∀ i, swapsWithSole [.Tuple ts k p1] (.Tuple es k2 p2) pos.line (𝒳 i).env = pure false := by intro _; rfl) (hw : ∀ i, swappedStores [.Tuple ts k p1] (.Tuple es k2 p2) (𝒳 i).env = pure none := by intro _; rfl)
    (h1 : ∀ i, (assignEach [.Tuple ts k p1] (𝒳 i).env).map (·.2) = [assign (.Tuple ts k p1) (𝒳 i).env] := by intro _; rfl) : DS 𝒳 G (.Assign [.Tuple ts k p1] (.Tuple es k2 p2) pos) (evParT n R T) := by
  obtain ⟨t, pt, rt⟩ := ha
  obtain ⟨g, pg, rg⟩ := hg
  refine ⟨tAsg (tTup t) (gTup G.K n g), fun i => ?_, fun c σ δ D s w h => ?_⟩
  · have h2 := pg_tup (pos := p1) (k := k) (hc i) (pg i) (hn i) (hst i)
    rw [hK i] at h2
    exact ps_asg (pe_tup (pt i)) h2 (hs i) (hw i) (h1 i)
  refine rt c σ δ _ s w (wpM_mono (wpM_bind.mp h) (fun us W1 h1 xs c1 hw e1 w1 r1 => ?_) fun _ _ q => q)
  subst hw
  obtain ⟨⟨hz, hl⟩, q⟩ := wpM_guard (wpM_bind.mp h1)
  have hlen := paired_len r1
  refine ⟨by rw [← hlen]; exact hz, fun p hp => ?_⟩
  obtain ⟨e2, w2⟩ := w1.lay (o := .tup xs) hp
  refine ⟨p, xs, rfl, SqT.of upd_same, by rw [← hlen]; exact hl, ?_⟩
  refine rg (c1.lay p (.tup xs)) xs us σ δ _ ((s.mono e1).mono e2) w2 (RepVs.mono e2 r1) ?_
  refine wpM_mono (wpM_bind.mp q) (fun δ' W3 h3 σ' c3 hw e3 w3 s3 _ _ => ?_) fun _ _ q => (q.mono e1).mono e2
  exact h3 σ' c3 hw ((e1.trans e2).trans e3) w3 s3
end
section
variable {W : Wd} {E : DX → Wd → Prop} {δ : Env} {QS' : Fl × Env → Wd → Prop} {R : Env → M (List RV)} {T : List RV → Env → M Env}
def parTF (n : Nat) (T : List RV → Env → M Env) (δ : Env) (us : List RV) : M (Fl × Env) := (M.guard (us.length ≤ sizeLine ∧ us.length = n)).bind fun _ => (T us δ).bind nxP
@[simp] theorem w_parT {n : Nat} : wpM (evParT n R T δ) W QS' E = wpM (R δ) W (kB (parTF n T δ) QS' E) E := propext wpM_bind
@[simp] theorem w_parTF {n : Nat} {us : List RV} : wpM (parTF n T δ us) W QS' E = ((us.length ≤ sizeLine ∧ us.length = n) ∧ wpM (T us δ) W (kB nxP QS' E) E) := by
  unfold parTF
  rw [w_bind, w_guard]
  show (_ ∧ wpM ((T us δ).bind nxP) W QS' E) = _
  rw [w_bind]
@[simp] theorem nxP_ap : nxP δ = M.ret (.nx, δ) := (rfl)
end
end DL
set_option Elab.async false
set_option linter.all false
set_option maxRecDepth 100000
set_option maxHeartbeats 4000000
/-! DL25: a comprehension over a list that may change later: the list is looked at at each turn. -/
namespace DL
open PySem PySem.Spec PyProof.Rows L2
theorem Walk.sup {J : It} {n : Nat} {α : Type} {Gd : α → Hp → Prop} {Y : α → Nat → Hp → V → Hp → Prop} (w : ∀ a, Walk J n (Gd a) (Y a)) : Walk J n (fun H => ∃ a, Gd a H) (fun i H x H' => ∃ a, Gd a H ∧ Y a i H x H') :=
  ⟨fun i H hi ⟨a, h⟩ => (w a).goes i H hi h, fun H ⟨a, h⟩ => (w a).stops H h, fun i H x H' hi ⟨a, h⟩ y => ⟨a, h, (w a).yields i H x H' hi h y⟩⟩
def SrcG (I : Wd → Prop) (c : Cf) (J : It) (ds : List D) : Prop := ∃ (Gd : Hp → Prop) (Y : Nat → Hp → V → Hp → Prop), Walk J ds.length Gd Y ∧ (∀ c2, Wk c c2 → WOk c2 → I c2.W → Gd c2.H) ∧
  ∀ (i : Nat) (x : V) (H2 : Hp) (c2 : Cf) (d : D), ds[i]? = some d → Wk c c2 → WOk c2 → I c2.W → Y i c2.H x H2 → ∃ c3, c3.H = H2 ∧ c3.W = c2.W ∧ Ext c2 c3 ∧ WOk c3 ∧ Rep c3 d x
abbrev IsAt (l : Nat) (xs : List D) (W : Wd) : Prop := W[l]? = some (.lst (xs.map RV.d))
section
variable {c : Cf} {K : PySem.W.Frag} {l : Nat} {xs : List D}
theorem isAt_rep {c2 : Cf} (hl : l < c.W.length) (k : Wk c c2) (w : WOk c2) (h : IsAt l xs c2.W) : ∃ vs, c2.H (c.ren l) = some (.lst vs) ∧ RepL c2 xs vs ∧ vs.length = xs.length := by
  obtain ⟨vs, e, r⟩ := w.obj l _ h
  rw [k.ren l hl] at e
  have r' : Paired (RepRV c2) (xs.map RV.d) vs := r
  refine ⟨vs, e, ?_, by rw [← paired_len r', List.length_map]⟩
  clear e h
  induction xs generalizing vs with
  | nil => cases r'; rfl
  | cons x xs ih =>
    cases r' with
    | cons a t => exact ⟨_, _, rfl, a, ih _ t t⟩
theorem srcG_list (hl : l < c.W.length) : SrcG (IsAt l xs) c (Itl K (c.ren l)) xs := by
  refine ⟨_, _, Walk.sup (α := { vs : List V // vs.length = xs.length }) (Gd := fun vs H => H (c.ren l) = some (.lst vs.1)) (Y := fun vs => YAt vs.1) (fun vs => ?_), fun c2 k w h => ?_, fun i x H2 c2 d hd k w h y => ?_⟩
  · have := walk_list (K := K) (a := c.ren l) (xs := vs.1)
    rw [vs.2] at this
    exact this.mono (fun H h => SqL.of h) fun i H x H' _ _ y => y
  · obtain ⟨vs, h1, _, h3⟩ := isAt_rep hl k w h
    exact ⟨⟨vs, h3⟩, h1⟩
  · obtain ⟨⟨vs, hv⟩, h1, rfl, hx⟩ := y
    obtain ⟨vs', h2, r, _⟩ := isAt_rep hl k w h
    dsimp only at h1 hx
    rw [h2] at h1
    cases h1
    obtain ⟨v, h4, rv⟩ := repL_get r hd
    rw [h4] at hx
    cases hx
    exact ⟨c2, rfl, rfl, Ext.refl c2, w, rv⟩
theorem srcG_enum (hl : l < c.W.length) : SrcG (IsAt l xs) c (Ite K (c.ren l)) (enumD xs) := by
  refine ⟨_, _, Walk.sup (α := { vs : List V // vs.length = xs.length }) (Gd := fun vs H => H (c.ren l) = some (.lst vs.1)) (Y := fun vs => YPair (fun i => some (.int (i : Nat))) (fun i => vs.1[i]?)) (fun vs => ?_), fun c2 k w h => ?_, fun i x H2 c2 d hd k w h y => ?_⟩
  · have := walk_enum (K := K) (a := c.ren l) (xs := vs.1)
    rw [vs.2] at this
    rw [enumD_len]
    exact this.mono (fun H h => SqL.of h) fun i H x H' _ _ y => y
  · obtain ⟨vs, h1, _, h3⟩ := isAt_rep hl k w h
    exact ⟨⟨vs, h3⟩, h1⟩
  · obtain ⟨⟨vs, hv⟩, h1, T, p, q, rfl, hT, rfl, e1, e2⟩ := y
    obtain ⟨vs', h2, r, _⟩ := isAt_rep hl k w h
    dsimp only at h1 e1 e2
    rw [h2] at h1
    cases h1
    obtain ⟨x, hx, rfl⟩ := enumD_get hd
    obtain ⟨v, hv', rv⟩ := repL_get r hx
    rw [hv'] at e2
    cases e2
    cases e1
    exact lay_pair w hT rfl rv
end
/-- where a list lies, what it holds, what is walked -/
def RdP (G : Gh) (wi : TI) (S : Env → M (Nat × List D × List D)) : Prop := ∀ (c : Cf) (σ : L2.St) (δ : Env) (R : It → Hp → Prop), SOk σ δ c → WOk c → wpM (S δ) c.W (fun p W' => ∀ J c', c'.W = W' → Ext c c' → WOk c' → SrcG (IsAt p.1 p.2.1) c' J p.2.2 → R J c'.H) (QE G c) → wi σ c.H R
def listAt (W : Wd) (l : Nat) : Option (List D) := match W[l]? with
  | some (.lst us) => pureL us
  | _ => none
theorem pureL_inv : ∀ {us : List RV} {ds : List D}, pureL us = some ds → us = ds.map RV.d
  | [], ds, h => by cases h; rfl
  | .d x :: us, ds, h => by
    rw [pureL] at h
    obtain ⟨r, hr, rfl⟩ := Option.map_eq_some_iff.mp h
    rw [pureL_inv hr]; rfl
  | .r _ :: us, ds, h => by cases h
theorem listAt_inv {W : Wd} {l : Nat} {ds : List D} (h : listAt W l = some ds) : IsAt l ds W := by
  unfold listAt at h
  split at h
  · rename_i us e
    rw [IsAt, e, pureL_inv h]
  · cases h
theorem listAt_of {W : Wd} {l : Nat} {ds : List D} (h : IsAt l ds W) : listAt W l = some ds := by
  unfold listAt
  rw [h]
  have : ∀ xs : List D, pureL (xs.map RV.d) = some xs := fun xs => by
    induction xs with
    | nil => rfl
    | cons x xs ih => show (pureL (xs.map RV.d)).map (x :: ·) = _; rw [ih]; rfl
  exact this ds
def evPk (f : List D → List D) (Fe : Env → M RV) (δ : Env) : M (Nat × List D × List D) := (Fe δ).bind fun u => match u with
  | .r l => M.look fun W => (listAt W l).map fun ds => (l, ds, f ds)
  | _ => M.fail
section
variable {ι : Type} {𝒳 : ι → Cx} {G : Gh} {e tg : Expr} {Fe : Env → M RV} {pos : Pos}
def DIP (𝒳 : ι → Cx) (G : Gh) (tg e : Expr) (S : Env → M (Nat × List D × List D)) : Prop := ∃ wi, (∀ i, PI (𝒳 i) tg e wi) ∧ RdP G wi S
theorem dip_list (hK : ∀ i, (𝒳 i).K = G.K) (h : DE 𝒳 G e Fe) : DIP 𝒳 G tg e (evPk id Fe) := by
  obtain ⟨t, p, r⟩ := h
  refine ⟨iList G.K t, fun i => by have h1 := pi_list (tg := tg) (p i); rw [hK i] at h1; exact h1, fun c σ δ R s w h => ?_⟩
  refine r c σ δ _ s w (wpM_mono (wpM_bind.mp h) (fun u W1 h1 x c1 hw e1 w1 r1 => ?_) fun _ _ q => q)
  subst hw
  cases u with
  | d _ => exact h1.elim
  | r l =>
    obtain ⟨rfl, hl⟩ := r1
    obtain ⟨q, hq, h2⟩ := wpM_look h1
    obtain ⟨ds, hd, rfl⟩ := Option.map_eq_some_iff.mp hq
    obtain ⟨vs, h3, _⟩ := isAt_rep hl (Wk.refl c1) w1 (listAt_inv hd)
    exact ⟨c1.ren l, rfl, ⟨vs, SqL.of h3⟩, h2 _ c1 rfl e1 w1 (srcG_list hl)⟩
theorem dip_enum {a : Expr} {p tpos : Pos} {elts : List Expr} {kk : Nat} (hK : ∀ i, (𝒳 i).K = G.K) (hm : ∀ i, (𝒳 i).mg "enumerate" = none) (h : DE 𝒳 G a Fe) (hg : ∀ i, Gl (𝒳 i) "enumerate" := by intro _; rfl) (hs : ∀ i, starEach [a] (𝒳 i).env = [(false, eval a (𝒳 i).env)] := by intro _; rfl) (hs0 : ∀ i, starEach [a] (𝒳 i).env = (false, eval a (𝒳 i).env) :: starEach [] (𝒳 i).env := by intro _; rfl) :
    DIP 𝒳 G (.Tuple elts kk tpos) (.Call (.Name "enumerate" p) [a] [] pos) (evPk enumD Fe) := by
  obtain ⟨t, pt, r⟩ := h
  refine ⟨iEnum G.K (tCons t tNil), fun i => ?_, fun c σ δ R s w h => ?_⟩
  · have h1 := pi_enum (tpos := tpos) (elts := elts) (kk := kk) (p := p) (pos := pos) (hg i) (hm i) (pa_cons (pt i) pa_nil (hs0 i)) (hs i)
    rw [hK i] at h1
    exact h1
  refine r c σ δ _ s w (wpM_mono (wpM_bind.mp h) (fun u W1 h1 x c1 hw e1 w1 r1 => ?_) fun _ _ q => q)
  subst hw
  cases u with
  | d _ => exact h1.elim
  | r l =>
    obtain ⟨rfl, hl⟩ := r1
    obtain ⟨q, hq, h2⟩ := wpM_look h1
    obtain ⟨ds, hd, rfl⟩ := Option.map_eq_some_iff.mp hq
    obtain ⟨vs, h3, _⟩ := isAt_rep hl (Wk.refl c1) w1 (listAt_inv hd)
    exact ⟨c1.ren l, vs, rfl, SqL.of h3, h2 _ c1 rfl e1 w1 (srcG_enum hl)⟩
end
/-- still there -/
noncomputable def stays (l : Nat) (xs : List D) : M Unit := fun W => by
  classical exact if IsAt l xs W then some (.ok (), W) else none
theorem w_stays {l : Nat} {xs : List D} {W : Wd} {Q : Unit → Wd → Prop} {E : DX → Wd → Prop} : wpM (stays l xs) W Q E = (IsAt l xs W ∧ Q () W) := by
  unfold wpM stays
  by_cases h : IsAt l xs W
  · rw [if_pos h]; exact propext ⟨fun q => ⟨h, q⟩, fun q => q.2⟩
  · rw [if_neg h]; exact propext ⟨fun q => q.elim, fun q => h q.1⟩
noncomputable def goLcP (l : Nat) (ys : List D) (mk : Bool) (T : RV → Env → M Env) (C : Env → M Bool) (E : Env → M RV) (δ : Env) : List D → List RV → M RV
  | [], acc => (stays l ys).bind fun _ => newL mk acc
  | d :: ds, acc => (stays l ys).bind fun _ => (T (.d d) δ).bind fun δ1 => (C δ1).bind fun b => if b then (E δ1).bind fun v => (M.guard (acc.length < sizeLine)).bind fun _ => goLcP l ys mk T C E δ ds (acc ++ [v]) else goLcP l ys mk T C E δ ds acc
noncomputable def evLcP (mk : Bool) (own : List Nat) (S : Env → M (Nat × List D × List D)) (T : RV → Env → M Env) (C : Env → M Bool) (E : Env → M RV) (δ : Env) : M RV := (S δ).bind fun p => noEr (goLcP p.1 p.2.1 mk T C E (wipeD δ own) p.2.2 [])
section
variable {ι : Type} {𝒳 : ι → Cx} {G : Gh} {elt tg iter : Expr} {ifs : List Expr} {scope : Scope} {own : List (Str × Nat)} {pos spos : Pos} {S : Env → M (Nat × List D × List D)} {T : RV → Env → M Env} {C : Env → M Bool} {E : Env → M RV} {vs : List Nat}
theorem goLcP_at {l : Nat} {ys : List D} {mk : Bool} {δ : Env} {ds : List D} {acc : List RV} {W : Wd} {Q : RV → Wd → Prop} {Er : DX → Wd → Prop} (h : wpM (goLcP l ys mk T C E δ ds acc) W Q Er) : IsAt l ys W := by
  cases ds with
  | nil => exact ((w_stays (Q := _)).mp (wpM_bind.mp h)).1
  | cons d ds => exact ((w_stays (Q := _)).mp (wpM_bind.mp h)).1
theorem rd_lcP {mk : Bool} {wi : TI} {g : TG} {tt : TT} {te : TE} (own : List Nat) (hi : RdP G wi S) (hg : RdG G.calm g vs T) (ht : RdT G.calm tt C) (he : RdE G.calm te E) (hsub : ∀ k, k ∈ vs → k ∈ own) :
    RdE G (tLc wi g tt te own) (evLcP mk own S T C E) := by
  intro c σ δ Q s w h
  refine hi c σ δ _ s w (wpM_mono (wpM_bind.mp h) (fun p W1 h1 J c1 hw e1 w1 src => ?_) fun _ _ q => q)
  subst hw
  obtain ⟨l, ys, ds⟩ := p
  have h1 := wpM_noEr (E' := fun _ _ => False) h1
  intro D hD
  obtain ⟨Gd, Y, wk, hG, hY⟩ := src
  refine lc_it wk (fun i H => ∃ c2 us acc, H = upd c2.H D (.lst acc) ∧ c2.H D = none ∧ Ext c1 c2 ∧ WOk c2 ∧ RepVs c2 us acc ∧ wpM (goLcP l ys mk T C E (wipeD δ own) (ds.drop i) us) c2.W (QV c2 Q) (fun _ _ => False)) ?_ ?_ ?_ ?_
  · exact ⟨c1, [], [], rfl, hD, Ext.refl c1, w1, .nil, wpM_mono h1 (fun _ _ q => q.mono e1) fun _ _ q => q.elim⟩
  · rintro i H _ ⟨c2, us, acc, rfl, hd, e2, w2, r2, h2⟩
    exact hG (c2.plus D (.lst acc)) (e2.wk.trans (Wk.plus w2 hd)) (w2.plus hd) (goLcP_at h2)
  · rintro i x H H' hi ⟨c2, us, acc, rfl, hd, e2, w2, r2, h2⟩ y
    have hst := goLcP_at h2
    rw [List.drop_eq_getElem_cons hi] at h2
    have h2 := ((w_stays (Q := _)).mp (wpM_bind.mp h2)).2
    have wp : WOk (c2.plus D (.lst acc)) := w2.plus hd
    obtain ⟨c3, rfl, hw3, e3, w3, r3⟩ := hY i x H' (c2.plus D (.lst acc)) _ (List.getElem?_eq_getElem hi) (e2.wk.trans (Wk.plus w2 hd)) wp hst y
    have hw3' : c2.W = c3.W := hw3.symm
    rw [hw3'] at h2
    have s3 : SOk (wipe σ own) (wipeD δ own) c3 := ((((s.mono e1).mono e2).monoW (Wk.plus w2 hd)).mono e3).wipe own
    refine hg c3 x (.d ds[i]) _ _ _ s3 w3 (show RepRV c3 (.d _) x from r3) (wpM_mono (wpM_bind.mp h2) (fun δ4 W4 h4 σ4 c4 hw e4 w4 s4 l4 k4 => ?_) fun _ _ q => q.elim)
    subst hw
    refine ⟨?_, ?_⟩
    · rw [wipe_eq l4 fun k hk => k4 k fun z => hk (hsub k z)]
      exact wipe_eq (wipe_length _ _) fun k hk => wipe_out hk
    refine ht c4 σ4 δ4 _ s4 w4 (wpM_mono (wpM_bind.mp h4) (fun b W5 h5 c5 hw e5 w5 => ?_) fun _ _ q => q.elim)
    subst hw
    have e35 := (e3.trans e4).trans e5
    cases b with
    | false =>
      show (if false = true then _ else _)
      rw [if_neg (by decide)]
      refine ⟨c5.minus D c2.Ao, us, acc, minus_upd' (plus_at w2 hd e35), minus_none, e2.trans (minus_ext w2 hd e35), minus_ok w2 hd e35 w5, RepVs.mono (minus_ext w2 hd e35) r2, wpM_mono h5 (fun _ _ q => QV.mono (minus_ext w2 hd e35) q) fun _ _ q => q.elim⟩
    | true =>
      show (if true = true then _ else _)
      rw [if_pos rfl]
      refine he c5 σ4 δ4 _ (s4.mono e5) w5 (wpM_mono (wpM_bind.mp h5) (fun u W6 h6 y6 c6 hw e6 w6 r6 => ?_) fun _ _ q => q.elim)
      subst hw
      have e36 := e35.trans e6
      obtain ⟨hz, h7⟩ := wpM_guard (wpM_bind.mp h6)
      have hz' : acc.length < sizeLine := by rw [← paired_len r2]; exact hz
      refine ⟨acc, plus_at w2 hd e36, hz', c6.minus D c2.Ao, us ++ [u], acc ++ [y6], minus_upd (plus_at w2 hd e36), minus_none, e2.trans (minus_ext w2 hd e36), minus_ok w2 hd e36 w6, ?_, wpM_mono h7 (fun _ _ q => QV.mono (minus_ext w2 hd e36) q) fun _ _ q => q.elim⟩
      exact paired_app (RepVs.mono (minus_ext w2 hd e36) r2) (.cons (r6.monoW (minus_wk e36 w6)) .nil)
  · rintro H ⟨c2, us, acc, rfl, hd, e2, w2, r2, h2⟩
    rw [List.drop_length] at h2
    exact newL_ok w2 r2 ((w_stays (Q := _)).mp (wpM_bind.mp h2)).2 D hd
theorem de_lcP (mk : Bool) (N : List Str) (sc : Scope) (own : List (Str × Nat)) (ok : BlkOk N sc scope own) (hsub : ∀ k, k ∈ vs → k ∈ own.map (·.2)) (hc : ∀ i, (𝒳 i).calm = true) (hN : ∀ i, (𝒳 i).N.Nodup)
    (hi : DIP 𝒳 G tg iter S) (hg : DG (blkF 𝒳 scope) G.calm tg vs T) (ht : DTs (blkF 𝒳 scope) G.calm ifs C) (he : DE (blkF 𝒳 scope) G.calm elt E)
    (eN : ∀ i, (𝒳 i).N = N := by intro _; rfl) (es : ∀ i, (𝒳 i).env.scope = sc := by intro _; rfl) (hs : ∀ i, ∀ x, foldedSetIterable iter (𝒳 i).env x = pure x := by intro _ _; rfl) : DE 𝒳 G (.ListComp elt [⟨tg, iter, ifs, 0⟩] scope pos) (evLcP mk (own.map (·.2)) S T C E) := by
  obtain ⟨wi, pi, ri⟩ := hi
  obtain ⟨g, pg, rg⟩ := hg
  obtain ⟨tt, pt, rt⟩ := ht
  obtain ⟨te, pe, re⟩ := he
  exact ⟨_, fun i => pe_lc (hc i) (hN i) (pi i) (by rw [eN i, es i]; exact ok) (fun s H C cl fp => pg (i, s, H, C, cl, fp)) (fun s H C cl fp => pt (i, s, H, C, cl, fp)) (fun s H C cl fp => pe (i, s, H, C, cl, fp)) (hs i), rd_lcP _ ri rg rt re hsub⟩
/-- name = [..] -/
theorem ds_setLcP (mk : Bool) (N : List Str) (sc : Scope) (own : List (Str × Nat)) (i : Nat) {y : Str} {py : Pos} (ok : BlkOk N sc scope own) (hsub : ∀ k, k ∈ vs → k ∈ own.map (·.2)) (hc : ∀ i, (𝒳 i).calm = true) (hN : ∀ i, (𝒳 i).N.Nodup)
    (hi : DIP 𝒳 G tg iter S) (hg : DG (blkF 𝒳 scope) G.calm tg vs T) (ht : DTs (blkF 𝒳 scope) G.calm ifs C) (he : DE (blkF 𝒳 scope) G.calm elt E)
    (hy : N[i]? = some y) (hyl : sc.names.lookup y = some .local) (hsw : ∀ i, swapsWith (.ListComp elt [⟨tg, iter, ifs, 0⟩] scope pos) (some (.Name y py)) spos.line (𝒳 i).env = pure true)
    (eN : ∀ i, (𝒳 i).N = N := by intro _; rfl) (es : ∀ i, (𝒳 i).env.scope = sc := by intro _; rfl) (hs : ∀ i, ∀ x, foldedSetIterable iter (𝒳 i).env x = pure x := by intro _ _; rfl) :
    DS 𝒳 G (.Assign [.Name y py] (.ListComp elt [⟨tg, iter, ifs, 0⟩] scope pos) spos) (evAsg (evLcP mk (own.map (·.2)) S T C E) (gtName i)) := by
  obtain ⟨wi, pi, ri⟩ := hi
  obtain ⟨g, pg, rg⟩ := hg
  obtain ⟨tt, pt, rt⟩ := ht
  obtain ⟨te, pe, re⟩ := he
  refine ⟨_, fun k => ps_setLc (hc k) (hN k) (by rw [eN k]; exact hy) (by rw [es k]; exact hyl) (hsw k) (pi k) (by rw [eN k, es k]; exact ok) (fun s H C cl fp => pg (k, s, H, C, cl, fp)) (fun s H C cl fp => pt (k, s, H, C, cl, fp)) (fun s H C cl fp => pe (k, s, H, C, cl, fp)) (hs k), ?_⟩
  refine RdE.asg (vs := [i]) (rd_lcP _ ri rg rt re hsub) ?_
  intro c v u σ δ Q s w r h
  refine h (σ.set i (some v)) c rfl (Ext.refl c) w (s.set i r) (by rw [List.length_set]) fun k hk => ?_
  rw [List.getElem?_set_ne (fun z => hk (by rw [z]; exact List.mem_singleton_self k))]
end
section
variable {W : Wd} {E : DX → Wd → Prop} {δ : Env} {Q : RV → Wd → Prop} {QN : Nat × List D × List D → Wd → Prop} {S : Env → M (Nat × List D × List D)} {T : RV → Env → M Env} {C : Env → M Bool} {F : Env → M RV} {f : List D → List D}
noncomputable def lcFP (mk : Bool) (T : RV → Env → M Env) (C : Env → M Bool) (Ee : Env → M RV) (δ : Env) (p : Nat × List D × List D) : M RV := noEr (goLcP p.1 p.2.1 mk T C Ee δ p.2.2 [])
@[simp] theorem w_lcP {mk : Bool} {own : List Nat} : wpM (evLcP mk own S T C F δ) W Q E = wpM (S δ) W (kB (lcFP mk T C F (wipeD δ own)) Q E) E := propext wpM_bind
def pkA (f : List D → List D) (u : RV) : M (Nat × List D × List D) := match u with
  | .r l => M.look fun W => (listAt W l).map fun ds => (l, ds, f ds)
  | _ => M.fail
@[simp] theorem w_evPk : wpM (evPk f F δ) W QN E = wpM (F δ) W (kB (pkA f) QN E) E := propext wpM_bind
theorem w_pkA {l : Nat} {ds : List D} (h : IsAt l ds W) : wpM (pkA f (.r l)) W QN E = QN (l, ds, f ds) W := by
  unfold pkA
  rw [w_look, listAt_of h]
  rfl
end
end DL
set_option Elab.async false
set_option linter.all false
set_option maxRecDepth 100000
/-! printed by gen.py: readings of the defs that all laws share -/
namespace SH
open PySem PySem.Spec PyProof.Rows L2 RZ DL
noncomputable section
def p__law_below_t1 (δ : DL.Env) : M Bool :=
  (evAndT (evB (ev2 (opEq false) (ev2 opIx (evVar 0) (cI 1)) (cI 0))) (evB (ev2 (opEq true) (ev2 opIx (evVar 0) (cI 0)) (evLst false evNil)))) δ
def p__law_below_b2 (δ : DL.Env) : M (Fl × DL.Env) :=
  (evSeq (evAsg (evMth mPop (ev2 opIx (evVar 0) (cI 0)) (evCons (cI 0) evNil)) (gtName 2))
    (evSeq (evAsg (ev2 opMod (evCall bInt (evCons (ev2 (opAdd false) (ev2 (opAdd false) (ev2 (opMul false) (ev2 opIx (evVar 0) (cI 3)) (cI 69031)) (evVar 2)) (cI 13)) evNil)) (cI 2147483647)) (gtSub (evVar 0) (cI 3)))
    (evAsg (evIf (evB (ev2 opGe (evVar 2) (ev2 opPow (cI 10) (cI 18)))) (evVar 2) (cI 0)) (gtSub (evVar 0) (cI 1))))) δ
def m__law_below (δ : DL.Env) : M (Fl × DL.Env) :=
  (evSeq (evAsg (ev2 (opAdd false) (ev2 opIx (evVar 0) (cI 2)) (cI 1)) (gtSub (evVar 0) (cI 2)))
    (evSeq (evWhile p__law_below_t1 p__law_below_b2 100)
    (evSeq (evIfS (evB (ev2 opGt (ev2 opIx (evVar 0) (cI 1)) (cI 0))) (evSeq (evAsg (ev2 opMod (evCall bInt (evCons (ev2 opIx (evVar 0) (cI 1)) evNil)) (evVar 1)) (gtName 3))
    (evSeq (evAsg (ev2 opDiv (ev2 opIx (evVar 0) (cI 1)) (evVar 1)) (gtSub (evVar 0) (cI 1)))
    (evRet (evVar 3)))) evNext)
    (evSeq (evAsg (ev2 opMod (evCall bInt (evCons (ev2 opPow (ev2 (opAdd false) (ev2 (opAdd false) (ev2 opIx (evVar 0) (cI 3)) (ev2 (opMul false) (cI 9049) (ev2 opIx (evVar 0) (cI 2)))) (cI 130073)) (cI 5)) evNil)) (cI 2147483629)) (gtName 4))
    (evRet (ev2 opMod (ev2 opMod (evCall bInt (evCons (ev2 opPow (ev2 (opAdd false) (ev2 (opAdd false) (ev2 (opMul false) (evVar 4) (cI 44089)) (ev2 (opMul false) (cI 60077) (ev2 opIx (evVar 0) (cI 2)))) (cI 47)) (cI 3)) evNil)) (cI 1000000007)) (evVar 1))))))) δ
@[irreducible] def f__law_below : List RV → M RV := fnD 5 m__law_below
def m__law_pick (δ : DL.Env) : M (Fl × DL.Env) :=
  (evRet (ev2 opIx (evVar 1) (evCallF 2 f__law_below (evCons (evVar 0) (evCons (evCall bLen (evCons (evVar 1) evNil)) evNil))))) δ
@[irreducible] def f__law_pick : List RV → M RV := fnD 2 m__law_pick
def p__law_same_e1 (rec : List RV → M RV) (δ : DL.Env) : M RV :=
  (evCallF 2 rec (evCons (evVar 2) (evCons (evVar 3) evNil))) δ
def m__law_same (rec : List RV → M RV) (δ : DL.Env) : M (Fl × DL.Env) :=
  (evSeq (evIfS (evB (evCall bIsi (evCons (evVar 1) (evCons (evTup (evCons (cT .lst) (evCons (cT .tup) evNil))) evNil)))) (evSeq (evIfS (evOrT (evB (ev2 (opEq true) (evCall bIsi (evCons (evVar 0) (evCons (cT .lst) evNil))) (evCall bIsi (evCons (evVar 1) (evCons (cT .lst) evNil))))) (evB (ev2 (opEq true) (evCall bIsi (evCons (evVar 0) (evCons (cT .tup) evNil))) (evCall bIsi (evCons (evVar 1) (evCons (cT .tup) evNil)))))) (evRet (cB false)) evNext)
    (evRet (evAnd (ev2 (opEq false) (evCall bLen (evCons (evVar 0) evNil)) (evCall bLen (evCons (evVar 1) evNil))) (evCall bAll (evCons (evLc false [2, 3] (evZip (evCons (evVar 0) (evCons (evVar 1) evNil))) (gtUnp 2 (gtCons (gtName 2) (gtCons (gtName 3) gtNil))) evYes (p__law_same_e1 rec)) evNil))))) evNext)
    (evSeq (evIfS (evB (evCall bIsi (evCons (evVar 1) (evCons (cT .dct) evNil)))) (evRet (evAnd (evCall bIsi (evCons (evVar 0) (evCons (cT .dct) evNil))) (evCallF 2 rec (evCons (evCall (bList false) (evCons evNever evNil)) (evCons (evCall (bList false) (evCons evNever evNil)) evNil))))) evNext)
    (evSeq (evIfS (evB (evCall bIsi (evCons (evVar 1) (evCons (cT .int) evNil)))) (evRet (evAnd (evCall bIsi (evCons (evVar 0) (evCons (cT .int) evNil))) (evAnd (ev2 (opEq false) (evCall bIsi (evCons (evVar 0) (evCons (cT .bl) evNil))) (evCall bIsi (evCons (evVar 1) (evCons (cT .bl) evNil)))) (ev2 (opEq false) (evVar 0) (evVar 1))))) evNext)
    (evSeq (evIfS (evB (ev2 (opIs false) (evVar 1) cN)) (evRet (ev2 (opIs false) (evVar 0) cN)) evNext)
    (evSeq (evIfS (evB (evCall bIsi (evCons (evVar 1) (evCons (cT .str) evNil)))) (evRet (evAnd (evCall bIsi (evCons (evVar 0) (evCons (cT .str) evNil))) (ev2 (opEq false) (evVar 0) (evVar 1)))) evNext)
    (evRet (evAnd (evNot (evCall bIsi (evCons (evVar 0) (evCons (evTup (evCons (cT .int) (evCons (cT .str) (evCons (cT .lst) (evCons (cT .tup) (evCons (cT .dct) evNil)))))) evNil)))) (ev2 (opEq false) (evVar 0) (evVar 1))))))))) δ
@[irreducible] def f__law_same (n : Nat) : List RV → M RV := Nat.rec (fun _ => M.fail) (fun _ r => fnD 4 (m__law_same r)) n
theorem f__law_same_0 : f__law_same 0 = fun _ => M.fail := by unfold f__law_same; rfl
theorem f__law_same_s (n : Nat) : f__law_same (n + 1) = fnD 4 (m__law_same (f__law_same n)) := by unfold f__law_same; rfl
end
end SH

set_option Elab.async false
set_option linter.all false
set_option maxRecDepth 100000
set_option maxHeartbeats 4000000
set_option exponentiation.threshold 2000
/-! SM: what the shared defs of the laws do: the stream. -/
namespace SH
open PySem PySem.Spec PyProof.Rows L2 RZ DL
theorem log2_lt {n k : Nat} (h : n < 2 ^ k) (hk : 0 < k) : n.log2 < k := by
  by_cases e : n = 0
  · subst e; simpa using hk
  · exact (Nat.log2_lt e).mpr h
theorem cmulw {i j : Int} (h1 : i.natAbs < 2 ^ 1000) (h2 : j.natAbs < 2 ^ 1000) : CMulW i j := by
  have a := log2_lt h1 (by decide)
  have b := log2_lt h2 (by decide)
  unfold CMulW; omega
theorem cdivw {i j : Int} (h1 : 0 < j) (h2 : j.natAbs < 2 ^ 1000) : CDivG i j := ⟨by omega, by have := log2_lt h2 (by decide); omega⟩
theorem abs_lt {i : Int} {k : Nat} (h0 : 0 ≤ i) (h : i < 2 ^ k) : i.natAbs < 2 ^ k := by
  have : ((i.natAbs : Nat) : Int) = i := Int.natAbs_of_nonneg h0
  have h2 : ((i.natAbs : Nat) : Int) < ((2 ^ k : Nat) : Int) := by rw [this]; push_cast; exact h
  exact_mod_cast h2
/-- the stream -/
structure Strm where
  ns : List Int
  r : Int
  k : Int
  m : Int
def Strm.W (s : Strm) (J : Wd) : Wd := .lst (intL s.ns) :: .lst [.r 0, .d (.int s.r), .d (.int s.k), .d (.int s.m)] :: J
structure Strm.ok (s : Strm) (N : Nat) : Prop where
  len : s.ns.length ≤ 63
  r0 : 0 ≤ s.r
  k0 : 0 ≤ s.k
  kN : s.k ≤ N
  m0 : 0 ≤ s.m
  m1 : s.m < 2147483647
theorem Strm.ok.mono {s : Strm} {N M : Nat} (h : s.ok N) (l : N ≤ M) : s.ok M := ⟨h.len, h.r0, h.k0, by have := h.kN; omega, h.m0, h.m1⟩
@[simp] theorem Strm.len {s : Strm} {J : Wd} : (s.W J).length = J.length + 2 := by unfold Strm.W; simp
@[simp] theorem gc_strm {s s' : Strm} {J X : Wd} : gcW (s.W J) (s'.W (J ++ X)) = s'.W J := by
  refine gcW_of (X := X) rfl (by simp) fun l o hl h => ?_
  have h0 : 1 < (s.W J).length := by simp
  match l, h with
  | 0, h =>
    right
    unfold Strm.W at h
    simp at h
    subst h
    show (intL s'.ns).all _ = true
    unfold intL
    rw [List.all_map, List.all_eq_true]
    intro x _
    rfl
  | 1, h =>
    right
    unfold Strm.W at h
    simp at h
    subst h
    simp [MO.below, RV.below]
  | l + 2, h =>
    left
    unfold Strm.W at h ⊢
    simpa using h
@[simp] theorem gc_strm0 {s s' : Strm} {J : Wd} : gcW (s.W J) (s'.W J) = s'.W J := by have := gc_strm (s := s) (s' := s') (J := J) (X := []); rwa [List.append_nil] at this
@[simp] theorem intL_nil : intL [] = [] := (rfl)
@[simp] theorem intL_cons {c : Int} {ns : List Int} : intL (c :: ns) = .d (.int c) :: intL ns := (rfl)
@[simp] theorem popK_0 {l : Nat} {y : RV} {xs : List RV} {Q : RV → Wd → Prop} {W : Wd} : popK 0 (some (l, y :: xs)) Q W = Q y (W.set l (.lst xs)) := popK_at (k := 0) (by decide) rfl rfl (by decide)
theorem pureL_intL : ∀ ns : List Int, pureL (intL ns) = some (ns.map D.int)
  | [] => rfl
  | c :: ns => by
    show (pureL (intL ns)).map (D.int c :: ·) = _
    rw [pureL_intL]; rfl
theorem toPyL_ints : ∀ ns : List Int, toPy.toPyL (ns.map D.int) = some (ns.map PyData.int)
  | [] => rfl
  | c :: ns => by
    show (match toPy (D.int c), toPy.toPyL (ns.map D.int) with | some a, some b => some (a :: b) | _, _ => none) = _
    rw [toPyL_ints]; rfl
theorem eqD_nil {W : Wd} {l : Nat} {E : DX → Wd → Prop} {Q : RV → Wd → Prop} {ns : List Int} (h : W[l]? = some (.lst (intL ns))) : wpM (opEq true (.r l) (.d (.lst []))) W Q E = Q (.d (.bl (!ns.isEmpty))) W := by
  show wpM ((M.look _).bind _) W Q E = _
  rw [w_bind, w_look]
  have e : eqvD W (.r l) (.d (.lst [])) = some (ns.isEmpty) := by
    unfold eqvD
    have h1 : peek W (.r l) = some (.lst (ns.map D.int)) := by
      unfold peek
      simp only [h]
      rw [pureL_intL]; rfl
    have h2 : toPy (.lst (ns.map D.int)) = some (.list (ns.map PyData.int)) := by
      show (toPy.toPyL _).map _ = _
      rw [toPyL_ints]; rfl
    rw [h1]
    show ((toPy _).bind _) = _
    rw [h2]
    cases ns with
    | nil => rfl
    | cons c r =>
      show (if SeqAt.shaped (.list ((c :: r).map PyData.int)) = true ∧ _ then some (PyData.eqv (.list ((c :: r).map PyData.int)) (.list [])) else none) = _
      rw [if_pos ⟨PySem.W.ke_shaped_ints (c :: r), rfl⟩]
      rfl
  rw [e]
  show Q (.d (.bl (ns.isEmpty != true))) W = _
  cases ns <;> rfl
theorem while_below {many : RV} {J : Wd} : ∀ (n : Nat) (s : Strm) (x : Option RV) (N : Nat), s.ok N → s.ns.length < n →
    wpM (evWhile p__law_below_t1 p__law_below_b2 n [some (.r 1), some many, x, none, none]) (s.W J)
      (fun p W' => ∃ (x' : Option RV) (s' : Strm), p = (.nx, [some (.r 1), some many, x', none, none]) ∧ W' = s'.W J ∧ s'.ok N) (fun _ _ => False)
  | 0, _, _, _, _, h => absurd h (Nat.not_lt_zero _)
  | n + 1, s, x, N, ok, hn => by
    have ih := fun s x => while_below (many := many) (J := J) n s x N
    generalize hQ : (fun (p : Fl × DL.Env) (W' : Wd) => ∃ (x' : Option RV) (s' : Strm), p = (.nx, [some (.r 1), some many, x', none, none]) ∧ W' = s'.W J ∧ s'.ok N) = Q0 at ih ⊢
    rw [w_while]
    obtain ⟨ns, r, k, m⟩ := s
    unfold Strm.W
    have hx := ok.m0
    have hy := ok.m1
    dsimp only at hx hy
    simp [p__law_below_t1]
    by_cases hr : r = 0
    · subst hr
      simp
      rw [eqD_nil (ns := ns) rfl]
      cases ns with
      | nil =>
        simp
        rw [← hQ]
        exact ⟨x, ⟨[], 0, k, m⟩, rfl, rfl, ok⟩
      | cons c ns =>
        have hl := ok.len
        dsimp only at hl hn
        rw [List.length_cons] at hl hn
        simp [p__law_below_b2]
        refine ⟨cmulw (abs_lt hx (by omega)) (by decide), ⟨by decide, by decide, by decide⟩, ?_⟩
        by_cases hc : 1000000000000000000 ≤ c
        · simp [hc]
          exact ih ⟨ns, c, k, (m * 69031 + c + 13) % 2147483647⟩ _ ⟨by dsimp only; omega, by dsimp only; omega, ok.k0, ok.kN, by dsimp only; omega, by dsimp only; omega⟩ (by dsimp only; omega)
        · simp [hc]
          exact ih ⟨ns, 0, k, (m * 69031 + c + 13) % 2147483647⟩ _ ⟨by dsimp only; omega, by dsimp only; omega, ok.k0, ok.kN, by dsimp only; omega, by dsimp only; omega⟩ (by dsimp only; omega)
    · simp [hr]
      rw [← hQ]
      exact ⟨x, ⟨ns, r, k, m⟩, rfl, rfl, ok⟩
/-- _law_below -/
theorem below {E : DX → Wd → Prop} {J : Wd} {s : Strm} {N : Nat} {n : Int} (ok : s.ok N) (hN : N < 2 ^ 40) (h0 : 0 < n) (h1 : n < 2 ^ 200) (Q : RV → Wd → Prop)
    (h : ∀ (i : Int) (s' : Strm), 0 ≤ i → i < n → s'.ok (N + 1) → Q (.d (.int i)) (s'.W J)) : wpM (f__law_below [.r 1, .d (.int n)]) (s.W J) Q E := by
  unfold f__law_below
  rw [w_fnD]
  obtain ⟨ns, r, k, m⟩ := s
  unfold Strm.W
  have l := ok.len
  have a1 := ok.r0
  have a2 := ok.k0
  have a3 := ok.kN
  have a4 := ok.m0
  have a5 := ok.m1
  dsimp only at l a1 a2 a3 a4 a5
  simp [m__law_below, startD]
  have wh := while_below (many := .d (.int n)) (J := J) 100 ⟨ns, r, k + 1, m⟩ none (N + 1) ⟨l, a1, by dsimp only; omega, by dsimp only; push_cast; omega, a4, a5⟩ (by dsimp only; omega)
  refine wpM_mono wh (fun p W' hp => ?_) fun _ _ z => z.elim
  obtain ⟨x', ⟨ns', r', k', m'⟩, rfl, rfl, ok'⟩ := hp
  have b0 := ok'.len
  have b1 := ok'.r0
  have b2 := ok'.k0
  have b3 := ok'.kN
  have b4 := ok'.m0
  have b5 := ok'.m1
  dsimp only at b0 b1 b2 b3 b4 b5
  push_cast at b3
  have hn : CDivG r' n := cdivw h0 (abs_lt (Int.le_of_lt h0) (by omega))
  have q1 : 0 ≤ r' / n := Int.ediv_nonneg b1 (Int.le_of_lt h0)
  unfold Strm.W
  by_cases hr : 0 < r'
  · simp [hr]
    refine ⟨h0, hn, ?_⟩
    rw [Int.fdiv_eq_ediv_of_nonneg _ (Int.le_of_lt h0)]
    rw [gcW_len (W := (_ :: _ :: J)) (W' := (_ :: _ :: J)) (by simp)]
    exact h _ ⟨ns', r' / n, k', m'⟩ (Int.emod_nonneg _ (by omega)) (Int.emod_lt_of_pos _ h0) ⟨b0, q1, b2, by dsimp only; push_cast; omega, b4, b5⟩
  · simp [hr]
    have c1 : CMulW 9049 k' := cmulw (by decide) (abs_lt b2 (by omega))
    have c2 : CPow (m' + 9049 * k' + 130073) 5 := ⟨by decide, by decide, by omega⟩
    have c3 : 0 ≤ (m' + 9049 * k' + 130073) ^ 5 % 2147483629 := Int.emod_nonneg _ (by decide)
    have c4 : (m' + 9049 * k' + 130073) ^ 5 % 2147483629 < 2147483629 := Int.emod_lt_of_pos _ (by decide)
    refine ⟨c1, c2, ?_⟩
    generalize (m' + 9049 * k' + 130073) ^ 5 % 2147483629 = t at c3 c4 ⊢
    refine ⟨cmulw (abs_lt c3 (by omega)) (by decide), cmulw (by decide) (abs_lt b2 (by omega)), ⟨by decide, by decide, by omega⟩, h0, ?_⟩
    rw [gcW_len (W := (_ :: _ :: J)) (W' := (_ :: _ :: J)) (by simp)]
    exact h _ ⟨ns', r', k', m'⟩ (Int.emod_nonneg _ (by omega)) (Int.emod_lt_of_pos _ h0) ⟨b0, b1, b2, by dsimp only; push_cast; omega, b4, b5⟩
/-- _law_pick of a pure list -/
theorem pick {E : DX → Wd → Prop} {J : Wd} {s : Strm} {N : Nat} {xs : List D} (ok : s.ok N) (hN : N < 2 ^ 40) (h0 : 0 < xs.length) (h1 : xs.length ≤ sizeLine) (Q : RV → Wd → Prop)
    (h : ∀ (x : D) (s' : Strm), x ∈ xs → s'.ok (N + 1) → Q (.d x) (s'.W J)) : wpM (f__law_pick [.r 1, .d (.lst xs)]) (s.W J) Q E := by
  unfold f__law_pick
  rw [w_fnD]
  simp [m__law_pick, startD]
  have h2 : (xs.length : Int) < 2 ^ 200 := by
    have : sizeLine < 2 ^ 200 := by decide
    have h3 : xs.length < 2 ^ 200 := by omega
    exact_mod_cast h3
  refine below ok hN (by omega) h2 _ fun i s' hi0 hi1 ok' => ?_
  simp
  have lt : i.toNat < xs.length := by omega
  have e : atI (xs.map RV.d) i = some (.d xs[i.toNat]) := by
    unfold atI ixN
    rw [List.length_map, if_pos hi0, if_pos hi1]
    simp [lt]
  rw [e]
  simp
  exact h _ s' (List.getElem_mem lt) ok'
/-! isinstance -/
@[simp] theorem sub_non_non : Ty.sub .non .non = true := (rfl)
@[simp] theorem sub_non_bl : Ty.sub .non .bl = false := (rfl)
@[simp] theorem sub_non_int : Ty.sub .non .int = false := (rfl)
@[simp] theorem sub_non_str : Ty.sub .non .str = false := (rfl)
@[simp] theorem sub_non_lst : Ty.sub .non .lst = false := (rfl)
@[simp] theorem sub_non_tup : Ty.sub .non .tup = false := (rfl)
@[simp] theorem sub_non_dct : Ty.sub .non .dct = false := (rfl)
@[simp] theorem sub_bl_non : Ty.sub .bl .non = false := (rfl)
@[simp] theorem sub_bl_bl : Ty.sub .bl .bl = true := (rfl)
@[simp] theorem sub_bl_int : Ty.sub .bl .int = true := (rfl)
@[simp] theorem sub_bl_str : Ty.sub .bl .str = false := (rfl)
@[simp] theorem sub_bl_lst : Ty.sub .bl .lst = false := (rfl)
@[simp] theorem sub_bl_tup : Ty.sub .bl .tup = false := (rfl)
@[simp] theorem sub_bl_dct : Ty.sub .bl .dct = false := (rfl)
@[simp] theorem sub_int_non : Ty.sub .int .non = false := (rfl)
@[simp] theorem sub_int_bl : Ty.sub .int .bl = false := (rfl)
@[simp] theorem sub_int_int : Ty.sub .int .int = true := (rfl)
@[simp] theorem sub_int_str : Ty.sub .int .str = false := (rfl)
@[simp] theorem sub_int_lst : Ty.sub .int .lst = false := (rfl)
@[simp] theorem sub_int_tup : Ty.sub .int .tup = false := (rfl)
@[simp] theorem sub_int_dct : Ty.sub .int .dct = false := (rfl)
@[simp] theorem sub_str_non : Ty.sub .str .non = false := (rfl)
@[simp] theorem sub_str_bl : Ty.sub .str .bl = false := (rfl)
@[simp] theorem sub_str_int : Ty.sub .str .int = false := (rfl)
@[simp] theorem sub_str_str : Ty.sub .str .str = true := (rfl)
@[simp] theorem sub_str_lst : Ty.sub .str .lst = false := (rfl)
@[simp] theorem sub_str_tup : Ty.sub .str .tup = false := (rfl)
@[simp] theorem sub_str_dct : Ty.sub .str .dct = false := (rfl)
@[simp] theorem sub_lst_non : Ty.sub .lst .non = false := (rfl)
@[simp] theorem sub_lst_bl : Ty.sub .lst .bl = false := (rfl)
@[simp] theorem sub_lst_int : Ty.sub .lst .int = false := (rfl)
@[simp] theorem sub_lst_str : Ty.sub .lst .str = false := (rfl)
@[simp] theorem sub_lst_lst : Ty.sub .lst .lst = true := (rfl)
@[simp] theorem sub_lst_tup : Ty.sub .lst .tup = false := (rfl)
@[simp] theorem sub_lst_dct : Ty.sub .lst .dct = false := (rfl)
@[simp] theorem sub_tup_non : Ty.sub .tup .non = false := (rfl)
@[simp] theorem sub_tup_bl : Ty.sub .tup .bl = false := (rfl)
@[simp] theorem sub_tup_int : Ty.sub .tup .int = false := (rfl)
@[simp] theorem sub_tup_str : Ty.sub .tup .str = false := (rfl)
@[simp] theorem sub_tup_lst : Ty.sub .tup .lst = false := (rfl)
@[simp] theorem sub_tup_tup : Ty.sub .tup .tup = true := (rfl)
@[simp] theorem sub_tup_dct : Ty.sub .tup .dct = false := (rfl)
@[simp] theorem sub_dct_non : Ty.sub .dct .non = false := (rfl)
@[simp] theorem sub_dct_bl : Ty.sub .dct .bl = false := (rfl)
@[simp] theorem sub_dct_int : Ty.sub .dct .int = false := (rfl)
@[simp] theorem sub_dct_str : Ty.sub .dct .str = false := (rfl)
@[simp] theorem sub_dct_lst : Ty.sub .dct .lst = false := (rfl)
@[simp] theorem sub_dct_tup : Ty.sub .dct .tup = false := (rfl)
@[simp] theorem sub_dct_dct : Ty.sub .dct .dct = true := (rfl)
section
variable {W : Wd}
@[simp] theorem tyOf_non : tyOf W (.d .non) = some .non := (rfl)
@[simp] theorem tyOf_bl {b : Bool} : tyOf W (.d (.bl b)) = some .bl := (rfl)
@[simp] theorem tyOf_int {i : Int} : tyOf W (.d (.int i)) = some .int := (rfl)
@[simp] theorem tyOf_str {z : PySem.Str} : tyOf W (.d (.str z)) = some .str := (rfl)
@[simp] theorem tyOf_lst {xs : List D} : tyOf W (.d (.lst xs)) = some .lst := (rfl)
@[simp] theorem tyOf_tup {xs : List D} : tyOf W (.d (.tup xs)) = some .tup := (rfl)
@[simp] theorem tyOf_dK {xs : List (Key × D)} : tyOf W (.d (.dK xs)) = some .dct := (rfl)
@[simp] theorem tysOf_ty {t : Ty} : tysOf (.ty t) = if t = .non then none else some [t] := (rfl)
@[simp] theorem tysOf_tup {xs : List D} : tysOf (.tup xs) = tysOf.go xs := (rfl)
@[simp] theorem tysGo_nil : tysOf.go [] = some [] := (rfl)
@[simp] theorem tysGo_cons {t : Ty} {r : List D} : tysOf.go (.ty t :: r) = if t = .non then none else (tysOf.go r).map (t :: ·) := (rfl)
def allF (ns : List Bool) : M RV := M.ret (.d (.bl (ns.all id)))
def allK (o : Option (Bool × List RV)) : Option (List Bool) := o.bind fun p => if p.1 then none else blsL p.2
@[simp] theorem w_bAll {u : RV} {Q : RV → Wd → Prop} {E : DX → Wd → Prop} : wpM (bAll [u]) W Q E = lookK (allK (seqOf W u)) (kB allF Q E) W := by
  show wpM ((M.look _).bind _) W Q E = _
  rw [w_bind, w_look]; rfl
@[simp] theorem allK_some {xs : List RV} : allK (some (false, xs)) = blsL xs := (rfl)
@[simp] theorem allF_ap {ns : List Bool} : allF ns = M.ret (.d (.bl (ns.all id))) := (rfl)
theorem blsL_map {α : Type} (f : α → Bool) : ∀ xs : List α, blsL (xs.map fun x => .d (.bl (f x))) = some (xs.map f)
  | [] => rfl
  | x :: xs => by
    show (blsL (xs.map fun x => .d (.bl (f x)))).map (f x :: ·) = _
    rw [blsL_map f xs]; rfl
end
@[simp] theorem opIs_nn {n : Bool} : opIs n (.d .non) (.d .non) = M.ret (.d (.bl (!n))) := (rfl)
@[simp] theorem opIs_in {n : Bool} {i : Int} : opIs n (.d (.int i)) (.d .non) = M.ret (.d (.bl n)) := (rfl)
@[simp] theorem opIs_bn {n b : Bool} : opIs n (.d (.bl b)) (.d .non) = M.ret (.d (.bl n)) := (rfl)
@[simp] theorem opIs_sn {n : Bool} {z : PySem.Str} : opIs n (.d (.str z)) (.d .non) = M.ret (.d (.bl n)) := (rfl)
@[simp] theorem opIs_ln {n : Bool} {xs : List D} : opIs n (.d (.lst xs)) (.d .non) = M.ret (.d (.bl n)) := (rfl)
@[simp] theorem opIs_tn {n : Bool} {xs : List D} : opIs n (.d (.tup xs)) (.d .non) = M.ret (.d (.bl n)) := (rfl)
@[simp] theorem opIs_dn {n : Bool} {xs : List (Key × D)} : opIs n (.d (.dK xs)) (.d .non) = M.ret (.d (.bl n)) := (rfl)
@[simp] theorem opIs_rn {n : Bool} {l : Nat} : opIs n (.r l) (.d .non) = M.ret (.d (.bl n)) := (rfl)
/-! _law_same of a thing and itself -/
def sok : Nat → D → Bool
  | 0, _ => false
  | n + 1, .lst xs => decide (xs.length < sizeLine) && xs.all (sok n)
  | n + 1, .tup xs => decide (xs.length < sizeLine) && xs.all (sok n)
  | _ + 1, .int _ => true
  | _ + 1, .bl _ => true
  | _ + 1, .str _ => true
  | _ + 1, .non => true
  | _ + 1, _ => false
theorem zipD_same (xs : List D) : zipD xs xs = xs.map fun x => .tup [x, x] := by
  unfold zipD
  induction xs with
  | nil => rfl
  | cons x r ih => simp at ih ⊢; exact ih
theorem same_refl : ∀ (n : Nat) (x : D), sok n x = true → ∀ (W : Wd) (Q : RV → Wd → Prop) (E : DX → Wd → Prop), Q (.d (.bl true)) W → wpM (f__law_same n [.d x, .d x]) W Q E
  | 0, _, h, _, _, _, _ => by simp [sok] at h
  | n + 1, x, h, W, Q, E, hq => by
    rw [f__law_same_s, w_fnD]
    have ih := same_refl n
    have lc : ∀ (xs : List D) (E : DX → Wd → Prop) (Q : RV → Wd → Prop), xs.length < sizeLine → (∀ x, x ∈ xs → sok n x = true) → Q (.d (.lst ((zipD xs xs).map fun _ => .bl true))) W →
        wpM (lcF false (gtUnp 2 (gtCons (gtName 2) (gtCons (gtName 3) gtNil))) evYes (p__law_same_e1 (f__law_same n)) [some (RV.d (D.lst xs)), some (RV.d (D.lst xs)), none, none] (zipD xs xs)) W Q E := fun xs E Q h1 h2 hq => by
      refine w_noEr (goLc_fm (c := fun _ => true) (f := fun _ => .bl true) (by rw [zipD_same, List.length_map]; exact h1) (fun d hd => ?_) ?_)
      · rw [zipD_same, List.mem_map] at hd
        obtain ⟨x, hx, rfl⟩ := hd
        simp [p__law_same_e1]
        exact ih x (h2 x hx) _ _ _ ⟨rfl, rfl⟩
      · rw [List.filter_eq_self.mpr fun _ _ => rfl]; exact hq
    have lt : ∀ (xs : List D) (E : DX → Wd → Prop) (Q : RV → Wd → Prop), xs.length < sizeLine → (∀ x, x ∈ xs → sok n x = true) → Q (.d (.lst ((zipD xs xs).map fun _ => .bl true))) W →
        wpM (lcF false (gtUnp 2 (gtCons (gtName 2) (gtCons (gtName 3) gtNil))) evYes (p__law_same_e1 (f__law_same n)) [some (RV.d (D.tup xs)), some (RV.d (D.tup xs)), none, none] (zipD xs xs)) W Q E := fun xs E Q h1 h2 hq => by
      refine w_noEr (goLc_fm (c := fun _ => true) (f := fun _ => .bl true) (by rw [zipD_same, List.length_map]; exact h1) (fun d hd => ?_) ?_)
      · rw [zipD_same, List.mem_map] at hd
        obtain ⟨x, hx, rfl⟩ := hd
        simp [p__law_same_e1]
        exact ih x (h2 x hx) _ _ _ ⟨rfl, rfl⟩
      · rw [List.filter_eq_self.mpr fun _ _ => rfl]; exact hq
    have al : ∀ xs : List D, blsL (List.map RV.d ((zipD xs xs).map fun _ => D.bl true)) = some ((zipD xs xs).map fun _ => true) := fun xs => by
      rw [List.map_map]
      exact blsL_map (fun _ => true) _
    cases x with
    | lst xs =>
      simp [sok] at h
      simp [m__law_same, startD, wipeD]
      refine ⟨by decide, lc xs _ _ h.1 h.2 ?_⟩
      simp
      rw [show (List.map (RV.d ∘ fun x => D.bl true) (zipD xs xs)) = List.map RV.d ((zipD xs xs).map fun _ => D.bl true) from by rw [List.map_map], al]
      simp
      rw [List.all_eq_true.mpr fun _ _ => rfl]
      exact hq
    | tup xs =>
      simp [sok] at h
      simp [m__law_same, startD, wipeD]
      refine ⟨by decide, lt xs _ _ h.1 h.2 ?_⟩
      simp
      rw [show (List.map (RV.d ∘ fun x => D.bl true) (zipD xs xs)) = List.map RV.d ((zipD xs xs).map fun _ => D.bl true) from by rw [List.map_map], al]
      simp
      rw [List.all_eq_true.mpr fun _ _ => rfl]
      exact hq
    | int i => simp [m__law_same, startD]; exact ⟨by decide, hq⟩
    | bl b => simp [m__law_same, startD]; exact ⟨by decide, hq⟩
    | str z => simp [m__law_same, startD]; exact ⟨by decide, hq⟩
    | non => simp [m__law_same, startD]; exact ⟨by decide, hq⟩
    | ty _ => simp [sok] at h
    | frz _ => simp [sok] at h
    | dK _ => simp [sok] at h
    | dT _ => simp [sok] at h
    | obj _ _ => simp [sok] at h
end SH
set_option Elab.async false
set_option linter.all false
set_option maxRecDepth 100000
set_option maxHeartbeats 4000000
/-! MX: words for the mathematics: pure defs by equations, typed lists, equality. -/
namespace SH
open PySem PySem.Spec PyProof.Rows L2 RZ DL
/-! ### a call's answer as an equation -/
theorem pu_by {α : Type} {m : M α} {v : α} {W W1 : Wd} {Q : α → Wd → Prop} {E : DX → Wd → Prop} (h : ∀ (Q : α → Wd → Prop) (E : DX → Wd → Prop), Q v W1 → wpM m W Q E) : wpM m W Q E = Q v W1 := by
  have h0 := h (fun a W' => a = v ∧ W' = W1) (fun _ _ => False) ⟨rfl, rfl⟩
  unfold wpM at h0 ⊢
  cases e : m W with
  | none => rw [e] at h0; exact h0.elim
  | some p =>
    obtain ⟨r, W'⟩ := p
    rw [e] at h0
    cases r with
    | error x => exact h0.elim
    | ok a => obtain ⟨rfl, rfl⟩ := h0; rfl
/-! ### equality of data -/
mutual
def deq : D → D → Bool
  | .non, y => match y with | .non => true | _ => false
  | .bl a, y => match y with | .bl b => a == b | .int j => (if a then 1 else 0) == j | _ => false
  | .int i, y => match y with | .bl b => i == (if b then 1 else 0) | .int j => i == j | _ => false
  | .str a, y => match y with | .str b => a == b | _ => false
  | .lst xs, y => match y with | .lst ys => deqL xs ys | _ => false
  | .tup xs, y => match y with | .tup ys => deqL xs ys | _ => false
  | _, _ => false
def deqL : List D → List D → Bool
  | [], ys => match ys with | [] => true | _ => false
  | x :: xs, ys => match ys with | [] => false | y :: ys => deq x y && deqL xs ys
end
mutual
def shp : Nat → D → Bool
  | _, .non => true
  | _, .bl _ => true
  | _, .int _ => true
  | _, .str z => PyData.strOk z
  | n, .lst xs => match n with | 0 => false | n + 1 => shpL n xs
  | n, .tup xs => match n with | 0 => false | n + 1 => shpL n xs
  | _, _ => false
def shpL : Nat → List D → Bool
  | _, [] => true
  | n, x :: xs => shp n x && shpL n xs
end
mutual
theorem shp_py : ∀ (n : Nat) (x : D), shp n x = true → ∃ p, toPy x = some p ∧ p.canLay0 = true ∧ p.depth ≤ n
  | _, .non, _ => ⟨_, rfl, by simp [PyData.canLay0], by simp [PyData.depth]⟩
  | _, .bl _, _ => ⟨_, rfl, by simp [PyData.canLay0], by simp [PyData.depth]⟩
  | _, .int _, _ => ⟨_, rfl, by simp [PyData.canLay0], by simp [PyData.depth]⟩
  | _, .str z, h => ⟨_, rfl, by simpa [PyData.canLay0, shp] using h, by simp [PyData.depth]⟩
  | 0, .lst _, h => by simp [shp] at h
  | n + 1, .lst xs, h => by
    obtain ⟨ps, e, h1, h2⟩ := shpL_py n xs (by simpa [shp] using h)
    exact ⟨.list ps, by simp [toPy, e], by simpa [PyData.canLay0] using h1, by simp [PyData.depth]; omega⟩
  | 0, .tup _, h => by simp [shp] at h
  | n + 1, .tup xs, h => by
    obtain ⟨ps, e, h1, h2⟩ := shpL_py n xs (by simpa [shp] using h)
    exact ⟨.tuple ps, by simp [toPy, e], by simpa [PyData.canLay0] using h1, by simp [PyData.depth]; omega⟩
  | _, .ty _, h => by simp [shp] at h
  | _, .frz _, h => by simp [shp] at h
  | _, .dK _, h => by simp [shp] at h
  | _, .dT _, h => by simp [shp] at h
  | _, .obj _ _, h => by simp [shp] at h
theorem shpL_py : ∀ (n : Nat) (xs : List D), shpL n xs = true → ∃ ps, toPy.toPyL xs = some ps ∧ PyData.canLayAll0 ps = true ∧ PyData.depthAll ps ≤ n
  | _, [], _ => ⟨[], rfl, by simp [PyData.canLayAll0], by simp [PyData.depthAll]⟩
  | n, x :: xs, h => by
    rw [shpL, Bool.and_eq_true] at h
    obtain ⟨p, e1, h1, h2⟩ := shp_py n x h.1
    obtain ⟨ps, e2, h3, h4⟩ := shpL_py n xs h.2
    exact ⟨p :: ps, by simp [toPy.toPyL, e1, e2], by simp [PyData.canLayAll0, h1, h3], by simp [PyData.depthAll]; omega⟩
end
mutual
theorem deq_eqv : ∀ (x y : D) (p q : PyData), toPy x = some p → toPy y = some q → PyData.eqv p q = deq x y
  | .non, y, p, q, hx, hy => by cases hx; cases y <;> simp [toPy] at hy <;> (try (obtain ⟨_, _, rfl⟩ := hy)) <;> (try subst hy) <;> simp [PyData.eqv, deq]
  | .bl b, y, p, q, hx, hy => by cases hx; cases y <;> simp [toPy] at hy <;> (try (obtain ⟨_, _, rfl⟩ := hy)) <;> (try subst hy) <;> simp [PyData.eqv, deq]
  | .int b, y, p, q, hx, hy => by cases hx; cases y <;> simp [toPy] at hy <;> (try (obtain ⟨_, _, rfl⟩ := hy)) <;> (try subst hy) <;> simp [PyData.eqv, deq]
  | .str b, y, p, q, hx, hy => by cases hx; cases y <;> simp [toPy] at hy <;> (try (obtain ⟨_, _, rfl⟩ := hy)) <;> (try subst hy) <;> simp [PyData.eqv, deq]
  | .lst xs, y, p, q, hx, hy => by
    simp only [toPy, Option.map_eq_some_iff] at hx
    obtain ⟨ps, e, rfl⟩ := hx
    cases y <;> simp only [toPy, Option.map_eq_some_iff] at hy <;> (try (obtain ⟨qs, e2, rfl⟩ := hy)) <;> (try cases hy) <;> simp only [PyData.eqv, deq]
    exact deqL_eqv xs _ ps qs e e2
  | .tup xs, y, p, q, hx, hy => by
    simp only [toPy, Option.map_eq_some_iff] at hx
    obtain ⟨ps, e, rfl⟩ := hx
    cases y <;> simp only [toPy, Option.map_eq_some_iff] at hy <;> (try (obtain ⟨qs, e2, rfl⟩ := hy)) <;> (try cases hy) <;> simp only [PyData.eqv, deq]
    exact deqL_eqv xs _ ps qs e e2
  | .ty _, _, _, _, hx, _ => by simp [toPy] at hx
  | .frz _, _, _, _, hx, _ => by simp [toPy] at hx
  | .dK _, _, _, _, hx, _ => by simp [toPy] at hx
  | .dT _, _, _, _, hx, _ => by simp [toPy] at hx
  | .obj _ _, _, _, _, hx, _ => by simp [toPy] at hx
theorem deqL_eqv : ∀ (xs ys : List D) (ps qs : List PyData), toPy.toPyL xs = some ps → toPy.toPyL ys = some qs → PyData.eqvAll ps qs = deqL xs ys
  | [], [], _, _, hx, hy => by cases hx; cases hy; rfl
  | [], y :: ys, ps, qs, hx, hy => by
    cases hx
    simp only [toPy.toPyL] at hy
    cases e1 : toPy y <;> cases e2 : toPy.toPyL ys <;> rw [e1, e2] at hy <;> simp at hy
    subst hy; rfl
  | x :: xs, [], ps, qs, hx, hy => by
    cases hy
    simp only [toPy.toPyL] at hx
    cases e1 : toPy x <;> cases e2 : toPy.toPyL xs <;> rw [e1, e2] at hx <;> simp at hx
    subst hx; rfl
  | x :: xs, y :: ys, ps, qs, hx, hy => by
    simp only [toPy.toPyL] at hx hy
    cases e1 : toPy x <;> cases e2 : toPy.toPyL xs <;> rw [e1, e2] at hx <;> simp at hx
    cases e3 : toPy y <;> cases e4 : toPy.toPyL ys <;> rw [e3, e4] at hy <;> simp at hy
    subst hx hy
    rw [PyData.eqvAll, deqL, deq_eqv x y _ _ e1 e3, deqL_eqv xs ys _ _ e2 e4]
end
theorem eqvD_pure {W : Wd} {x y : D} (hx : shp 60 x = true) (hy : shp 60 y = true) : eqvD W (.d x) (.d y) = some (deq x y) := by
  obtain ⟨p, e1, h1, h2⟩ := shp_py 60 x hx
  obtain ⟨q, e2, h3, h4⟩ := shp_py 60 y hy
  unfold eqvD
  show ((toPy x).bind _) = _
  rw [e1]
  show ((toPy y).bind _) = _
  rw [e2]
  show (if SeqAt.shaped p = true ∧ SeqAt.shaped q = true then some (PyData.eqv p q) else none) = _
  rw [if_pos ⟨by unfold SeqAt.shaped; rw [h1]; simp; omega, by unfold SeqAt.shaped; rw [h3]; simp; omega⟩, deq_eqv x y p q e1 e2]
theorem w_eq {W : Wd} {x y : D} {neg : Bool} {Q : RV → Wd → Prop} {E : DX → Wd → Prop} (hx : shp 60 x = true) (hy : shp 60 y = true) : wpM (opEq neg (.d x) (.d y)) W Q E = Q (.d (.bl (deq x y != neg))) W := by
  unfold opEq
  by_cases h : isScal (.d x) (.d y) = true
  · rw [if_pos h]
    have h' := h
    unfold isScal at h'
    obtain ⟨b, hb⟩ := Option.isSome_iff_exists.mp h'
    have : b = deq x y := by
      cases x <;> cases y <;> simp [scalD] at hb <;> subst hb <;> simp only [deq] <;> exact (Bool.beq_eq_decide_eq _ _).symm
    subst this
    unfold opEqS
    rw [hb]
    rfl
  · rw [if_neg h]
    unfold opEqD
    rw [w_bind, w_look, eqvD_pure hx hy]
    rfl
theorem deqL_map {α β : Type} (f : α → D) (g : β → D) (e : α → β → Bool) (h : ∀ a b, deq (f a) (g b) = e a b) : ∀ (xs : List α) (ys : List β), deqL (xs.map f) (ys.map g) = (decide (xs.length = ys.length) && (xs.zip ys).all fun p => e p.1 p.2)
  | [], [] => rfl
  | [], _ :: _ => by simp [deqL]
  | _ :: _, [] => by simp [deqL]
  | x :: xs, y :: ys => by
    simp only [List.map_cons, deqL, h, deqL_map f g e h xs ys, List.length_cons, List.zip_cons_cons, List.all_cons]
    cases e x y <;> simp
theorem deqL_inj {α : Type} [DecidableEq α] (f : α → D) (h : ∀ a b, deq (f a) (f b) = decide (a = b)) : ∀ (xs ys : List α), deqL (xs.map f) (ys.map f) = decide (xs = ys)
  | [], [] => rfl
  | [], _ :: _ => by simp [deqL]
  | _ :: _, [] => by simp [deqL]
  | x :: xs, y :: ys => by
    simp only [List.map_cons, deqL, h, deqL_inj f h xs ys, List.cons.injEq, Bool.decide_and]
@[simp] theorem deq_int {i j : Int} : deq (.int i) (.int j) = decide (i = j) := by simp only [deq]; exact Bool.beq_eq_decide_eq i j
theorem shpL_map {α : Type} {n : Nat} (f : α → D) (h : ∀ a, shp n (f a) = true) : ∀ xs : List α, shpL n (xs.map f) = true
  | [] => rfl
  | x :: xs => by rw [List.map_cons, shpL, h, shpL_map f h xs]; rfl
/-! ### lists of ints  -/
abbrev dI (r : List Int) : List D := r.map D.int
abbrev lI (r : List Int) : D := .lst (dI r)
abbrev lR (rs : List (List Int)) : D := .lst (rs.map lI)
@[simp] theorem shp_int {n : Nat} {i : Int} : shp n (.int i) = true := by simp [shp]
@[simp] theorem shp_lI {n : Nat} {r : List Int} : shp (n + 1) (lI r) = true := by simp only [shp]; exact shpL_map _ (fun _ => shp_int) r
@[simp] theorem shp_lR {n : Nat} {r : List (List Int)} : shp (n + 2) (lR r) = true := by simp only [shp]; exact shpL_map _ (fun _ => shp_lI) r
@[simp] theorem deq_lI {a b : List Int} : deq (lI a) (lI b) = decide (a = b) := by simp only [deq]; exact deqL_inj _ (fun _ _ => deq_int) a b
@[simp] theorem deq_lR {a b : List (List Int)} : deq (lR a) (lR b) = decide (a = b) := by simp only [deq]; exact deqL_inj _ (fun _ _ => deq_lI) a b
/-! ### items -/
@[simp] theorem atI_nat' {α : Type} {xs : List α} {j : Nat} : atI xs (j : Int) = xs[j]? := by
  cases h : xs[j]? with
  | some v => exact atI_nat h
  | none =>
    unfold atI ixN
    rw [if_pos (by omega), if_neg (by have := List.getElem?_eq_none_iff.mp h; omega)]; rfl
theorem atI_neg1 {α : Type} {xs : List α} : atI xs (-1) = xs.getLast? := by
  rcases List.eq_nil_or_concat xs with rfl | ⟨l, a, rfl⟩
  · rfl
  · rw [List.concat_eq_append, atI_last]; simp
theorem zipD_map {α β : Type} (f : α → D) (g : β → D) (xs : List α) (ys : List β) : zipD (xs.map f) (ys.map g) = (xs.zip ys).map fun p => .tup [f p.1, g p.2] := by
  unfold zipD
  rw [List.zip_map, List.map_map]; rfl
theorem enumD_map {α : Type} (f : α → D) (xs : List α) : enumD (xs.map f) = xs.zipIdx.map fun p => .tup [.int (p.2 : Nat), f p.1] := by
  unfold enumD
  rw [List.zipIdx_map, List.map_map]; rfl
/-! ### comprehensions -/
section
variable {W : Wd} {E : DX → Wd → Prop} {Q : RV → Wd → Prop} {δ : DL.Env} {T : RV → DL.Env → M DL.Env} {Ta : DL.Env → M Bool} {F : DL.Env → M RV}
theorem lc_eq {α : Type} (xs : List α) (g f : α → D) (c : α → Bool) (hz : xs.length < sizeLine)
    (step : ∀ x ∈ xs, wpM (T (.d (g x)) δ) W (fun δ1 W1 => wpM (Ta δ1) W1 (fun b W2 => b = c x ∧ (b = true → wpM (F δ1) W2 (fun v W3 => v = .d (f x) ∧ W3 = W) fun _ _ => False) ∧ (b = false → W2 = W)) fun _ _ => False) fun _ _ => False) :
    wpM (lcF false T Ta F δ (xs.map g)) W Q E = Q (.d (.lst ((xs.filter c).map f))) W := by
  refine pu_by fun Q E hq => w_noEr ?_
  refine goLc_inv (P := fun i acc W' => acc = ((((xs.take i).filter c).map f).map RV.d) ∧ W' = W) (xs.map g) (by simpa using hz) (fun i d acc W' hd hp => ?_) (xs.map g) 0 [] W rfl (Nat.zero_le _) (Nat.le_refl _) ⟨by simp, rfl⟩ fun acc W' _ hp => ?_
  · obtain ⟨rfl, rfl⟩ := hp
    rw [List.getElem?_map] at hd
    cases hx : xs[i]? with
    | none => rw [hx] at hd; cases hd
    | some x =>
      rw [hx] at hd
      cases hd
      refine wpM_and (step x (List.mem_of_getElem? hx)) fun δ1 W1 h1 => wpM_and h1 fun b W2 h2 => ?_
      obtain ⟨rfl, h3, h4⟩ := h2
      rw [List.take_add_one, hx]
      cases e : c x with
      | true =>
        rw [if_pos rfl]
        refine wpM_and (h3 e) fun v W3 h5 => ?_
        obtain ⟨rfl, rfl⟩ := h5
        simp [List.filter_append, e]
      | false =>
        rw [if_neg (by decide)]
        rw [h4 e]
        simp [List.filter_append, e]
  · obtain ⟨rfl, rfl⟩ := hp
    rw [w_newL_f, List.length_map, List.take_length]
    exact hq
theorem lc_map {α : Type} (xs : List α) (g f : α → D) (hz : xs.length < sizeLine)
    (step : ∀ x ∈ xs, wpM (T (.d (g x)) δ) W (fun δ1 W1 => wpM (F δ1) W1 (fun v W3 => v = .d (f x) ∧ W3 = W) fun _ _ => False) fun _ _ => False) :
    wpM (lcF false T evYes F δ (xs.map g)) W Q E = Q (.d (.lst (xs.map f))) W := by
  have := lc_eq (Q := Q) (E := E) (Ta := evYes) (F := F) (T := T) (δ := δ) (W := W) xs g f (fun _ => true) hz fun x hx => wpM_and (step x hx) fun δ1 W1 h1 => ⟨rfl, fun _ => h1, fun z => Bool.noConfusion z⟩
  rwa [List.filter_eq_self.mpr fun _ _ => rfl] at this
end
end SH
namespace SH
open PySem PySem.Spec PyProof.Rows L2 RZ DL
section
variable {W : Wd} {E : DX → Wd → Prop} {Q : RV → Wd → Prop}
@[simp] theorem intsL_c {α : Type} (f : α → Int) (xs : List α) : intsL (xs.map (RV.d ∘ fun x => D.int (f x))) = some (xs.map f) := by have := intsL_map (xs.map f); rwa [List.map_map, List.map_map] at this
@[simp] theorem intsL_c0 (xs : List Int) : intsL (xs.map (RV.d ∘ D.int)) = some xs := by have := intsL_map xs; rwa [List.map_map] at this
theorem intsFrom_succ (lo : Int) (n : Nat) : DL.intsFrom lo (n + 1) = D.int lo :: DL.intsFrom (lo + 1) n := by
  unfold DL.intsFrom
  rw [List.range_succ_eq_map, List.map_cons, List.map_map]
  simp only [Int.natCast_zero, Int.add_zero]
  congr 1
  refine List.map_congr_left fun i _ => ?_
  simp only [Function.comp, D.int.injEq]
  omega
@[simp] theorem intsFrom_zero (lo : Int) : DL.intsFrom lo 0 = [] := rfl
theorem w_rep1 {x : D} {n : Nat} (hn : n ≤ sizeLine) : wpM (opMul false (.d (.lst [x])) (.d (.int (n : Nat)))) W Q E = Q (.d (.lst (List.replicate n x))) W := by
  have e : opMul false (.d (.lst [x])) (.d (.int (n : Nat))) = opRep false (.d (.lst [x])) (.d (.int (n : Nat))) := rfl
  rw [e]
  unfold opRep
  rw [w_bind, w_look]
  simp only [seqOf_l, lookK_some, kB_ap, List.map_cons, List.map_nil]
  rw [w_bind, w_guard]
  have hz : sizeLine < 2 ^ 62 := by decide
  rw [kB_ap]
  have h2 : ∀ n : Nat, (List.replicate n [RV.d x]).flatten = (List.replicate n x).map RV.d := fun n => by
    induction n with
    | zero => rfl
    | succ n ih => rw [List.replicate_succ, List.replicate_succ, List.flatten_cons, ih]; rfl
  rw [Int.toNat_natCast, h2, w_newL_f]
  refine propext ⟨fun h => h.2, fun h => ⟨⟨by omega, by omega, ?_⟩, h⟩⟩
  simpa using hn
theorem small_line {n : Nat} (h : n < 10000) : n < sizeLine := Nat.lt_trans h (by decide)
theorem small_le {n : Nat} (h : n < 10000) : n ≤ sizeLine := Nat.le_of_lt (small_line h)
@[simp] theorem dI_len {r : List Int} : (dI r).length = r.length := List.length_map ..
@[simp] theorem bGcd_i {i j : Int} : bGcd [.d (.int i), .d (.int j)] = M.ret (.d (.int ((Nat.gcd i.natAbs j.natAbs : Nat) : Int))) := rfl
@[simp] theorem bMin_i {i j : Int} : bMin [.d (.int i), .d (.int j)] = M.ret (.d (.int (if j < i then j else i))) := rfl
@[simp] theorem bMax_i {i j : Int} : bMax [.d (.int i), .d (.int j)] = M.ret (.d (.int (if j > i then j else i))) := rfl
@[simp] theorem bAbs_i {i : Int} : bAbs [.d (.int i)] = M.ret (.d (.int (if i < 0 then -i else i))) := rfl
def negF (u : RV) : M RV := (asI u).bind fun i => M.ret (.d (.int (-i)))
@[simp] theorem w_neg {F : DL.Env → M RV} {δ : DL.Env} : wpM (evNeg F δ) W Q E = wpM (F δ) W (kB negF Q E) E := propext wpM_bind
@[simp] theorem negF_i {i : Int} : negF (.d (.int i)) = M.ret (.d (.int (-i))) := rfl
@[simp] theorem w_forF {T : RV → DL.Env → M DL.Env} {B : DL.Env → M (Fl × DL.Env)} {δ : DL.Env} {ds : List D} {QF : Fl × DL.Env → Wd → Prop} : wpM (forF T B δ ds) W QF E = wpM (goFor T B ds δ) W QF E := rfl
@[simp] theorem w_newL_c {α : Type} {f : α → D} {l : List α} : wpM (newL false (l.map (RV.d ∘ f))) W Q E = Q (.d (.lst (l.map f))) W := by rw [← List.map_map, w_newL_f]
@[simp] theorem w_newT_c {α : Type} {f : α → D} {l : List α} : wpM (newT (l.map (RV.d ∘ f))) W Q E = Q (.d (.tup (l.map f))) W := by rw [← List.map_map, w_newT]
theorem w_newL_p {us : List RV} {ds : List D} (h : us = ds.map RV.d) : wpM (newL false us) W Q E = Q (.d (.lst ds)) W := by rw [h, w_newL_f]
@[simp] theorem w_newL_app {α : Type} {f : α → D} {l : List α} {x : D} : wpM (newL false (l.map (RV.d ∘ f) ++ [.d x])) W Q E = Q (.d (.lst (l.map f ++ [x]))) W := w_newL_p (by simp)
@[simp] theorem w_newL_app2 {α β : Type} {f : α → D} {g : β → D} {l : List α} {m : List β} : wpM (newL false (l.map (RV.d ∘ f) ++ m.map (RV.d ∘ g))) W Q E = Q (.d (.lst (l.map f ++ m.map g))) W := w_newL_p (by simp)
@[simp] theorem w_newL_app3 {l m : List D} : wpM (newL false (l.map RV.d ++ m.map RV.d)) W Q E = Q (.d (.lst (l ++ m))) W := w_newL_p (by simp)
/-! ### sorted by a key -/
noncomputable def sortA (Fn : List RV → M RV) (u : RV) : M RV := match u with
  | .d (.lst xs) => sortK Fn xs
  | _ => M.fail
@[simp] theorem w_evSortK {Fn : List RV → M RV} {F : DL.Env → M RV} {δ : DL.Env} : wpM (evSortK Fn F δ) W Q E = wpM (F δ) W (kB (sortA Fn) Q E) E := by
  unfold evSortK
  rw [w_bind]
  congr 1
@[simp] theorem sortA_l {Fn : List RV → M RV} {xs : List D} : sortA Fn (.d (.lst xs)) = sortK Fn xs := (rfl)
def sortBy {α : Type} (k : α → Int) (xs : List α) : List α := (byKey (xs.map fun x => (x, k x))).map (·.1)
theorem sortBy_perm {α : Type} (k : α → Int) (xs : List α) : (sortBy k xs).Perm xs := by
  unfold sortBy byKey
  refine ((List.mergeSort_perm _ _).map _).trans ?_
  rw [List.map_map]
  rw [show ((fun p : α × Int => p.1) ∘ fun x => (x, k x)) = id from rfl, List.map_id]
theorem sortBy_sorted {α : Type} (k : α → Int) (xs : List α) : (sortBy k xs).Pairwise fun x y => k x ≤ k y := by
  have h := List.pairwise_mergeSort (le := fun (x y : α × Int) => decide (x.2 ≤ y.2)) (fun a b c h1 h2 => by simp at h1 h2 ⊢; omega) (fun a b => by simp; omega) (xs.map fun x => (x, k x))
  unfold sortBy byKey
  rw [List.pairwise_map]
  refine List.Pairwise.imp_of_mem (fun {a b} ha hb h => ?_) h
  have e : ∀ p, p ∈ List.mergeSort (xs.map fun x => (x, k x)) (fun x y => decide (x.2 ≤ y.2)) → p.2 = k p.1 := fun p hp => by
    have := (List.mergeSort_perm _ _).mem_iff.mp hp
    simp at this
    obtain ⟨a, _, rfl⟩ := this
    rfl
  rw [← e a ha, ← e b hb]
  simpa using h
theorem sortBy_of {α : Type} (k : α → Int) (xs : List α) (h : xs.Pairwise fun x y => k x ≤ k y) : sortBy k xs = xs := by
  unfold sortBy byKey
  rw [List.mergeSort_of_pairwise]
  · rw [List.map_map, show ((fun p : α × Int => p.1) ∘ fun x => (x, k x)) = id from rfl, List.map_id]
  · rw [List.pairwise_map]
    exact h.imp fun h => by simpa using h
theorem w_sortKey {α : Type} {Fn : List RV → M RV} (xs : List α) (g : α → D) (k : α → Int) (hk : ∀ x ∈ xs, wpM (Fn [.d (g x)]) W (fun r W1 => r = .d (.int (k x)) ∧ W1 = W) fun _ _ => False) : wpM (sortK Fn (xs.map g)) W Q E = Q (.d (.lst ((sortBy k xs).map g))) W := by
  refine pu_by fun Q E hq => ?_
  refine w_sortK (ks := xs.map k) ⟨by simp, fun i u z h1 h2 => ?_⟩ ?_
  · rw [List.getElem?_map] at h1 h2
    cases e : xs[i]? with
    | none => rw [e] at h1; cases h1
    | some x =>
      rw [e] at h1 h2
      cases h1
      cases h2
      exact hk x (List.mem_of_getElem? e)
  · have e : (xs.map g).zip (xs.map k) = (xs.map fun x => (x, k x)).map fun p => (g p.1, p.2) := by
      rw [List.map_map]
      clear hk hq
      induction xs with
      | nil => rfl
      | cons x r ih => simp [ih]
    rw [e, ← byKey_map, List.map_map]
    have e2 : ((fun p : D × Int => p.1) ∘ fun p : α × Int => (g p.1, p.2)) = g ∘ fun p : α × Int => p.1 := rfl
    rw [e2, ← List.map_map]
    exact hq
/-! ### chains -/
def chZ (g : Int → Int → Bool) (v z : RV) : M RV := (M.opt (int2 v z)).bind fun q => M.ret (.d (.bl (g q.1 q.2)))
def chB (f g : Int → Int → Bool) (Fc : DL.Env → M RV) (δ : DL.Env) (u v : RV) : M RV := (M.opt (int2 u v)).bind fun p => if f p.1 p.2 then (Fc δ).bind (chZ g v) else M.ret (.d (.bl false))
def chA (f g : Int → Int → Bool) (Fb Fc : DL.Env → M RV) (δ : DL.Env) (u : RV) : M RV := (Fb δ).bind (chB f g Fc δ u)
@[simp] theorem w_chain {f g : Int → Int → Bool} {Fa Fb Fc : DL.Env → M RV} {δ : DL.Env} : wpM (evChain f g Fa Fb Fc δ) W Q E = wpM (Fa δ) W (kB (chA f g Fb Fc δ) Q E) E := by
  show wpM ((Fa δ).bind _) W Q E = _
  rw [w_bind]
  rfl
@[simp] theorem w_chA {f g : Int → Int → Bool} {Fb Fc : DL.Env → M RV} {δ : DL.Env} {u : RV} : wpM (chA f g Fb Fc δ u) W Q E = wpM (Fb δ) W (kB (chB f g Fc δ u) Q E) E := propext wpM_bind
@[simp] theorem w_chB {f g : Int → Int → Bool} {Fc : DL.Env → M RV} {δ : DL.Env} {i j : Int} : wpM (chB f g Fc δ (.d (.int i)) (.d (.int j))) W Q E = if f i j = true then wpM (Fc δ) W (kB (chZ g (.d (.int j))) Q E) E else Q (.d (.bl false)) W := by
  show wpM (if f i j then _ else _) W Q E = _
  rw [w_ite]
  split
  · rw [w_bind]
  · rfl
@[simp] theorem w_chZ {g : Int → Int → Bool} {i j : Int} : wpM (chZ g (.d (.int i)) (.d (.int j))) W Q E = Q (.d (.bl (g i j))) W := rfl
/-! ### in a list of ints -/
theorem inV_ints (c : Int) (r : List Int) : inV (.int c) (r.map V.int) = decide (c ∈ r) := by
  unfold inV
  rw [List.any_map]
  induction r with
  | nil => rfl
  | cons x r ih =>
    rw [List.any_cons, ih]
    have h1 : ((fun y => eqV y (V.int c)) ∘ V.int) x = decide (c = x) := by
      show (x == c) = _
      by_cases h : c = x
      · subst h; simp
      · simp [h]; exact fun z => h z.symm
    rw [h1]
    by_cases h : c = x
    · subst h; simp
    · simp [h]
theorem flL_ints : ∀ r : List Int, flL ((dI r).map RV.d) = some (r.map V.int)
  | [] => rfl
  | x :: r => by
    show (match flD (.d (.int x)), flL ((dI r).map RV.d) with | some a, some b => some (a :: b) | _, _ => none) = _
    rw [flL_ints r]; rfl
theorem opInL_dI {t neg : Bool} {c : Int} {r : List Int} : wpM (opInL neg (.d (.int c)) (.d (if t then .tup (dI r) else .lst (dI r)))) W Q E = Q (.d (.bl (decide (c ∈ r) != neg))) W := by
  unfold opInL
  rw [w_bind, w_look]
  have e : seqOf W (.d (if t then D.tup (dI r) else .lst (dI r))) = some (t, (dI r).map RV.d) := by cases t <;> rfl
  rw [e]
  simp only [flD, flL_ints, Option.map_some, lookK_some, kB_ap, inV_ints]
  rfl
@[simp] theorem opIn_lI {neg : Bool} {c : Int} {r : List Int} : wpM (opIn neg (.d (.int c)) (.d (lI r))) W Q E = Q (.d (.bl (decide (c ∈ r) != neg))) W := opInL_dI (t := false)
@[simp] theorem opIn_tI {neg : Bool} {c : Int} {r : List Int} : wpM (opIn neg (.d (.int c)) (.d (.tup (dI r)))) W Q E = Q (.d (.bl (decide (c ∈ r) != neg))) W := opInL_dI (t := true)
@[simp] theorem opIn_t2 {neg : Bool} {c a b : Int} : wpM (opIn neg (.d (.int c)) (.d (.tup [.int a, .int b]))) W Q E = Q (.d (.bl (decide (c ∈ [a, b]) != neg))) W := opInL_dI (t := true) (r := [a, b])
/-! ### a list or a tuple -/
def sq (t : Bool) (xs : List D) : D := if t then .tup xs else .lst xs
theorem sq_f {xs : List D} : sq false xs = .lst xs := rfl
theorem sq_t {xs : List D} : sq true xs = .tup xs := rfl
@[simp] theorem seqOf_sq {t : Bool} {xs : List D} : seqOf W (.d (sq t xs)) = some (t, xs.map RV.d) := by cases t <;> rfl
def tyS (t : Bool) : Ty := if t then .tup else .lst
@[simp] theorem tyOf_sq {t : Bool} {xs : List D} : tyOf W (.d (sq t xs)) = some (tyS t) := by cases t <;> rfl
@[simp] theorem w_bLen_sq {t : Bool} {xs : List D} : wpM (bLen [.d (sq t xs)]) W Q E = Q (.d (.int xs.length)) W := by cases t; exact w_bLen_l; exact w_bLen_t
@[simp] theorem w_opIx_sq {t : Bool} {xs : List D} {i : Int} : wpM (opIx (.d (sq t xs)) (.d (.int i))) W Q E = lookK (ixK i (seqOf W (.d (sq t xs)))) Q W := by cases t; exact w_opIx_l; exact w_opIx_t
@[simp] theorem iterA_sq {t : Bool} {xs : List D} : iterA (.d (sq t xs)) = M.ret xs := by cases t <;> rfl
@[simp] theorem any_seq {t : Bool} : ([Ty.lst, Ty.tup].any (tyS t).sub) = true := by cases t <;> rfl
@[simp] theorem sub_S_lst {t : Bool} : (tyS t).sub .lst = !t := by cases t <;> rfl
@[simp] theorem sub_S_tup {t : Bool} : (tyS t).sub .tup = t := by cases t <;> rfl
@[simp] theorem sub_S_int {t : Bool} : (tyS t).sub .int = false := by cases t <;> rfl
@[simp] theorem sub_S_str {t : Bool} : (tyS t).sub .str = false := by cases t <;> rfl
@[simp] theorem sub_S_dct {t : Bool} : (tyS t).sub .dct = false := by cases t <;> rfl
@[simp] theorem w_bList_sq {mk t : Bool} {xs : List D} : wpM (bList mk [.d (sq t xs)]) W Q E = wpM (newL mk (xs.map RV.d)) W Q E := by cases t; exact w_bList_l; exact w_bList_t
@[simp] theorem w_bTuple_ll {xs : List D} : wpM (bTuple [.d (.lst xs)]) W Q E = Q (.d (.tup xs)) W := w_bTuple_l
@[simp] theorem blsL_c {α : Type} (f : α → Bool) (xs : List α) : blsL (xs.map (RV.d ∘ fun x => D.bl (f x))) = some (xs.map f) := blsL_map f xs
@[simp] theorem blsL_dI {α : Type} (f : α → Bool) (xs : List α) : blsL ((xs.map fun x => D.bl (f x)).map RV.d) = some (xs.map f) := by
  rw [List.map_map]; exact blsL_map f xs
end
end SH
namespace SH
open PySem PySem.Spec PyProof.Rows L2 RZ DL
@[simp] theorem line_0 : 0 ≤ sizeLine := by decide
@[simp] theorem lt_line_0 : 0 < sizeLine := by decide
@[simp] theorem line_1 : 1 ≤ sizeLine := by decide
@[simp] theorem lt_line_1 : 1 < sizeLine := by decide
@[simp] theorem line_2 : 2 ≤ sizeLine := by decide
@[simp] theorem lt_line_2 : 2 < sizeLine := by decide
@[simp] theorem line_3 : 3 ≤ sizeLine := by decide
@[simp] theorem lt_line_3 : 3 < sizeLine := by decide
@[simp] theorem line_4 : 4 ≤ sizeLine := by decide
@[simp] theorem lt_line_4 : 4 < sizeLine := by decide
@[simp] theorem line_5 : 5 ≤ sizeLine := by decide
@[simp] theorem lt_line_5 : 5 < sizeLine := by decide
@[simp] theorem line_6 : 6 ≤ sizeLine := by decide
@[simp] theorem lt_line_6 : 6 < sizeLine := by decide
@[simp] theorem line_7 : 7 ≤ sizeLine := by decide
@[simp] theorem lt_line_7 : 7 < sizeLine := by decide
@[simp] theorem line_8 : 8 ≤ sizeLine := by decide
@[simp] theorem lt_line_8 : 8 < sizeLine := by decide
@[simp] theorem line_9 : 9 ≤ sizeLine := by decide
@[simp] theorem lt_line_9 : 9 < sizeLine := by decide
@[simp] theorem line_10 : 10 ≤ sizeLine := by decide
@[simp] theorem lt_line_10 : 10 < sizeLine := by decide
@[simp] theorem line_11 : 11 ≤ sizeLine := by decide
@[simp] theorem lt_line_11 : 11 < sizeLine := by decide
@[simp] theorem line_12 : 12 ≤ sizeLine := by decide
@[simp] theorem lt_line_12 : 12 < sizeLine := by decide
@[simp] theorem line_13 : 13 ≤ sizeLine := by decide
@[simp] theorem lt_line_13 : 13 < sizeLine := by decide
@[simp] theorem line_14 : 14 ≤ sizeLine := by decide
@[simp] theorem lt_line_14 : 14 < sizeLine := by decide
@[simp] theorem line_15 : 15 ≤ sizeLine := by decide
@[simp] theorem lt_line_15 : 15 < sizeLine := by decide
@[simp] theorem line_16 : 16 ≤ sizeLine := by decide
@[simp] theorem lt_line_16 : 16 < sizeLine := by decide
@[simp] theorem line_17 : 17 ≤ sizeLine := by decide
@[simp] theorem lt_line_17 : 17 < sizeLine := by decide
@[simp] theorem line_18 : 18 ≤ sizeLine := by decide
@[simp] theorem lt_line_18 : 18 < sizeLine := by decide
@[simp] theorem line_19 : 19 ≤ sizeLine := by decide
@[simp] theorem lt_line_19 : 19 < sizeLine := by decide
@[simp] theorem line_20 : 20 ≤ sizeLine := by decide
@[simp] theorem lt_line_20 : 20 < sizeLine := by decide
@[simp] theorem line_21 : 21 ≤ sizeLine := by decide
@[simp] theorem lt_line_21 : 21 < sizeLine := by decide
@[simp] theorem line_22 : 22 ≤ sizeLine := by decide
@[simp] theorem lt_line_22 : 22 < sizeLine := by decide
@[simp] theorem line_23 : 23 ≤ sizeLine := by decide
@[simp] theorem lt_line_23 : 23 < sizeLine := by decide
@[simp] theorem line_24 : 24 ≤ sizeLine := by decide
@[simp] theorem lt_line_24 : 24 < sizeLine := by decide
@[simp] theorem line_25 : 25 ≤ sizeLine := by decide
@[simp] theorem lt_line_25 : 25 < sizeLine := by decide
@[simp] theorem line_26 : 26 ≤ sizeLine := by decide
@[simp] theorem lt_line_26 : 26 < sizeLine := by decide
@[simp] theorem line_27 : 27 ≤ sizeLine := by decide
@[simp] theorem lt_line_27 : 27 < sizeLine := by decide
@[simp] theorem line_28 : 28 ≤ sizeLine := by decide
@[simp] theorem lt_line_28 : 28 < sizeLine := by decide
@[simp] theorem line_29 : 29 ≤ sizeLine := by decide
@[simp] theorem lt_line_29 : 29 < sizeLine := by decide
@[simp] theorem line_30 : 30 ≤ sizeLine := by decide
@[simp] theorem lt_line_30 : 30 < sizeLine := by decide
@[simp] theorem line_31 : 31 ≤ sizeLine := by decide
@[simp] theorem lt_line_31 : 31 < sizeLine := by decide
@[simp] theorem line_32 : 32 ≤ sizeLine := by decide
@[simp] theorem lt_line_32 : 32 < sizeLine := by decide
@[simp] theorem line_33 : 33 ≤ sizeLine := by decide
@[simp] theorem lt_line_33 : 33 < sizeLine := by decide
@[simp] theorem line_34 : 34 ≤ sizeLine := by decide
@[simp] theorem lt_line_34 : 34 < sizeLine := by decide
@[simp] theorem line_35 : 35 ≤ sizeLine := by decide
@[simp] theorem lt_line_35 : 35 < sizeLine := by decide
@[simp] theorem line_36 : 36 ≤ sizeLine := by decide
@[simp] theorem lt_line_36 : 36 < sizeLine := by decide
@[simp] theorem line_37 : 37 ≤ sizeLine := by decide
@[simp] theorem lt_line_37 : 37 < sizeLine := by decide
@[simp] theorem line_38 : 38 ≤ sizeLine := by decide
@[simp] theorem lt_line_38 : 38 < sizeLine := by decide
@[simp] theorem line_39 : 39 ≤ sizeLine := by decide
@[simp] theorem lt_line_39 : 39 < sizeLine := by decide
@[simp] theorem line_40 : 40 ≤ sizeLine := by decide
@[simp] theorem lt_line_40 : 40 < sizeLine := by decide
@[simp] theorem line_41 : 41 ≤ sizeLine := by decide
@[simp] theorem lt_line_41 : 41 < sizeLine := by decide
@[simp] theorem line_42 : 42 ≤ sizeLine := by decide
@[simp] theorem lt_line_42 : 42 < sizeLine := by decide
@[simp] theorem line_43 : 43 ≤ sizeLine := by decide
@[simp] theorem lt_line_43 : 43 < sizeLine := by decide
@[simp] theorem line_44 : 44 ≤ sizeLine := by decide
@[simp] theorem lt_line_44 : 44 < sizeLine := by decide
@[simp] theorem line_45 : 45 ≤ sizeLine := by decide
@[simp] theorem lt_line_45 : 45 < sizeLine := by decide
@[simp] theorem line_46 : 46 ≤ sizeLine := by decide
@[simp] theorem lt_line_46 : 46 < sizeLine := by decide
@[simp] theorem line_47 : 47 ≤ sizeLine := by decide
@[simp] theorem lt_line_47 : 47 < sizeLine := by decide
@[simp] theorem line_48 : 48 ≤ sizeLine := by decide
@[simp] theorem lt_line_48 : 48 < sizeLine := by decide
@[simp] theorem line_49 : 49 ≤ sizeLine := by decide
@[simp] theorem lt_line_49 : 49 < sizeLine := by decide
@[simp] theorem line_50 : 50 ≤ sizeLine := by decide
@[simp] theorem lt_line_50 : 50 < sizeLine := by decide
@[simp] theorem line_51 : 51 ≤ sizeLine := by decide
@[simp] theorem lt_line_51 : 51 < sizeLine := by decide
@[simp] theorem line_52 : 52 ≤ sizeLine := by decide
@[simp] theorem lt_line_52 : 52 < sizeLine := by decide
@[simp] theorem line_53 : 53 ≤ sizeLine := by decide
@[simp] theorem lt_line_53 : 53 < sizeLine := by decide
@[simp] theorem line_54 : 54 ≤ sizeLine := by decide
@[simp] theorem lt_line_54 : 54 < sizeLine := by decide
@[simp] theorem line_55 : 55 ≤ sizeLine := by decide
@[simp] theorem lt_line_55 : 55 < sizeLine := by decide
@[simp] theorem line_56 : 56 ≤ sizeLine := by decide
@[simp] theorem lt_line_56 : 56 < sizeLine := by decide
@[simp] theorem line_57 : 57 ≤ sizeLine := by decide
@[simp] theorem lt_line_57 : 57 < sizeLine := by decide
@[simp] theorem line_58 : 58 ≤ sizeLine := by decide
@[simp] theorem lt_line_58 : 58 < sizeLine := by decide
@[simp] theorem line_59 : 59 ≤ sizeLine := by decide
@[simp] theorem lt_line_59 : 59 < sizeLine := by decide
@[simp] theorem line_60 : 60 ≤ sizeLine := by decide
@[simp] theorem lt_line_60 : 60 < sizeLine := by decide
@[simp] theorem line_61 : 61 ≤ sizeLine := by decide
@[simp] theorem lt_line_61 : 61 < sizeLine := by decide
@[simp] theorem line_62 : 62 ≤ sizeLine := by decide
@[simp] theorem lt_line_62 : 62 < sizeLine := by decide
@[simp] theorem line_63 : 63 ≤ sizeLine := by decide
@[simp] theorem lt_line_63 : 63 < sizeLine := by decide
@[simp] theorem line_64 : 64 ≤ sizeLine := by decide
@[simp] theorem lt_line_64 : 64 < sizeLine := by decide
@[simp] theorem line_65 : 65 ≤ sizeLine := by decide
@[simp] theorem lt_line_65 : 65 < sizeLine := by decide
@[simp] theorem line_66 : 66 ≤ sizeLine := by decide
@[simp] theorem lt_line_66 : 66 < sizeLine := by decide
@[simp] theorem line_67 : 67 ≤ sizeLine := by decide
@[simp] theorem lt_line_67 : 67 < sizeLine := by decide
@[simp] theorem line_68 : 68 ≤ sizeLine := by decide
@[simp] theorem lt_line_68 : 68 < sizeLine := by decide
@[simp] theorem line_69 : 69 ≤ sizeLine := by decide
@[simp] theorem lt_line_69 : 69 < sizeLine := by decide
@[simp] theorem line_70 : 70 ≤ sizeLine := by decide
@[simp] theorem lt_line_70 : 70 < sizeLine := by decide
@[simp] theorem line_71 : 71 ≤ sizeLine := by decide
@[simp] theorem lt_line_71 : 71 < sizeLine := by decide
@[simp] theorem line_72 : 72 ≤ sizeLine := by decide
@[simp] theorem lt_line_72 : 72 < sizeLine := by decide
@[simp] theorem line_73 : 73 ≤ sizeLine := by decide
@[simp] theorem lt_line_73 : 73 < sizeLine := by decide
@[simp] theorem line_74 : 74 ≤ sizeLine := by decide
@[simp] theorem lt_line_74 : 74 < sizeLine := by decide
@[simp] theorem line_75 : 75 ≤ sizeLine := by decide
@[simp] theorem lt_line_75 : 75 < sizeLine := by decide
@[simp] theorem line_76 : 76 ≤ sizeLine := by decide
@[simp] theorem lt_line_76 : 76 < sizeLine := by decide
@[simp] theorem line_77 : 77 ≤ sizeLine := by decide
@[simp] theorem lt_line_77 : 77 < sizeLine := by decide
@[simp] theorem line_78 : 78 ≤ sizeLine := by decide
@[simp] theorem lt_line_78 : 78 < sizeLine := by decide
@[simp] theorem line_79 : 79 ≤ sizeLine := by decide
@[simp] theorem lt_line_79 : 79 < sizeLine := by decide
@[simp] theorem line_80 : 80 ≤ sizeLine := by decide
@[simp] theorem lt_line_80 : 80 < sizeLine := by decide
@[simp] theorem line_81 : 81 ≤ sizeLine := by decide
@[simp] theorem lt_line_81 : 81 < sizeLine := by decide
@[simp] theorem line_82 : 82 ≤ sizeLine := by decide
@[simp] theorem lt_line_82 : 82 < sizeLine := by decide
@[simp] theorem line_83 : 83 ≤ sizeLine := by decide
@[simp] theorem lt_line_83 : 83 < sizeLine := by decide
@[simp] theorem line_84 : 84 ≤ sizeLine := by decide
@[simp] theorem lt_line_84 : 84 < sizeLine := by decide
@[simp] theorem line_85 : 85 ≤ sizeLine := by decide
@[simp] theorem lt_line_85 : 85 < sizeLine := by decide
@[simp] theorem line_86 : 86 ≤ sizeLine := by decide
@[simp] theorem lt_line_86 : 86 < sizeLine := by decide
@[simp] theorem line_87 : 87 ≤ sizeLine := by decide
@[simp] theorem lt_line_87 : 87 < sizeLine := by decide
@[simp] theorem line_88 : 88 ≤ sizeLine := by decide
@[simp] theorem lt_line_88 : 88 < sizeLine := by decide
@[simp] theorem line_89 : 89 ≤ sizeLine := by decide
@[simp] theorem lt_line_89 : 89 < sizeLine := by decide
@[simp] theorem line_90 : 90 ≤ sizeLine := by decide
@[simp] theorem lt_line_90 : 90 < sizeLine := by decide
@[simp] theorem line_91 : 91 ≤ sizeLine := by decide
@[simp] theorem lt_line_91 : 91 < sizeLine := by decide
@[simp] theorem line_92 : 92 ≤ sizeLine := by decide
@[simp] theorem lt_line_92 : 92 < sizeLine := by decide
@[simp] theorem line_93 : 93 ≤ sizeLine := by decide
@[simp] theorem lt_line_93 : 93 < sizeLine := by decide
@[simp] theorem line_94 : 94 ≤ sizeLine := by decide
@[simp] theorem lt_line_94 : 94 < sizeLine := by decide
@[simp] theorem line_95 : 95 ≤ sizeLine := by decide
@[simp] theorem lt_line_95 : 95 < sizeLine := by decide
@[simp] theorem line_96 : 96 ≤ sizeLine := by decide
@[simp] theorem lt_line_96 : 96 < sizeLine := by decide
@[simp] theorem line_97 : 97 ≤ sizeLine := by decide
@[simp] theorem lt_line_97 : 97 < sizeLine := by decide
@[simp] theorem line_98 : 98 ≤ sizeLine := by decide
@[simp] theorem lt_line_98 : 98 < sizeLine := by decide
@[simp] theorem line_99 : 99 ≤ sizeLine := by decide
@[simp] theorem lt_line_99 : 99 < sizeLine := by decide
@[simp] theorem line_100 : 100 ≤ sizeLine := by decide
@[simp] theorem lt_line_100 : 100 < sizeLine := by decide
end SH
namespace SH
open PySem PySem.Spec PyProof.Rows L2 RZ DL
section
variable {W : Wd} {E : DX → Wd → Prop} {Q : RV → Wd → Prop} {s : Strm} {J : Wd}
@[simp high] theorem W_get {l : Nat} : (s.W J)[l + 2]? = J[l]? := (rfl)
@[simp] theorem W_set {l : Nat} {x : MO} : (s.W J).set (l + 2) x = s.W (J.set l x) := (rfl)
@[simp] theorem W_app {K : Wd} : s.W J ++ K = s.W (J ++ K) := (rfl)
@[simp] theorem set_last {a b : MO} {X : Wd} : (J ++ a :: X).set J.length b = J ++ b :: X := by
  rw [List.set_append]
  simp
@[simp] theorem get_last {a : MO} {X : Wd} : (J ++ a :: X)[J.length]? = some a := by simp
@[simp] theorem get_last2 {a c : MO} {X Y : Wd} : (J ++ a :: (X ++ c :: Y))[J.length + (X.length + 1)]? = some c := by
  rw [List.getElem?_append_right (by omega)]
  simp
@[simp] theorem set_last2 {a c d : MO} {X Y : Wd} : (J ++ a :: (X ++ c :: Y)).set (J.length + (X.length + 1)) d = J ++ a :: (X ++ d :: Y) := by
  rw [List.set_append, if_neg (by omega)]
  simp [List.set_append]
theorem ixN_nat {n h : Nat} (hh : h < n) : ixN n (h : Int) = some h := by unfold ixN; rw [if_pos (by omega), if_pos (by omega)]; simp
theorem pickM {E : DX → Wd → Prop} {N : Nat} {xs : List D} (ok : s.ok N) (hN : N < 2 ^ 40) (h0 : 0 < xs.length) (h1 : xs.length < 10000) (Q : RV → Wd → Prop)
    (h : ∀ (x : D) (s' : Strm), x ∈ xs → s'.ok (N + 1) → Q (.d x) (s'.W J)) : wpM (f__law_pick [.r 1, .d (.lst xs)]) (s.W J) Q E := pick ok hN h0 (small_le h1) Q h
end
end SH
namespace SH
open PySem PySem.Spec PyProof.Rows L2 RZ DL
section
variable {W : Wd} {E : DX → Wd → Prop} {Q : RV → Wd → Prop}
@[simp] theorem w_newL_7 {x0 x1 x2 x3 x4 x5 x6 : D} : wpM (newL false [.d x0, .d x1, .d x2, .d x3, .d x4, .d x5, .d x6]) W Q E = Q (.d (.lst [x0, x1, x2, x3, x4, x5, x6])) W := w_newL_f (ds := [x0, x1, x2, x3, x4, x5, x6])
@[simp] theorem w_newL_9 {x0 x1 x2 x3 x4 x5 x6 x7 x8 : D} : wpM (newL false [.d x0, .d x1, .d x2, .d x3, .d x4, .d x5, .d x6, .d x7, .d x8]) W Q E = Q (.d (.lst [x0, x1, x2, x3, x4, x5, x6, x7, x8])) W := w_newL_f (ds := [x0, x1, x2, x3, x4, x5, x6, x7, x8])
@[simp] theorem w_newL_10 {x0 x1 x2 x3 x4 x5 x6 x7 x8 x9 : D} : wpM (newL false [.d x0, .d x1, .d x2, .d x3, .d x4, .d x5, .d x6, .d x7, .d x8, .d x9]) W Q E = Q (.d (.lst [x0, x1, x2, x3, x4, x5, x6, x7, x8, x9])) W := w_newL_f (ds := [x0, x1, x2, x3, x4, x5, x6, x7, x8, x9])
@[simp] theorem w_newL_11 {x0 x1 x2 x3 x4 x5 x6 x7 x8 x9 x10 : D} : wpM (newL false [.d x0, .d x1, .d x2, .d x3, .d x4, .d x5, .d x6, .d x7, .d x8, .d x9, .d x10]) W Q E = Q (.d (.lst [x0, x1, x2, x3, x4, x5, x6, x7, x8, x9, x10])) W := w_newL_f (ds := [x0, x1, x2, x3, x4, x5, x6, x7, x8, x9, x10])
@[simp] theorem w_newL_12 {x0 x1 x2 x3 x4 x5 x6 x7 x8 x9 x10 x11 : D} : wpM (newL false [.d x0, .d x1, .d x2, .d x3, .d x4, .d x5, .d x6, .d x7, .d x8, .d x9, .d x10, .d x11]) W Q E = Q (.d (.lst [x0, x1, x2, x3, x4, x5, x6, x7, x8, x9, x10, x11])) W := w_newL_f (ds := [x0, x1, x2, x3, x4, x5, x6, x7, x8, x9, x10, x11])
@[simp] theorem w_newL_13 {x0 x1 x2 x3 x4 x5 x6 x7 x8 x9 x10 x11 x12 : D} : wpM (newL false [.d x0, .d x1, .d x2, .d x3, .d x4, .d x5, .d x6, .d x7, .d x8, .d x9, .d x10, .d x11, .d x12]) W Q E = Q (.d (.lst [x0, x1, x2, x3, x4, x5, x6, x7, x8, x9, x10, x11, x12])) W := w_newL_f (ds := [x0, x1, x2, x3, x4, x5, x6, x7, x8, x9, x10, x11, x12])
@[simp] theorem w_newL_14 {x0 x1 x2 x3 x4 x5 x6 x7 x8 x9 x10 x11 x12 x13 : D} : wpM (newL false [.d x0, .d x1, .d x2, .d x3, .d x4, .d x5, .d x6, .d x7, .d x8, .d x9, .d x10, .d x11, .d x12, .d x13]) W Q E = Q (.d (.lst [x0, x1, x2, x3, x4, x5, x6, x7, x8, x9, x10, x11, x12, x13])) W := w_newL_f (ds := [x0, x1, x2, x3, x4, x5, x6, x7, x8, x9, x10, x11, x12, x13])
@[simp] theorem w_newL_15 {x0 x1 x2 x3 x4 x5 x6 x7 x8 x9 x10 x11 x12 x13 x14 : D} : wpM (newL false [.d x0, .d x1, .d x2, .d x3, .d x4, .d x5, .d x6, .d x7, .d x8, .d x9, .d x10, .d x11, .d x12, .d x13, .d x14]) W Q E = Q (.d (.lst [x0, x1, x2, x3, x4, x5, x6, x7, x8, x9, x10, x11, x12, x13, x14])) W := w_newL_f (ds := [x0, x1, x2, x3, x4, x5, x6, x7, x8, x9, x10, x11, x12, x13, x14])
@[simp] theorem w_newL_16 {x0 x1 x2 x3 x4 x5 x6 x7 x8 x9 x10 x11 x12 x13 x14 x15 : D} : wpM (newL false [.d x0, .d x1, .d x2, .d x3, .d x4, .d x5, .d x6, .d x7, .d x8, .d x9, .d x10, .d x11, .d x12, .d x13, .d x14, .d x15]) W Q E = Q (.d (.lst [x0, x1, x2, x3, x4, x5, x6, x7, x8, x9, x10, x11, x12, x13, x14, x15])) W := w_newL_f (ds := [x0, x1, x2, x3, x4, x5, x6, x7, x8, x9, x10, x11, x12, x13, x14, x15])
@[simp] theorem w_newL_17 {x0 x1 x2 x3 x4 x5 x6 x7 x8 x9 x10 x11 x12 x13 x14 x15 x16 : D} : wpM (newL false [.d x0, .d x1, .d x2, .d x3, .d x4, .d x5, .d x6, .d x7, .d x8, .d x9, .d x10, .d x11, .d x12, .d x13, .d x14, .d x15, .d x16]) W Q E = Q (.d (.lst [x0, x1, x2, x3, x4, x5, x6, x7, x8, x9, x10, x11, x12, x13, x14, x15, x16])) W := w_newL_f (ds := [x0, x1, x2, x3, x4, x5, x6, x7, x8, x9, x10, x11, x12, x13, x14, x15, x16])
@[simp] theorem w_newL_18 {x0 x1 x2 x3 x4 x5 x6 x7 x8 x9 x10 x11 x12 x13 x14 x15 x16 x17 : D} : wpM (newL false [.d x0, .d x1, .d x2, .d x3, .d x4, .d x5, .d x6, .d x7, .d x8, .d x9, .d x10, .d x11, .d x12, .d x13, .d x14, .d x15, .d x16, .d x17]) W Q E = Q (.d (.lst [x0, x1, x2, x3, x4, x5, x6, x7, x8, x9, x10, x11, x12, x13, x14, x15, x16, x17])) W := w_newL_f (ds := [x0, x1, x2, x3, x4, x5, x6, x7, x8, x9, x10, x11, x12, x13, x14, x15, x16, x17])
@[simp] theorem w_newL_19 {x0 x1 x2 x3 x4 x5 x6 x7 x8 x9 x10 x11 x12 x13 x14 x15 x16 x17 x18 : D} : wpM (newL false [.d x0, .d x1, .d x2, .d x3, .d x4, .d x5, .d x6, .d x7, .d x8, .d x9, .d x10, .d x11, .d x12, .d x13, .d x14, .d x15, .d x16, .d x17, .d x18]) W Q E = Q (.d (.lst [x0, x1, x2, x3, x4, x5, x6, x7, x8, x9, x10, x11, x12, x13, x14, x15, x16, x17, x18])) W := w_newL_f (ds := [x0, x1, x2, x3, x4, x5, x6, x7, x8, x9, x10, x11, x12, x13, x14, x15, x16, x17, x18])
@[simp] theorem w_newL_20 {x0 x1 x2 x3 x4 x5 x6 x7 x8 x9 x10 x11 x12 x13 x14 x15 x16 x17 x18 x19 : D} : wpM (newL false [.d x0, .d x1, .d x2, .d x3, .d x4, .d x5, .d x6, .d x7, .d x8, .d x9, .d x10, .d x11, .d x12, .d x13, .d x14, .d x15, .d x16, .d x17, .d x18, .d x19]) W Q E = Q (.d (.lst [x0, x1, x2, x3, x4, x5, x6, x7, x8, x9, x10, x11, x12, x13, x14, x15, x16, x17, x18, x19])) W := w_newL_f (ds := [x0, x1, x2, x3, x4, x5, x6, x7, x8, x9, x10, x11, x12, x13, x14, x15, x16, x17, x18, x19])
@[simp] theorem w_newL_21 {x0 x1 x2 x3 x4 x5 x6 x7 x8 x9 x10 x11 x12 x13 x14 x15 x16 x17 x18 x19 x20 : D} : wpM (newL false [.d x0, .d x1, .d x2, .d x3, .d x4, .d x5, .d x6, .d x7, .d x8, .d x9, .d x10, .d x11, .d x12, .d x13, .d x14, .d x15, .d x16, .d x17, .d x18, .d x19, .d x20]) W Q E = Q (.d (.lst [x0, x1, x2, x3, x4, x5, x6, x7, x8, x9, x10, x11, x12, x13, x14, x15, x16, x17, x18, x19, x20])) W := w_newL_f (ds := [x0, x1, x2, x3, x4, x5, x6, x7, x8, x9, x10, x11, x12, x13, x14, x15, x16, x17, x18, x19, x20])
@[simp] theorem w_newL_22 {x0 x1 x2 x3 x4 x5 x6 x7 x8 x9 x10 x11 x12 x13 x14 x15 x16 x17 x18 x19 x20 x21 : D} : wpM (newL false [.d x0, .d x1, .d x2, .d x3, .d x4, .d x5, .d x6, .d x7, .d x8, .d x9, .d x10, .d x11, .d x12, .d x13, .d x14, .d x15, .d x16, .d x17, .d x18, .d x19, .d x20, .d x21]) W Q E = Q (.d (.lst [x0, x1, x2, x3, x4, x5, x6, x7, x8, x9, x10, x11, x12, x13, x14, x15, x16, x17, x18, x19, x20, x21])) W := w_newL_f (ds := [x0, x1, x2, x3, x4, x5, x6, x7, x8, x9, x10, x11, x12, x13, x14, x15, x16, x17, x18, x19, x20, x21])
@[simp] theorem w_newL_23 {x0 x1 x2 x3 x4 x5 x6 x7 x8 x9 x10 x11 x12 x13 x14 x15 x16 x17 x18 x19 x20 x21 x22 : D} : wpM (newL false [.d x0, .d x1, .d x2, .d x3, .d x4, .d x5, .d x6, .d x7, .d x8, .d x9, .d x10, .d x11, .d x12, .d x13, .d x14, .d x15, .d x16, .d x17, .d x18, .d x19, .d x20, .d x21, .d x22]) W Q E = Q (.d (.lst [x0, x1, x2, x3, x4, x5, x6, x7, x8, x9, x10, x11, x12, x13, x14, x15, x16, x17, x18, x19, x20, x21, x22])) W := w_newL_f (ds := [x0, x1, x2, x3, x4, x5, x6, x7, x8, x9, x10, x11, x12, x13, x14, x15, x16, x17, x18, x19, x20, x21, x22])
@[simp] theorem w_newL_24 {x0 x1 x2 x3 x4 x5 x6 x7 x8 x9 x10 x11 x12 x13 x14 x15 x16 x17 x18 x19 x20 x21 x22 x23 : D} : wpM (newL false [.d x0, .d x1, .d x2, .d x3, .d x4, .d x5, .d x6, .d x7, .d x8, .d x9, .d x10, .d x11, .d x12, .d x13, .d x14, .d x15, .d x16, .d x17, .d x18, .d x19, .d x20, .d x21, .d x22, .d x23]) W Q E = Q (.d (.lst [x0, x1, x2, x3, x4, x5, x6, x7, x8, x9, x10, x11, x12, x13, x14, x15, x16, x17, x18, x19, x20, x21, x22, x23])) W := w_newL_f (ds := [x0, x1, x2, x3, x4, x5, x6, x7, x8, x9, x10, x11, x12, x13, x14, x15, x16, x17, x18, x19, x20, x21, x22, x23])
@[simp] theorem w_newL_25 {x0 x1 x2 x3 x4 x5 x6 x7 x8 x9 x10 x11 x12 x13 x14 x15 x16 x17 x18 x19 x20 x21 x22 x23 x24 : D} : wpM (newL false [.d x0, .d x1, .d x2, .d x3, .d x4, .d x5, .d x6, .d x7, .d x8, .d x9, .d x10, .d x11, .d x12, .d x13, .d x14, .d x15, .d x16, .d x17, .d x18, .d x19, .d x20, .d x21, .d x22, .d x23, .d x24]) W Q E = Q (.d (.lst [x0, x1, x2, x3, x4, x5, x6, x7, x8, x9, x10, x11, x12, x13, x14, x15, x16, x17, x18, x19, x20, x21, x22, x23, x24])) W := w_newL_f (ds := [x0, x1, x2, x3, x4, x5, x6, x7, x8, x9, x10, x11, x12, x13, x14, x15, x16, x17, x18, x19, x20, x21, x22, x23, x24])
@[simp] theorem w_newL_26 {x0 x1 x2 x3 x4 x5 x6 x7 x8 x9 x10 x11 x12 x13 x14 x15 x16 x17 x18 x19 x20 x21 x22 x23 x24 x25 : D} : wpM (newL false [.d x0, .d x1, .d x2, .d x3, .d x4, .d x5, .d x6, .d x7, .d x8, .d x9, .d x10, .d x11, .d x12, .d x13, .d x14, .d x15, .d x16, .d x17, .d x18, .d x19, .d x20, .d x21, .d x22, .d x23, .d x24, .d x25]) W Q E = Q (.d (.lst [x0, x1, x2, x3, x4, x5, x6, x7, x8, x9, x10, x11, x12, x13, x14, x15, x16, x17, x18, x19, x20, x21, x22, x23, x24, x25])) W := w_newL_f (ds := [x0, x1, x2, x3, x4, x5, x6, x7, x8, x9, x10, x11, x12, x13, x14, x15, x16, x17, x18, x19, x20, x21, x22, x23, x24, x25])
@[simp] theorem w_newL_27 {x0 x1 x2 x3 x4 x5 x6 x7 x8 x9 x10 x11 x12 x13 x14 x15 x16 x17 x18 x19 x20 x21 x22 x23 x24 x25 x26 : D} : wpM (newL false [.d x0, .d x1, .d x2, .d x3, .d x4, .d x5, .d x6, .d x7, .d x8, .d x9, .d x10, .d x11, .d x12, .d x13, .d x14, .d x15, .d x16, .d x17, .d x18, .d x19, .d x20, .d x21, .d x22, .d x23, .d x24, .d x25, .d x26]) W Q E = Q (.d (.lst [x0, x1, x2, x3, x4, x5, x6, x7, x8, x9, x10, x11, x12, x13, x14, x15, x16, x17, x18, x19, x20, x21, x22, x23, x24, x25, x26])) W := w_newL_f (ds := [x0, x1, x2, x3, x4, x5, x6, x7, x8, x9, x10, x11, x12, x13, x14, x15, x16, x17, x18, x19, x20, x21, x22, x23, x24, x25, x26])
@[simp] theorem w_newL_28 {x0 x1 x2 x3 x4 x5 x6 x7 x8 x9 x10 x11 x12 x13 x14 x15 x16 x17 x18 x19 x20 x21 x22 x23 x24 x25 x26 x27 : D} : wpM (newL false [.d x0, .d x1, .d x2, .d x3, .d x4, .d x5, .d x6, .d x7, .d x8, .d x9, .d x10, .d x11, .d x12, .d x13, .d x14, .d x15, .d x16, .d x17, .d x18, .d x19, .d x20, .d x21, .d x22, .d x23, .d x24, .d x25, .d x26, .d x27]) W Q E = Q (.d (.lst [x0, x1, x2, x3, x4, x5, x6, x7, x8, x9, x10, x11, x12, x13, x14, x15, x16, x17, x18, x19, x20, x21, x22, x23, x24, x25, x26, x27])) W := w_newL_f (ds := [x0, x1, x2, x3, x4, x5, x6, x7, x8, x9, x10, x11, x12, x13, x14, x15, x16, x17, x18, x19, x20, x21, x22, x23, x24, x25, x26, x27])
@[simp] theorem w_newL_29 {x0 x1 x2 x3 x4 x5 x6 x7 x8 x9 x10 x11 x12 x13 x14 x15 x16 x17 x18 x19 x20 x21 x22 x23 x24 x25 x26 x27 x28 : D} : wpM (newL false [.d x0, .d x1, .d x2, .d x3, .d x4, .d x5, .d x6, .d x7, .d x8, .d x9, .d x10, .d x11, .d x12, .d x13, .d x14, .d x15, .d x16, .d x17, .d x18, .d x19, .d x20, .d x21, .d x22, .d x23, .d x24, .d x25, .d x26, .d x27, .d x28]) W Q E = Q (.d (.lst [x0, x1, x2, x3, x4, x5, x6, x7, x8, x9, x10, x11, x12, x13, x14, x15, x16, x17, x18, x19, x20, x21, x22, x23, x24, x25, x26, x27, x28])) W := w_newL_f (ds := [x0, x1, x2, x3, x4, x5, x6, x7, x8, x9, x10, x11, x12, x13, x14, x15, x16, x17, x18, x19, x20, x21, x22, x23, x24, x25, x26, x27, x28])
@[simp] theorem w_newL_30 {x0 x1 x2 x3 x4 x5 x6 x7 x8 x9 x10 x11 x12 x13 x14 x15 x16 x17 x18 x19 x20 x21 x22 x23 x24 x25 x26 x27 x28 x29 : D} : wpM (newL false [.d x0, .d x1, .d x2, .d x3, .d x4, .d x5, .d x6, .d x7, .d x8, .d x9, .d x10, .d x11, .d x12, .d x13, .d x14, .d x15, .d x16, .d x17, .d x18, .d x19, .d x20, .d x21, .d x22, .d x23, .d x24, .d x25, .d x26, .d x27, .d x28, .d x29]) W Q E = Q (.d (.lst [x0, x1, x2, x3, x4, x5, x6, x7, x8, x9, x10, x11, x12, x13, x14, x15, x16, x17, x18, x19, x20, x21, x22, x23, x24, x25, x26, x27, x28, x29])) W := w_newL_f (ds := [x0, x1, x2, x3, x4, x5, x6, x7, x8, x9, x10, x11, x12, x13, x14, x15, x16, x17, x18, x19, x20, x21, x22, x23, x24, x25, x26, x27, x28, x29])
@[simp] theorem w_newL_31 {x0 x1 x2 x3 x4 x5 x6 x7 x8 x9 x10 x11 x12 x13 x14 x15 x16 x17 x18 x19 x20 x21 x22 x23 x24 x25 x26 x27 x28 x29 x30 : D} : wpM (newL false [.d x0, .d x1, .d x2, .d x3, .d x4, .d x5, .d x6, .d x7, .d x8, .d x9, .d x10, .d x11, .d x12, .d x13, .d x14, .d x15, .d x16, .d x17, .d x18, .d x19, .d x20, .d x21, .d x22, .d x23, .d x24, .d x25, .d x26, .d x27, .d x28, .d x29, .d x30]) W Q E = Q (.d (.lst [x0, x1, x2, x3, x4, x5, x6, x7, x8, x9, x10, x11, x12, x13, x14, x15, x16, x17, x18, x19, x20, x21, x22, x23, x24, x25, x26, x27, x28, x29, x30])) W := w_newL_f (ds := [x0, x1, x2, x3, x4, x5, x6, x7, x8, x9, x10, x11, x12, x13, x14, x15, x16, x17, x18, x19, x20, x21, x22, x23, x24, x25, x26, x27, x28, x29, x30])
@[simp] theorem w_newL_32 {x0 x1 x2 x3 x4 x5 x6 x7 x8 x9 x10 x11 x12 x13 x14 x15 x16 x17 x18 x19 x20 x21 x22 x23 x24 x25 x26 x27 x28 x29 x30 x31 : D} : wpM (newL false [.d x0, .d x1, .d x2, .d x3, .d x4, .d x5, .d x6, .d x7, .d x8, .d x9, .d x10, .d x11, .d x12, .d x13, .d x14, .d x15, .d x16, .d x17, .d x18, .d x19, .d x20, .d x21, .d x22, .d x23, .d x24, .d x25, .d x26, .d x27, .d x28, .d x29, .d x30, .d x31]) W Q E = Q (.d (.lst [x0, x1, x2, x3, x4, x5, x6, x7, x8, x9, x10, x11, x12, x13, x14, x15, x16, x17, x18, x19, x20, x21, x22, x23, x24, x25, x26, x27, x28, x29, x30, x31])) W := w_newL_f (ds := [x0, x1, x2, x3, x4, x5, x6, x7, x8, x9, x10, x11, x12, x13, x14, x15, x16, x17, x18, x19, x20, x21, x22, x23, x24, x25, x26, x27, x28, x29, x30, x31])
@[simp] theorem w_newL_33 {x0 x1 x2 x3 x4 x5 x6 x7 x8 x9 x10 x11 x12 x13 x14 x15 x16 x17 x18 x19 x20 x21 x22 x23 x24 x25 x26 x27 x28 x29 x30 x31 x32 : D} : wpM (newL false [.d x0, .d x1, .d x2, .d x3, .d x4, .d x5, .d x6, .d x7, .d x8, .d x9, .d x10, .d x11, .d x12, .d x13, .d x14, .d x15, .d x16, .d x17, .d x18, .d x19, .d x20, .d x21, .d x22, .d x23, .d x24, .d x25, .d x26, .d x27, .d x28, .d x29, .d x30, .d x31, .d x32]) W Q E = Q (.d (.lst [x0, x1, x2, x3, x4, x5, x6, x7, x8, x9, x10, x11, x12, x13, x14, x15, x16, x17, x18, x19, x20, x21, x22, x23, x24, x25, x26, x27, x28, x29, x30, x31, x32])) W := w_newL_f (ds := [x0, x1, x2, x3, x4, x5, x6, x7, x8, x9, x10, x11, x12, x13, x14, x15, x16, x17, x18, x19, x20, x21, x22, x23, x24, x25, x26, x27, x28, x29, x30, x31, x32])
@[simp] theorem w_newL_34 {x0 x1 x2 x3 x4 x5 x6 x7 x8 x9 x10 x11 x12 x13 x14 x15 x16 x17 x18 x19 x20 x21 x22 x23 x24 x25 x26 x27 x28 x29 x30 x31 x32 x33 : D} : wpM (newL false [.d x0, .d x1, .d x2, .d x3, .d x4, .d x5, .d x6, .d x7, .d x8, .d x9, .d x10, .d x11, .d x12, .d x13, .d x14, .d x15, .d x16, .d x17, .d x18, .d x19, .d x20, .d x21, .d x22, .d x23, .d x24, .d x25, .d x26, .d x27, .d x28, .d x29, .d x30, .d x31, .d x32, .d x33]) W Q E = Q (.d (.lst [x0, x1, x2, x3, x4, x5, x6, x7, x8, x9, x10, x11, x12, x13, x14, x15, x16, x17, x18, x19, x20, x21, x22, x23, x24, x25, x26, x27, x28, x29, x30, x31, x32, x33])) W := w_newL_f (ds := [x0, x1, x2, x3, x4, x5, x6, x7, x8, x9, x10, x11, x12, x13, x14, x15, x16, x17, x18, x19, x20, x21, x22, x23, x24, x25, x26, x27, x28, x29, x30, x31, x32, x33])
@[simp] theorem w_newL_35 {x0 x1 x2 x3 x4 x5 x6 x7 x8 x9 x10 x11 x12 x13 x14 x15 x16 x17 x18 x19 x20 x21 x22 x23 x24 x25 x26 x27 x28 x29 x30 x31 x32 x33 x34 : D} : wpM (newL false [.d x0, .d x1, .d x2, .d x3, .d x4, .d x5, .d x6, .d x7, .d x8, .d x9, .d x10, .d x11, .d x12, .d x13, .d x14, .d x15, .d x16, .d x17, .d x18, .d x19, .d x20, .d x21, .d x22, .d x23, .d x24, .d x25, .d x26, .d x27, .d x28, .d x29, .d x30, .d x31, .d x32, .d x33, .d x34]) W Q E = Q (.d (.lst [x0, x1, x2, x3, x4, x5, x6, x7, x8, x9, x10, x11, x12, x13, x14, x15, x16, x17, x18, x19, x20, x21, x22, x23, x24, x25, x26, x27, x28, x29, x30, x31, x32, x33, x34])) W := w_newL_f (ds := [x0, x1, x2, x3, x4, x5, x6, x7, x8, x9, x10, x11, x12, x13, x14, x15, x16, x17, x18, x19, x20, x21, x22, x23, x24, x25, x26, x27, x28, x29, x30, x31, x32, x33, x34])
@[simp] theorem w_newL_36 {x0 x1 x2 x3 x4 x5 x6 x7 x8 x9 x10 x11 x12 x13 x14 x15 x16 x17 x18 x19 x20 x21 x22 x23 x24 x25 x26 x27 x28 x29 x30 x31 x32 x33 x34 x35 : D} : wpM (newL false [.d x0, .d x1, .d x2, .d x3, .d x4, .d x5, .d x6, .d x7, .d x8, .d x9, .d x10, .d x11, .d x12, .d x13, .d x14, .d x15, .d x16, .d x17, .d x18, .d x19, .d x20, .d x21, .d x22, .d x23, .d x24, .d x25, .d x26, .d x27, .d x28, .d x29, .d x30, .d x31, .d x32, .d x33, .d x34, .d x35]) W Q E = Q (.d (.lst [x0, x1, x2, x3, x4, x5, x6, x7, x8, x9, x10, x11, x12, x13, x14, x15, x16, x17, x18, x19, x20, x21, x22, x23, x24, x25, x26, x27, x28, x29, x30, x31, x32, x33, x34, x35])) W := w_newL_f (ds := [x0, x1, x2, x3, x4, x5, x6, x7, x8, x9, x10, x11, x12, x13, x14, x15, x16, x17, x18, x19, x20, x21, x22, x23, x24, x25, x26, x27, x28, x29, x30, x31, x32, x33, x34, x35])
@[simp] theorem w_newL_37 {x0 x1 x2 x3 x4 x5 x6 x7 x8 x9 x10 x11 x12 x13 x14 x15 x16 x17 x18 x19 x20 x21 x22 x23 x24 x25 x26 x27 x28 x29 x30 x31 x32 x33 x34 x35 x36 : D} : wpM (newL false [.d x0, .d x1, .d x2, .d x3, .d x4, .d x5, .d x6, .d x7, .d x8, .d x9, .d x10, .d x11, .d x12, .d x13, .d x14, .d x15, .d x16, .d x17, .d x18, .d x19, .d x20, .d x21, .d x22, .d x23, .d x24, .d x25, .d x26, .d x27, .d x28, .d x29, .d x30, .d x31, .d x32, .d x33, .d x34, .d x35, .d x36]) W Q E = Q (.d (.lst [x0, x1, x2, x3, x4, x5, x6, x7, x8, x9, x10, x11, x12, x13, x14, x15, x16, x17, x18, x19, x20, x21, x22, x23, x24, x25, x26, x27, x28, x29, x30, x31, x32, x33, x34, x35, x36])) W := w_newL_f (ds := [x0, x1, x2, x3, x4, x5, x6, x7, x8, x9, x10, x11, x12, x13, x14, x15, x16, x17, x18, x19, x20, x21, x22, x23, x24, x25, x26, x27, x28, x29, x30, x31, x32, x33, x34, x35, x36])
@[simp] theorem w_newL_38 {x0 x1 x2 x3 x4 x5 x6 x7 x8 x9 x10 x11 x12 x13 x14 x15 x16 x17 x18 x19 x20 x21 x22 x23 x24 x25 x26 x27 x28 x29 x30 x31 x32 x33 x34 x35 x36 x37 : D} : wpM (newL false [.d x0, .d x1, .d x2, .d x3, .d x4, .d x5, .d x6, .d x7, .d x8, .d x9, .d x10, .d x11, .d x12, .d x13, .d x14, .d x15, .d x16, .d x17, .d x18, .d x19, .d x20, .d x21, .d x22, .d x23, .d x24, .d x25, .d x26, .d x27, .d x28, .d x29, .d x30, .d x31, .d x32, .d x33, .d x34, .d x35, .d x36, .d x37]) W Q E = Q (.d (.lst [x0, x1, x2, x3, x4, x5, x6, x7, x8, x9, x10, x11, x12, x13, x14, x15, x16, x17, x18, x19, x20, x21, x22, x23, x24, x25, x26, x27, x28, x29, x30, x31, x32, x33, x34, x35, x36, x37])) W := w_newL_f (ds := [x0, x1, x2, x3, x4, x5, x6, x7, x8, x9, x10, x11, x12, x13, x14, x15, x16, x17, x18, x19, x20, x21, x22, x23, x24, x25, x26, x27, x28, x29, x30, x31, x32, x33, x34, x35, x36, x37])
@[simp] theorem w_newL_39 {x0 x1 x2 x3 x4 x5 x6 x7 x8 x9 x10 x11 x12 x13 x14 x15 x16 x17 x18 x19 x20 x21 x22 x23 x24 x25 x26 x27 x28 x29 x30 x31 x32 x33 x34 x35 x36 x37 x38 : D} : wpM (newL false [.d x0, .d x1, .d x2, .d x3, .d x4, .d x5, .d x6, .d x7, .d x8, .d x9, .d x10, .d x11, .d x12, .d x13, .d x14, .d x15, .d x16, .d x17, .d x18, .d x19, .d x20, .d x21, .d x22, .d x23, .d x24, .d x25, .d x26, .d x27, .d x28, .d x29, .d x30, .d x31, .d x32, .d x33, .d x34, .d x35, .d x36, .d x37, .d x38]) W Q E = Q (.d (.lst [x0, x1, x2, x3, x4, x5, x6, x7, x8, x9, x10, x11, x12, x13, x14, x15, x16, x17, x18, x19, x20, x21, x22, x23, x24, x25, x26, x27, x28, x29, x30, x31, x32, x33, x34, x35, x36, x37, x38])) W := w_newL_f (ds := [x0, x1, x2, x3, x4, x5, x6, x7, x8, x9, x10, x11, x12, x13, x14, x15, x16, x17, x18, x19, x20, x21, x22, x23, x24, x25, x26, x27, x28, x29, x30, x31, x32, x33, x34, x35, x36, x37, x38])
@[simp] theorem w_newL_40 {x0 x1 x2 x3 x4 x5 x6 x7 x8 x9 x10 x11 x12 x13 x14 x15 x16 x17 x18 x19 x20 x21 x22 x23 x24 x25 x26 x27 x28 x29 x30 x31 x32 x33 x34 x35 x36 x37 x38 x39 : D} : wpM (newL false [.d x0, .d x1, .d x2, .d x3, .d x4, .d x5, .d x6, .d x7, .d x8, .d x9, .d x10, .d x11, .d x12, .d x13, .d x14, .d x15, .d x16, .d x17, .d x18, .d x19, .d x20, .d x21, .d x22, .d x23, .d x24, .d x25, .d x26, .d x27, .d x28, .d x29, .d x30, .d x31, .d x32, .d x33, .d x34, .d x35, .d x36, .d x37, .d x38, .d x39]) W Q E = Q (.d (.lst [x0, x1, x2, x3, x4, x5, x6, x7, x8, x9, x10, x11, x12, x13, x14, x15, x16, x17, x18, x19, x20, x21, x22, x23, x24, x25, x26, x27, x28, x29, x30, x31, x32, x33, x34, x35, x36, x37, x38, x39])) W := w_newL_f (ds := [x0, x1, x2, x3, x4, x5, x6, x7, x8, x9, x10, x11, x12, x13, x14, x15, x16, x17, x18, x19, x20, x21, x22, x23, x24, x25, x26, x27, x28, x29, x30, x31, x32, x33, x34, x35, x36, x37, x38, x39])
@[simp] theorem w_newT_6 {x0 x1 x2 x3 x4 x5 : D} : wpM (newT [.d x0, .d x1, .d x2, .d x3, .d x4, .d x5]) W Q E = Q (.d (.tup [x0, x1, x2, x3, x4, x5])) W := w_newT (ds := [x0, x1, x2, x3, x4, x5])
@[simp] theorem w_newT_7 {x0 x1 x2 x3 x4 x5 x6 : D} : wpM (newT [.d x0, .d x1, .d x2, .d x3, .d x4, .d x5, .d x6]) W Q E = Q (.d (.tup [x0, x1, x2, x3, x4, x5, x6])) W := w_newT (ds := [x0, x1, x2, x3, x4, x5, x6])
@[simp] theorem w_newT_8 {x0 x1 x2 x3 x4 x5 x6 x7 : D} : wpM (newT [.d x0, .d x1, .d x2, .d x3, .d x4, .d x5, .d x6, .d x7]) W Q E = Q (.d (.tup [x0, x1, x2, x3, x4, x5, x6, x7])) W := w_newT (ds := [x0, x1, x2, x3, x4, x5, x6, x7])
@[simp] theorem w_newT_9 {x0 x1 x2 x3 x4 x5 x6 x7 x8 : D} : wpM (newT [.d x0, .d x1, .d x2, .d x3, .d x4, .d x5, .d x6, .d x7, .d x8]) W Q E = Q (.d (.tup [x0, x1, x2, x3, x4, x5, x6, x7, x8])) W := w_newT (ds := [x0, x1, x2, x3, x4, x5, x6, x7, x8])
@[simp] theorem w_newT_10 {x0 x1 x2 x3 x4 x5 x6 x7 x8 x9 : D} : wpM (newT [.d x0, .d x1, .d x2, .d x3, .d x4, .d x5, .d x6, .d x7, .d x8, .d x9]) W Q E = Q (.d (.tup [x0, x1, x2, x3, x4, x5, x6, x7, x8, x9])) W := w_newT (ds := [x0, x1, x2, x3, x4, x5, x6, x7, x8, x9])
@[simp] theorem w_newT_11 {x0 x1 x2 x3 x4 x5 x6 x7 x8 x9 x10 : D} : wpM (newT [.d x0, .d x1, .d x2, .d x3, .d x4, .d x5, .d x6, .d x7, .d x8, .d x9, .d x10]) W Q E = Q (.d (.tup [x0, x1, x2, x3, x4, x5, x6, x7, x8, x9, x10])) W := w_newT (ds := [x0, x1, x2, x3, x4, x5, x6, x7, x8, x9, x10])
@[simp] theorem w_newT_12 {x0 x1 x2 x3 x4 x5 x6 x7 x8 x9 x10 x11 : D} : wpM (newT [.d x0, .d x1, .d x2, .d x3, .d x4, .d x5, .d x6, .d x7, .d x8, .d x9, .d x10, .d x11]) W Q E = Q (.d (.tup [x0, x1, x2, x3, x4, x5, x6, x7, x8, x9, x10, x11])) W := w_newT (ds := [x0, x1, x2, x3, x4, x5, x6, x7, x8, x9, x10, x11])
@[simp] theorem w_newT_13 {x0 x1 x2 x3 x4 x5 x6 x7 x8 x9 x10 x11 x12 : D} : wpM (newT [.d x0, .d x1, .d x2, .d x3, .d x4, .d x5, .d x6, .d x7, .d x8, .d x9, .d x10, .d x11, .d x12]) W Q E = Q (.d (.tup [x0, x1, x2, x3, x4, x5, x6, x7, x8, x9, x10, x11, x12])) W := w_newT (ds := [x0, x1, x2, x3, x4, x5, x6, x7, x8, x9, x10, x11, x12])
@[simp] theorem w_newT_14 {x0 x1 x2 x3 x4 x5 x6 x7 x8 x9 x10 x11 x12 x13 : D} : wpM (newT [.d x0, .d x1, .d x2, .d x3, .d x4, .d x5, .d x6, .d x7, .d x8, .d x9, .d x10, .d x11, .d x12, .d x13]) W Q E = Q (.d (.tup [x0, x1, x2, x3, x4, x5, x6, x7, x8, x9, x10, x11, x12, x13])) W := w_newT (ds := [x0, x1, x2, x3, x4, x5, x6, x7, x8, x9, x10, x11, x12, x13])
@[simp] theorem w_newT_15 {x0 x1 x2 x3 x4 x5 x6 x7 x8 x9 x10 x11 x12 x13 x14 : D} : wpM (newT [.d x0, .d x1, .d x2, .d x3, .d x4, .d x5, .d x6, .d x7, .d x8, .d x9, .d x10, .d x11, .d x12, .d x13, .d x14]) W Q E = Q (.d (.tup [x0, x1, x2, x3, x4, x5, x6, x7, x8, x9, x10, x11, x12, x13, x14])) W := w_newT (ds := [x0, x1, x2, x3, x4, x5, x6, x7, x8, x9, x10, x11, x12, x13, x14])
end
end SH
namespace SH
open PySem PySem.Spec PyProof.Rows L2 RZ DL
section
variable {E : DX → Wd → Prop} {Q : RV → Wd → Prop} {s : Strm} {J : Wd} {N : Nat} {δ : DL.Env} {T : RV → DL.Env → M DL.Env} {Ta : DL.Env → M Bool} {F : DL.Env → M RV}
/-- a comprehension whose items draw -/
theorem lc_draw {mk : Bool} (ds0 : List D) (c : Nat) (Rr : Nat → D → Prop) (ok : s.ok N) (hz : ds0.length < sizeLine)
    (step : ∀ (i : Nat) (d : D) (s1 : Strm), ds0[i]? = some d → s1.ok (N + c * i) → wpM (T (.d d) δ) (s1.W J) (fun δ1 W1 => wpM (F δ1) W1 (fun v W3 => ∃ (x : D) (s2 : Strm), v = .d x ∧ Rr i x ∧ W3 = s2.W J ∧ s2.ok (N + c * (i + 1))) fun _ _ => False) fun _ _ => False)
    (h : ∀ (xs : List D) (s' : Strm), xs.length = ds0.length → (∀ (i : Nat) (x : D), xs[i]? = some x → Rr i x) → s'.ok (N + c * ds0.length) → wpM (newL mk (xs.map RV.d)) (s'.W J) Q fun _ _ => False) :
    wpM (lcF mk T evYes F δ ds0) (s.W J) Q E := by
  refine w_noEr ?_
  refine goLc_inv (P := fun i acc W' => ∃ (xs : List D) (s' : Strm), acc = xs.map RV.d ∧ xs.length = i ∧ (∀ (j : Nat) (x : D), xs[j]? = some x → Rr j x) ∧ W' = s'.W J ∧ s'.ok (N + c * i)) ds0 hz (fun i d acc W' hd hp => ?_) ds0 0 [] (s.W J) rfl (Nat.zero_le _) (Nat.le_refl _) ⟨[], s, rfl, rfl, fun j x hx => by simp at hx, rfl, ok⟩ fun acc W' _ hp => ?_
  · obtain ⟨xs, s', rfl, hl, hx, rfl, ok'⟩ := hp
    refine wpM_and (step i d s' hd ok') fun δ1 W1 h1 => ?_
    show wpM (evYes δ1) W1 _ _
    refine (w_ret (a := true)).mpr ?_
    rw [if_pos rfl]
    refine wpM_and h1 fun v W3 h3 => ?_
    obtain ⟨x, s2, rfl, hr, rfl, ok2⟩ := h3
    refine ⟨xs ++ [x], s2, by simp, by simp [hl], fun j y hy => ?_, rfl, ok2⟩
    by_cases hj : j < xs.length
    · rw [List.getElem?_append_left hj] at hy
      exact hx j y hy
    · rw [List.getElem?_append_right (by omega)] at hy
      have : j = i := by
        have := (List.getElem?_eq_some_iff.mp hy).1
        simp at this
        omega
      subst this
      rw [hl, Nat.sub_self] at hy
      cases hy
      exact hr
  · obtain ⟨xs, s', rfl, hl, hx, rfl, ok'⟩ := hp
    exact h xs s' hl hx ok'
/-- a comprehension whose test draws -/
theorem lc_drawF (ds0 : List D) (c : Nat) (f : D → D) (ok : s.ok N) (hz : ds0.length < sizeLine)
    (step : ∀ (i : Nat) (d : D) (s1 : Strm), ds0[i]? = some d → s1.ok (N + c * i) → wpM (T (.d d) δ) (s1.W J) (fun δ1 W1 => wpM (Ta δ1) W1 (fun b W2 => ∃ s2 : Strm, W2 = s2.W J ∧ s2.ok (N + c * (i + 1)) ∧ (b = true → wpM (F δ1) W2 (fun v W3 => v = .d (f d) ∧ W3 = W2) fun _ _ => False)) fun _ _ => False) fun _ _ => False)
    (h : ∀ (xs : List D) (s' : Strm), xs.Sublist ds0 → s'.ok (N + c * ds0.length) → Q (.d (.lst (xs.map f))) (s'.W J)) :
    wpM (lcF false T Ta F δ ds0) (s.W J) Q E := by
  refine w_noEr ?_
  refine goLc_inv (P := fun i acc W' => ∃ (xs : List D) (s' : Strm), acc = (xs.map f).map RV.d ∧ xs.Sublist (ds0.take i) ∧ W' = s'.W J ∧ s'.ok (N + c * i)) ds0 hz (fun i d acc W' hd hp => ?_) ds0 0 [] (s.W J) rfl (Nat.zero_le _) (Nat.le_refl _) ⟨[], s, rfl, List.nil_sublist _, rfl, ok⟩ fun acc W' _ hp => ?_
  · obtain ⟨xs, s', rfl, hl, rfl, ok'⟩ := hp
    refine wpM_and (step i d s' hd ok') fun δ1 W1 h1 => wpM_and h1 fun b W2 h2 => ?_
    obtain ⟨s2, rfl, ok2, h3⟩ := h2
    have et : ds0.take (i + 1) = ds0.take i ++ [d] := by rw [List.take_add_one, hd]; rfl
    cases b with
    | true =>
      rw [if_pos rfl]
      refine wpM_and (h3 rfl) fun v W3 h5 => ?_
      obtain ⟨rfl, rfl⟩ := h5
      exact ⟨xs ++ [d], s2, by simp, by rw [et]; exact hl.append (List.Sublist.refl _), rfl, ok2⟩
    | false =>
      rw [if_neg (by decide)]
      exact ⟨xs, s2, rfl, by rw [et]; exact hl.trans (List.sublist_append_left _ _), rfl, ok2⟩
  · obtain ⟨xs, s', rfl, hl, rfl, ok'⟩ := hp
    rw [w_newL_f]
    rw [List.take_length] at hl
    exact h xs s' hl ok'
end
end SH
namespace SH
open PySem PySem.Spec PyProof.Rows L2 RZ DL
theorem cutL_take {α : Type} (l : List α) (n : Nat) : cutL l none (some (n : Int)) = l.take n := by
  unfold cutL
  rw [HT.sIx_none, show HT.sIx l.length l.length (some (n : Int)) = min n l.length from HT.sIx_nat _ _ _]
  by_cases h : n ≤ l.length
  · rw [Nat.min_eq_left h]; simp
  · rw [Nat.min_eq_right (by omega), List.take_of_length_le (by simp), List.take_of_length_le (by omega)]; simp
theorem cutL_drop {α : Type} (l : List α) (n : Nat) : cutL l (some (n : Int)) none = l.drop n := by
  unfold cutL
  rw [HT.sIx_none, show HT.sIx l.length 0 (some (n : Int)) = min n l.length from HT.sIx_nat _ _ _]
  by_cases h : n ≤ l.length
  · rw [Nat.min_eq_left h, List.take_of_length_le (by simp)]
  · rw [Nat.min_eq_right (by omega), List.drop_of_length_le (by omega), List.drop_of_length_le (by omega)]; simp
theorem cutL_drop1 {α : Type} (l : List α) (n : Nat) : cutL l (some ((n : Int) + 1)) none = l.drop (n + 1) := cutL_drop l (n + 1)
theorem cutL_init {α : Type} (l : List α) : cutL l none (some (-1)) = l.dropLast := by
  unfold cutL
  have : HT.sIx l.length l.length (some (-1)) = l.length - 1 := by
    unfold HT.sIx
    simp
    omega
  rw [HT.sIx_none, this, List.dropLast_eq_take]
  simp
theorem char_lt (c : Char) : c.toNat < 1114112 := by
  have h : c.val.toNat < 0xd800 ∨ (0xdfff < c.val.toNat ∧ c.val.toNat < 0x110000) := c.valid
  have e : c.toNat = c.val.toNat := rfl
  omega
theorem ofString_ok (z : String) : PyData.strOk (PySem.Str.ofString z) = true := by
  rw [PySem.Str.ofString_eq_toList]
  unfold PyData.strOk
  simp
  intro c _
  exact char_lt c
end SH
set_option Elab.async false
set_option linter.all false
set_option maxRecDepth 100000
set_option maxHeartbeats 4000000
set_option autoImplicit false
/-! MY: comprehensions over lists that may change later. -/
namespace SH
open PySem PySem.Spec PyProof.Rows L2 RZ DL
section
variable {W : Wd} {E : DX → Wd → Prop} {Q : RV → Wd → Prop} {δ : DL.Env} {T : RV → DL.Env → M DL.Env} {Ta : DL.Env → M Bool} {F : DL.Env → M RV}
theorem goLcP_pure {α : Type} {l : Nat} {ys : List D} {mk : Bool} (g f : α → D) (c : α → Bool) (hW : IsAt l ys W) : ∀ (xs : List α) (acc : List RV), acc.length + xs.length < sizeLine →
    (∀ x ∈ xs, wpM (T (.d (g x)) δ) W (fun δ1 W1 => wpM (Ta δ1) W1 (fun b W2 => b = c x ∧ (b = true → wpM (F δ1) W2 (fun v W3 => v = .d (f x) ∧ W3 = W) fun _ _ => False) ∧ (b = false → W2 = W)) fun _ _ => False) fun _ _ => False) →
    wpM (newL mk (acc ++ ((xs.filter c).map f).map RV.d)) W Q E → wpM (goLcP l ys mk T Ta F δ (xs.map g) acc) W Q E
  | [], acc, _, _, h => by
    rw [List.map_nil, goLcP, w_bind, w_stays]
    simp at h
    exact ⟨hW, h⟩
  | x :: xs, acc, hz, step, h => by
    simp at hz
    rw [List.map_cons, goLcP]
    refine wpM_bind.mpr ((w_stays (Q := _)).mpr ⟨hW, wpM_bind.mpr ?_⟩)
    refine wpM_mono (step x (by simp)) (fun δ1 W1 h1 => ?_) fun _ _ z => z.elim
    refine wpM_bind.mpr ?_
    refine wpM_mono h1 (fun b W2 h2 => ?_) fun _ _ z => z.elim
    obtain ⟨rfl, h3, h4⟩ := h2
    cases e : c x with
    | true =>
      rw [if_pos rfl]
      refine wpM_bind.mpr ?_
      refine wpM_mono (h3 e) (fun v W3 h5 => ?_) fun _ _ z => z.elim
      rw [h5.1, h5.2]
      refine wpM_bind.mpr ?_
      rw [w_guard]
      refine ⟨by omega, goLcP_pure g f c hW xs _ (by simp; omega) (fun y hy => step y (by simp [hy])) ?_⟩
      simpa [List.filter_cons, e] using h
    | false =>
      rw [if_neg (by decide), h4 e]
      exact goLcP_pure g f c hW xs _ (by omega) (fun y hy => step y (by simp [hy])) (by simpa [List.filter_cons, e] using h)
theorem lcP_eq {α : Type} {l : Nat} {ys : List D} (xs : List α) (g f : α → D) (c : α → Bool) (hW : IsAt l ys W) (hz : xs.length < sizeLine)
    (step : ∀ x ∈ xs, wpM (T (.d (g x)) δ) W (fun δ1 W1 => wpM (Ta δ1) W1 (fun b W2 => b = c x ∧ (b = true → wpM (F δ1) W2 (fun v W3 => v = .d (f x) ∧ W3 = W) fun _ _ => False) ∧ (b = false → W2 = W)) fun _ _ => False) fun _ _ => False) :
    wpM (lcFP false T Ta F δ (l, ys, xs.map g)) W Q E = Q (.d (.lst ((xs.filter c).map f))) W := by
  refine pu_by fun Q E hq => w_noEr ?_
  refine goLcP_pure g f c hW xs [] (by simpa using hz) step ?_
  rw [List.nil_append, w_newL_f]
  exact hq
/-- a new list that may change -/
theorem lcP_mapT {α : Type} {l : Nat} {ys : List D} (xs : List α) (g f : α → D) (hW : IsAt l ys W) (hz : xs.length < sizeLine)
    (step : ∀ x ∈ xs, wpM (T (.d (g x)) δ) W (fun δ1 W1 => wpM (F δ1) W1 (fun v W3 => v = .d (f x) ∧ W3 = W) fun _ _ => False) fun _ _ => False) :
    wpM (lcFP true T evYes F δ (l, ys, xs.map g)) W Q E = Q (.r W.length) (W ++ [.lst ((xs.map f).map RV.d)]) := by
  refine pu_by fun Q E hq => w_noEr ?_
  refine goLcP_pure g f (fun _ => true) hW xs [] (by simpa using hz) (fun x hx => wpM_and (step x hx) fun δ1 W1 h1 => ⟨rfl, fun _ => h1, fun z => Bool.noConfusion z⟩) ?_
  rw [List.filter_eq_self.mpr fun _ _ => rfl, List.nil_append, w_newL_t]
  exact hq
/-- over a list that never changes -/
theorem lc_mapT {α : Type} (xs : List α) (g f : α → D) (hz : xs.length < sizeLine)
    (step : ∀ x ∈ xs, wpM (T (.d (g x)) δ) W (fun δ1 W1 => wpM (F δ1) W1 (fun v W3 => v = .d (f x) ∧ W3 = W) fun _ _ => False) fun _ _ => False) :
    wpM (lcF true T evYes F δ (xs.map g)) W Q E = Q (.r W.length) (W ++ [.lst ((xs.map f).map RV.d)]) := by
  refine pu_by fun Q E hq => w_noEr ?_
  refine goLc_inv (P := fun i acc W' => acc = (((xs.take i).map f).map RV.d) ∧ W' = W) (xs.map g) (by simpa using hz) (fun i d acc W' hd hp => ?_) (xs.map g) 0 [] W rfl (Nat.zero_le _) (Nat.le_refl _) ⟨by simp, rfl⟩ fun acc W' _ hp => ?_
  · obtain ⟨rfl, rfl⟩ := hp
    rw [List.getElem?_map] at hd
    cases hx : xs[i]? with
    | none => rw [hx] at hd; cases hd
    | some x =>
      rw [hx] at hd
      cases hd
      refine wpM_and (step x (List.mem_of_getElem? hx)) fun δ1 W1 h1 => ?_
      rw [List.take_add_one, hx]
      refine wpM_and (show wpM (evYes δ1) W1 (fun b W2 => b = true ∧ W2 = W1) _ from ⟨rfl, rfl⟩) fun b W2 hb => ?_
      obtain ⟨rfl, rfl⟩ := hb
      rw [if_pos rfl]
      refine wpM_and h1 fun v W3 h5 => ?_
      obtain ⟨rfl, rfl⟩ := h5
      simp
  · obtain ⟨rfl, rfl⟩ := hp
    rw [w_newL_t, List.length_map, List.take_length]
    exact hq
end
end SH
set_option Elab.async false
set_option linter.all false
set_option maxRecDepth 100000
set_option maxHeartbeats 4000000
noncomputable section
namespace K21
open PySem PySem.Spec PyProof.Rows L2 RZ DL SH
def topS (i : Nat) : Stmt := PySem.Challenge.pw_foldedsums_k21_reduced_rows_judged.main.body.getD i (.Pass ⟨0, 0, 0, 0⟩)
abbrev s__law_below : Stmt := topS 22
abbrev s__law_pick : Stmt := topS 24
abbrev s__law_bbent : Stmt := topS 38
abbrev s__law_bprimes : Stmt := topS 30
abbrev s__law_bfield : Stmt := topS 31
abbrev s__law_bcommon : Stmt := topS 32
abbrev s__law_btidy : Stmt := topS 33
abbrev s__law_bcut : Stmt := topS 34
abbrev s__law_breduce : Stmt := topS 35
abbrev s__law_chance : Stmt := topS 23
abbrev s__law_bnumber : Stmt := topS 29
abbrev s__law_bentry : Stmt := topS 37
abbrev s__law_bspace : Stmt := topS 36
abbrev s__law_copied : Stmt := topS 26
abbrev s__law_mixed : Stmt := topS 25
abbrev s__law_loose : Stmt := topS 28
abbrev s__law_same : Stmt := topS 27
abbrev s__law_start : Stmt := topS 21
abbrev s_is_integer : Stmt := topS 5
abbrev s_is_row : Stmt := topS 6
abbrev s_head_of : Stmt := topS 11
abbrev s_inverse_of : Stmt := topS 12
abbrev s_plain_row : Stmt := topS 13
abbrev s_without : Stmt := topS 14
abbrev s_rest_of : Stmt := topS 15
abbrev s_put_in : Stmt := topS 16
abbrev s_reduced_rows : Stmt := topS 17
abbrev s_is_space : Stmt := topS 18
abbrev s_is_field : Stmt := topS 9
abbrev s_need_by : Stmt := topS 10
abbrev s_is_reduced : Stmt := topS 19
abbrev s_law : Stmt := topS 39
structure Top (K : PySem.W.Frag) (mg : Str → Option Value) : Prop where
  z_abs : mg "abs" = none
  z_all : mg "all" = none
  z_bool : mg "bool" = none
  z_dict : mg "dict" = none
  z_enumerate : mg "enumerate" = none
  z_int : mg "int" = none
  z_isinstance : mg "isinstance" = none
  z_len : mg "len" = none
  z_list : mg "list" = none
  z_max : mg "max" = none
  z_min : mg "min" = none
  z_range : mg "range" = none
  z_sorted : mg "sorted" = none
  z_str : mg "str" = none
  z_tuple : mg "tuple" = none
  z_zip : mg "zip" = none
  zi_MOST_LONG : ∃ t : Tok, mg "MOST_LONG" = some (.int 40 t)
  zf_gcd : mg "gcd" = some (.builtin "math.gcd")
  d__law_below : TopD K mg "_law_below" s__law_below ["stream", "many"]
  d__law_pick : TopD K mg "_law_pick" s__law_pick ["stream", "some"]
  d__law_bbent : TopD K mg "_law_bbent" s__law_bbent ["stream", "space", "by"]
  d__law_bprimes : TopD K mg "_law_bprimes" s__law_bprimes []
  d__law_bfield : TopD K mg "_law_bfield" s__law_bfield ["stream"]
  d__law_bcommon : TopD K mg "_law_bcommon" s__law_bcommon ["row"]
  d__law_btidy : TopD K mg "_law_btidy" s__law_btidy ["row", "by"]
  d__law_bcut : TopD K mg "_law_bcut" s__law_bcut ["row", "pivot", "column", "by"]
  d__law_breduce : TopD K mg "_law_breduce" s__law_breduce ["rows", "by"]
  d__law_chance : TopD K mg "_law_chance" s__law_chance ["stream", "many"]
  d__law_bnumber : TopD K mg "_law_bnumber" s__law_bnumber ["stream"]
  d__law_bentry : TopD K mg "_law_bentry" s__law_bentry ["stream", "by"]
  d__law_bspace : TopD K mg "_law_bspace" s__law_bspace ["stream", "size", "by"]
  d__law_copied : TopD K mg "_law_copied" s__law_copied ["thing"]
  d__law_mixed : TopD K mg "_law_mixed" s__law_mixed ["stream", "some"]
  d__law_loose : TopD K mg "_law_loose" s__law_loose ["stream", "thing"]
  d__law_same : TopD K mg "_law_same" s__law_same ["found", "due"]
  d__law_start : TopD K mg "_law_start" s__law_start ["script"]
  d_is_integer : TopD K mg "is_integer" s_is_integer ["thing"]
  d_is_row : TopD K mg "is_row" s_is_row ["thing", "size"]
  d_head_of : TopD K mg "head_of" s_head_of ["row"]
  d_inverse_of : TopD K mg "inverse_of" s_inverse_of ["number", "prime"]
  d_plain_row : TopD K mg "plain_row" s_plain_row ["row", "by"]
  d_without : TopD K mg "without" s_without ["row", "other", "column", "by"]
  d_rest_of : TopD K mg "rest_of" s_rest_of ["space", "row", "by"]
  d_put_in : TopD K mg "put_in" s_put_in ["space", "row", "by"]
  d_reduced_rows : TopD K mg "reduced_rows" s_reduced_rows ["rows", "by"]
  d_is_space : TopD K mg "is_space" s_is_space ["thing", "by"]
  d_is_field : TopD K mg "is_field" s_is_field ["by"]
  d_need_by : TopD K mg "need_by" s_need_by ["by"]
  d_is_reduced : TopD K mg "is_reduced" s_is_reduced ["thing", "by"]
noncomputable section
variable {P : Program} {w : World} {K : PySem.W.Frag} {mg : Str → Option Value} {base : Heap} {cv : Str → Value}
/-! ### _law_below -/
abbrev N__law_below : List Str := ["stream", "many", "cell", "digit", "mixed"]
theorem S__law_below : FnScope N__law_below ["stream", "many"] (defScope s__law_below) := ⟨rfl, rfl, rfl, by decide +kernel, rfl, by decide +kernel, by decide +kernel⟩
theorem c__law_below (T : Top K mg) : CalD P w K mg base cv 1 "_law_below" 2 f__law_below := by
  unfold f__law_below
  refine T.d__law_below.cal S__law_below fun f cdv A outer s H E hr => ?_
  have hx : Passes (L2.CX P w) (cxOf (L2.CX P w) P w K mg base N__law_below "_law_below" (defScope s__law_below) f cdv A outer s H E) E := passes_call (takes_of rfl rfl rfl rfl) (fun _ _ _ _ h => h)
  have hp : PassesOwn (model P w) (cxOf (L2.CX P w) P w K mg base N__law_below "_law_below" (defScope s__law_below) f cdv A outer s H E).A (cxOf (L2.CX P w) P w K mg base N__law_below "_law_below" (defScope s__law_below) f cdv A outer s H E).env (cxOf (L2.CX P w) P w K mg base N__law_below "_law_below" (defScope s__law_below) f cdv A outer s H E).xe := passes_of rfl
  exact (dss_cons (ds_asg (de_add (mk := false) (fun _ => rfl) (de_ix (fun _ => rfl) (de_var 0) de_int (fun _ _ => rfl)) de_int) (dg_sub (de_var 0) de_int))
    (dss_cons (ds_while 100 (fun _ => hp) (DW.t (dw_and (dt_cmp (or_eq (fun _ => rfl) (fun _ => hr)) opd_eq (de_ix (fun _ => rfl) (de_var 0) de_int (fun _ _ => rfl)) de_int rfl) (dw_and1 (dt_cmp (or_ne (fun _ => rfl) (fun _ => hr)) opd_ne (de_ix (fun _ => rfl) (de_var 0) de_int (fun _ _ => rfl)) (de_lst (mk := false) da_nil) rfl)))) (dss_cons (ds_asg (de_mthL (fun _ => rfl) PySem.F.slot_list_pop PySem.F.type_list_pop (fun _ => mt_popAt) md_pop (de_ix (fun _ => rfl) (de_var 0) de_int (fun _ _ => rfl)) (da_cons de_int da_nil)) (dg_name 2 (fun _ => S__law_below.nd)))
    (dss_cons (ds_asg (de_mod (de_callTy (fun _ => call_int1) cd_int (fun _ => T.z_int) (da_cons (de_add (mk := false) (fun _ => rfl) (de_add (mk := false) (fun _ => rfl) (de_mul (mk := false) (de_ix (fun _ => rfl) (de_var 0) de_int (fun _ _ => rfl)) de_int) (de_var 2)) de_int) da_nil)) de_int) (dg_sub (de_var 0) de_int))
    (dss_one (ds_asg (de_if (dt_cmp (fun _ => op_ge) opd_ge (de_var 2) (de_pow de_int de_int) rfl) (de_var 2) de_int) (dg_sub (de_var 0) de_int))))))
    (dss_cons (ds_if (dt_cmp (fun _ => op_gt) opd_gt (de_ix (fun _ => rfl) (de_var 0) de_int (fun _ _ => rfl)) de_int rfl) (dss_cons (ds_asg (de_mod (de_callTy (fun _ => call_int1) cd_int (fun _ => T.z_int) (da_cons (de_ix (fun _ => rfl) (de_var 0) de_int (fun _ _ => rfl)) da_nil)) (de_var 1)) (dg_name 3 (fun _ => S__law_below.nd)))
    (dss_cons (ds_asg (de_fdiv (de_ix (fun _ => rfl) (de_var 0) de_int (fun _ _ => rfl)) (de_var 1)) (dg_sub (de_var 0) de_int))
    (dss_one (ds_ret (de_var 3))))) dss_nil)
    (dss_cons (ds_asg (de_mod (de_callTy (fun _ => call_int1) cd_int (fun _ => T.z_int) (da_cons (de_pow (de_add (mk := false) (fun _ => rfl) (de_add (mk := false) (fun _ => rfl) (de_ix (fun _ => rfl) (de_var 0) de_int (fun _ _ => rfl)) (de_mul (mk := false) de_int (de_ix (fun _ => rfl) (de_var 0) de_int (fun _ _ => rfl)))) de_int) de_int) da_nil)) de_int) (dg_name 4 (fun _ => S__law_below.nd)))
    (dss_one (ds_ret (de_mod (de_mod (de_callTy (fun _ => call_int1) cd_int (fun _ => T.z_int) (da_cons (de_pow (de_add (mk := false) (fun _ => rfl) (de_add (mk := false) (fun _ => rfl) (de_mul (mk := false) (de_var 4) de_int) (de_mul (mk := false) de_int (de_ix (fun _ => rfl) (de_var 0) de_int (fun _ _ => rfl)))) de_int) de_int) da_nil)) de_int) (de_var 1))))))))
/-! ### _law_pick -/
abbrev N__law_pick : List Str := ["stream", "some"]
theorem S__law_pick : FnScope N__law_pick ["stream", "some"] (defScope s__law_pick) := ⟨rfl, rfl, rfl, by decide +kernel, rfl, by decide +kernel, by decide +kernel⟩
theorem c__law_pick (T : Top K mg) : CalD P w K mg base cv 2 "_law_pick" 2 f__law_pick := by
  unfold f__law_pick
  refine T.d__law_pick.cal S__law_pick fun f cdv A outer s H E hr => ?_
  have hx : Passes (L2.CX P w) (cxOf (L2.CX P w) P w K mg base N__law_pick "_law_pick" (defScope s__law_pick) f cdv A outer s H E) E := passes_call (takes_of rfl rfl rfl rfl) (fun _ _ _ _ h => h)
  have hp : PassesOwn (model P w) (cxOf (L2.CX P w) P w K mg base N__law_pick "_law_pick" (defScope s__law_pick) f cdv A outer s H E).A (cxOf (L2.CX P w) P w K mg base N__law_pick "_law_pick" (defScope s__law_pick) f cdv A outer s H E).env (cxOf (L2.CX P w) P w K mg base N__law_pick "_law_pick" (defScope s__law_pick) f cdv A outer s H E).xe := passes_of rfl
  exact (dss_one (ds_ret (de_ix (fun _ => rfl) (de_var 1) (de_call (fun _ => (c__law_below T)) (fun _ => hr) (fun _ => hx) (fun _ => rfl) (da_cons (de_var 0) (da_cons (de_callB (fun _ => call_bLen rfl) cd_len (fun _ => T.z_len) (da_cons (de_var 1) da_nil)) da_nil))) (fun _ _ => rfl))))
/-! ### _law_bbent -/
abbrev N__law_bbent : List Str := ["stream", "space", "by", "at", "row", "size", "head", "odd", "found", "far", "mixed", "column", "part", "one", "other"]
theorem S__law_bbent : FnScope N__law_bbent ["stream", "space", "by"] (defScope s__law_bbent) := ⟨rfl, rfl, rfl, by decide +kernel, rfl, by decide +kernel, by decide +kernel⟩
def p__law_bbent_e1 (δ : DL.Env) : M RV :=
  (ev2 (opAdd false) (evVar 12) (evVar 14)) δ
def p__law_bbent_e2 (δ : DL.Env) : M RV :=
  (evVar 13) δ
def p__law_bbent_q3 (δ : DL.Env) : M Bool :=
  (evB (ev2 (opEq true) (evVar 13) (evVar 3))) δ
def p__law_bbent_s4 (δ : DL.Env) : M (Fl × DL.Env) :=
  (evSeq (evIfS (evB (ev2 opGt (evCall bLen (evCons (evVar 1) evNil)) (cI 1))) (evSeq (evAsg (evCallF 2 f__law_pick (evCons (evVar 0) (evCons (evLc false [13] (evRange1 (evCons (evCall bLen (evCons (evVar 1) evNil)) evNil)) (gtName 13) p__law_bbent_q3 p__law_bbent_e2) evNil))) (gtName 9))
    (evSeq (evAsg (evLc false [12, 14] (evZip (evCons (ev2 opIx (evVar 1) (evCall bMin (evCons (evVar 3) (evCons (evVar 9) evNil)))) (evCons (ev2 opIx (evVar 1) (evCall bMax (evCons (evVar 3) (evCons (evVar 9) evNil)))) evNil))) (gtUnp 2 (gtCons (gtName 12) (gtCons (gtName 14) gtNil))) evYes p__law_bbent_e1) (gtName 10))
    (evAsg (ev2 (opAdd false) (evVar 8) (evLst false (evCons (ev2 (opAdd false) (ev2 (opAdd false) (evSl false (evVar 1) oN (oS (evCall bMin (evCons (evVar 3) (evCons (evVar 9) evNil))))) (evLst false (evCons (evVar 10) evNil))) (evSl false (evVar 1) (oS (ev2 (opAdd false) (evCall bMin (evCons (evVar 3) (evCons (evVar 9) evNil))) (cI 1))) oN)) (evCons (ev2 (opAdd false) (evSl false (evVar 1) (oS (cI 1)) oN) (evSl false (evVar 1) oN (oS (cI 1)))) (evCons (ev2 (opAdd false) (evVar 1) (evLst false (evCons (evCall (bList false) (evCons (ev2 opIx (evVar 1) (evVar 3)) evNil)) evNil))) evNil))))) (gtName 8)))) evNext)
    (evRet (evCallF 2 f__law_pick (evCons (evVar 0) (evCons (evVar 8) evNil))))) δ
def p__law_bbent_e5 (δ : DL.Env) : M RV :=
  (ev2 (opAdd false) (ev2 (opAdd false) (evSl false (evVar 1) oN (oS (evVar 3))) (evLst false (evCons (evVar 13) evNil))) (evSl false (evVar 1) (oS (ev2 (opAdd false) (evVar 3) (cI 1))) oN)) δ
def p__law_bbent_q6 (δ : DL.Env) : M Bool :=
  (evOrT (evB (ev2 (opEq true) (evVar 2) (cI 2))) (evB (ev2 (opEq true) (evVar 13) (evVar 4)))) δ
def p__law_bbent_s7 (δ : DL.Env) : M (Fl × DL.Env) :=
  (evSeq (evAsg (evLc false [13] (evIter (evVar 7)) (gtName 13) p__law_bbent_q6 p__law_bbent_e5) (gtName 8))
    p__law_bbent_s4) δ
def p__law_bbent_e8 (δ : DL.Env) : M RV :=
  (ev2 (opMul false) (cI 2) (evVar 12)) δ
def p__law_bbent_e9 (δ : DL.Env) : M RV :=
  (ev2 opMod (evCall bInt (evCons (ev2 (opMul false) (cI 2) (evVar 12)) evNil)) (evVar 2)) δ
def p__law_bbent_s10 (δ : DL.Env) : M (Fl × DL.Env) :=
  (evSeq (evAsg (ev2 (opAdd false) (evVar 7) (evIf (evB (ev2 (opEq false) (evVar 2) (cI 0))) (evLst false (evCons (evLc false [12] (evIter (evVar 4)) (gtName 12) evYes p__law_bbent_e8) evNil)) (evIf (evB (ev2 opGt (evVar 2) (cI 2))) (evLst false (evCons (evLc false [12] (evIter (evVar 4)) (gtName 12) evYes p__law_bbent_e9) evNil)) (evLst false evNil)))) (gtName 7))
    p__law_bbent_s7) δ
def p__law_bbent_e11 (δ : DL.Env) : M RV :=
  (evIf (evB (ev2 (opEq false) (evVar 12) (ev2 opSub (evVar 2) (cI 1)))) (evNeg (cI 1)) (evVar 12)) δ
def p__law_bbent_e12 (δ : DL.Env) : M RV :=
  (ev2 (opAdd false) (evVar 12) (evVar 2)) δ
def p__law_bbent_s13 (δ : DL.Env) : M (Fl × DL.Env) :=
  (evSeq (evAsg (ev2 (opAdd false) (evVar 7) (evIf (evB (ev2 opGt (evVar 2) (cI 0))) (evLst false (evCons (evLc false [12] (evIter (evVar 4)) (gtName 12) evYes p__law_bbent_e12) (evCons (evIf (evB (ev2 (opIn false) (ev2 opSub (evVar 2) (cI 1)) (evVar 4))) (evLc false [12] (evIter (evVar 4)) (gtName 12) evYes p__law_bbent_e11) cN) evNil))) (evLst false evNil))) (gtName 7))
    p__law_bbent_s10) δ
def p__law_bbent_e14 (δ : DL.Env) : M RV :=
  (evNeg (evVar 12)) δ
def p__law_bbent_e15 (δ : DL.Env) : M RV :=
  (evCall bStr (evCons (evVar 12) evNil)) δ
def p__law_bbent_s16 (δ : DL.Env) : M (Fl × DL.Env) :=
  (evSeq (evAsg (ev2 (opAdd false) (evVar 7) (evLst false (evCons (evLc false [12] (evIter (evVar 4)) (gtName 12) evYes p__law_bbent_e15) (evCons (ev2 (opAdd false) (ev2 (opAdd false) (evSl false (evVar 4) oN (oS (evVar 6))) (evLst false (evCons (evNeg (ev2 opIx (evVar 4) (evVar 6))) evNil))) (evLc false [12] (evIter (evSl false (evVar 4) (oS (ev2 (opAdd false) (evVar 6) (cI 1))) oN)) (gtName 12) evYes p__law_bbent_e14)) evNil)))) (gtName 7))
    p__law_bbent_s13) δ
def p__law_bbent_s17 (δ : DL.Env) : M (Fl × DL.Env) :=
  (evSeq (evAsg (ev2 (opAdd false) (evVar 7) (evIf (evB (ev2 opGt (evCall bLen (evCons (evVar 1) evNil)) (cI 1))) (evLst false (evCons (ev2 (opAdd false) (evVar 4) (evLst false (evCons (cI 0) evNil))) (evCons (evSl false (evVar 4) oN (oS (evNeg (cI 1)))) evNil))) (evLst false evNil))) (gtName 7))
    p__law_bbent_s16) δ
def p__law_bbent_e18 (δ : DL.Env) : M RV :=
  (evIf (evB (ev2 (opEq false) (evVar 12) (cI 1))) (cB true) (evVar 12)) δ
def p__law_bbent_s19 (δ : DL.Env) : M (Fl × DL.Env) :=
  (evSeq (evAsg (evLst false (evCons (ev2 (opMul false) (evLst false (evCons (cI 0) evNil)) (evVar 5)) (evCons cN (evCons (cI 7) (evCons (cS "ab") (evCons (evIf (evB (ev2 (opIn false) (cI 1) (evVar 4))) (evLc false [12] (evIter (evVar 4)) (gtName 12) evYes p__law_bbent_e18) cN) evNil)))))) (gtName 7))
    p__law_bbent_s17) δ
def p__law_bbent_e20 (δ : DL.Env) : M RV :=
  (evVar 11) δ
def p__law_bbent_q21 (δ : DL.Env) : M Bool :=
  (evB (ev2 (opEq true) (evVar 12) (cI 0))) δ
def p__law_bbent_s22 (δ : DL.Env) : M (Fl × DL.Env) :=
  (evSeq (evAsg (ev2 opIx (evLc false [11, 12] (evEnum2 (evCons (evVar 4) evNil)) (gtUnp 2 (gtCons (gtName 11) (gtCons (gtName 12) gtNil))) p__law_bbent_q21 p__law_bbent_e20) (cI 0)) (gtName 6))
    p__law_bbent_s19) δ
def p__law_bbent_s23 (δ : DL.Env) : M (Fl × DL.Env) :=
  (evSeq (evParT 2 (evCons (evCall (bList false) (evCons (ev2 opIx (evVar 1) (evVar 3)) evNil)) (evCons (evCall bLen (evCons (ev2 opIx (evVar 1) (cI 0)) evNil)) evNil)) (gtCons (gtName 4) (gtCons (gtName 5) gtNil)))
    p__law_bbent_s22) δ
def m__law_bbent (δ : DL.Env) : M (Fl × DL.Env) :=
  (evSeq (evAsg (evCallF 2 f__law_below (evCons (evVar 0) (evCons (evCall bLen (evCons (evVar 1) evNil)) evNil))) (gtName 3))
    p__law_bbent_s23) δ
@[irreducible] def f__law_bbent : List RV → M RV := fnD 15 m__law_bbent
theorem c__law_bbent (T : Top K mg) : CalD P w K mg base cv 3 "_law_bbent" 3 f__law_bbent := by
  unfold f__law_bbent
  refine T.d__law_bbent.cal S__law_bbent fun f cdv A outer s H E hr => ?_
  have hx : Passes (L2.CX P w) (cxOf (L2.CX P w) P w K mg base N__law_bbent "_law_bbent" (defScope s__law_bbent) f cdv A outer s H E) E := passes_call (takes_of rfl rfl rfl rfl) (fun _ _ _ _ h => h)
  have hp : PassesOwn (model P w) (cxOf (L2.CX P w) P w K mg base N__law_bbent "_law_bbent" (defScope s__law_bbent) f cdv A outer s H E).A (cxOf (L2.CX P w) P w K mg base N__law_bbent "_law_bbent" (defScope s__law_bbent) f cdv A outer s H E).env (cxOf (L2.CX P w) P w K mg base N__law_bbent "_law_bbent" (defScope s__law_bbent) f cdv A outer s H E).xe := passes_of rfl
  exact (dss_cons (ds_asg (de_call (fun _ => (c__law_below T)) (fun _ => hr) (fun _ => hx) (fun _ => rfl) (da_cons (de_var 0) (da_cons (de_callB (fun _ => call_bLen rfl) cd_len (fun _ => T.z_len) (da_cons (de_var 1) da_nil)) da_nil))) (dg_name 3 (fun _ => S__law_bbent.nd)))
    (dss_cons (ds_parT (n := 2) (fun _ => rfl) (fun _ => rfl) (da_cons (de_callTy (fun _ => call_bList rfl rfl) (cd_list (mk := false)) (fun _ => T.z_list) (da_cons (de_ix (fun _ => rfl) (de_var 1) (de_var 3) (fun _ _ => rfl)) da_nil)) (da_cons (de_callB (fun _ => call_bLen rfl) cd_len (fun _ => T.z_len) (da_cons (de_ix (fun _ => rfl) (de_var 1) de_int (fun _ _ => rfl)) da_nil)) da_nil)) (dgs_cons (dg_name 4 (fun _ => S__law_bbent.nd)) (dgs_cons (dg_name 5 (fun _ => S__law_bbent.nd)) dgs_nil)))
    (dss_cons (ds_asg (de_ix (fun _ => rfl) (de_lc (mk := false) N__law_bbent (defScope s__law_bbent) [("column", 11), ("part", 12)] (blkOk_by (by decide +kernel)) (sub_by (by decide)) (fun _ => rfl) (fun _ => S__law_bbent.nd) (di_enum2 (fun _ => rfl) (fun _ => T.z_enumerate) (da_cons (de_var 4) da_nil)) (dg_tup (n := 2) (fun _ => rfl) (fun _ => rfl) (dgs_cons (dg_name 11 (fun _ => S__law_bbent.nd)) (dgs_cons (dg_name 12 (fun _ => S__law_bbent.nd)) dgs_nil))) (dts_one (dt_cmp (or_ne (fun _ => rfl) (fun _ => hr)) opd_ne (de_var 12) de_int rfl)) (de_var 11)) de_int (fun _ _ => rfl)) (dg_name 6 (fun _ => S__law_bbent.nd)))
    (dss_cons (ds_asg (de_lst (mk := false) (da_cons (de_mul (mk := false) (de_lst (mk := false) (da_cons de_int da_nil)) (de_var 5)) (da_cons de_non (da_cons de_int (da_cons de_str (da_cons (de_if (dt_cmp (or_in (fun _ => rfl)) opd_in de_int (de_var 4) rfl) (de_lc (mk := false) N__law_bbent (defScope s__law_bbent) [("part", 12)] (blkOk_by (by decide +kernel)) (sub_by (by decide)) (fun _ => rfl) (fun _ => S__law_bbent.nd) (di_any (fun _ => rfl) (de_var 4)) (dg_name 12 (fun _ => S__law_bbent.nd)) dts_nil (de_if (dt_cmp (or_eq (fun _ => rfl) (fun _ => hr)) opd_eq (de_var 12) de_int rfl) de_bl (de_var 12))) de_non) da_nil)))))) (dg_name 7 (fun _ => S__law_bbent.nd)))
    (dss_cons (ds_asg (de_add (mk := false) (fun _ => rfl) (de_var 7) (de_if (dt_cmp (fun _ => op_gt) opd_gt (de_callB (fun _ => call_bLen rfl) cd_len (fun _ => T.z_len) (da_cons (de_var 1) da_nil)) de_int rfl) (de_lst (mk := false) (da_cons (de_add (mk := false) (fun _ => rfl) (de_var 4) (de_lst (mk := false) (da_cons de_int da_nil))) (da_cons (de_sl (mk := false) (fun _ => rfl) (de_var 4) do_none (do_some (de_neg de_int))) da_nil))) (de_lst (mk := false) da_nil))) (dg_name 7 (fun _ => S__law_bbent.nd)))
    (dss_cons (ds_asg (de_add (mk := false) (fun _ => rfl) (de_var 7) (de_lst (mk := false) (da_cons (de_lc (mk := false) N__law_bbent (defScope s__law_bbent) [("part", 12)] (blkOk_by (by decide +kernel)) (sub_by (by decide)) (fun _ => rfl) (fun _ => S__law_bbent.nd) (di_any (fun _ => rfl) (de_var 4)) (dg_name 12 (fun _ => S__law_bbent.nd)) dts_nil (de_callTy (fun _ => call_str_int) cd_str (fun _ => T.z_str) (da_cons (de_var 12) da_nil))) (da_cons (de_add (mk := false) (fun _ => rfl) (de_add (mk := false) (fun _ => rfl) (de_sl (mk := false) (fun _ => rfl) (de_var 4) do_none (do_some (de_var 6))) (de_lst (mk := false) (da_cons (de_neg (de_ix (fun _ => rfl) (de_var 4) (de_var 6) (fun _ _ => rfl))) da_nil))) (de_lc (mk := false) N__law_bbent (defScope s__law_bbent) [("part", 12)] (blkOk_by (by decide +kernel)) (sub_by (by decide)) (fun _ => rfl) (fun _ => S__law_bbent.nd) (di_any (fun _ => rfl) (de_sl (mk := false) (fun _ => rfl) (de_var 4) (do_some (de_add (mk := false) (fun _ => rfl) (de_var 6) de_int)) do_none)) (dg_name 12 (fun _ => S__law_bbent.nd)) dts_nil (de_neg (de_var 12)))) da_nil)))) (dg_name 7 (fun _ => S__law_bbent.nd)))
    (dss_cons (ds_asg (de_add (mk := false) (fun _ => rfl) (de_var 7) (de_if (dt_cmp (fun _ => op_gt) opd_gt (de_var 2) de_int rfl) (de_lst (mk := false) (da_cons (de_lc (mk := false) N__law_bbent (defScope s__law_bbent) [("part", 12)] (blkOk_by (by decide +kernel)) (sub_by (by decide)) (fun _ => rfl) (fun _ => S__law_bbent.nd) (di_any (fun _ => rfl) (de_var 4)) (dg_name 12 (fun _ => S__law_bbent.nd)) dts_nil (de_add (mk := false) (fun _ => rfl) (de_var 12) (de_var 2))) (da_cons (de_if (dt_cmp (or_in (fun _ => rfl)) opd_in (de_sub (de_var 2) de_int) (de_var 4) rfl) (de_lc (mk := false) N__law_bbent (defScope s__law_bbent) [("part", 12)] (blkOk_by (by decide +kernel)) (sub_by (by decide)) (fun _ => rfl) (fun _ => S__law_bbent.nd) (di_any (fun _ => rfl) (de_var 4)) (dg_name 12 (fun _ => S__law_bbent.nd)) dts_nil (de_if (dt_cmp (or_eq (fun _ => rfl) (fun _ => hr)) opd_eq (de_var 12) (de_sub (de_var 2) de_int) rfl) (de_neg de_int) (de_var 12))) de_non) da_nil))) (de_lst (mk := false) da_nil))) (dg_name 7 (fun _ => S__law_bbent.nd)))
    (dss_cons (ds_asg (de_add (mk := false) (fun _ => rfl) (de_var 7) (de_if (dt_cmp (or_eq (fun _ => rfl) (fun _ => hr)) opd_eq (de_var 2) de_int rfl) (de_lst (mk := false) (da_cons (de_lc (mk := false) N__law_bbent (defScope s__law_bbent) [("part", 12)] (blkOk_by (by decide +kernel)) (sub_by (by decide)) (fun _ => rfl) (fun _ => S__law_bbent.nd) (di_any (fun _ => rfl) (de_var 4)) (dg_name 12 (fun _ => S__law_bbent.nd)) dts_nil (de_mul (mk := false) de_int (de_var 12))) da_nil)) (de_if (dt_cmp (fun _ => op_gt) opd_gt (de_var 2) de_int rfl) (de_lst (mk := false) (da_cons (de_lc (mk := false) N__law_bbent (defScope s__law_bbent) [("part", 12)] (blkOk_by (by decide +kernel)) (sub_by (by decide)) (fun _ => rfl) (fun _ => S__law_bbent.nd) (di_any (fun _ => rfl) (de_var 4)) (dg_name 12 (fun _ => S__law_bbent.nd)) dts_nil (de_mod (de_callTy (fun _ => call_int1) cd_int (fun _ => T.z_int) (da_cons (de_mul (mk := false) de_int (de_var 12)) da_nil)) (de_var 2))) da_nil)) (de_lst (mk := false) da_nil)))) (dg_name 7 (fun _ => S__law_bbent.nd)))
    (dss_cons (ds_setLc (mk := false) N__law_bbent (defScope s__law_bbent) [("one", 13)] 8 (blkOk_by (by decide +kernel)) (sub_by (by decide)) (fun _ => rfl) (fun _ => S__law_bbent.nd) (di_any (fun _ => rfl) (de_var 7)) (dg_name 13 (fun _ => S__law_bbent.nd)) (dts_one (DW.t (dw_or (dt_cmp (or_ne (fun _ => rfl) (fun _ => hr)) opd_ne (de_var 2) de_int rfl) (dw_or1 (dt_cmp (or_ne (fun _ => rfl) (fun _ => hr)) opd_ne (de_var 13) (de_var 4) rfl))))) (de_add (mk := false) (fun _ => rfl) (de_add (mk := false) (fun _ => rfl) (de_sl (mk := false) (fun _ => rfl) (de_var 1) do_none (do_some (de_var 3))) (de_lst (mk := false) (da_cons (de_var 13) da_nil))) (de_sl (mk := false) (fun _ => rfl) (de_var 1) (do_some (de_add (mk := false) (fun _ => rfl) (de_var 3) de_int)) do_none)) rfl rfl (fun _ => sw_true rfl rfl rfl (by decide +kernel)))
    (dss_cons (ds_if (dt_cmp (fun _ => op_gt) opd_gt (de_callB (fun _ => call_bLen rfl) cd_len (fun _ => T.z_len) (da_cons (de_var 1) da_nil)) de_int rfl) (dss_cons (ds_asg (de_call (fun _ => (c__law_pick T)) (fun _ => hr) (fun _ => hx) (fun _ => rfl) (da_cons (de_var 0) (da_cons (de_lc (mk := false) N__law_bbent (defScope s__law_bbent) [("one", 13)] (blkOk_by (by decide +kernel)) (sub_by (by decide)) (fun _ => rfl) (fun _ => S__law_bbent.nd) (di_range1 (fun _ => T.z_range) (da_cons (de_callB (fun _ => call_bLen rfl) cd_len (fun _ => T.z_len) (da_cons (de_var 1) da_nil)) da_nil)) (dg_name 13 (fun _ => S__law_bbent.nd)) (dts_one (dt_cmp (or_ne (fun _ => rfl) (fun _ => hr)) opd_ne (de_var 13) (de_var 3) rfl)) (de_var 13)) da_nil))) (dg_name 9 (fun _ => S__law_bbent.nd)))
    (dss_cons (ds_setLc (mk := false) N__law_bbent (defScope s__law_bbent) [("part", 12), ("other", 14)] 10 (blkOk_by (by decide +kernel)) (sub_by (by decide)) (fun _ => rfl) (fun _ => S__law_bbent.nd) (di_zip (fun _ => rfl) (fun _ => T.z_zip) (da_cons (de_ix (fun _ => rfl) (de_var 1) (de_callB (fun _ => call_min2 rfl) cd_2i (fun _ => T.z_min) (da_cons (de_var 3) (da_cons (de_var 9) da_nil))) (fun _ _ => rfl)) (da_cons (de_ix (fun _ => rfl) (de_var 1) (de_callB (fun _ => call_max2 rfl) cd_2i (fun _ => T.z_max) (da_cons (de_var 3) (da_cons (de_var 9) da_nil))) (fun _ _ => rfl)) da_nil))) (dg_tup (n := 2) (fun _ => rfl) (fun _ => rfl) (dgs_cons (dg_name 12 (fun _ => S__law_bbent.nd)) (dgs_cons (dg_name 14 (fun _ => S__law_bbent.nd)) dgs_nil))) dts_nil (de_add (mk := false) (fun _ => rfl) (de_var 12) (de_var 14)) rfl rfl (fun _ => sw_true rfl rfl rfl (by decide +kernel)))
    (dss_one (ds_asg (de_add (mk := false) (fun _ => rfl) (de_var 8) (de_lst (mk := false) (da_cons (de_add (mk := false) (fun _ => rfl) (de_add (mk := false) (fun _ => rfl) (de_sl (mk := false) (fun _ => rfl) (de_var 1) do_none (do_some (de_callB (fun _ => call_min2 rfl) cd_2i (fun _ => T.z_min) (da_cons (de_var 3) (da_cons (de_var 9) da_nil))))) (de_lst (mk := false) (da_cons (de_var 10) da_nil))) (de_sl (mk := false) (fun _ => rfl) (de_var 1) (do_some (de_add (mk := false) (fun _ => rfl) (de_callB (fun _ => call_min2 rfl) cd_2i (fun _ => T.z_min) (da_cons (de_var 3) (da_cons (de_var 9) da_nil))) de_int)) do_none)) (da_cons (de_add (mk := false) (fun _ => rfl) (de_sl (mk := false) (fun _ => rfl) (de_var 1) (do_some de_int) do_none) (de_sl (mk := false) (fun _ => rfl) (de_var 1) do_none (do_some de_int))) (da_cons (de_add (mk := false) (fun _ => rfl) (de_var 1) (de_lst (mk := false) (da_cons (de_callTy (fun _ => call_bList rfl rfl) (cd_list (mk := false)) (fun _ => T.z_list) (da_cons (de_ix (fun _ => rfl) (de_var 1) (de_var 3) (fun _ _ => rfl)) da_nil)) da_nil))) da_nil))))) (dg_name 8 (fun _ => S__law_bbent.nd)))))) dss_nil)
    (dss_one (ds_ret (de_call (fun _ => (c__law_pick T)) (fun _ => hr) (fun _ => hx) (fun _ => rfl) (da_cons (de_var 0) (da_cons (de_var 8) da_nil)))))))))))))))
/-! ### _law_bprimes -/
abbrev N__law_bprimes : List Str := []
theorem S__law_bprimes : FnScope N__law_bprimes [] (defScope s__law_bprimes) := ⟨rfl, rfl, rfl, by decide +kernel, rfl, by decide +kernel, by decide +kernel⟩
def m__law_bprimes (δ : DL.Env) : M (Fl × DL.Env) :=
  (evRet (evLst false (evCons (cI 2) (evCons (cI 3) (evCons (cI 5) (evCons (cI 7) (evCons (cI 11) (evCons (cI 13) (evCons (cI 17) (evCons (cI 19) (evCons (cI 23) (evCons (cI 29) (evCons (cI 31) (evCons (cI 37) (evCons (cI 41) (evCons (cI 43) (evCons (cI 47) (evCons (cI 53) (evCons (cI 59) (evCons (cI 61) (evCons (cI 67) (evCons (cI 71) (evCons (cI 73) (evCons (cI 79) (evCons (cI 83) (evCons (cI 89) (evCons (cI 97) evNil))))))))))))))))))))))))))) δ
@[irreducible] def f__law_bprimes : List RV → M RV := fnD 0 m__law_bprimes
theorem c__law_bprimes (T : Top K mg) : CalD P w K mg base cv 1 "_law_bprimes" 0 f__law_bprimes := by
  unfold f__law_bprimes
  refine T.d__law_bprimes.cal S__law_bprimes fun f cdv A outer s H E hr => ?_
  have hx : Passes (L2.CX P w) (cxOf (L2.CX P w) P w K mg base N__law_bprimes "_law_bprimes" (defScope s__law_bprimes) f cdv A outer s H E) E := passes_call (takes_of rfl rfl rfl rfl) (fun _ _ _ _ h => h)
  have hp : PassesOwn (model P w) (cxOf (L2.CX P w) P w K mg base N__law_bprimes "_law_bprimes" (defScope s__law_bprimes) f cdv A outer s H E).A (cxOf (L2.CX P w) P w K mg base N__law_bprimes "_law_bprimes" (defScope s__law_bprimes) f cdv A outer s H E).env (cxOf (L2.CX P w) P w K mg base N__law_bprimes "_law_bprimes" (defScope s__law_bprimes) f cdv A outer s H E).xe := passes_of rfl
  exact (dss_one (ds_ret (de_lst (mk := false) (da_cons de_int (da_cons de_int (da_cons de_int (da_cons de_int (da_cons de_int (da_cons de_int (da_cons de_int (da_cons de_int (da_cons de_int (da_cons de_int (da_cons de_int (da_cons de_int (da_cons de_int (da_cons de_int (da_cons de_int (da_cons de_int (da_cons de_int (da_cons de_int (da_cons de_int (da_cons de_int (da_cons de_int (da_cons de_int (da_cons de_int (da_cons de_int (da_cons de_int da_nil))))))))))))))))))))))))))))
/-! ### _law_bfield -/
abbrev N__law_bfield : List Str := ["stream"]
theorem S__law_bfield : FnScope N__law_bfield ["stream"] (defScope s__law_bfield) := ⟨rfl, rfl, rfl, by decide +kernel, rfl, by decide +kernel, by decide +kernel⟩
def m__law_bfield (δ : DL.Env) : M (Fl × DL.Env) :=
  (evRet (evCallF 2 f__law_pick (evCons (evVar 0) (evCons (evLst false (evCons (cI 0) (evCons (cI 0) (evCons (cI 2) (evCons (cI 3) (evCons (cI 5) (evCons (evCallF 2 f__law_pick (evCons (evVar 0) (evCons (evCallF 0 f__law_bprimes evNil) evNil))) evNil))))))) evNil)))) δ
@[irreducible] def f__law_bfield : List RV → M RV := fnD 1 m__law_bfield
theorem c__law_bfield (T : Top K mg) : CalD P w K mg base cv 3 "_law_bfield" 1 f__law_bfield := by
  unfold f__law_bfield
  refine T.d__law_bfield.cal S__law_bfield fun f cdv A outer s H E hr => ?_
  have hx : Passes (L2.CX P w) (cxOf (L2.CX P w) P w K mg base N__law_bfield "_law_bfield" (defScope s__law_bfield) f cdv A outer s H E) E := passes_call (takes_of rfl rfl rfl rfl) (fun _ _ _ _ h => h)
  have hp : PassesOwn (model P w) (cxOf (L2.CX P w) P w K mg base N__law_bfield "_law_bfield" (defScope s__law_bfield) f cdv A outer s H E).A (cxOf (L2.CX P w) P w K mg base N__law_bfield "_law_bfield" (defScope s__law_bfield) f cdv A outer s H E).env (cxOf (L2.CX P w) P w K mg base N__law_bfield "_law_bfield" (defScope s__law_bfield) f cdv A outer s H E).xe := passes_of rfl
  exact (dss_one (ds_ret (de_call (fun _ => (c__law_pick T)) (fun _ => hr) (fun _ => hx) (fun _ => rfl) (da_cons (de_var 0) (da_cons (de_lst (mk := false) (da_cons de_int (da_cons de_int (da_cons de_int (da_cons de_int (da_cons de_int (da_cons (de_call (fun _ => (c__law_pick T)) (fun _ => hr) (fun _ => hx) (fun _ => rfl) (da_cons (de_var 0) (da_cons (de_call0 (fun _ => (c__law_bprimes T)) (fun _ => hr) (fun _ => hx) (fun _ => rfl)) da_nil))) da_nil))))))) da_nil)))))
/-! ### _law_bcommon -/
abbrev N__law_bcommon : List Str := ["row", "found", "part", "other"]
theorem S__law_bcommon : FnScope N__law_bcommon ["row"] (defScope s__law_bcommon) := ⟨rfl, rfl, rfl, by decide +kernel, rfl, by decide +kernel, by decide +kernel⟩
def p__law_bcommon_t1 (δ : DL.Env) : M Bool :=
  (evB (ev2 (opEq true) (evVar 3) (cI 0))) δ
def p__law_bcommon_b2 (δ : DL.Env) : M (Fl × DL.Env) :=
  (evPar 1 3 (evCons (evVar 3) (evCons (ev2 opMod (evCall bInt (evCons (evVar 1) evNil)) (evVar 3)) evNil))) δ
def p__law_bcommon_b3 (δ : DL.Env) : M (Fl × DL.Env) :=
  (evSeq (evAsg (evCall bAbs (evCons (evVar 2) evNil)) (gtName 3))
    (evWhile p__law_bcommon_t1 p__law_bcommon_b2 100)) δ
def m__law_bcommon (δ : DL.Env) : M (Fl × DL.Env) :=
  (evSeq (evAsg (cI 0) (gtName 1))
    (evSeq (evFor (evIter (evVar 0)) (gtName 2) p__law_bcommon_b3)
    (evRet (evVar 1)))) δ
@[irreducible] def f__law_bcommon : List RV → M RV := fnD 4 m__law_bcommon
theorem c__law_bcommon (T : Top K mg) : CalD P w K mg base cv 1 "_law_bcommon" 1 f__law_bcommon := by
  unfold f__law_bcommon
  refine T.d__law_bcommon.cal S__law_bcommon fun f cdv A outer s H E hr => ?_
  have hx : Passes (L2.CX P w) (cxOf (L2.CX P w) P w K mg base N__law_bcommon "_law_bcommon" (defScope s__law_bcommon) f cdv A outer s H E) E := passes_call (takes_of rfl rfl rfl rfl) (fun _ _ _ _ h => h)
  have hp : PassesOwn (model P w) (cxOf (L2.CX P w) P w K mg base N__law_bcommon "_law_bcommon" (defScope s__law_bcommon) f cdv A outer s H E).A (cxOf (L2.CX P w) P w K mg base N__law_bcommon "_law_bcommon" (defScope s__law_bcommon) f cdv A outer s H E).env (cxOf (L2.CX P w) P w K mg base N__law_bcommon "_law_bcommon" (defScope s__law_bcommon) f cdv A outer s H E).xe := passes_of rfl
  exact (dss_cons (ds_asg de_int (dg_name 1 (fun _ => S__law_bcommon.nd)))
    (dss_cons (ds_for (fun _ => hp) (fun _ => rfl) (di_any (fun _ => rfl) (de_var 0)) (dg_name 2 (fun _ => S__law_bcommon.nd)) (dss_cons (ds_asg (de_callB (fun _ => call_abs) cd_abs (fun _ => T.z_abs) (da_cons (de_var 2) da_nil)) (dg_name 3 (fun _ => S__law_bcommon.nd)))
    (dss_one (ds_while 100 (fun _ => hp) (dt_cmp (or_ne (fun _ => rfl) (fun _ => hr)) opd_ne (de_var 3) de_int rfl) (dss_one (ds_par 1 3 (fun _ => rfl) (fun _ => S__law_bcommon.nd) (da_cons (de_var 3) (da_cons (de_mod (de_callTy (fun _ => call_int1) cd_int (fun _ => T.z_int) (da_cons (de_var 1) da_nil)) (de_var 3)) da_nil))))))))
    (dss_one (ds_ret (de_var 1)))))
/-! ### _law_btidy -/
abbrev N__law_btidy : List Str := ["row", "by", "heads", "factor", "divisor", "part", "one"]
theorem S__law_btidy : FnScope N__law_btidy ["row", "by"] (defScope s__law_btidy) := ⟨rfl, rfl, rfl, by decide +kernel, rfl, by decide +kernel, by decide +kernel⟩
def p__law_btidy_e1 (δ : DL.Env) : M RV :=
  (ev2 opDiv (evVar 5) (evVar 4)) δ
def p__law_btidy_s2 (δ : DL.Env) : M (Fl × DL.Env) :=
  (evSeq (evAsg (evIf (evB (ev2 opGt (ev2 opIx (evVar 2) (cI 0)) (cI 0))) (evCallF 1 f__law_bcommon (evCons (evVar 0) evNil)) (evNeg (evCallF 1 f__law_bcommon (evCons (evVar 0) evNil)))) (gtName 4))
    (evRet (evLc false [5] (evIter (evVar 0)) (gtName 5) evYes p__law_btidy_e1))) δ
def p__law_btidy_e3 (δ : DL.Env) : M RV :=
  (ev2 opMod (evCall bInt (evCons (ev2 (opMul false) (evVar 5) (evVar 3)) evNil)) (evVar 1)) δ
def p__law_btidy_e4 (δ : DL.Env) : M RV :=
  (evVar 6) δ
def p__law_btidy_q5 (δ : DL.Env) : M Bool :=
  (evB (ev2 (opEq false) (ev2 opMod (evCall bInt (evCons (ev2 (opMul false) (evVar 6) (ev2 opIx (evVar 2) (cI 0))) evNil)) (evVar 1)) (cI 1))) δ
def p__law_btidy_s6 (δ : DL.Env) : M (Fl × DL.Env) :=
  (evSeq (evIfS (evB (ev2 opGt (evVar 1) (cI 0))) (evSeq (evAsg (ev2 opIx (evLc false [6] (evRange2 (evCons (cI 1) (evCons (evVar 1) evNil))) (gtName 6) p__law_btidy_q5 p__law_btidy_e4) (cI 0)) (gtName 3))
    (evRet (evLc false [5] (evIter (evVar 0)) (gtName 5) evYes p__law_btidy_e3))) evNext)
    p__law_btidy_s2) δ
def p__law_btidy_s7 (δ : DL.Env) : M (Fl × DL.Env) :=
  (evSeq (evIfS (evB (ev2 (opEq false) (evVar 2) (evLst false evNil))) (evRet (evVar 0)) evNext)
    p__law_btidy_s6) δ
def p__law_btidy_e8 (δ : DL.Env) : M RV :=
  (evVar 5) δ
def p__law_btidy_q9 (δ : DL.Env) : M Bool :=
  (evB (ev2 (opEq true) (evVar 5) (cI 0))) δ
def p__law_btidy_s10 (δ : DL.Env) : M (Fl × DL.Env) :=
  (evSeq (evAsg (evLc false [5] (evIter (evVar 0)) (gtName 5) p__law_btidy_q9 p__law_btidy_e8) (gtName 2))
    p__law_btidy_s7) δ
def p__law_btidy_e11 (δ : DL.Env) : M RV :=
  (ev2 opMod (evCall bInt (evCons (evVar 5) evNil)) (evVar 1)) δ
def m__law_btidy (δ : DL.Env) : M (Fl × DL.Env) :=
  (evSeq (evAsg (evIf (evB (ev2 opGt (evVar 1) (cI 0))) (evLc false [5] (evIter (evVar 0)) (gtName 5) evYes p__law_btidy_e11) (evCall (bList false) (evCons (evVar 0) evNil))) (gtName 0))
    p__law_btidy_s10) δ
@[irreducible] def f__law_btidy : List RV → M RV := fnD 7 m__law_btidy
theorem c__law_btidy (T : Top K mg) : CalD P w K mg base cv 2 "_law_btidy" 2 f__law_btidy := by
  unfold f__law_btidy
  refine T.d__law_btidy.cal S__law_btidy fun f cdv A outer s H E hr => ?_
  have hx : Passes (L2.CX P w) (cxOf (L2.CX P w) P w K mg base N__law_btidy "_law_btidy" (defScope s__law_btidy) f cdv A outer s H E) E := passes_call (takes_of rfl rfl rfl rfl) (fun _ _ _ _ h => h)
  have hp : PassesOwn (model P w) (cxOf (L2.CX P w) P w K mg base N__law_btidy "_law_btidy" (defScope s__law_btidy) f cdv A outer s H E).A (cxOf (L2.CX P w) P w K mg base N__law_btidy "_law_btidy" (defScope s__law_btidy) f cdv A outer s H E).env (cxOf (L2.CX P w) P w K mg base N__law_btidy "_law_btidy" (defScope s__law_btidy) f cdv A outer s H E).xe := passes_of rfl
  exact (dss_cons (ds_asg (de_if (dt_cmp (fun _ => op_gt) opd_gt (de_var 1) de_int rfl) (de_lc (mk := false) N__law_btidy (defScope s__law_btidy) [("part", 5)] (blkOk_by (by decide +kernel)) (sub_by (by decide)) (fun _ => rfl) (fun _ => S__law_btidy.nd) (di_any (fun _ => rfl) (de_var 0)) (dg_name 5 (fun _ => S__law_btidy.nd)) dts_nil (de_mod (de_callTy (fun _ => call_int1) cd_int (fun _ => T.z_int) (da_cons (de_var 5) da_nil)) (de_var 1))) (de_callTy (fun _ => call_bList rfl rfl) (cd_list (mk := false)) (fun _ => T.z_list) (da_cons (de_var 0) da_nil))) (dg_name 0 (fun _ => S__law_btidy.nd)))
    (dss_cons (ds_asg (de_lc (mk := false) N__law_btidy (defScope s__law_btidy) [("part", 5)] (blkOk_by (by decide +kernel)) (sub_by (by decide)) (fun _ => rfl) (fun _ => S__law_btidy.nd) (di_any (fun _ => rfl) (de_var 0)) (dg_name 5 (fun _ => S__law_btidy.nd)) (dts_one (dt_cmp (or_ne (fun _ => rfl) (fun _ => hr)) opd_ne (de_var 5) de_int rfl)) (de_var 5)) (dg_name 2 (fun _ => S__law_btidy.nd)))
    (dss_cons (ds_if (dt_cmp (or_eq (fun _ => rfl) (fun _ => hr)) opd_eq (de_var 2) (de_lst (mk := false) da_nil) rfl) (dss_one (ds_ret (de_var 0))) dss_nil)
    (dss_cons (ds_if (dt_cmp (fun _ => op_gt) opd_gt (de_var 1) de_int rfl) (dss_cons (ds_asg (de_ix (fun _ => rfl) (de_lc (mk := false) N__law_btidy (defScope s__law_btidy) [("one", 6)] (blkOk_by (by decide +kernel)) (sub_by (by decide)) (fun _ => rfl) (fun _ => S__law_btidy.nd) (di_range2 (fun _ => T.z_range) (da_cons de_int (da_cons (de_var 1) da_nil))) (dg_name 6 (fun _ => S__law_btidy.nd)) (dts_one (dt_cmp (or_eq (fun _ => rfl) (fun _ => hr)) opd_eq (de_mod (de_callTy (fun _ => call_int1) cd_int (fun _ => T.z_int) (da_cons (de_mul (mk := false) (de_var 6) (de_ix (fun _ => rfl) (de_var 2) de_int (fun _ _ => rfl))) da_nil)) (de_var 1)) de_int rfl)) (de_var 6)) de_int (fun _ _ => rfl)) (dg_name 3 (fun _ => S__law_btidy.nd)))
    (dss_one (ds_ret (de_lc (mk := false) N__law_btidy (defScope s__law_btidy) [("part", 5)] (blkOk_by (by decide +kernel)) (sub_by (by decide)) (fun _ => rfl) (fun _ => S__law_btidy.nd) (di_any (fun _ => rfl) (de_var 0)) (dg_name 5 (fun _ => S__law_btidy.nd)) dts_nil (de_mod (de_callTy (fun _ => call_int1) cd_int (fun _ => T.z_int) (da_cons (de_mul (mk := false) (de_var 5) (de_var 3)) da_nil)) (de_var 1)))))) dss_nil)
    (dss_cons (ds_asg (de_if (dt_cmp (fun _ => op_gt) opd_gt (de_ix (fun _ => rfl) (de_var 2) de_int (fun _ _ => rfl)) de_int rfl) (de_call (fun _ => (c__law_bcommon T)) (fun _ => hr) (fun _ => hx) (fun _ => rfl) (da_cons (de_var 0) da_nil)) (de_neg (de_call (fun _ => (c__law_bcommon T)) (fun _ => hr) (fun _ => hx) (fun _ => rfl) (da_cons (de_var 0) da_nil)))) (dg_name 4 (fun _ => S__law_btidy.nd)))
    (dss_one (ds_ret (de_lc (mk := false) N__law_btidy (defScope s__law_btidy) [("part", 5)] (blkOk_by (by decide +kernel)) (sub_by (by decide)) (fun _ => rfl) (fun _ => S__law_btidy.nd) (di_any (fun _ => rfl) (de_var 0)) (dg_name 5 (fun _ => S__law_btidy.nd)) dts_nil (de_fdiv (de_var 5) (de_var 4))))))))))
/-! ### _law_bcut -/
abbrev N__law_bcut : List Str := ["row", "pivot", "column", "by", "factor", "part", "far"]
theorem S__law_bcut : FnScope N__law_bcut ["row", "pivot", "column", "by"] (defScope s__law_bcut) := ⟨rfl, rfl, rfl, by decide +kernel, rfl, by decide +kernel, by decide +kernel⟩
def p__law_bcut_e1 (δ : DL.Env) : M RV :=
  (ev2 opSub (ev2 (opMul false) (evVar 5) (ev2 opIx (evVar 1) (evVar 2))) (ev2 (opMul false) (evVar 4) (evVar 6))) δ
def m__law_bcut (δ : DL.Env) : M (Fl × DL.Env) :=
  (evSeq (evAsg (ev2 opIx (evVar 0) (evVar 2)) (gtName 4))
    (evRet (evCallF 2 f__law_btidy (evCons (evLc false [5, 6] (evZip (evCons (evVar 0) (evCons (evVar 1) evNil))) (gtUnp 2 (gtCons (gtName 5) (gtCons (gtName 6) gtNil))) evYes p__law_bcut_e1) (evCons (evVar 3) evNil))))) δ
@[irreducible] def f__law_bcut : List RV → M RV := fnD 7 m__law_bcut
theorem c__law_bcut (T : Top K mg) : CalD P w K mg base cv 3 "_law_bcut" 4 f__law_bcut := by
  unfold f__law_bcut
  refine T.d__law_bcut.cal S__law_bcut fun f cdv A outer s H E hr => ?_
  have hx : Passes (L2.CX P w) (cxOf (L2.CX P w) P w K mg base N__law_bcut "_law_bcut" (defScope s__law_bcut) f cdv A outer s H E) E := passes_call (takes_of rfl rfl rfl rfl) (fun _ _ _ _ h => h)
  have hp : PassesOwn (model P w) (cxOf (L2.CX P w) P w K mg base N__law_bcut "_law_bcut" (defScope s__law_bcut) f cdv A outer s H E).A (cxOf (L2.CX P w) P w K mg base N__law_bcut "_law_bcut" (defScope s__law_bcut) f cdv A outer s H E).env (cxOf (L2.CX P w) P w K mg base N__law_bcut "_law_bcut" (defScope s__law_bcut) f cdv A outer s H E).xe := passes_of rfl
  exact (dss_cons (ds_asg (de_ix (fun _ => rfl) (de_var 0) (de_var 2) (fun _ _ => rfl)) (dg_name 4 (fun _ => S__law_bcut.nd)))
    (dss_one (ds_ret (de_call (fun _ => (c__law_btidy T)) (fun _ => hr) (fun _ => hx) (fun _ => rfl) (da_cons (de_lc (mk := false) N__law_bcut (defScope s__law_bcut) [("part", 5), ("far", 6)] (blkOk_by (by decide +kernel)) (sub_by (by decide)) (fun _ => rfl) (fun _ => S__law_bcut.nd) (di_zip (fun _ => rfl) (fun _ => T.z_zip) (da_cons (de_var 0) (da_cons (de_var 1) da_nil))) (dg_tup (n := 2) (fun _ => rfl) (fun _ => rfl) (dgs_cons (dg_name 5 (fun _ => S__law_bcut.nd)) (dgs_cons (dg_name 6 (fun _ => S__law_bcut.nd)) dgs_nil))) dts_nil (de_sub (de_mul (mk := false) (de_var 5) (de_ix (fun _ => rfl) (de_var 1) (de_var 2) (fun _ _ => rfl))) (de_mul (mk := false) (de_var 4) (de_var 6)))) (da_cons (de_var 3) da_nil))))))
/-! ### _law_breduce -/
abbrev N__law_breduce : List Str := ["rows", "by", "left", "done", "column", "spots", "pivot", "row", "at"]
theorem S__law_breduce : FnScope N__law_breduce ["rows", "by"] (defScope s__law_breduce) := ⟨rfl, rfl, rfl, by decide +kernel, rfl, by decide +kernel, by decide +kernel⟩
def p__law_breduce_e1 (δ : DL.Env) : M RV :=
  (evCallF 4 f__law_bcut (evCons (evVar 7) (evCons (evVar 6) (evCons (evVar 4) (evCons (evVar 1) evNil))))) δ
def p__law_breduce_e2 (δ : DL.Env) : M RV :=
  (evCallF 4 f__law_bcut (evCons (evVar 7) (evCons (evVar 6) (evCons (evVar 4) (evCons (evVar 1) evNil))))) δ
def p__law_breduce_s3 (δ : DL.Env) : M (Fl × DL.Env) :=
  (evSeq (evAsg (evLcP true [7] (evPk id (evVar 2)) (gtName 7) evYes p__law_breduce_e2) (gtName 2))
    (evAsg (ev2 (opAdd false) (evLc false [7] (evIter (evVar 3)) (gtName 7) evYes p__law_breduce_e1) (evLst false (evCons (evVar 6) evNil))) (gtName 3))) δ
def p__law_breduce_s4 (δ : DL.Env) : M (Fl × DL.Env) :=
  (evSeq (evAsg (evMth mPop (evVar 2) (evCons (ev2 opIx (evVar 5) (cI 0)) evNil)) (gtName 6))
    p__law_breduce_s3) δ
def p__law_breduce_s5 (δ : DL.Env) : M (Fl × DL.Env) :=
  (evSeq (evIfS (evB (ev2 (opEq false) (evVar 5) (evLst false evNil))) (fun δ => M.ret (.ct, δ)) evNext)
    p__law_breduce_s4) δ
def p__law_breduce_e6 (δ : DL.Env) : M RV :=
  (evVar 8) δ
def p__law_breduce_q7 (δ : DL.Env) : M Bool :=
  (evB (ev2 (opEq true) (ev2 opIx (evVar 7) (evVar 4)) (cI 0))) δ
def p__law_breduce_b8 (δ : DL.Env) : M (Fl × DL.Env) :=
  (evSeq (evAsg (evLcP false [8, 7] (evPk enumD (evVar 2)) (gtUnp 2 (gtCons (gtName 8) (gtCons (gtName 7) gtNil))) p__law_breduce_q7 p__law_breduce_e6) (gtName 5))
    p__law_breduce_s5) δ
def p__law_breduce_e9 (δ : DL.Env) : M RV :=
  (evCallF 2 f__law_btidy (evCons (evVar 7) (evCons (evVar 1) evNil))) δ
def m__law_breduce (δ : DL.Env) : M (Fl × DL.Env) :=
  (evSeq (evPar 2 3 (evCons (evLc true [7] (evIter (evVar 0)) (gtName 7) evYes p__law_breduce_e9) (evCons (evLst false evNil) evNil)))
    (evSeq (evFor (evRange1 (evCons (evIf (evB (ev2 opGt (evCall bLen (evCons (evVar 0) evNil)) (cI 0))) (evCall bLen (evCons (ev2 opIx (evVar 0) (cI 0)) evNil)) (cI 0)) evNil)) (gtName 4) p__law_breduce_b8)
    (evRet (evVar 3)))) δ
@[irreducible] def f__law_breduce : List RV → M RV := fnD 9 m__law_breduce
theorem c__law_breduce (T : Top K mg) : CalD P w K mg base cv 4 "_law_breduce" 2 f__law_breduce := by
  unfold f__law_breduce
  refine T.d__law_breduce.cal S__law_breduce fun f cdv A outer s H E hr => ?_
  have hx : Passes (L2.CX P w) (cxOf (L2.CX P w) P w K mg base N__law_breduce "_law_breduce" (defScope s__law_breduce) f cdv A outer s H E) E := passes_call (takes_of rfl rfl rfl rfl) (fun _ _ _ _ h => h)
  have hp : PassesOwn (model P w) (cxOf (L2.CX P w) P w K mg base N__law_breduce "_law_breduce" (defScope s__law_breduce) f cdv A outer s H E).A (cxOf (L2.CX P w) P w K mg base N__law_breduce "_law_breduce" (defScope s__law_breduce) f cdv A outer s H E).env (cxOf (L2.CX P w) P w K mg base N__law_breduce "_law_breduce" (defScope s__law_breduce) f cdv A outer s H E).xe := passes_of rfl
  exact (dss_cons (ds_par 2 3 (fun _ => rfl) (fun _ => S__law_breduce.nd) (da_cons (de_lc (mk := true) N__law_breduce (defScope s__law_breduce) [("row", 7)] (blkOk_by (by decide +kernel)) (sub_by (by decide)) (fun _ => rfl) (fun _ => S__law_breduce.nd) (di_any (fun _ => rfl) (de_var 0)) (dg_name 7 (fun _ => S__law_breduce.nd)) dts_nil (de_call (fun _ => (c__law_btidy T)) (fun _ => hr) (fun _ => passL) (fun _ => rfl) (da_cons (de_var 7) (da_cons (de_var 1) da_nil)))) (da_cons (de_lst (mk := false) da_nil) da_nil)))
    (dss_cons (ds_for (fun _ => hp) (fun _ => rfl) (di_range1 (fun _ => T.z_range) (da_cons (de_if (dt_cmp (fun _ => op_gt) opd_gt (de_callB (fun _ => call_bLen rfl) cd_len (fun _ => T.z_len) (da_cons (de_var 0) da_nil)) de_int rfl) (de_callB (fun _ => call_bLen rfl) cd_len (fun _ => T.z_len) (da_cons (de_ix (fun _ => rfl) (de_var 0) de_int (fun _ _ => rfl)) da_nil)) de_int) da_nil)) (dg_name 4 (fun _ => S__law_breduce.nd)) (dss_cons (ds_setLcP (mk := false) N__law_breduce (defScope s__law_breduce) [("at", 8), ("row", 7)] 5 (blkOk_by (by decide +kernel)) (sub_by (by decide)) (fun _ => rfl) (fun _ => S__law_breduce.nd) (dip_enum (fun _ => rfl) (fun _ => T.z_enumerate) (de_var 2)) (dg_tup (n := 2) (fun _ => rfl) (fun _ => rfl) (dgs_cons (dg_name 8 (fun _ => S__law_breduce.nd)) (dgs_cons (dg_name 7 (fun _ => S__law_breduce.nd)) dgs_nil))) (dts_one (dt_cmp (or_ne (fun _ => rfl) (fun _ => hr)) opd_ne (de_ix (fun _ => rfl) (de_var 7) (de_var 4) (fun _ _ => rfl)) de_int rfl)) (de_var 8) rfl rfl (fun _ => sw_true rfl rfl rfl (by decide +kernel)))
    (dss_cons (ds_if (dt_cmp (or_eq (fun _ => rfl) (fun _ => hr)) opd_eq (de_var 5) (de_lst (mk := false) da_nil) rfl) (dss_one ds_cont) dss_nil)
    (dss_cons (ds_asg (de_mthL (fun _ => rfl) PySem.F.slot_list_pop PySem.F.type_list_pop (fun _ => mt_popAt) md_pop (de_var 2) (da_cons (de_ix (fun _ => rfl) (de_var 5) de_int (fun _ _ => rfl)) da_nil)) (dg_name 6 (fun _ => S__law_breduce.nd)))
    (dss_cons (ds_setLcP (mk := true) N__law_breduce (defScope s__law_breduce) [("row", 7)] 2 (blkOk_by (by decide +kernel)) (sub_by (by decide)) (fun _ => rfl) (fun _ => S__law_breduce.nd) (dip_list (fun _ => rfl) (de_var 2)) (dg_name 7 (fun _ => S__law_breduce.nd)) dts_nil (de_call (fun _ => (c__law_bcut T)) (fun _ => hr) (fun _ => passL) (fun _ => rfl) (da_cons (de_var 7) (da_cons (de_var 6) (da_cons (de_var 4) (da_cons (de_var 1) da_nil))))) rfl rfl (fun _ => sw_true rfl rfl rfl (by decide +kernel)))
    (dss_one (ds_asg (de_add (mk := false) (fun _ => rfl) (de_lc (mk := false) N__law_breduce (defScope s__law_breduce) [("row", 7)] (blkOk_by (by decide +kernel)) (sub_by (by decide)) (fun _ => rfl) (fun _ => S__law_breduce.nd) (di_any (fun _ => rfl) (de_var 3)) (dg_name 7 (fun _ => S__law_breduce.nd)) dts_nil (de_call (fun _ => (c__law_bcut T)) (fun _ => hr) (fun _ => passL) (fun _ => rfl) (da_cons (de_var 7) (da_cons (de_var 6) (da_cons (de_var 4) (da_cons (de_var 1) da_nil)))))) (de_lst (mk := false) (da_cons (de_var 6) da_nil))) (dg_name 3 (fun _ => S__law_breduce.nd)))))))))
    (dss_one (ds_ret (de_var 3)))))
/-! ### _law_chance -/
abbrev N__law_chance : List Str := ["stream", "many"]
theorem S__law_chance : FnScope N__law_chance ["stream", "many"] (defScope s__law_chance) := ⟨rfl, rfl, rfl, by decide +kernel, rfl, by decide +kernel, by decide +kernel⟩
def m__law_chance (δ : DL.Env) : M (Fl × DL.Env) :=
  (evRet (ev2 (opEq false) (evCallF 2 f__law_below (evCons (evVar 0) (evCons (evVar 1) evNil))) (cI 0))) δ
@[irreducible] def f__law_chance : List RV → M RV := fnD 2 m__law_chance
theorem c__law_chance (T : Top K mg) : CalD P w K mg base cv 2 "_law_chance" 2 f__law_chance := by
  unfold f__law_chance
  refine T.d__law_chance.cal S__law_chance fun f cdv A outer s H E hr => ?_
  have hx : Passes (L2.CX P w) (cxOf (L2.CX P w) P w K mg base N__law_chance "_law_chance" (defScope s__law_chance) f cdv A outer s H E) E := passes_call (takes_of rfl rfl rfl rfl) (fun _ _ _ _ h => h)
  have hp : PassesOwn (model P w) (cxOf (L2.CX P w) P w K mg base N__law_chance "_law_chance" (defScope s__law_chance) f cdv A outer s H E).A (cxOf (L2.CX P w) P w K mg base N__law_chance "_law_chance" (defScope s__law_chance) f cdv A outer s H E).env (cxOf (L2.CX P w) P w K mg base N__law_chance "_law_chance" (defScope s__law_chance) f cdv A outer s H E).xe := passes_of rfl
  exact (dss_one (ds_ret (de_cmp (or_eq (fun _ => rfl) (fun _ => hr)) opd_eq (de_call (fun _ => (c__law_below T)) (fun _ => hr) (fun _ => hx) (fun _ => rfl) (da_cons (de_var 0) (da_cons (de_var 1) da_nil))) de_int rfl)))
/-! ### _law_bnumber -/
abbrev N__law_bnumber : List Str := ["stream"]
theorem S__law_bnumber : FnScope N__law_bnumber ["stream"] (defScope s__law_bnumber) := ⟨rfl, rfl, rfl, by decide +kernel, rfl, by decide +kernel, by decide +kernel⟩
def m__law_bnumber (δ : DL.Env) : M (Fl × DL.Env) :=
  (evRet (evIf (evB (evCallF 2 f__law_chance (evCons (evVar 0) (evCons (cI 14) evNil)))) (ev2 opSub (evCallF 2 f__law_below (evCons (evVar 0) (evCons (cI 1999) evNil))) (cI 999)) (ev2 opSub (evCallF 2 f__law_below (evCons (evVar 0) (evCons (cI 6) evNil))) (cI 2)))) δ
@[irreducible] def f__law_bnumber : List RV → M RV := fnD 1 m__law_bnumber
theorem c__law_bnumber (T : Top K mg) : CalD P w K mg base cv 3 "_law_bnumber" 1 f__law_bnumber := by
  unfold f__law_bnumber
  refine T.d__law_bnumber.cal S__law_bnumber fun f cdv A outer s H E hr => ?_
  have hx : Passes (L2.CX P w) (cxOf (L2.CX P w) P w K mg base N__law_bnumber "_law_bnumber" (defScope s__law_bnumber) f cdv A outer s H E) E := passes_call (takes_of rfl rfl rfl rfl) (fun _ _ _ _ h => h)
  have hp : PassesOwn (model P w) (cxOf (L2.CX P w) P w K mg base N__law_bnumber "_law_bnumber" (defScope s__law_bnumber) f cdv A outer s H E).A (cxOf (L2.CX P w) P w K mg base N__law_bnumber "_law_bnumber" (defScope s__law_bnumber) f cdv A outer s H E).env (cxOf (L2.CX P w) P w K mg base N__law_bnumber "_law_bnumber" (defScope s__law_bnumber) f cdv A outer s H E).xe := passes_of rfl
  exact (dss_one (ds_ret (de_if (dt_val (de_call (fun _ => (c__law_chance T)) (fun _ => hr) (fun _ => hx) (fun _ => rfl) (da_cons (de_var 0) (da_cons de_int da_nil)))) (de_sub (de_call (fun _ => (c__law_below T)) (fun _ => hr) (fun _ => hx) (fun _ => rfl) (da_cons (de_var 0) (da_cons de_int da_nil))) de_int) (de_sub (de_call (fun _ => (c__law_below T)) (fun _ => hr) (fun _ => hx) (fun _ => rfl) (da_cons (de_var 0) (da_cons de_int da_nil))) de_int))))
/-! ### _law_bentry -/
abbrev N__law_bentry : List Str := ["stream", "by"]
theorem S__law_bentry : FnScope N__law_bentry ["stream", "by"] (defScope s__law_bentry) := ⟨rfl, rfl, rfl, by decide +kernel, rfl, by decide +kernel, by decide +kernel⟩
def m__law_bentry (δ : DL.Env) : M (Fl × DL.Env) :=
  (evRet (evIf (evB (ev2 opGt (evVar 1) (cI 0))) (evCallF 2 f__law_below (evCons (evVar 0) (evCons (evVar 1) evNil))) (evCallF 2 f__law_pick (evCons (evVar 0) (evCons (evLst false (evCons (cI 0) (evCons (cI 0) (evCons (evCallF 1 f__law_bnumber (evCons (evVar 0) evNil)) evNil)))) evNil))))) δ
@[irreducible] def f__law_bentry : List RV → M RV := fnD 2 m__law_bentry
theorem c__law_bentry (T : Top K mg) : CalD P w K mg base cv 4 "_law_bentry" 2 f__law_bentry := by
  unfold f__law_bentry
  refine T.d__law_bentry.cal S__law_bentry fun f cdv A outer s H E hr => ?_
  have hx : Passes (L2.CX P w) (cxOf (L2.CX P w) P w K mg base N__law_bentry "_law_bentry" (defScope s__law_bentry) f cdv A outer s H E) E := passes_call (takes_of rfl rfl rfl rfl) (fun _ _ _ _ h => h)
  have hp : PassesOwn (model P w) (cxOf (L2.CX P w) P w K mg base N__law_bentry "_law_bentry" (defScope s__law_bentry) f cdv A outer s H E).A (cxOf (L2.CX P w) P w K mg base N__law_bentry "_law_bentry" (defScope s__law_bentry) f cdv A outer s H E).env (cxOf (L2.CX P w) P w K mg base N__law_bentry "_law_bentry" (defScope s__law_bentry) f cdv A outer s H E).xe := passes_of rfl
  exact (dss_one (ds_ret (de_if (dt_cmp (fun _ => op_gt) opd_gt (de_var 1) de_int rfl) (de_call (fun _ => (c__law_below T)) (fun _ => hr) (fun _ => hx) (fun _ => rfl) (da_cons (de_var 0) (da_cons (de_var 1) da_nil))) (de_call (fun _ => (c__law_pick T)) (fun _ => hr) (fun _ => hx) (fun _ => rfl) (da_cons (de_var 0) (da_cons (de_lst (mk := false) (da_cons de_int (da_cons de_int (da_cons (de_call (fun _ => (c__law_bnumber T)) (fun _ => hr) (fun _ => hx) (fun _ => rfl) (da_cons (de_var 0) da_nil)) da_nil)))) da_nil))))))
/-! ### _law_bspace -/
abbrev N__law_bspace : List Str := ["stream", "size", "by", "heads", "found", "head", "row", "column"]
theorem S__law_bspace : FnScope N__law_bspace ["stream", "size", "by"] (defScope s__law_bspace) := ⟨rfl, rfl, rfl, by decide +kernel, rfl, by decide +kernel, by decide +kernel⟩
def p__law_bspace_e1 (δ : DL.Env) : M RV :=
  (evIf (evOrT (evB (ev2 opLt (evVar 7) (evVar 5))) (evB (ev2 (opIn false) (evVar 7) (evVar 3)))) (cI 0) (evCallF 2 f__law_bentry (evCons (evVar 0) (evCons (evVar 2) evNil)))) δ
def p__law_bspace_b2 (δ : DL.Env) : M (Fl × DL.Env) :=
  (evSeq (evAsg (evLc true [7] (evRange1 (evCons (evVar 1) evNil)) (gtName 7) evYes p__law_bspace_e1) (gtName 6))
    (evSeq (evAsg (evIf (evB (ev2 opGt (evVar 2) (cI 0))) (cI 1) (ev2 (opAdd false) (cI 1) (evCallF 2 f__law_pick (evCons (evVar 0) (evCons (evLst false (evCons (cI 0) (evCons (cI 0) (evCons (cI 1) (evCons (evCallF 2 f__law_below (evCons (evVar 0) (evCons (cI 7) evNil))) evNil))))) evNil))))) (gtSub (evVar 6) (evVar 5)))
    (evDrop (evMth mAppend (evVar 4) (evCons (evCallF 2 f__law_btidy (evCons (evFrz (evVar 6)) (evCons (evVar 2) evNil))) evNil))))) δ
def p__law_bspace_e3 (δ : DL.Env) : M RV :=
  (evVar 7) δ
def p__law_bspace_q4 (δ : DL.Env) : M Bool :=
  (evB (ev2 (opEq false) (evCallF 2 f__law_below (evCons (evVar 0) (evCons (cI 2) evNil))) (cI 0))) δ
def m__law_bspace (δ : DL.Env) : M (Fl × DL.Env) :=
  (evSeq (evParT 2 (evCons (evLc false [7] (evRange1 (evCons (evVar 1) evNil)) (gtName 7) p__law_bspace_q4 p__law_bspace_e3) (evCons (evLst true evNil) evNil)) (gtCons (gtName 3) (gtCons (gtName 4) gtNil)))
    (evSeq (evFor (evIter (evVar 3)) (gtName 5) p__law_bspace_b2)
    (evRet (evFrz (evVar 4))))) δ
@[irreducible] def f__law_bspace : List RV → M RV := fnD 8 m__law_bspace
theorem c__law_bspace (T : Top K mg) : CalD P w K mg base cv 5 "_law_bspace" 3 f__law_bspace := by
  unfold f__law_bspace
  refine T.d__law_bspace.cal S__law_bspace fun f cdv A outer s H E hr => ?_
  have hx : Passes (L2.CX P w) (cxOf (L2.CX P w) P w K mg base N__law_bspace "_law_bspace" (defScope s__law_bspace) f cdv A outer s H E) E := passes_call (takes_of rfl rfl rfl rfl) (fun _ _ _ _ h => h)
  have hp : PassesOwn (model P w) (cxOf (L2.CX P w) P w K mg base N__law_bspace "_law_bspace" (defScope s__law_bspace) f cdv A outer s H E).A (cxOf (L2.CX P w) P w K mg base N__law_bspace "_law_bspace" (defScope s__law_bspace) f cdv A outer s H E).env (cxOf (L2.CX P w) P w K mg base N__law_bspace "_law_bspace" (defScope s__law_bspace) f cdv A outer s H E).xe := passes_of rfl
  exact (dss_cons (ds_parT (n := 2) (fun _ => rfl) (fun _ => rfl) (da_cons (de_lc (mk := false) N__law_bspace (defScope s__law_bspace) [("column", 7)] (blkOk_by (by decide +kernel)) (sub_by (by decide)) (fun _ => rfl) (fun _ => S__law_bspace.nd) (di_range1 (fun _ => T.z_range) (da_cons (de_var 1) da_nil)) (dg_name 7 (fun _ => S__law_bspace.nd)) (dts_one (dt_cmp (or_eq (fun _ => rfl) (fun _ => hr)) opd_eq (de_call (fun _ => (c__law_below T)) (fun _ => hr) (fun _ => passL) (fun _ => rfl) (da_cons (de_var 0) (da_cons de_int da_nil))) de_int rfl)) (de_var 7)) (da_cons (de_lst (mk := true) da_nil) da_nil)) (dgs_cons (dg_name 3 (fun _ => S__law_bspace.nd)) (dgs_cons (dg_name 4 (fun _ => S__law_bspace.nd)) dgs_nil)))
    (dss_cons (ds_for (fun _ => hp) (fun _ => rfl) (di_any (fun _ => rfl) (de_var 3)) (dg_name 5 (fun _ => S__law_bspace.nd)) (dss_cons (ds_setLc (mk := true) N__law_bspace (defScope s__law_bspace) [("column", 7)] 6 (blkOk_by (by decide +kernel)) (sub_by (by decide)) (fun _ => rfl) (fun _ => S__law_bspace.nd) (di_range1 (fun _ => T.z_range) (da_cons (de_var 1) da_nil)) (dg_name 7 (fun _ => S__law_bspace.nd)) dts_nil (de_if (DW.t (dw_or (dt_cmp (fun _ => op_lt) opd_lt (de_var 7) (de_var 5) rfl) (dw_or1 (dt_cmp (or_in (fun _ => rfl)) opd_in (de_var 7) (de_var 3) rfl)))) de_int (de_call (fun _ => (c__law_bentry T)) (fun _ => hr) (fun _ => passL) (fun _ => rfl) (da_cons (de_var 0) (da_cons (de_var 2) da_nil)))) rfl rfl (fun _ => sw_true rfl rfl rfl (by decide +kernel)))
    (dss_cons (ds_asg (de_if (dt_cmp (fun _ => op_gt) opd_gt (de_var 2) de_int rfl) de_int (de_add (mk := false) (fun _ => rfl) de_int (de_call (fun _ => (c__law_pick T)) (fun _ => hr) (fun _ => hx) (fun _ => rfl) (da_cons (de_var 0) (da_cons (de_lst (mk := false) (da_cons de_int (da_cons de_int (da_cons de_int (da_cons (de_call (fun _ => (c__law_below T)) (fun _ => hr) (fun _ => hx) (fun _ => rfl) (da_cons (de_var 0) (da_cons de_int da_nil))) da_nil))))) da_nil))))) (dg_sub (de_var 6) (de_var 5)))
    (dss_one (ds_expr (de_mthL (fun _ => rfl) PySem.F.slot_list_append PySem.F.type_list_append (fun _ => mt_append) md_append (de_var 4) (da_cons (de_call (fun _ => (c__law_btidy T)) (fun _ => hr) (fun _ => hx) (fun _ => rfl) (da_cons (de_frz (de_var 6)) (da_cons (de_var 2) da_nil))) da_nil)))))))
    (dss_one (ds_ret (de_frz (de_var 4))))))
/-! ### _law_copied -/
abbrev N__law_copied : List Str := ["thing", "found", "key", "part"]
theorem S__law_copied : FnScope N__law_copied ["thing"] (defScope s__law_copied) := ⟨rfl, rfl, rfl, by decide +kernel, rfl, by decide +kernel, by decide +kernel⟩
def p__law_copied_e1 (rec : List RV → M RV) (δ : DL.Env) : M RV :=
  (evCallF 1 rec (evCons (evVar 3) evNil)) δ
def m__law_copied (rec : List RV → M RV) (δ : DL.Env) : M (Fl × DL.Env) :=
  (evSeq (evIfS (evB (evCall bIsi (evCons (evVar 0) (evCons (cT .dct) evNil)))) (evRet evNever) evNext)
    (evSeq (evIfS (evNotT (evB (evCall bIsi (evCons (evVar 0) (evCons (evTup (evCons (cT .lst) (evCons (cT .tup) evNil))) evNil))))) (evRet (evVar 0)) evNext)
    (evSeq (evAsg (evLc false [3] (evIter (evVar 0)) (gtName 3) evYes (p__law_copied_e1 rec)) (gtName 1))
    (evRet (evIf (evB (evCall bIsi (evCons (evVar 0) (evCons (cT .lst) evNil)))) (evVar 1) (evCall bTuple (evCons (evVar 1) evNil))))))) δ
@[irreducible] def f__law_copied (n : Nat) : List RV → M RV := Nat.rec (fun _ => M.fail) (fun _ r => fnD 4 (m__law_copied r)) n
theorem f__law_copied_0 : f__law_copied 0 = fun _ => M.fail := by unfold f__law_copied; rfl
theorem f__law_copied_s (n : Nat) : f__law_copied (n + 1) = fnD 4 (m__law_copied (f__law_copied n)) := by unfold f__law_copied; rfl
theorem c__law_copied (T : Top K mg) (n : Nat) : CalD P w K mg base cv (n + 0) "_law_copied" 1 (f__law_copied n) := by
  induction n with
  | zero =>
    rw [f__law_copied_0]
    exact T.d__law_copied.zero.mono (Nat.zero_le _)
  | succ n rec =>
    rw [Nat.add_right_comm, f__law_copied_s]
    refine T.d__law_copied.cal S__law_copied fun f cdv A outer s H E hr => ?_
    have hx : Passes (L2.CX P w) (cxOf (L2.CX P w) P w K mg base N__law_copied "_law_copied" (defScope s__law_copied) f cdv A outer s H E) E := passes_call (takes_of rfl rfl rfl rfl) (fun _ _ _ _ h => h)
    have hp : PassesOwn (model P w) (cxOf (L2.CX P w) P w K mg base N__law_copied "_law_copied" (defScope s__law_copied) f cdv A outer s H E).A (cxOf (L2.CX P w) P w K mg base N__law_copied "_law_copied" (defScope s__law_copied) f cdv A outer s H E).env (cxOf (L2.CX P w) P w K mg base N__law_copied "_law_copied" (defScope s__law_copied) f cdv A outer s H E).xe := passes_of rfl
    exact (dss_cons (ds_if (dt_val (de_callB (fun _ => CallR.or call_isi call_isiT) cd_isi (fun _ => T.z_isinstance) (da_cons (de_var 0) (da_cons (de_ty .dct (fun _ => T.z_dict)) da_nil)))) (dss_one (ds_ret DE.never)) dss_nil)
    (dss_cons (ds_if (dt_not (dt_val (de_callB (fun _ => CallR.or call_isi call_isiT) cd_isi (fun _ => T.z_isinstance) (da_cons (de_var 0) (da_cons (de_tup (da_cons (de_ty .lst (fun _ => T.z_list)) (da_cons (de_ty .tup (fun _ => T.z_tuple)) da_nil))) da_nil))))) (dss_one (ds_ret (de_var 0))) dss_nil)
    (dss_cons (ds_setLc (mk := false) N__law_copied (defScope s__law_copied) [("part", 3)] 1 (blkOk_by (by decide +kernel)) (sub_by (by decide)) (fun _ => rfl) (fun _ => S__law_copied.nd) (di_any (fun _ => rfl) (de_var 0)) (dg_name 3 (fun _ => S__law_copied.nd)) dts_nil (de_call (fun _ => rec) (fun _ => hr) (fun _ => passL) (fun _ => rfl) (da_cons (de_var 3) da_nil)) rfl rfl (fun _ => sw_true rfl rfl rfl (by decide +kernel)))
    (dss_one (ds_ret (de_if (dt_val (de_callB (fun _ => CallR.or call_isi call_isiT) cd_isi (fun _ => T.z_isinstance) (da_cons (de_var 0) (da_cons (de_ty .lst (fun _ => T.z_list)) da_nil)))) (de_var 1) (de_callTy (fun _ => call_bTuple rfl) cd_tuple (fun _ => T.z_tuple) (da_cons (de_var 1) da_nil))))))))
/-! ### _law_mixed -/
abbrev N__law_mixed : List Str := ["stream", "some", "left", "k"]
theorem S__law_mixed : FnScope N__law_mixed ["stream", "some"] (defScope s__law_mixed) := ⟨rfl, rfl, rfl, by decide +kernel, rfl, by decide +kernel, by decide +kernel⟩
def p__law_mixed_e1 (δ : DL.Env) : M RV :=
  (evMth mPop (evVar 2) (evCons (evCallF 2 f__law_below (evCons (evVar 0) (evCons (evCall bLen (evCons (evVar 2) evNil)) evNil))) evNil)) δ
def m__law_mixed (δ : DL.Env) : M (Fl × DL.Env) :=
  (evSeq (evAsg (evCall (bList true) (evCons (evVar 1) evNil)) (gtName 2))
    (evRet (evLc false [3] (evRange1 (evCons (evCall bLen (evCons (evVar 2) evNil)) evNil)) (gtName 3) evYes p__law_mixed_e1))) δ
@[irreducible] def f__law_mixed : List RV → M RV := fnD 4 m__law_mixed
theorem c__law_mixed (T : Top K mg) : CalD P w K mg base cv 2 "_law_mixed" 2 f__law_mixed := by
  unfold f__law_mixed
  refine T.d__law_mixed.cal S__law_mixed fun f cdv A outer s H E hr => ?_
  have hx : Passes (L2.CX P w) (cxOf (L2.CX P w) P w K mg base N__law_mixed "_law_mixed" (defScope s__law_mixed) f cdv A outer s H E) E := passes_call (takes_of rfl rfl rfl rfl) (fun _ _ _ _ h => h)
  have hp : PassesOwn (model P w) (cxOf (L2.CX P w) P w K mg base N__law_mixed "_law_mixed" (defScope s__law_mixed) f cdv A outer s H E).A (cxOf (L2.CX P w) P w K mg base N__law_mixed "_law_mixed" (defScope s__law_mixed) f cdv A outer s H E).env (cxOf (L2.CX P w) P w K mg base N__law_mixed "_law_mixed" (defScope s__law_mixed) f cdv A outer s H E).xe := passes_of rfl
  exact (dss_cons (ds_asg (de_callTy (fun _ => call_bList rfl rfl) (cd_list (mk := true)) (fun _ => T.z_list) (da_cons (de_var 1) da_nil)) (dg_name 2 (fun _ => S__law_mixed.nd)))
    (dss_one (ds_ret (de_lc (mk := false) N__law_mixed (defScope s__law_mixed) [("k", 3)] (blkOk_by (by decide +kernel)) (sub_by (by decide)) (fun _ => rfl) (fun _ => S__law_mixed.nd) (di_range1 (fun _ => T.z_range) (da_cons (de_callB (fun _ => call_bLen rfl) cd_len (fun _ => T.z_len) (da_cons (de_var 2) da_nil)) da_nil)) (dg_name 3 (fun _ => S__law_mixed.nd)) dts_nil (de_mthL (fun _ => rfl) PySem.F.slot_list_pop PySem.F.type_list_pop (fun _ => mt_popAt) md_pop (de_var 2) (da_cons (de_call (fun _ => (c__law_below T)) (fun _ => hr) (fun _ => passL) (fun _ => rfl) (da_cons (de_var 0) (da_cons (de_callB (fun _ => call_bLen rfl) cd_len (fun _ => T.z_len) (da_cons (de_var 2) da_nil)) da_nil))) da_nil))))))
/-! ### _law_loose -/
abbrev N__law_loose : List Str := ["stream", "thing", "found", "key", "part"]
theorem S__law_loose : FnScope N__law_loose ["stream", "thing"] (defScope s__law_loose) := ⟨rfl, rfl, rfl, by decide +kernel, rfl, by decide +kernel, by decide +kernel⟩
def p__law_loose_e1 (rec : List RV → M RV) (δ : DL.Env) : M RV :=
  (evCallF 2 rec (evCons (evVar 0) (evCons (evVar 4) evNil))) δ
def m__law_loose (rec : List RV → M RV) (δ : DL.Env) : M (Fl × DL.Env) :=
  (evSeq (evIfS (evB (evCall bIsi (evCons (evVar 1) (evCons (cT .dct) evNil)))) (evRet evNever) evNext)
    (evSeq (evIfS (evNotT (evB (evCall bIsi (evCons (evVar 1) (evCons (evTup (evCons (cT .lst) (evCons (cT .tup) evNil))) evNil))))) (evRet (evVar 1)) evNext)
    (evSeq (evAsg (evLc false [4] (evIter (evVar 1)) (gtName 4) evYes (p__law_loose_e1 rec)) (gtName 2))
    (evRet (evIf (evB (ev2 (opEq false) (evCallF 2 f__law_below (evCons (evVar 0) (evCons (cI 2) evNil))) (cI 0))) (evVar 2) (evCall bTuple (evCons (evVar 2) evNil))))))) δ
@[irreducible] def f__law_loose (n : Nat) : List RV → M RV := Nat.rec (fun _ => M.fail) (fun _ r => fnD 5 (m__law_loose r)) n
theorem f__law_loose_0 : f__law_loose 0 = fun _ => M.fail := by unfold f__law_loose; rfl
theorem f__law_loose_s (n : Nat) : f__law_loose (n + 1) = fnD 5 (m__law_loose (f__law_loose n)) := by unfold f__law_loose; rfl
theorem c__law_loose (T : Top K mg) (n : Nat) : CalD P w K mg base cv (n + 2) "_law_loose" 2 (f__law_loose n) := by
  induction n with
  | zero =>
    rw [f__law_loose_0]
    exact T.d__law_loose.zero.mono (Nat.zero_le _)
  | succ n rec =>
    rw [Nat.add_right_comm, f__law_loose_s]
    refine T.d__law_loose.cal S__law_loose fun f cdv A outer s H E hr => ?_
    have hx : Passes (L2.CX P w) (cxOf (L2.CX P w) P w K mg base N__law_loose "_law_loose" (defScope s__law_loose) f cdv A outer s H E) E := passes_call (takes_of rfl rfl rfl rfl) (fun _ _ _ _ h => h)
    have hp : PassesOwn (model P w) (cxOf (L2.CX P w) P w K mg base N__law_loose "_law_loose" (defScope s__law_loose) f cdv A outer s H E).A (cxOf (L2.CX P w) P w K mg base N__law_loose "_law_loose" (defScope s__law_loose) f cdv A outer s H E).env (cxOf (L2.CX P w) P w K mg base N__law_loose "_law_loose" (defScope s__law_loose) f cdv A outer s H E).xe := passes_of rfl
    exact (dss_cons (ds_if (dt_val (de_callB (fun _ => CallR.or call_isi call_isiT) cd_isi (fun _ => T.z_isinstance) (da_cons (de_var 1) (da_cons (de_ty .dct (fun _ => T.z_dict)) da_nil)))) (dss_one (ds_ret DE.never)) dss_nil)
    (dss_cons (ds_if (dt_not (dt_val (de_callB (fun _ => CallR.or call_isi call_isiT) cd_isi (fun _ => T.z_isinstance) (da_cons (de_var 1) (da_cons (de_tup (da_cons (de_ty .lst (fun _ => T.z_list)) (da_cons (de_ty .tup (fun _ => T.z_tuple)) da_nil))) da_nil))))) (dss_one (ds_ret (de_var 1))) dss_nil)
    (dss_cons (ds_setLc (mk := false) N__law_loose (defScope s__law_loose) [("part", 4)] 2 (blkOk_by (by decide +kernel)) (sub_by (by decide)) (fun _ => rfl) (fun _ => S__law_loose.nd) (di_any (fun _ => rfl) (de_var 1)) (dg_name 4 (fun _ => S__law_loose.nd)) dts_nil (de_call (fun _ => rec) (fun _ => hr) (fun _ => passL) (fun _ => rfl) (da_cons (de_var 0) (da_cons (de_var 4) da_nil))) rfl rfl (fun _ => sw_true rfl rfl rfl (by decide +kernel)))
    (dss_one (ds_ret (de_if (dt_cmp (or_eq (fun _ => rfl) (fun _ => hr)) opd_eq (de_call (fun _ => (c__law_below T)) (fun _ => hr) (fun _ => hx) (fun _ => rfl) (da_cons (de_var 0) (da_cons de_int da_nil))) de_int rfl) (de_var 2) (de_callTy (fun _ => call_bTuple rfl) cd_tuple (fun _ => T.z_tuple) (da_cons (de_var 2) da_nil))))))))
/-! ### _law_same -/
abbrev N__law_same : List Str := ["found", "due", "x", "y"]
theorem S__law_same : FnScope N__law_same ["found", "due"] (defScope s__law_same) := ⟨rfl, rfl, rfl, by decide +kernel, rfl, by decide +kernel, by decide +kernel⟩
theorem c__law_same (T : Top K mg) (n : Nat) : CalD P w K mg base cv (n + 0) "_law_same" 2 (f__law_same n) := by
  induction n with
  | zero =>
    rw [f__law_same_0]
    exact T.d__law_same.zero.mono (Nat.zero_le _)
  | succ n rec =>
    rw [Nat.add_right_comm, f__law_same_s]
    refine T.d__law_same.cal S__law_same fun f cdv A outer s H E hr => ?_
    have hx : Passes (L2.CX P w) (cxOf (L2.CX P w) P w K mg base N__law_same "_law_same" (defScope s__law_same) f cdv A outer s H E) E := passes_call (takes_of rfl rfl rfl rfl) (fun _ _ _ _ h => h)
    have hp : PassesOwn (model P w) (cxOf (L2.CX P w) P w K mg base N__law_same "_law_same" (defScope s__law_same) f cdv A outer s H E).A (cxOf (L2.CX P w) P w K mg base N__law_same "_law_same" (defScope s__law_same) f cdv A outer s H E).env (cxOf (L2.CX P w) P w K mg base N__law_same "_law_same" (defScope s__law_same) f cdv A outer s H E).xe := passes_of rfl
    exact (dss_cons (ds_if (dt_val (de_callB (fun _ => CallR.or call_isi call_isiT) cd_isi (fun _ => T.z_isinstance) (da_cons (de_var 1) (da_cons (de_tup (da_cons (de_ty .lst (fun _ => T.z_list)) (da_cons (de_ty .tup (fun _ => T.z_tuple)) da_nil))) da_nil)))) (dss_cons (ds_if (DW.t (dw_or (dt_cmp (or_ne (fun _ => rfl) (fun _ => hr)) opd_ne (de_callB (fun _ => CallR.or call_isi call_isiT) cd_isi (fun _ => T.z_isinstance) (da_cons (de_var 0) (da_cons (de_ty .lst (fun _ => T.z_list)) da_nil))) (de_callB (fun _ => CallR.or call_isi call_isiT) cd_isi (fun _ => T.z_isinstance) (da_cons (de_var 1) (da_cons (de_ty .lst (fun _ => T.z_list)) da_nil))) rfl) (dw_or1 (dt_cmp (or_ne (fun _ => rfl) (fun _ => hr)) opd_ne (de_callB (fun _ => CallR.or call_isi call_isiT) cd_isi (fun _ => T.z_isinstance) (da_cons (de_var 0) (da_cons (de_ty .tup (fun _ => T.z_tuple)) da_nil))) (de_callB (fun _ => CallR.or call_isi call_isiT) cd_isi (fun _ => T.z_isinstance) (da_cons (de_var 1) (da_cons (de_ty .tup (fun _ => T.z_tuple)) da_nil))) rfl)))) (dss_one (ds_ret de_bl)) dss_nil)
    (dss_one (ds_ret (de_and (de_cmp (or_eq (fun _ => rfl) (fun _ => hr)) opd_eq (de_callB (fun _ => call_bLen rfl) cd_len (fun _ => T.z_len) (da_cons (de_var 0) da_nil)) (de_callB (fun _ => call_bLen rfl) cd_len (fun _ => T.z_len) (da_cons (de_var 1) da_nil)) rfl) (de_one (de_callB (fun _ => call_bAll rfl rfl) cd_all (fun _ => T.z_all) (da_cons (de_lc (mk := false) N__law_same (defScope s__law_same) [("x", 2), ("y", 3)] (blkOk_by (by decide +kernel)) (sub_by (by decide)) (fun _ => rfl) (fun _ => S__law_same.nd) (di_zip (fun _ => rfl) (fun _ => T.z_zip) (da_cons (de_var 0) (da_cons (de_var 1) da_nil))) (dg_tup (n := 2) (fun _ => rfl) (fun _ => rfl) (dgs_cons (dg_name 2 (fun _ => S__law_same.nd)) (dgs_cons (dg_name 3 (fun _ => S__law_same.nd)) dgs_nil))) dts_nil (de_call (fun _ => rec) (fun _ => hr) (fun _ => passL) (fun _ => rfl) (da_cons (de_var 2) (da_cons (de_var 3) da_nil)))) da_nil))))))) dss_nil)
    (dss_cons (ds_if (dt_val (de_callB (fun _ => CallR.or call_isi call_isiT) cd_isi (fun _ => T.z_isinstance) (da_cons (de_var 1) (da_cons (de_ty .dct (fun _ => T.z_dict)) da_nil)))) (dss_one (ds_ret (de_and (de_callB (fun _ => CallR.or call_isi call_isiT) cd_isi (fun _ => T.z_isinstance) (da_cons (de_var 0) (da_cons (de_ty .dct (fun _ => T.z_dict)) da_nil))) (de_one (de_call (fun _ => rec) (fun _ => hr) (fun _ => hx) (fun _ => rfl) (da_cons (de_callTy (fun _ => call_bList rfl rfl) (cd_list (mk := false)) (fun _ => T.z_list) (da_cons DE.never da_nil)) (da_cons (de_callTy (fun _ => call_bList rfl rfl) (cd_list (mk := false)) (fun _ => T.z_list) (da_cons DE.never da_nil)) da_nil))))))) dss_nil)
    (dss_cons (ds_if (dt_val (de_callB (fun _ => CallR.or call_isi call_isiT) cd_isi (fun _ => T.z_isinstance) (da_cons (de_var 1) (da_cons (de_ty .int (fun _ => T.z_int)) da_nil)))) (dss_one (ds_ret (de_and (de_callB (fun _ => CallR.or call_isi call_isiT) cd_isi (fun _ => T.z_isinstance) (da_cons (de_var 0) (da_cons (de_ty .int (fun _ => T.z_int)) da_nil))) (de_and (de_cmp (or_eq (fun _ => rfl) (fun _ => hr)) opd_eq (de_callB (fun _ => CallR.or call_isi call_isiT) cd_isi (fun _ => T.z_isinstance) (da_cons (de_var 0) (da_cons (de_ty .bl (fun _ => T.z_bool)) da_nil))) (de_callB (fun _ => CallR.or call_isi call_isiT) cd_isi (fun _ => T.z_isinstance) (da_cons (de_var 1) (da_cons (de_ty .bl (fun _ => T.z_bool)) da_nil))) rfl) (de_one (de_cmp (or_eq (fun _ => rfl) (fun _ => hr)) opd_eq (de_var 0) (de_var 1) rfl)))))) dss_nil)
    (dss_cons (ds_if (dt_cmp or_is opd_is (de_var 1) de_non rfl) (dss_one (ds_ret (de_cmp or_is opd_is (de_var 0) de_non rfl))) dss_nil)
    (dss_cons (ds_if (dt_val (de_callB (fun _ => CallR.or call_isi call_isiT) cd_isi (fun _ => T.z_isinstance) (da_cons (de_var 1) (da_cons (de_ty .str (fun _ => T.z_str)) da_nil)))) (dss_one (ds_ret (de_and (de_callB (fun _ => CallR.or call_isi call_isiT) cd_isi (fun _ => T.z_isinstance) (da_cons (de_var 0) (da_cons (de_ty .str (fun _ => T.z_str)) da_nil))) (de_one (de_cmp (or_eq (fun _ => rfl) (fun _ => hr)) opd_eq (de_var 0) (de_var 1) rfl))))) dss_nil)
    (dss_one (ds_ret (de_and (de_not (de_callB (fun _ => CallR.or call_isi call_isiT) cd_isi (fun _ => T.z_isinstance) (da_cons (de_var 0) (da_cons (de_tup (da_cons (de_ty .int (fun _ => T.z_int)) (da_cons (de_ty .str (fun _ => T.z_str)) (da_cons (de_ty .lst (fun _ => T.z_list)) (da_cons (de_ty .tup (fun _ => T.z_tuple)) (da_cons (de_ty .dct (fun _ => T.z_dict)) da_nil)))))) da_nil)))) (de_one (de_cmp (or_eq (fun _ => rfl) (fun _ => hr)) opd_eq (de_var 0) (de_var 1) rfl))))))))))
/-! ### is_integer -/
abbrev N_is_integer : List Str := ["thing"]
theorem S_is_integer : FnScope N_is_integer ["thing"] (defScope s_is_integer) := ⟨rfl, rfl, rfl, by decide +kernel, rfl, by decide +kernel, by decide +kernel⟩
def m_is_integer (δ : DL.Env) : M (Fl × DL.Env) :=
  (evRet (evAnd (evCall bIsi (evCons (evVar 0) (evCons (cT .int) evNil))) (evNot (evCall bIsi (evCons (evVar 0) (evCons (cT .bl) evNil)))))) δ
@[irreducible] def f_is_integer : List RV → M RV := fnD 1 m_is_integer
theorem c_is_integer (T : Top K mg) : CalD P w K mg base cv 1 "is_integer" 1 f_is_integer := by
  unfold f_is_integer
  refine T.d_is_integer.cal S_is_integer fun f cdv A outer s H E hr => ?_
  have hx : Passes (L2.CX P w) (cxOf (L2.CX P w) P w K mg base N_is_integer "is_integer" (defScope s_is_integer) f cdv A outer s H E) E := passes_call (takes_of rfl rfl rfl rfl) (fun _ _ _ _ h => h)
  have hp : PassesOwn (model P w) (cxOf (L2.CX P w) P w K mg base N_is_integer "is_integer" (defScope s_is_integer) f cdv A outer s H E).A (cxOf (L2.CX P w) P w K mg base N_is_integer "is_integer" (defScope s_is_integer) f cdv A outer s H E).env (cxOf (L2.CX P w) P w K mg base N_is_integer "is_integer" (defScope s_is_integer) f cdv A outer s H E).xe := passes_of rfl
  exact (dss_one (ds_ret (de_and (de_callB (fun _ => CallR.or call_isi call_isiT) cd_isi (fun _ => T.z_isinstance) (da_cons (de_var 0) (da_cons (de_ty .int (fun _ => T.z_int)) da_nil))) (de_one (de_not (de_callB (fun _ => CallR.or call_isi call_isiT) cd_isi (fun _ => T.z_isinstance) (da_cons (de_var 0) (da_cons (de_ty .bl (fun _ => T.z_bool)) da_nil))))))))
/-! ### is_row -/
abbrev N_is_row : List Str := ["thing", "size", "part"]
theorem S_is_row : FnScope N_is_row ["thing", "size"] (defScope s_is_row) := ⟨rfl, rfl, rfl, by decide +kernel, rfl, by decide +kernel, by decide +kernel⟩
def p_is_row_e1 (δ : DL.Env) : M RV :=
  (evCallF 1 f_is_integer (evCons (evVar 2) evNil)) δ
def m_is_row (δ : DL.Env) : M (Fl × DL.Env) :=
  (evSeq (evIfS (evOrT (evNotT (evB (evCall bIsi (evCons (evVar 0) (evCons (evTup (evCons (cT .lst) (evCons (cT .tup) evNil))) evNil))))) (evB (ev2 (opEq true) (evCall bLen (evCons (evVar 0) evNil)) (evVar 1)))) (evRet (cB false)) evNext)
    (evRet (evCall bAll (evCons (evLc false [2] (evIter (evVar 0)) (gtName 2) evYes p_is_row_e1) evNil)))) δ
@[irreducible] def f_is_row : List RV → M RV := fnD 3 m_is_row
theorem c_is_row (T : Top K mg) : CalD P w K mg base cv 2 "is_row" 2 f_is_row := by
  unfold f_is_row
  refine T.d_is_row.cal S_is_row fun f cdv A outer s H E hr => ?_
  have hx : Passes (L2.CX P w) (cxOf (L2.CX P w) P w K mg base N_is_row "is_row" (defScope s_is_row) f cdv A outer s H E) E := passes_call (takes_of rfl rfl rfl rfl) (fun _ _ _ _ h => h)
  have hp : PassesOwn (model P w) (cxOf (L2.CX P w) P w K mg base N_is_row "is_row" (defScope s_is_row) f cdv A outer s H E).A (cxOf (L2.CX P w) P w K mg base N_is_row "is_row" (defScope s_is_row) f cdv A outer s H E).env (cxOf (L2.CX P w) P w K mg base N_is_row "is_row" (defScope s_is_row) f cdv A outer s H E).xe := passes_of rfl
  exact (dss_cons (ds_if (DW.t (dw_or (dt_not (dt_val (de_callB (fun _ => CallR.or call_isi call_isiT) cd_isi (fun _ => T.z_isinstance) (da_cons (de_var 0) (da_cons (de_tup (da_cons (de_ty .lst (fun _ => T.z_list)) (da_cons (de_ty .tup (fun _ => T.z_tuple)) da_nil))) da_nil))))) (dw_or1 (dt_cmp (or_ne (fun _ => rfl) (fun _ => hr)) opd_ne (de_callB (fun _ => call_bLen rfl) cd_len (fun _ => T.z_len) (da_cons (de_var 0) da_nil)) (de_var 1) rfl)))) (dss_one (ds_ret de_bl)) dss_nil)
    (dss_one (ds_ret (de_callB (fun _ => call_bAll rfl rfl) cd_all (fun _ => T.z_all) (da_cons (de_lc (mk := false) N_is_row (defScope s_is_row) [("part", 2)] (blkOk_by (by decide +kernel)) (sub_by (by decide)) (fun _ => rfl) (fun _ => S_is_row.nd) (di_any (fun _ => rfl) (de_var 0)) (dg_name 2 (fun _ => S_is_row.nd)) dts_nil (de_call (fun _ => (c_is_integer T)) (fun _ => hr) (fun _ => passL) (fun _ => rfl) (da_cons (de_var 2) da_nil))) da_nil)))))
/-! ### head_of -/
abbrev N_head_of : List Str := ["row", "column", "part"]
theorem S_head_of : FnScope N_head_of ["row"] (defScope s_head_of) := ⟨rfl, rfl, rfl, by decide +kernel, rfl, by decide +kernel, by decide +kernel⟩
def p_head_of_b1 (δ : DL.Env) : M (Fl × DL.Env) :=
  (evIfS (evB (ev2 (opEq true) (evVar 2) (cI 0))) (evRet (evVar 1)) evNext) δ
def m_head_of (δ : DL.Env) : M (Fl × DL.Env) :=
  (evSeq (evFor (evEnum2 (evCons (evVar 0) evNil)) (gtUnp 2 (gtCons (gtName 1) (gtCons (gtName 2) gtNil))) p_head_of_b1)
    (evRet cN)) δ
@[irreducible] def f_head_of : List RV → M RV := fnD 3 m_head_of
theorem c_head_of (T : Top K mg) : CalD P w K mg base cv 1 "head_of" 1 f_head_of := by
  unfold f_head_of
  refine T.d_head_of.cal S_head_of fun f cdv A outer s H E hr => ?_
  have hx : Passes (L2.CX P w) (cxOf (L2.CX P w) P w K mg base N_head_of "head_of" (defScope s_head_of) f cdv A outer s H E) E := passes_call (takes_of rfl rfl rfl rfl) (fun _ _ _ _ h => h)
  have hp : PassesOwn (model P w) (cxOf (L2.CX P w) P w K mg base N_head_of "head_of" (defScope s_head_of) f cdv A outer s H E).A (cxOf (L2.CX P w) P w K mg base N_head_of "head_of" (defScope s_head_of) f cdv A outer s H E).env (cxOf (L2.CX P w) P w K mg base N_head_of "head_of" (defScope s_head_of) f cdv A outer s H E).xe := passes_of rfl
  exact (dss_cons (ds_for (fun _ => hp) (fun _ => rfl) (di_enum2 (fun _ => rfl) (fun _ => T.z_enumerate) (da_cons (de_var 0) da_nil)) (dg_tup (n := 2) (fun _ => rfl) (fun _ => rfl) (dgs_cons (dg_name 1 (fun _ => S_head_of.nd)) (dgs_cons (dg_name 2 (fun _ => S_head_of.nd)) dgs_nil))) (dss_one (ds_if (dt_cmp (or_ne (fun _ => rfl) (fun _ => hr)) opd_ne (de_var 2) de_int rfl) (dss_one (ds_ret (de_var 1))) dss_nil)))
    (dss_one (ds_ret de_non)))
/-! ### inverse_of -/
abbrev N_inverse_of : List Str := ["number", "prime", "other"]
theorem S_inverse_of : FnScope N_inverse_of ["number", "prime"] (defScope s_inverse_of) := ⟨rfl, rfl, rfl, by decide +kernel, rfl, by decide +kernel, by decide +kernel⟩
def p_inverse_of_b1 (δ : DL.Env) : M (Fl × DL.Env) :=
  (evIfS (evB (ev2 (opEq false) (ev2 opMod (evCall bInt (evCons (ev2 (opMul false) (evVar 0) (evVar 2)) evNil)) (evVar 1)) (cI 1))) (evRet (evVar 2)) evNext) δ
def m_inverse_of (δ : DL.Env) : M (Fl × DL.Env) :=
  (evSeq (evFor (evRange2 (evCons (cI 1) (evCons (evVar 1) evNil))) (gtName 2) p_inverse_of_b1)
    (evRet (cI 1))) δ
@[irreducible] def f_inverse_of : List RV → M RV := fnD 3 m_inverse_of
theorem c_inverse_of (T : Top K mg) : CalD P w K mg base cv 1 "inverse_of" 2 f_inverse_of := by
  unfold f_inverse_of
  refine T.d_inverse_of.cal S_inverse_of fun f cdv A outer s H E hr => ?_
  have hx : Passes (L2.CX P w) (cxOf (L2.CX P w) P w K mg base N_inverse_of "inverse_of" (defScope s_inverse_of) f cdv A outer s H E) E := passes_call (takes_of rfl rfl rfl rfl) (fun _ _ _ _ h => h)
  have hp : PassesOwn (model P w) (cxOf (L2.CX P w) P w K mg base N_inverse_of "inverse_of" (defScope s_inverse_of) f cdv A outer s H E).A (cxOf (L2.CX P w) P w K mg base N_inverse_of "inverse_of" (defScope s_inverse_of) f cdv A outer s H E).env (cxOf (L2.CX P w) P w K mg base N_inverse_of "inverse_of" (defScope s_inverse_of) f cdv A outer s H E).xe := passes_of rfl
  exact (dss_cons (ds_for (fun _ => hp) (fun _ => rfl) (di_range2 (fun _ => T.z_range) (da_cons de_int (da_cons (de_var 1) da_nil))) (dg_name 2 (fun _ => S_inverse_of.nd)) (dss_one (ds_if (dt_cmp (or_eq (fun _ => rfl) (fun _ => hr)) opd_eq (de_mod (de_callTy (fun _ => call_int1) cd_int (fun _ => T.z_int) (da_cons (de_mul (mk := false) (de_var 0) (de_var 2)) da_nil)) (de_var 1)) de_int rfl) (dss_one (ds_ret (de_var 2))) dss_nil)))
    (dss_one (ds_ret de_int)))
/-! ### plain_row -/
abbrev N_plain_row : List Str := ["row", "by", "column", "factor", "divisor", "part"]
theorem S_plain_row : FnScope N_plain_row ["row", "by"] (defScope s_plain_row) := ⟨rfl, rfl, rfl, by decide +kernel, rfl, by decide +kernel, by decide +kernel⟩
def p_plain_row_e1 (δ : DL.Env) : M RV :=
  (ev2 opDiv (evVar 5) (evVar 4)) δ
def p_plain_row_s2 (δ : DL.Env) : M (Fl × DL.Env) :=
  (evSeq (evAsg (evIf (evB (ev2 opGt (ev2 opIx (evVar 0) (evVar 2)) (cI 0))) (evVar 4) (evNeg (evVar 4))) (gtName 4))
    (evRet (evLc false [5] (evIter (evVar 0)) (gtName 5) evYes p_plain_row_e1))) δ
def p_plain_row_b3 (δ : DL.Env) : M (Fl × DL.Env) :=
  (evAsg (evCall bGcd (evCons (evVar 4) (evCons (evVar 5) evNil))) (gtName 4)) δ
def p_plain_row_s4 (δ : DL.Env) : M (Fl × DL.Env) :=
  (evSeq (evFor (evIter (evVar 0)) (gtName 5) p_plain_row_b3)
    p_plain_row_s2) δ
def p_plain_row_s5 (δ : DL.Env) : M (Fl × DL.Env) :=
  (evSeq (evAsg (cI 0) (gtName 4))
    p_plain_row_s4) δ
def p_plain_row_e6 (δ : DL.Env) : M RV :=
  (ev2 opMod (evCall bInt (evCons (ev2 (opMul false) (evVar 5) (evVar 3)) evNil)) (evVar 1)) δ
def p_plain_row_s7 (δ : DL.Env) : M (Fl × DL.Env) :=
  (evSeq (evIfS (evB (ev2 opGt (evVar 1) (cI 0))) (evSeq (evAsg (evCallF 2 f_inverse_of (evCons (ev2 opMod (evCall bInt (evCons (ev2 opIx (evVar 0) (evVar 2)) evNil)) (evVar 1)) (evCons (evVar 1) evNil))) (gtName 3))
    (evRet (evLc false [5] (evIter (evVar 0)) (gtName 5) evYes p_plain_row_e6))) evNext)
    p_plain_row_s5) δ
def p_plain_row_s8 (δ : DL.Env) : M (Fl × DL.Env) :=
  (evSeq (evIfS (evB (ev2 (opIs false) (evVar 2) cN)) (evRet (ev2 (opMul false) (evLst false (evCons (cI 0) evNil)) (evCall bLen (evCons (evVar 0) evNil)))) evNext)
    p_plain_row_s7) δ
def p_plain_row_e9 (δ : DL.Env) : M RV :=
  (ev2 opMod (evCall bInt (evCons (evVar 5) evNil)) (evVar 1)) δ
def m_plain_row (δ : DL.Env) : M (Fl × DL.Env) :=
  (evSeq (evAsg (evIf (evB (ev2 (opEq false) (evVar 1) (cI 0))) (evCallF 1 f_head_of (evCons (evVar 0) evNil)) (evCallF 1 f_head_of (evCons (evLc false [5] (evIter (evVar 0)) (gtName 5) evYes p_plain_row_e9) evNil))) (gtName 2))
    p_plain_row_s8) δ
@[irreducible] def f_plain_row : List RV → M RV := fnD 6 m_plain_row
theorem c_plain_row (T : Top K mg) : CalD P w K mg base cv 2 "plain_row" 2 f_plain_row := by
  unfold f_plain_row
  refine T.d_plain_row.cal S_plain_row fun f cdv A outer s H E hr => ?_
  have hx : Passes (L2.CX P w) (cxOf (L2.CX P w) P w K mg base N_plain_row "plain_row" (defScope s_plain_row) f cdv A outer s H E) E := passes_call (takes_of rfl rfl rfl rfl) (fun _ _ _ _ h => h)
  have hp : PassesOwn (model P w) (cxOf (L2.CX P w) P w K mg base N_plain_row "plain_row" (defScope s_plain_row) f cdv A outer s H E).A (cxOf (L2.CX P w) P w K mg base N_plain_row "plain_row" (defScope s_plain_row) f cdv A outer s H E).env (cxOf (L2.CX P w) P w K mg base N_plain_row "plain_row" (defScope s_plain_row) f cdv A outer s H E).xe := passes_of rfl
  exact (dss_cons (ds_asg (de_if (dt_cmp (or_eq (fun _ => rfl) (fun _ => hr)) opd_eq (de_var 1) de_int rfl) (de_call (fun _ => (c_head_of T)) (fun _ => hr) (fun _ => hx) (fun _ => rfl) (da_cons (de_var 0) da_nil)) (de_call (fun _ => (c_head_of T)) (fun _ => hr) (fun _ => hx) (fun _ => rfl) (da_cons (de_lc (mk := false) N_plain_row (defScope s_plain_row) [("part", 5)] (blkOk_by (by decide +kernel)) (sub_by (by decide)) (fun _ => rfl) (fun _ => S_plain_row.nd) (di_any (fun _ => rfl) (de_var 0)) (dg_name 5 (fun _ => S_plain_row.nd)) dts_nil (de_mod (de_callTy (fun _ => call_int1) cd_int (fun _ => T.z_int) (da_cons (de_var 5) da_nil)) (de_var 1))) da_nil))) (dg_name 2 (fun _ => S_plain_row.nd)))
    (dss_cons (ds_if (dt_cmp or_is opd_is (de_var 2) de_non rfl) (dss_one (ds_ret (de_mul (mk := false) (de_lst (mk := false) (da_cons de_int da_nil)) (de_callB (fun _ => call_bLen rfl) cd_len (fun _ => T.z_len) (da_cons (de_var 0) da_nil))))) dss_nil)
    (dss_cons (ds_if (dt_cmp (fun _ => op_gt) opd_gt (de_var 1) de_int rfl) (dss_cons (ds_asg (de_call (fun _ => (c_inverse_of T)) (fun _ => hr) (fun _ => hx) (fun _ => rfl) (da_cons (de_mod (de_callTy (fun _ => call_int1) cd_int (fun _ => T.z_int) (da_cons (de_ix (fun _ => rfl) (de_var 0) (de_var 2) (fun _ _ => rfl)) da_nil)) (de_var 1)) (da_cons (de_var 1) da_nil))) (dg_name 3 (fun _ => S_plain_row.nd)))
    (dss_one (ds_ret (de_lc (mk := false) N_plain_row (defScope s_plain_row) [("part", 5)] (blkOk_by (by decide +kernel)) (sub_by (by decide)) (fun _ => rfl) (fun _ => S_plain_row.nd) (di_any (fun _ => rfl) (de_var 0)) (dg_name 5 (fun _ => S_plain_row.nd)) dts_nil (de_mod (de_callTy (fun _ => call_int1) cd_int (fun _ => T.z_int) (da_cons (de_mul (mk := false) (de_var 5) (de_var 3)) da_nil)) (de_var 1)))))) dss_nil)
    (dss_cons (ds_asg de_int (dg_name 4 (fun _ => S_plain_row.nd)))
    (dss_cons (ds_for (fun _ => hp) (fun _ => rfl) (di_any (fun _ => rfl) (de_var 0)) (dg_name 5 (fun _ => S_plain_row.nd)) (dss_one (ds_asg (de_callG (fun _ => cr_gcd) cd_2i (fun _ => T.zf_gcd) (da_cons (de_var 4) (da_cons (de_var 5) da_nil))) (dg_name 4 (fun _ => S_plain_row.nd)))))
    (dss_cons (ds_asg (de_if (dt_cmp (fun _ => op_gt) opd_gt (de_ix (fun _ => rfl) (de_var 0) (de_var 2) (fun _ _ => rfl)) de_int rfl) (de_var 4) (de_neg (de_var 4))) (dg_name 4 (fun _ => S_plain_row.nd)))
    (dss_one (ds_ret (de_lc (mk := false) N_plain_row (defScope s_plain_row) [("part", 5)] (blkOk_by (by decide +kernel)) (sub_by (by decide)) (fun _ => rfl) (fun _ => S_plain_row.nd) (di_any (fun _ => rfl) (de_var 0)) (dg_name 5 (fun _ => S_plain_row.nd)) dts_nil (de_fdiv (de_var 5) (de_var 4)))))))))))
/-! ### without -/
abbrev N_without : List Str := ["row", "other", "column", "by", "factor", "divisor", "near", "part", "far"]
theorem S_without : FnScope N_without ["row", "other", "column", "by"] (defScope s_without) := ⟨rfl, rfl, rfl, by decide +kernel, rfl, by decide +kernel, by decide +kernel⟩
def p_without_e1 (δ : DL.Env) : M RV :=
  (ev2 opSub (ev2 (opMul false) (evVar 7) (evVar 6)) (ev2 (opMul false) (evVar 4) (evVar 8))) δ
def p_without_s2 (δ : DL.Env) : M (Fl × DL.Env) :=
  (evSeq (evParT 2 (evCons (ev2 opDiv (ev2 opIx (evVar 1) (evVar 2)) (evVar 5)) (evCons (ev2 opDiv (ev2 opIx (evVar 0) (evVar 2)) (evVar 5)) evNil)) (gtCons (gtName 6) (gtCons (gtName 4) gtNil)))
    (evRet (evLc false [7, 8] (evZip (evCons (evVar 0) (evCons (evVar 1) evNil))) (gtUnp 2 (gtCons (gtName 7) (gtCons (gtName 8) gtNil))) evYes p_without_e1))) δ
def p_without_s3 (δ : DL.Env) : M (Fl × DL.Env) :=
  (evSeq (evAsg (evCall bGcd (evCons (ev2 opIx (evVar 0) (evVar 2)) (evCons (ev2 opIx (evVar 1) (evVar 2)) evNil))) (gtName 5))
    p_without_s2) δ
def p_without_e4 (δ : DL.Env) : M RV :=
  (ev2 opMod (evCall bInt (evCons (ev2 opSub (evVar 7) (ev2 (opMul false) (evVar 4) (evVar 8))) evNil)) (evVar 3)) δ
def p_without_s5 (δ : DL.Env) : M (Fl × DL.Env) :=
  (evSeq (evIfS (evB (ev2 opGt (evVar 3) (cI 0))) (evSeq (evAsg (ev2 opIx (evVar 0) (evVar 2)) (gtName 4))
    (evRet (evLc false [7, 8] (evZip (evCons (evVar 0) (evCons (evVar 1) evNil))) (gtUnp 2 (gtCons (gtName 7) (gtCons (gtName 8) gtNil))) evYes p_without_e4))) evNext)
    p_without_s3) δ
def m_without (δ : DL.Env) : M (Fl × DL.Env) :=
  (evSeq (evIfS (evB (ev2 (opEq false) (ev2 opIx (evVar 0) (evVar 2)) (cI 0))) (evRet (evCall (bList false) (evCons (evVar 0) evNil))) evNext)
    p_without_s5) δ
@[irreducible] def f_without : List RV → M RV := fnD 9 m_without
theorem c_without (T : Top K mg) : CalD P w K mg base cv 1 "without" 4 f_without := by
  unfold f_without
  refine T.d_without.cal S_without fun f cdv A outer s H E hr => ?_
  have hx : Passes (L2.CX P w) (cxOf (L2.CX P w) P w K mg base N_without "without" (defScope s_without) f cdv A outer s H E) E := passes_call (takes_of rfl rfl rfl rfl) (fun _ _ _ _ h => h)
  have hp : PassesOwn (model P w) (cxOf (L2.CX P w) P w K mg base N_without "without" (defScope s_without) f cdv A outer s H E).A (cxOf (L2.CX P w) P w K mg base N_without "without" (defScope s_without) f cdv A outer s H E).env (cxOf (L2.CX P w) P w K mg base N_without "without" (defScope s_without) f cdv A outer s H E).xe := passes_of rfl
  exact (dss_cons (ds_if (dt_cmp (or_eq (fun _ => rfl) (fun _ => hr)) opd_eq (de_ix (fun _ => rfl) (de_var 0) (de_var 2) (fun _ _ => rfl)) de_int rfl) (dss_one (ds_ret (de_callTy (fun _ => call_bList rfl rfl) (cd_list (mk := false)) (fun _ => T.z_list) (da_cons (de_var 0) da_nil)))) dss_nil)
    (dss_cons (ds_if (dt_cmp (fun _ => op_gt) opd_gt (de_var 3) de_int rfl) (dss_cons (ds_asg (de_ix (fun _ => rfl) (de_var 0) (de_var 2) (fun _ _ => rfl)) (dg_name 4 (fun _ => S_without.nd)))
    (dss_one (ds_ret (de_lc (mk := false) N_without (defScope s_without) [("part", 7), ("far", 8)] (blkOk_by (by decide +kernel)) (sub_by (by decide)) (fun _ => rfl) (fun _ => S_without.nd) (di_zip (fun _ => rfl) (fun _ => T.z_zip) (da_cons (de_var 0) (da_cons (de_var 1) da_nil))) (dg_tup (n := 2) (fun _ => rfl) (fun _ => rfl) (dgs_cons (dg_name 7 (fun _ => S_without.nd)) (dgs_cons (dg_name 8 (fun _ => S_without.nd)) dgs_nil))) dts_nil (de_mod (de_callTy (fun _ => call_int1) cd_int (fun _ => T.z_int) (da_cons (de_sub (de_var 7) (de_mul (mk := false) (de_var 4) (de_var 8))) da_nil)) (de_var 3)))))) dss_nil)
    (dss_cons (ds_asg (de_callG (fun _ => cr_gcd) cd_2i (fun _ => T.zf_gcd) (da_cons (de_ix (fun _ => rfl) (de_var 0) (de_var 2) (fun _ _ => rfl)) (da_cons (de_ix (fun _ => rfl) (de_var 1) (de_var 2) (fun _ _ => rfl)) da_nil))) (dg_name 5 (fun _ => S_without.nd)))
    (dss_cons (ds_parT (n := 2) (fun _ => rfl) (fun _ => rfl) (da_cons (de_fdiv (de_ix (fun _ => rfl) (de_var 1) (de_var 2) (fun _ _ => rfl)) (de_var 5)) (da_cons (de_fdiv (de_ix (fun _ => rfl) (de_var 0) (de_var 2) (fun _ _ => rfl)) (de_var 5)) da_nil)) (dgs_cons (dg_name 6 (fun _ => S_without.nd)) (dgs_cons (dg_name 4 (fun _ => S_without.nd)) dgs_nil)))
    (dss_one (ds_ret (de_lc (mk := false) N_without (defScope s_without) [("part", 7), ("far", 8)] (blkOk_by (by decide +kernel)) (sub_by (by decide)) (fun _ => rfl) (fun _ => S_without.nd) (di_zip (fun _ => rfl) (fun _ => T.z_zip) (da_cons (de_var 0) (da_cons (de_var 1) da_nil))) (dg_tup (n := 2) (fun _ => rfl) (fun _ => rfl) (dgs_cons (dg_name 7 (fun _ => S_without.nd)) (dgs_cons (dg_name 8 (fun _ => S_without.nd)) dgs_nil))) dts_nil (de_sub (de_mul (mk := false) (de_var 7) (de_var 6)) (de_mul (mk := false) (de_var 4) (de_var 8))))))))))
/-! ### rest_of -/
abbrev N_rest_of : List Str := ["space", "row", "by", "found", "other"]
theorem S_rest_of : FnScope N_rest_of ["space", "row", "by"] (defScope s_rest_of) := ⟨rfl, rfl, rfl, by decide +kernel, rfl, by decide +kernel, by decide +kernel⟩
def p_rest_of_b1 (δ : DL.Env) : M (Fl × DL.Env) :=
  (evAsg (evCallF 4 f_without (evCons (evVar 3) (evCons (evVar 4) (evCons (evCallF 1 f_head_of (evCons (evVar 4) evNil)) (evCons (evVar 2) evNil))))) (gtName 3)) δ
def m_rest_of (δ : DL.Env) : M (Fl × DL.Env) :=
  (evSeq (evAsg (evCallF 2 f_plain_row (evCons (evVar 1) (evCons (evVar 2) evNil))) (gtName 3))
    (evSeq (evFor (evIter (evVar 0)) (gtName 4) p_rest_of_b1)
    (evRet (evCallF 2 f_plain_row (evCons (evVar 3) (evCons (evVar 2) evNil)))))) δ
@[irreducible] def f_rest_of : List RV → M RV := fnD 5 m_rest_of
theorem c_rest_of (T : Top K mg) : CalD P w K mg base cv 3 "rest_of" 3 f_rest_of := by
  unfold f_rest_of
  refine T.d_rest_of.cal S_rest_of fun f cdv A outer s H E hr => ?_
  have hx : Passes (L2.CX P w) (cxOf (L2.CX P w) P w K mg base N_rest_of "rest_of" (defScope s_rest_of) f cdv A outer s H E) E := passes_call (takes_of rfl rfl rfl rfl) (fun _ _ _ _ h => h)
  have hp : PassesOwn (model P w) (cxOf (L2.CX P w) P w K mg base N_rest_of "rest_of" (defScope s_rest_of) f cdv A outer s H E).A (cxOf (L2.CX P w) P w K mg base N_rest_of "rest_of" (defScope s_rest_of) f cdv A outer s H E).env (cxOf (L2.CX P w) P w K mg base N_rest_of "rest_of" (defScope s_rest_of) f cdv A outer s H E).xe := passes_of rfl
  exact (dss_cons (ds_asg (de_call (fun _ => (c_plain_row T)) (fun _ => hr) (fun _ => hx) (fun _ => rfl) (da_cons (de_var 1) (da_cons (de_var 2) da_nil))) (dg_name 3 (fun _ => S_rest_of.nd)))
    (dss_cons (ds_for (fun _ => hp) (fun _ => rfl) (di_any (fun _ => rfl) (de_var 0)) (dg_name 4 (fun _ => S_rest_of.nd)) (dss_one (ds_asg (de_call (fun _ => (c_without T)) (fun _ => hr) (fun _ => hx) (fun _ => rfl) (da_cons (de_var 3) (da_cons (de_var 4) (da_cons (de_call (fun _ => (c_head_of T)) (fun _ => hr) (fun _ => hx) (fun _ => rfl) (da_cons (de_var 4) da_nil)) (da_cons (de_var 2) da_nil))))) (dg_name 3 (fun _ => S_rest_of.nd)))))
    (dss_one (ds_ret (de_call (fun _ => (c_plain_row T)) (fun _ => hr) (fun _ => hx) (fun _ => rfl) (da_cons (de_var 3) (da_cons (de_var 2) da_nil)))))))
/-! ### put_in -/
abbrev N_put_in : List Str := ["space", "row", "by", "more", "column", "found", "other"]
theorem S_put_in : FnScope N_put_in ["space", "row", "by"] (defScope s_put_in) := ⟨rfl, rfl, rfl, by decide +kernel, rfl, by decide +kernel, by decide +kernel⟩
def p_put_in_e1 (δ : DL.Env) : M RV :=
  (evCallF 2 f_plain_row (evCons (evCallF 4 f_without (evCons (evVar 6) (evCons (evVar 3) (evCons (evVar 4) (evCons (evVar 2) evNil))))) (evCons (evVar 2) evNil))) δ
def p_put_in_s2 (δ : DL.Env) : M (Fl × DL.Env) :=
  (evSeq (evAsg (ev2 (opAdd false) (evLc false [6] (evIter (evVar 0)) (gtName 6) evYes p_put_in_e1) (evLst false (evCons (evVar 3) evNil))) (gtName 5))
    (evRet (evSortK f_head_of (evVar 5)))) δ
def p_put_in_s3 (δ : DL.Env) : M (Fl × DL.Env) :=
  (evSeq (evIfS (evB (ev2 (opIs false) (evVar 4) cN)) (evRet (evVar 0)) evNext)
    p_put_in_s2) δ
def p_put_in_s4 (δ : DL.Env) : M (Fl × DL.Env) :=
  (evSeq (evAsg (evCallF 1 f_head_of (evCons (evVar 3) evNil)) (gtName 4))
    p_put_in_s3) δ
def m_put_in (δ : DL.Env) : M (Fl × DL.Env) :=
  (evSeq (evAsg (evCallF 3 f_rest_of (evCons (evVar 0) (evCons (evVar 1) (evCons (evVar 2) evNil)))) (gtName 3))
    p_put_in_s4) δ
@[irreducible] def f_put_in : List RV → M RV := fnD 7 m_put_in
theorem c_put_in (T : Top K mg) : CalD P w K mg base cv 4 "put_in" 3 f_put_in := by
  unfold f_put_in
  refine T.d_put_in.cal S_put_in fun f cdv A outer s H E hr => ?_
  have hx : Passes (L2.CX P w) (cxOf (L2.CX P w) P w K mg base N_put_in "put_in" (defScope s_put_in) f cdv A outer s H E) E := passes_call (takes_of rfl rfl rfl rfl) (fun _ _ _ _ h => h)
  have hp : PassesOwn (model P w) (cxOf (L2.CX P w) P w K mg base N_put_in "put_in" (defScope s_put_in) f cdv A outer s H E).A (cxOf (L2.CX P w) P w K mg base N_put_in "put_in" (defScope s_put_in) f cdv A outer s H E).env (cxOf (L2.CX P w) P w K mg base N_put_in "put_in" (defScope s_put_in) f cdv A outer s H E).xe := passes_of rfl
  exact (dss_cons (ds_asg (de_call (fun _ => (c_rest_of T)) (fun _ => hr) (fun _ => hx) (fun _ => rfl) (da_cons (de_var 0) (da_cons (de_var 1) (da_cons (de_var 2) da_nil)))) (dg_name 3 (fun _ => S_put_in.nd)))
    (dss_cons (ds_asg (de_call (fun _ => (c_head_of T)) (fun _ => hr) (fun _ => hx) (fun _ => rfl) (da_cons (de_var 3) da_nil)) (dg_name 4 (fun _ => S_put_in.nd)))
    (dss_cons (ds_if (dt_cmp or_is opd_is (de_var 4) de_non rfl) (dss_one (ds_ret (de_var 0))) dss_nil)
    (dss_cons (ds_asg (de_add (mk := false) (fun _ => rfl) (de_lc (mk := false) N_put_in (defScope s_put_in) [("other", 6)] (blkOk_by (by decide +kernel)) (sub_by (by decide)) (fun _ => rfl) (fun _ => S_put_in.nd) (di_any (fun _ => rfl) (de_var 0)) (dg_name 6 (fun _ => S_put_in.nd)) dts_nil (de_call (fun _ => (c_plain_row T)) (fun _ => hr) (fun _ => passL) (fun _ => rfl) (da_cons (de_call (fun _ => (c_without T)) (fun _ => hr) (fun _ => passL) (fun _ => rfl) (da_cons (de_var 6) (da_cons (de_var 3) (da_cons (de_var 4) (da_cons (de_var 2) da_nil))))) (da_cons (de_var 2) da_nil)))) (de_lst (mk := false) (da_cons (de_var 3) da_nil))) (dg_name 5 (fun _ => S_put_in.nd)))
    (dss_one (ds_ret (de_sortedKey (fun _ => (c_head_of T)) (fun _ => hr) (fun _ => rfl) (fun _ => T.z_sorted) (de_var 5))))))))
/-! ### reduced_rows -/
abbrev N_reduced_rows : List Str := ["rows", "by", "found", "row"]
theorem S_reduced_rows : FnScope N_reduced_rows ["rows", "by"] (defScope s_reduced_rows) := ⟨rfl, rfl, rfl, by decide +kernel, rfl, by decide +kernel, by decide +kernel⟩
def p_reduced_rows_b1 (δ : DL.Env) : M (Fl × DL.Env) :=
  (evAsg (evCallF 3 f_put_in (evCons (evVar 2) (evCons (evVar 3) (evCons (evVar 1) evNil)))) (gtName 2)) δ
def m_reduced_rows (δ : DL.Env) : M (Fl × DL.Env) :=
  (evSeq (evAsg (evLst false evNil) (gtName 2))
    (evSeq (evFor (evIter (evVar 0)) (gtName 3) p_reduced_rows_b1)
    (evRet (evVar 2)))) δ
@[irreducible] def f_reduced_rows : List RV → M RV := fnD 4 m_reduced_rows
theorem c_reduced_rows (T : Top K mg) : CalD P w K mg base cv 5 "reduced_rows" 2 f_reduced_rows := by
  unfold f_reduced_rows
  refine T.d_reduced_rows.cal S_reduced_rows fun f cdv A outer s H E hr => ?_
  have hx : Passes (L2.CX P w) (cxOf (L2.CX P w) P w K mg base N_reduced_rows "reduced_rows" (defScope s_reduced_rows) f cdv A outer s H E) E := passes_call (takes_of rfl rfl rfl rfl) (fun _ _ _ _ h => h)
  have hp : PassesOwn (model P w) (cxOf (L2.CX P w) P w K mg base N_reduced_rows "reduced_rows" (defScope s_reduced_rows) f cdv A outer s H E).A (cxOf (L2.CX P w) P w K mg base N_reduced_rows "reduced_rows" (defScope s_reduced_rows) f cdv A outer s H E).env (cxOf (L2.CX P w) P w K mg base N_reduced_rows "reduced_rows" (defScope s_reduced_rows) f cdv A outer s H E).xe := passes_of rfl
  exact (dss_cons (ds_asg (de_lst (mk := false) da_nil) (dg_name 2 (fun _ => S_reduced_rows.nd)))
    (dss_cons (ds_for (fun _ => hp) (fun _ => rfl) (di_any (fun _ => rfl) (de_var 0)) (dg_name 3 (fun _ => S_reduced_rows.nd)) (dss_one (ds_asg (de_call (fun _ => (c_put_in T)) (fun _ => hr) (fun _ => hx) (fun _ => rfl) (da_cons (de_var 2) (da_cons (de_var 3) (da_cons (de_var 1) da_nil)))) (dg_name 2 (fun _ => S_reduced_rows.nd)))))
    (dss_one (ds_ret (de_var 2)))))
/-! ### is_space -/
abbrev N_is_space : List Str := ["thing", "by", "row"]
theorem S_is_space : FnScope N_is_space ["thing", "by"] (defScope s_is_space) := ⟨rfl, rfl, rfl, by decide +kernel, rfl, by decide +kernel, by decide +kernel⟩
def p_is_space_e1 (δ : DL.Env) : M RV :=
  (evCall (bList false) (evCons (evVar 2) evNil)) δ
def p_is_space_b2 (δ : DL.Env) : M (Fl × DL.Env) :=
  (evSeq (evIfS (evOrT (evNotT (evB (evCall bIsi (evCons (evVar 2) (evCons (evTup (evCons (cT .lst) (evCons (cT .tup) evNil))) evNil))))) (evNotT (evB (evChain (fun i j => decide (i ≤ j)) (fun i j => decide (i ≤ j)) (cI 1) (evCall bLen (evCons (evVar 2) evNil)) (cI 40))))) (evRet (cB false)) evNext)
    (evIfS (evOrT (evB (ev2 (opEq true) (evCall bLen (evCons (evVar 2) evNil)) (evCall bLen (evCons (ev2 opIx (evVar 0) (cI 0)) evNil)))) (evNotT (evB (evCallF 2 f_is_row (evCons (evVar 2) (evCons (evCall bLen (evCons (evVar 2) evNil)) evNil)))))) (evRet (cB false)) evNext)) δ
def m_is_space (δ : DL.Env) : M (Fl × DL.Env) :=
  (evSeq (evIfS (evOrT (evNotT (evB (evCall bIsi (evCons (evVar 0) (evCons (evTup (evCons (cT .lst) (evCons (cT .tup) evNil))) evNil))))) (evB (ev2 opGt (evCall bLen (evCons (evVar 0) evNil)) (cI 40)))) (evRet (cB false)) evNext)
    (evSeq (evFor (evIter (evVar 0)) (gtName 2) p_is_space_b2)
    (evRet (ev2 (opEq false) (evCallF 2 f_reduced_rows (evCons (evVar 0) (evCons (evVar 1) evNil))) (evLc false [2] (evIter (evVar 0)) (gtName 2) evYes p_is_space_e1))))) δ
@[irreducible] def f_is_space : List RV → M RV := fnD 3 m_is_space
theorem c_is_space (T : Top K mg) : CalD P w K mg base cv 6 "is_space" 2 f_is_space := by
  unfold f_is_space
  refine T.d_is_space.cal S_is_space fun f cdv A outer s H E hr => ?_
  have hx : Passes (L2.CX P w) (cxOf (L2.CX P w) P w K mg base N_is_space "is_space" (defScope s_is_space) f cdv A outer s H E) E := passes_call (takes_of rfl rfl rfl rfl) (fun _ _ _ _ h => h)
  have hp : PassesOwn (model P w) (cxOf (L2.CX P w) P w K mg base N_is_space "is_space" (defScope s_is_space) f cdv A outer s H E).A (cxOf (L2.CX P w) P w K mg base N_is_space "is_space" (defScope s_is_space) f cdv A outer s H E).env (cxOf (L2.CX P w) P w K mg base N_is_space "is_space" (defScope s_is_space) f cdv A outer s H E).xe := passes_of rfl
  exact (dss_cons (ds_if (DW.t (dw_or (dt_not (dt_val (de_callB (fun _ => CallR.or call_isi call_isiT) cd_isi (fun _ => T.z_isinstance) (da_cons (de_var 0) (da_cons (de_tup (da_cons (de_ty .lst (fun _ => T.z_list)) (da_cons (de_ty .tup (fun _ => T.z_tuple)) da_nil))) da_nil))))) (dw_or1 (dt_cmp (fun _ => op_gt) opd_gt (de_callB (fun _ => call_bLen rfl) cd_len (fun _ => T.z_len) (da_cons (de_var 0) da_nil)) (de_glob (fun _ => T.zi_MOST_LONG.choose_spec)) rfl)))) (dss_one (ds_ret de_bl)) dss_nil)
    (dss_cons (ds_for (fun _ => hp) (fun _ => rfl) (di_any (fun _ => rfl) (de_var 0)) (dg_name 2 (fun _ => S_is_space.nd)) (dss_cons (ds_if (DW.t (dw_or (dt_not (dt_val (de_callB (fun _ => CallR.or call_isi call_isiT) cd_isi (fun _ => T.z_isinstance) (da_cons (de_var 2) (da_cons (de_tup (da_cons (de_ty .lst (fun _ => T.z_list)) (da_cons (de_ty .tup (fun _ => T.z_tuple)) da_nil))) da_nil))))) (dw_or1 (dt_not (dt_chain (fun _ => op_le) (fun _ => op_le) de_int (de_callB (fun _ => call_bLen rfl) cd_len (fun _ => T.z_len) (da_cons (de_var 2) da_nil)) (de_glob (fun _ => T.zi_MOST_LONG.choose_spec))))))) (dss_one (ds_ret de_bl)) dss_nil)
    (dss_one (ds_if (DW.t (dw_or (dt_cmp (or_ne (fun _ => rfl) (fun _ => hr)) opd_ne (de_callB (fun _ => call_bLen rfl) cd_len (fun _ => T.z_len) (da_cons (de_var 2) da_nil)) (de_callB (fun _ => call_bLen rfl) cd_len (fun _ => T.z_len) (da_cons (de_ix (fun _ => rfl) (de_var 0) de_int (fun _ _ => rfl)) da_nil)) rfl) (dw_or1 (dt_not (dt_val (de_call (fun _ => (c_is_row T)) (fun _ => hr) (fun _ => hx) (fun _ => rfl) (da_cons (de_var 2) (da_cons (de_callB (fun _ => call_bLen rfl) cd_len (fun _ => T.z_len) (da_cons (de_var 2) da_nil)) da_nil)))))))) (dss_one (ds_ret de_bl)) dss_nil))))
    (dss_one (ds_ret (de_cmp (or_eq (fun _ => rfl) (fun _ => hr)) opd_eq (de_call (fun _ => (c_reduced_rows T)) (fun _ => hr) (fun _ => hx) (fun _ => rfl) (da_cons (de_var 0) (da_cons (de_var 1) da_nil))) (de_lc (mk := false) N_is_space (defScope s_is_space) [("row", 2)] (blkOk_by (by decide +kernel)) (sub_by (by decide)) (fun _ => rfl) (fun _ => S_is_space.nd) (di_any (fun _ => rfl) (de_var 0)) (dg_name 2 (fun _ => S_is_space.nd)) dts_nil (de_callTy (fun _ => call_bList rfl rfl) (cd_list (mk := false)) (fun _ => T.z_list) (da_cons (de_var 2) da_nil))) rfl)))))
/-! ### is_field -/
abbrev N_is_field : List Str := ["by", "small"]
theorem S_is_field : FnScope N_is_field ["by"] (defScope s_is_field) := ⟨rfl, rfl, rfl, by decide +kernel, rfl, by decide +kernel, by decide +kernel⟩
def p_is_field_e1 (δ : DL.Env) : M RV :=
  (evOr (ev2 (opEq true) (ev2 opMod (evVar 0) (evVar 1)) (cI 0)) (ev2 (opIn false) (evVar 0) (evTup (evCons (cI 0) (evCons (evVar 1) evNil))))) δ
def m_is_field (δ : DL.Env) : M (Fl × DL.Env) :=
  (evSeq (evIfS (evOrT (evNotT (evB (evCallF 1 f_is_integer (evCons (evVar 0) evNil)))) (evOrT (evB (ev2 (opEq false) (evVar 0) (cI 1))) (evNotT (evB (evChain (fun i j => decide (i ≤ j)) (fun i j => decide (i ≤ j)) (cI 0) (evVar 0) (cI 97)))))) (evRet (cB false)) evNext)
    (evRet (evCall bAll (evCons (evLc false [1] (evIter (evTup (evCons (cI 2) (evCons (cI 3) (evCons (cI 5) (evCons (cI 7) evNil)))))) (gtName 1) evYes p_is_field_e1) evNil)))) δ
@[irreducible] def f_is_field : List RV → M RV := fnD 2 m_is_field
theorem c_is_field (T : Top K mg) : CalD P w K mg base cv 2 "is_field" 1 f_is_field := by
  unfold f_is_field
  refine T.d_is_field.cal S_is_field fun f cdv A outer s H E hr => ?_
  have hx : Passes (L2.CX P w) (cxOf (L2.CX P w) P w K mg base N_is_field "is_field" (defScope s_is_field) f cdv A outer s H E) E := passes_call (takes_of rfl rfl rfl rfl) (fun _ _ _ _ h => h)
  have hp : PassesOwn (model P w) (cxOf (L2.CX P w) P w K mg base N_is_field "is_field" (defScope s_is_field) f cdv A outer s H E).A (cxOf (L2.CX P w) P w K mg base N_is_field "is_field" (defScope s_is_field) f cdv A outer s H E).env (cxOf (L2.CX P w) P w K mg base N_is_field "is_field" (defScope s_is_field) f cdv A outer s H E).xe := passes_of rfl
  exact (dss_cons (ds_if (DW.t (dw_or (dt_not (dt_val (de_call (fun _ => (c_is_integer T)) (fun _ => hr) (fun _ => hx) (fun _ => rfl) (da_cons (de_var 0) da_nil)))) (dw_or (dt_cmp (or_eq (fun _ => rfl) (fun _ => hr)) opd_eq (de_var 0) de_int rfl) (dw_or1 (dt_not (dt_chain (fun _ => op_le) (fun _ => op_le) de_int (de_var 0) de_int)))))) (dss_one (ds_ret de_bl)) dss_nil)
    (dss_one (ds_ret (de_callB (fun _ => call_bAll rfl rfl) cd_all (fun _ => T.z_all) (da_cons (de_lc (mk := false) N_is_field (defScope s_is_field) [("small", 1)] (blkOk_by (by decide +kernel)) (sub_by (by decide)) (fun _ => rfl) (fun _ => S_is_field.nd) (di_any (fun _ => rfl) (de_tup (da_cons de_int (da_cons de_int (da_cons de_int (da_cons de_int da_nil)))))) (dg_name 1 (fun _ => S_is_field.nd)) dts_nil (de_or (de_cmp (or_ne (fun _ => rfl) (fun _ => hr)) opd_ne (de_mod (de_var 0) (de_var 1)) de_int rfl) (de_one (de_cmp (or_in (fun _ => rfl)) opd_in (de_var 0) (de_tup (da_cons de_int (da_cons (de_var 1) da_nil))) rfl)))) da_nil)))))
/-! ### need_by -/
abbrev N_need_by : List Str := ["by"]
theorem S_need_by : FnScope N_need_by ["by"] (defScope s_need_by) := ⟨rfl, rfl, rfl, by decide +kernel, rfl, by decide +kernel, by decide +kernel⟩
def m_need_by (δ : DL.Env) : M (Fl × DL.Env) :=
  (evSeq (evIfS (evNotT (evB (evCallF 1 f_is_field (evCons (evVar 0) evNil)))) (fun _ => M.fail) evNext)
    (evRet (evVar 0))) δ
@[irreducible] def f_need_by : List RV → M RV := fnD 1 m_need_by
theorem c_need_by (T : Top K mg) : CalD P w K mg base cv 3 "need_by" 1 f_need_by := by
  unfold f_need_by
  refine T.d_need_by.cal S_need_by fun f cdv A outer s H E hr => ?_
  have hx : Passes (L2.CX P w) (cxOf (L2.CX P w) P w K mg base N_need_by "need_by" (defScope s_need_by) f cdv A outer s H E) E := passes_call (takes_of rfl rfl rfl rfl) (fun _ _ _ _ h => h)
  have hp : PassesOwn (model P w) (cxOf (L2.CX P w) P w K mg base N_need_by "need_by" (defScope s_need_by) f cdv A outer s H E).A (cxOf (L2.CX P w) P w K mg base N_need_by "need_by" (defScope s_need_by) f cdv A outer s H E).env (cxOf (L2.CX P w) P w K mg base N_need_by "need_by" (defScope s_need_by) f cdv A outer s H E).xe := passes_of rfl
  exact (dss_cons (ds_if (dt_not (dt_val (de_call (fun _ => (c_is_field T)) (fun _ => hr) (fun _ => hx) (fun _ => rfl) (da_cons (de_var 0) da_nil)))) (dss_one DS.never) dss_nil)
    (dss_one (ds_ret (de_var 0))))
/-! ### is_reduced -/
abbrev N_is_reduced : List Str := ["thing", "by"]
theorem S_is_reduced : FnScope N_is_reduced ["thing", "by"] (defScope s_is_reduced) := ⟨rfl, rfl, rfl, by decide +kernel, rfl, by decide +kernel, by decide +kernel⟩
def m_is_reduced (δ : DL.Env) : M (Fl × DL.Env) :=
  (evRet (evCallF 2 f_is_space (evCons (evVar 0) (evCons (evCallF 1 f_need_by (evCons (evVar 1) evNil)) evNil)))) δ
@[irreducible] def f_is_reduced : List RV → M RV := fnD 2 m_is_reduced
theorem c_is_reduced (T : Top K mg) : CalD P w K mg base cv 7 "is_reduced" 2 f_is_reduced := by
  unfold f_is_reduced
  refine T.d_is_reduced.cal S_is_reduced fun f cdv A outer s H E hr => ?_
  have hx : Passes (L2.CX P w) (cxOf (L2.CX P w) P w K mg base N_is_reduced "is_reduced" (defScope s_is_reduced) f cdv A outer s H E) E := passes_call (takes_of rfl rfl rfl rfl) (fun _ _ _ _ h => h)
  have hp : PassesOwn (model P w) (cxOf (L2.CX P w) P w K mg base N_is_reduced "is_reduced" (defScope s_is_reduced) f cdv A outer s H E).A (cxOf (L2.CX P w) P w K mg base N_is_reduced "is_reduced" (defScope s_is_reduced) f cdv A outer s H E).env (cxOf (L2.CX P w) P w K mg base N_is_reduced "is_reduced" (defScope s_is_reduced) f cdv A outer s H E).xe := passes_of rfl
  exact (dss_one (ds_ret (de_call (fun _ => (c_is_space T)) (fun _ => hr) (fun _ => hx) (fun _ => rfl) (da_cons (de_var 0) (da_cons (de_call (fun _ => (c_need_by T)) (fun _ => hr) (fun _ => hx) (fun _ => rfl) (da_cons (de_var 1) da_nil)) da_nil)))))
/-! ### law -/
abbrev N_law : List Str := ["script", "stream", "turn", "by", "size", "space", "bent", "kept", "odd", "wide"]
theorem S_law : FnScope N_law ["script"] (defScope s_law) := ⟨rfl, rfl, rfl, by decide +kernel, rfl, by decide +kernel, by decide +kernel⟩
theorem S_start : FnScope ["script"] ["script"] (defScope s__law_start) := ⟨rfl, rfl, rfl, by decide +kernel, rfl, by decide +kernel, by decide +kernel⟩
theorem ok_start (T : Top K mg) {f : Addr} {fd : FuncData} (F : Fun K "_law_start" "_law_start" s__law_start f fd) : FnOk P w K mg base (L2.CX P w) 1 f fd ["script"] (spStart K) := by
  refine F.okX S_start (fun vs H Q E h => ?_) (fun cdv A outer s H vs Q E hr h => ?_)
  · obtain ⟨a, ns, rfl, _⟩ := h
    rfl
  · exact ⟨_, pss_one (ps_ret (pe_lst (pa_cons (pe_callTy call_list_of (by rfl) T.z_list (by decide +kernel) (pa_cons (pv 0) pa_nil)) (pa_cons pe_int (pa_cons pe_int (pa_cons pe_int pa_nil)))))), rd_start h⟩
def p_law_s1 (δ : DL.Env) : M (Fl × DL.Env) :=
  (evSeq (evIfS (evNotT (evB (evCallF 2 (f__law_same 6) (evCons (evCallF 2 f_is_reduced (evCons (evVar 8) (evCons (evVar 3) evNil))) (evCons (cB false) evNil))))) (evRet (cB false)) evNext)
    (evIfS (evAndT (evB (ev2 opGt (evVar 3) (cI 0))) (evNotT (evB (evCallF 2 (f__law_same 6) (evCons (evCallF 2 f_is_reduced (evCons (evVar 5) (evCons (cI 0) evNil))) (evCons (ev2 (opEq false) (evCallF 2 f__law_breduce (evCons (evVar 5) (evCons (cI 0) evNil))) (evVar 5)) evNil)))))) (evRet (cB false)) evNext)) δ
def p_law_s2 (δ : DL.Env) : M (Fl × DL.Env) :=
  (evSeq (evAsg (evCallF 2 f__law_pick (evCons (evVar 1) (evCons (evLst false (evCons cN (evCons (cI 5) (evCons (cS "") (evCons (cS "ab") (evCons (fun _ => M.ret (.d (.dK []))) (evCons (cB true) (evCons (evDisp1 (cI 0) (evVar 5)) (evCons (evLst false (evCons (evLst false evNil) evNil)) (evCons (evLst false (evCons (cI 5) evNil)) (evCons (ev2 opIx (evVar 5) (cI 0)) (evCons (evLst false (evCons (evLst false (evCons (cI 1) (evCons (cI 0) evNil))) (evCons (evLst false (evCons (cI 0) (evCons (cI 1) (evCons (cI 0) evNil)))) evNil))) evNil)))))))))))) evNil))) (gtName 8))
    p_law_s1) δ
def p_law_s3 (δ : DL.Env) : M (Fl × DL.Env) :=
  (evSeq (evIfS (evNotT (evB (evCallF 2 (f__law_same 6) (evCons (evLst false (evCons (evCallF 2 f_is_reduced (evCons (evVar 6) (evCons (evVar 3) evNil))) (evCons (evVar 6) evNil))) (evCons (evLst false (evCons (cB false) (evCons (evVar 7) evNil))) evNil))))) (evRet (cB false)) evNext)
    p_law_s2) δ
def p_law_s4 (δ : DL.Env) : M (Fl × DL.Env) :=
  (evSeq (evAsg (evCallF 1 (f__law_copied 5) (evCons (evVar 6) evNil)) (gtName 7))
    p_law_s3) δ
def p_law_s5 (δ : DL.Env) : M (Fl × DL.Env) :=
  (evSeq (evAsg (evCallF 3 f__law_bbent (evCons (evVar 1) (evCons (evVar 5) (evCons (evVar 3) evNil)))) (gtName 6))
    p_law_s4) δ
def p_law_s6 (δ : DL.Env) : M (Fl × DL.Env) :=
  (evSeq (evIfS (evB (ev2 (opEq false) (evVar 5) (evLst false evNil))) (fun δ => M.ret (.ct, δ)) evNext)
    p_law_s5) δ
def p_law_s7 (δ : DL.Env) : M (Fl × DL.Env) :=
  (evSeq (evIfS (evNotT (evB (evCallF 2 (f__law_same 6) (evCons (evLst false (evCons (evCallF 2 f_is_reduced (evCons (evCallF 2 (f__law_loose 5) (evCons (evVar 1) (evCons (evVar 5) evNil))) (evCons (evVar 3) evNil))) (evCons (evCallF 2 f_is_reduced (evCons (evLst false evNil) (evCons (evVar 3) evNil))) (evCons (evCallF 2 f_is_reduced (evCons (evTup evNil) (evCons (evVar 3) evNil))) evNil)))) (evCons (ev2 (opMul false) (evLst false (evCons (cB true) evNil)) (cI 3)) evNil))))) (evRet (cB false)) evNext)
    p_law_s6) δ
def p_law_s8 (δ : DL.Env) : M (Fl × DL.Env) :=
  (evSeq (evAsg (evCallF 3 f__law_bspace (evCons (evVar 1) (evCons (evVar 4) (evCons (evVar 3) evNil)))) (gtName 5))
    p_law_s7) δ
def p_law_b9 (δ : DL.Env) : M (Fl × DL.Env) :=
  (evSeq (evPar 3 4 (evCons (evCallF 1 f__law_bfield (evCons (evVar 1) evNil)) (evCons (ev2 (opAdd false) (cI 1) (evCallF 2 f__law_below (evCons (evVar 1) (evCons (cI 7) evNil)))) evNil)))
    p_law_s8) δ
def m_law (δ : DL.Env) : M (Fl × DL.Env) :=
  (evSeq (evFor (evRange1 (evCons (cI 14) evNil)) (gtName 2) p_law_b9)
    (evSeq (evAsg (evLst false (evCons (ev2 (opAdd false) (evLst false (evCons (cI 1) evNil)) (ev2 (opMul false) (evLst false (evCons (cI 0) evNil)) (cI 39))) evNil)) (gtName 9))
    (evRet (evCallF 2 (f__law_same 6) (evCons (evLst false (evCons (evCallF 2 f_is_reduced (evCons (evVar 9) (evCons (cI 0) evNil))) (evCons (evCallF 2 f_is_reduced (evCons (evLst false (evCons (ev2 (opAdd false) (ev2 opIx (evVar 9) (cI 0)) (evLst false (evCons (cI 0) evNil))) evNil)) (evCons (cI 0) evNil))) (evCons (evCallF 2 f_is_reduced (evCons (evLst false (evCons (ev2 (opAdd false) (ev2 (opMul false) (evLst false (evCons (cI 0) evNil)) (cI 39)) (evLst false (evCons (cI 1) evNil))) evNil)) (evCons (cI 97) evNil))) evNil)))) (evCons (evLst false (evCons (cB true) (evCons (cB false) (evCons (cB true) evNil)))) evNil)))))) δ
theorem ok_law (T : Top K mg) {f : Addr} {fd : FuncData} (F : Fun K "law" "law" s_law f fd) (math : ∀ ns : List Int, ns.length ≤ 63 → wpM (m_law (lawEnv 10)) (startW ns) (fun p _ => p.1 = .rt (.d (.bl true))) (fun _ _ => False)) : FnOk P w K mg base (L2.CX P w) 8 f fd ["script"] (spLawD K) := by
  refine okLaw (cv := fun _ => .none) (n := 10) F S_law rfl rfl (by decide) (fun cdv A outer s H E hr => ?_) (fun cdv A outer s H E hr => ?_) math
  · obtain ⟨fS, fdS, FS, gS, bS⟩ := T.d__law_start.ex
    exact ps_asg (pe_call ((ok_start T FS).mono (by omega)) hr (by rfl) gS FS.kp bS .nil (passes_call (takes_of rfl rfl rfl rfl) (fun _ _ _ _ h => h)) (pa_cons (pv 0) pa_nil)) (pg_name (i := 1) S_law.nd rfl (.inl rfl))
  · have hx : Passes (L2.CX P w) (cxOf (L2.CX P w) P w K mg base N_law "law" (defScope s_law) f cdv A outer s H E) E := passes_call (takes_of rfl rfl rfl rfl) (fun _ _ _ _ h => h)
    have hp : PassesOwn (model P w) (cxOf (L2.CX P w) P w K mg base N_law "law" (defScope s_law) f cdv A outer s H E).A (cxOf (L2.CX P w) P w K mg base N_law "law" (defScope s_law) f cdv A outer s H E).env (cxOf (L2.CX P w) P w K mg base N_law "law" (defScope s_law) f cdv A outer s H E).xe := passes_of rfl
    exact (dss_cons (ds_for (fun _ => hp) (fun _ => rfl) (di_range1 (fun _ => T.z_range) (da_cons de_int da_nil)) (dg_name 2 (fun _ => S_law.nd)) (dss_cons (ds_par 3 4 (fun _ => rfl) (fun _ => S_law.nd) (da_cons (de_call (fun _ => (c__law_bfield T)) (fun _ => hr) (fun _ => hx) (fun _ => rfl) (da_cons (de_var 1) da_nil)) (da_cons (de_add (mk := false) (fun _ => rfl) de_int (de_call (fun _ => (c__law_below T)) (fun _ => hr) (fun _ => hx) (fun _ => rfl) (da_cons (de_var 1) (da_cons de_int da_nil)))) da_nil)))
    (dss_cons (ds_asg (de_call (fun _ => (c__law_bspace T)) (fun _ => hr) (fun _ => hx) (fun _ => rfl) (da_cons (de_var 1) (da_cons (de_var 4) (da_cons (de_var 3) da_nil)))) (dg_name 5 (fun _ => S_law.nd)))
    (dss_cons (ds_if (dt_not (dt_val (de_call (fun _ => (c__law_same T 6)) (fun _ => hr) (fun _ => hx) (fun _ => rfl) (da_cons (de_lst (mk := false) (da_cons (de_call (fun _ => (c_is_reduced T)) (fun _ => hr) (fun _ => hx) (fun _ => rfl) (da_cons (de_call (fun _ => (c__law_loose T 5)) (fun _ => hr) (fun _ => hx) (fun _ => rfl) (da_cons (de_var 1) (da_cons (de_var 5) da_nil))) (da_cons (de_var 3) da_nil))) (da_cons (de_call (fun _ => (c_is_reduced T)) (fun _ => hr) (fun _ => hx) (fun _ => rfl) (da_cons (de_lst (mk := false) da_nil) (da_cons (de_var 3) da_nil))) (da_cons (de_call (fun _ => (c_is_reduced T)) (fun _ => hr) (fun _ => hx) (fun _ => rfl) (da_cons (de_tup da_nil) (da_cons (de_var 3) da_nil))) da_nil)))) (da_cons (de_mul (mk := false) (de_lst (mk := false) (da_cons de_bl da_nil)) de_int) da_nil))))) (dss_one (ds_ret de_bl)) dss_nil)
    (dss_cons (ds_if (dt_cmp (or_eq (fun _ => rfl) (fun _ => hr)) opd_eq (de_var 5) (de_lst (mk := false) da_nil) rfl) (dss_one ds_cont) dss_nil)
    (dss_cons (ds_asg (de_call (fun _ => (c__law_bbent T)) (fun _ => hr) (fun _ => hx) (fun _ => rfl) (da_cons (de_var 1) (da_cons (de_var 5) (da_cons (de_var 3) da_nil)))) (dg_name 6 (fun _ => S_law.nd)))
    (dss_cons (ds_asg (de_call (fun _ => (c__law_copied T 5)) (fun _ => hr) (fun _ => hx) (fun _ => rfl) (da_cons (de_var 6) da_nil)) (dg_name 7 (fun _ => S_law.nd)))
    (dss_cons (ds_if (dt_not (dt_val (de_call (fun _ => (c__law_same T 6)) (fun _ => hr) (fun _ => hx) (fun _ => rfl) (da_cons (de_lst (mk := false) (da_cons (de_call (fun _ => (c_is_reduced T)) (fun _ => hr) (fun _ => hx) (fun _ => rfl) (da_cons (de_var 6) (da_cons (de_var 3) da_nil))) (da_cons (de_var 6) da_nil))) (da_cons (de_lst (mk := false) (da_cons de_bl (da_cons (de_var 7) da_nil))) da_nil))))) (dss_one (ds_ret de_bl)) dss_nil)
    (dss_cons (ds_asg (de_call (fun _ => (c__law_pick T)) (fun _ => hr) (fun _ => hx) (fun _ => rfl) (da_cons (de_var 1) (da_cons (de_lst (mk := false) (da_cons de_non (da_cons de_int (da_cons de_str (da_cons de_str (da_cons de_dict0 (da_cons de_bl (da_cons (de_disp1 de_int (de_var 5)) (da_cons (de_lst (mk := false) (da_cons (de_lst (mk := false) da_nil) da_nil)) (da_cons (de_lst (mk := false) (da_cons de_int da_nil)) (da_cons (de_ix (fun _ => rfl) (de_var 5) de_int (fun _ _ => rfl)) (da_cons (de_lst (mk := false) (da_cons (de_lst (mk := false) (da_cons de_int (da_cons de_int da_nil))) (da_cons (de_lst (mk := false) (da_cons de_int (da_cons de_int (da_cons de_int da_nil)))) da_nil))) da_nil)))))))))))) da_nil))) (dg_name 8 (fun _ => S_law.nd)))
    (dss_cons (ds_if (dt_not (dt_val (de_call (fun _ => (c__law_same T 6)) (fun _ => hr) (fun _ => hx) (fun _ => rfl) (da_cons (de_call (fun _ => (c_is_reduced T)) (fun _ => hr) (fun _ => hx) (fun _ => rfl) (da_cons (de_var 8) (da_cons (de_var 3) da_nil))) (da_cons de_bl da_nil))))) (dss_one (ds_ret de_bl)) dss_nil)
    (dss_one (ds_if (DW.t (dw_and (dt_cmp (fun _ => op_gt) opd_gt (de_var 3) de_int rfl) (dw_and1 (dt_not (dt_val (de_call (fun _ => (c__law_same T 6)) (fun _ => hr) (fun _ => hx) (fun _ => rfl) (da_cons (de_call (fun _ => (c_is_reduced T)) (fun _ => hr) (fun _ => hx) (fun _ => rfl) (da_cons (de_var 5) (da_cons de_int da_nil))) (da_cons (de_cmp (or_eq (fun _ => rfl) (fun _ => hr)) opd_eq (de_call (fun _ => (c__law_breduce T)) (fun _ => hr) (fun _ => hx) (fun _ => rfl) (da_cons (de_var 5) (da_cons de_int da_nil))) (de_var 5) rfl) da_nil)))))))) (dss_one (ds_ret de_bl)) dss_nil))))))))))))
    (dss_cons (ds_asg (de_lst (mk := false) (da_cons (de_add (mk := false) (fun _ => rfl) (de_lst (mk := false) (da_cons de_int da_nil)) (de_mul (mk := false) (de_lst (mk := false) (da_cons de_int da_nil)) de_int)) da_nil)) (dg_name 9 (fun _ => S_law.nd)))
    (dss_one (ds_ret (de_call (fun _ => (c__law_same T 6)) (fun _ => hr) (fun _ => hx) (fun _ => rfl) (da_cons (de_lst (mk := false) (da_cons (de_call (fun _ => (c_is_reduced T)) (fun _ => hr) (fun _ => hx) (fun _ => rfl) (da_cons (de_var 9) (da_cons de_int da_nil))) (da_cons (de_call (fun _ => (c_is_reduced T)) (fun _ => hr) (fun _ => hx) (fun _ => rfl) (da_cons (de_lst (mk := false) (da_cons (de_add (mk := false) (fun _ => rfl) (de_ix (fun _ => rfl) (de_var 9) de_int (fun _ _ => rfl)) (de_lst (mk := false) (da_cons de_int da_nil))) da_nil)) (da_cons de_int da_nil))) (da_cons (de_call (fun _ => (c_is_reduced T)) (fun _ => hr) (fun _ => hx) (fun _ => rfl) (da_cons (de_lst (mk := false) (da_cons (de_add (mk := false) (fun _ => rfl) (de_mul (mk := false) (de_lst (mk := false) (da_cons de_int da_nil)) de_int) (de_lst (mk := false) (da_cons de_int da_nil))) da_nil)) (da_cons de_int da_nil))) da_nil)))) (da_cons (de_lst (mk := false) (da_cons de_bl (da_cons de_bl (da_cons de_bl da_nil)))) da_nil)))))))
end
end K21
end

set_option Elab.async false
set_option linter.all false
set_option maxRecDepth 100000
set_option maxHeartbeats 4000000
set_option autoImplicit false
/-! N1: k21's defs of rows, told in plain Lean. -/
namespace K21
open PySem PySem.Spec PyProof.Rows L2 RZ DL SH
section
variable {W : Wd} {E : DX → Wd → Prop} {Q : RV → Wd → Prop}
/-- the column of the first int that isn't 0 -/
def hd : List Int → Option Nat
  | [] => none
  | x :: r => if x = 0 then (hd r).map (· + 1) else some 0
def hdD : Option Nat → D
  | none => .non
  | some k => .int (k : Nat)
@[simp] theorem hdD_n : hdD none = .non := rfl
@[simp] theorem hdD_s {k : Nat} : hdD (some k) = .int (k : Nat) := rfl
theorem head_loop (δ0 : RV) : ∀ (r : List Int) (k : Nat) (x1 x2 : Option RV) (QS : Fl × DL.Env → Wd → Prop) (E : DX → Wd → Prop),
    (∀ y1 y2, match hd r with | some i => QS (.rt (.d (.int ((k + i : Nat) : Int))), [some δ0, y1, y2]) W | none => QS (.nx, [some δ0, y1, y2]) W) →
    wpM (goFor (gtUnp 2 (gtCons (gtName 1) (gtCons (gtName 2) gtNil))) p_head_of_b1 ((r.zipIdx k).map fun p => D.tup [.int (p.2 : Nat), .int p.1]) [some δ0, x1, x2]) W QS E
  | [], k, x1, x2, QS, E, h => by
    simp [w_goFor0]
    exact h x1 x2
  | x :: r, k, x1, x2, QS, E, h => by
    simp only [List.zipIdx_cons, List.map_cons]
    rw [w_goFor]
    simp [p_head_of_b1]
    by_cases e : x = 0
    · subst e
      simp
      refine head_loop δ0 r (k + 1) _ _ QS E fun y1 y2 => ?_
      have := h y1 y2
      simp only [hd, if_pos] at this
      cases hr : hd r with
      | none => rw [hr] at this; exact this
      | some i =>
        rw [hr] at this
        simp only [Option.map_some] at this ⊢
        rw [show k + 1 + i = k + (i + 1) by omega]; exact this
    · simp [e]
      have := h (some (.d (.int k))) (some (.d (.int x)))
      simp only [hd, if_neg e] at this
      exact this
theorem head_of (r : List Int) : wpM (f_head_of [.d (lI r)]) W Q E = Q (.d (hdD (hd r))) W := by
  refine pu_by fun Q E hq => ?_
  unfold f_head_of
  rw [w_fnD]
  simp [m_head_of, startD]
  rw [enumD_map]
  refine head_loop _ r 0 none none _ _ fun y1 y2 => ?_
  cases e : hd r with
  | none => rw [e] at hq; simpa using hq
  | some i => rw [e] at hq; simpa using hq
theorem head_ofT (r : List Int) : wpM (f_head_of [.d (.tup (dI r))]) W Q E = Q (.d (hdD (hd r))) W := by
  refine pu_by fun Q E hq => ?_
  unfold f_head_of
  rw [w_fnD]
  simp [m_head_of, startD]
  rw [enumD_map]
  refine head_loop _ r 0 none none _ _ fun y1 y2 => ?_
  cases e : hd r with
  | none => rw [e] at hq; simpa using hq
  | some i => rw [e] at hq; simpa using hq
/-- the first from a on, of n numbers, whose product leaves 1 -/
def invL (x p : Int) : Int → Nat → Int
  | _, 0 => 1
  | a, n + 1 => if x * a % p = 1 then a else invL x p (a + 1) n
def inv (x p : Int) : Int := invL x p 1 (p.toNat - 1)
end
end K21
set_option Elab.async false
set_option linter.all false
set_option maxRecDepth 100000
set_option maxHeartbeats 4000000
set_option autoImplicit false
set_option exponentiation.threshold 2000
namespace K21
open PySem PySem.Spec PyProof.Rows L2 RZ DL SH
section
variable {W : Wd} {E : DX → Wd → Prop} {Q : RV → Wd → Prop}
theorem inv_loop (x p : Int) (hx : x.natAbs < 2 ^ 500) (hp : 0 < p) (d1 d2 : RV) : ∀ (n : Nat) (a : Int) (x1 : Option RV) (QS : Fl × DL.Env → Wd → Prop) (E : DX → Wd → Prop), 0 ≤ a → a + n < 1000 →
    (∀ y, (invL x p a n = 1 → QS (.nx, [some (.d (.int x)), some (.d (.int p)), y]) W) ∧ QS (.rt (.d (.int (invL x p a n))), [some (.d (.int x)), some (.d (.int p)), y]) W) →
    wpM (goFor (gtName 2) p_inverse_of_b1 (DL.intsFrom a n) [some (.d (.int x)), some (.d (.int p)), x1]) W QS E
  | 0, a, x1, QS, E, _, _, h => by
    simp [w_goFor0]
    exact (h x1).1 rfl
  | n + 1, a, x1, QS, E, h0, h1, h => by
    rw [intsFrom_succ, w_goFor]
    simp [p_inverse_of_b1]
    refine ⟨cmulw (by omega) (by omega), hp, ?_⟩
    by_cases e : x * a % p = 1
    · simp [e]
      have := (h (some (.d (.int a)))).2
      rw [invL, if_pos e] at this
      exact this
    · simp [e]
      refine inv_loop x p hx hp d1 d2 n (a + 1) _ QS E (by omega) (by push_cast at h1; omega) fun y => ?_
      have := h y
      rw [invL, if_neg e] at this
      exact this
theorem inverse_of {x p : Int} (hx : x.natAbs < 2 ^ 500) (hp : 0 < p) (hp2 : p < 100) : wpM (f_inverse_of [.d (.int x), .d (.int p)]) W Q E = Q (.d (.int (inv x p))) W := by
  refine pu_by fun Q E hq => ?_
  unfold f_inverse_of
  rw [w_fnD]
  simp [m_inverse_of, startD]
  refine ⟨by omega, ?_⟩
  refine inv_loop x p hx hp (.d .non) (.d .non) _ 1 none _ _ (by omega) (by omega) fun y => ⟨fun h => ?_, ?_⟩
  · have h' : inv x p = 1 := h
    rw [h'] at hq
    simpa using hq
  · simp
    exact hq
def gcdL (r : List Int) : Int := r.foldl (fun g x => ((Nat.gcd g.natAbs x.natAbs : Nat) : Int)) 0
def col (r : List Int) (k : Nat) : Int := r.getD k 0
/-- a row without a common divisor, its head above 0, or with remainders and the head 1 -/
def P (by_ : Int) (r : List Int) : List Int :=
  if by_ = 0 then match hd r with
    | none => List.replicate r.length 0
    | some k => r.map fun x => x.fdiv (if 0 < col r k then gcdL r else -gcdL r)
  else match hd (r.map (· % by_)) with
    | none => List.replicate r.length 0
    | some k => r.map fun x => x * inv (col r k % by_) by_ % by_
theorem hd_lt : ∀ {r : List Int} {k : Nat}, hd r = some k → k < r.length ∧ col r k ≠ 0
  | x :: r, k, h => by
    rw [hd] at h
    split at h
    · simp at h
      obtain ⟨j, hj, rfl⟩ := h
      have := hd_lt hj
      exact ⟨by simp; exact this.1, by simpa [col] using this.2⟩
    · cases h
      exact ⟨by simp, by simpa [col]⟩
theorem gcd_fold_nat : ∀ (r : List Int) (g : Int), 0 ≤ g → 0 ≤ r.foldl (fun g x => ((Nat.gcd g.natAbs x.natAbs : Nat) : Int)) g
  | [], g, h => h
  | x :: r, g, _ => gcd_fold_nat r _ (Int.natCast_nonneg _)
theorem gcd_dvd_nat : ∀ (r : List Int) (g : Int), (r.foldl (fun g x => ((Nat.gcd g.natAbs x.natAbs : Nat) : Int)) g) ∣ g ∧ ∀ x ∈ r, (r.foldl (fun g x => ((Nat.gcd g.natAbs x.natAbs : Nat) : Int)) g) ∣ x
  | [], g => ⟨Int.dvd_refl _, fun x h => nomatch h⟩
  | x :: r, g => by
    obtain ⟨h1, h2⟩ := gcd_dvd_nat r ((Nat.gcd g.natAbs x.natAbs : Nat) : Int)
    refine ⟨Int.dvd_trans h1 ?_, fun y hy => ?_⟩
    · exact Int.ofNat_dvd_left.mpr (Nat.gcd_dvd_left _ _)
    · rcases List.mem_cons.mp hy with rfl | hy
      · refine Int.dvd_trans h1 ?_
        exact Int.ofNat_dvd_left.mpr (Nat.gcd_dvd_right _ _)
      · exact h2 y hy
theorem gcdL_nn (r : List Int) : 0 ≤ gcdL r := gcd_fold_nat r 0 (by decide)
theorem gcdL_dvd {r : List Int} {x : Int} (h : x ∈ r) : gcdL r ∣ x := (gcd_dvd_nat r 0).2 x h
theorem gcdL_ne {r : List Int} {x : Int} (h : x ∈ r) (h0 : x ≠ 0) : gcdL r ≠ 0 := fun e => h0 (by have := gcdL_dvd h; rw [e] at this; exact Int.zero_dvd.mp this)
theorem gcdL_le {r : List Int} {x : Int} (h : x ∈ r) (h0 : x ≠ 0) : (gcdL r).natAbs ≤ x.natAbs := Nat.le_of_dvd (by omega) (Int.natAbs_dvd_natAbs.mpr (gcdL_dvd h))
def Bd (n : Nat) (r : List Int) : Prop := ∀ x ∈ r, x.natAbs < 2 ^ n
theorem gcd_loop (δ0 δ1 δ2 δ3 : Option RV) : ∀ (r : List Int) (g : Int) (x1 : Option RV) (QS : Fl × DL.Env → Wd → Prop) (E : DX → Wd → Prop),
    (∀ y, QS (.nx, [δ0, δ1, δ2, δ3, some (.d (.int (r.foldl (fun g x => ((Nat.gcd g.natAbs x.natAbs : Nat) : Int)) g))), y]) W) →
    wpM (goFor (gtName 5) p_plain_row_b3 (dI r) [δ0, δ1, δ2, δ3, some (.d (.int g)), x1]) W QS E
  | [], g, x1, QS, E, h => by
    simp [w_goFor0]
    exact h x1
  | x :: r, g, x1, QS, E, h => by
    simp only [dI, List.map_cons]
    rw [w_goFor]
    simp [p_plain_row_b3]
    exact gcd_loop δ0 δ1 δ2 δ3 r _ _ QS E h
def Fld (by_ : Int) : Prop := by_ = 0 ∨ 2 ≤ by_ ∧ by_ ≤ 97
theorem getI {r : List Int} {k : Nat} (h : k < r.length) : r[k]? = some (col r k) := by simp [h, col]
theorem mem_getD {r : List Int} {k : Nat} (h : k < r.length) : col r k ∈ r := by simp [h, col]
theorem lI_rep {n : Nat} : D.lst (List.replicate n (D.int 0)) = lI (List.replicate n 0) := by simp [List.map_replicate]
theorem bd_of {x : Int} {n : Nat} (h : x.natAbs < 2 ^ n) (hn : n ≤ 1000) : x.natAbs < 2 ^ 1000 := Nat.lt_of_lt_of_le h (Nat.pow_le_pow_right (by decide) hn)
theorem lc_plainT {δ : DL.Env} {T : RV → DL.Env → M DL.Env} {F : DL.Env → M RV} (r : List Int) (f : Int → Int) (hz : r.length < sizeLine)
    (step : ∀ x ∈ r, wpM (T (.d (.int x)) δ) W (fun δ1 W1 => wpM (F δ1) W1 (fun v W3 => v = .d (.int (f x)) ∧ W3 = W) fun _ _ => False) fun _ _ => False) :
    wpM (lcF false T evYes F δ (dI r)) W Q E = Q (.d (lI (r.map f))) W := by
  have := lc_map (W := W) (E := E) (Q := Q) (F := F) (T := T) (δ := δ) r D.int (fun x => .int (f x)) hz step
  rw [this, show (r.map fun x => D.int (f x)) = dI (r.map f) from by simp]
theorem plain_row {by_ : Int} {r : List Int} {x : D} (hb : Fld by_) (hx : x = lI r ∨ x = .tup (dI r)) (hr : Bd 400 r) (hl : r.length < 1000) : wpM (f_plain_row [.d x, .d (.int by_)]) W Q E = Q (.d (lI (P by_ r))) W := by
  refine pu_by fun Q E hq => ?_
  unfold f_plain_row
  rw [w_fnD]
  have hz : r.length < sizeLine := small_line (by omega)
  rcases hb with rfl | ⟨hb1, hb2⟩
  · cases e : hd r with
    | none =>
      have hp : P 0 r = List.replicate r.length 0 := by unfold P; simp [e]
      rw [hp] at hq
      rcases hx with rfl | rfl
      · simp [m_plain_row, startD]
        rw [head_of, e]
        simp [p_plain_row_s8]
        rw [w_rep1 (by omega), lI_rep]
        simp
        exact hq
      · simp [m_plain_row, startD]
        rw [head_ofT, e]
        simp [p_plain_row_s8]
        rw [w_rep1 (by omega), lI_rep]
        simp
        exact hq
    | some k =>
      obtain ⟨h1, h2⟩ := hd_lt e
      have hm := mem_getD h1
      have hg := gcdL_ne hm h2
      have hgl := gcdL_le hm h2
      have hgn := gcdL_nn r
      have hrk := hr _ hm
      have hp : P 0 r = r.map fun x => x.fdiv (if 0 < col r k then gcdL r else -gcdL r) := by unfold P; simp [e]
      rw [hp] at hq
      have hd0 : ∀ x : Int, CDivG x (gcdL r) := fun x => ⟨hg, by have := log2_lt (n := (gcdL r).natAbs) (k := 400) (by omega) (by decide); omega⟩
      have hd1 : ∀ x : Int, CDivG x (-gcdL r) := fun x => ⟨by omega, by rw [Int.natAbs_neg]; have := log2_lt (n := (gcdL r).natAbs) (k := 400) (by omega) (by decide); omega⟩
      have fin : ∀ (δ0 : D) (y : Option RV) (QS : Fl × DL.Env → Wd → Prop) (E : DX → Wd → Prop), (δ0 = lI r ∨ δ0 = .tup (dI r)) → (∀ δ, QS (.rt (.d (lI (r.map fun x => x.fdiv (if 0 < col r k then gcdL r else -gcdL r)))), δ) W) →
          wpM (p_plain_row_s2 [some (.d δ0), some (.d (.int 0)), some (.d (.int k)), none, some (.d (.int (gcdL r))), y]) W QS E := fun δ0 y QS E h0 h => by
        have lc : ∀ (a0 a1 a2 a3 a5 : Option RV) (g : Int) (Q : RV → Wd → Prop) (E : DX → Wd → Prop), (∀ x, CDivG x g) → Q (.d (lI (r.map fun x => x.fdiv g))) W → wpM (lcF false (gtName 5) evYes p_plain_row_e1 [a0, a1, a2, a3, some (.d (.int g)), a5] (dI r)) W Q E := fun a0 a1 a2 a3 a5 g Q E hc hq => by
          rw [lc_plainT r (fun x => x.fdiv g) hz fun x hx => ?_]
          · exact hq
          · simp [p_plain_row_e1]
            exact hc x
        rcases h0 with rfl | rfl
        · simp [p_plain_row_s2, getI h1]
          by_cases hpos : 0 < col r k
          · simp [hpos, wipeD] at h ⊢
            refine lc _ _ _ _ _ (gcdL r) _ _ hd0 ?_
            simp
            exact h _
          · simp [hpos, wipeD] at h ⊢
            refine lc _ _ _ _ _ (-gcdL r) _ _ hd1 ?_
            simp
            exact h _
        · simp [p_plain_row_s2, getI h1]
          by_cases hpos : 0 < col r k
          · simp [hpos, wipeD] at h ⊢
            refine lc _ _ _ _ _ (gcdL r) _ _ hd0 ?_
            simp
            exact h _
          · simp [hpos, wipeD] at h ⊢
            refine lc _ _ _ _ _ (-gcdL r) _ _ hd1 ?_
            simp
            exact h _
      rcases hx with rfl | rfl
      · simp [m_plain_row, startD]
        rw [head_of, e]
        simp [p_plain_row_s8, p_plain_row_s7, p_plain_row_s5, p_plain_row_s4]
        refine gcd_loop _ _ _ _ r 0 _ _ _ fun y => ?_
        simp
        refine fin _ _ _ _ (.inl rfl) fun δ => ?_
        simp
        exact hq
      · simp [m_plain_row, startD]
        rw [head_ofT, e]
        simp [p_plain_row_s8, p_plain_row_s7, p_plain_row_s5, p_plain_row_s4]
        refine gcd_loop _ _ _ _ r 0 _ _ _ fun y => ?_
        simp
        refine fin _ _ _ _ (.inr rfl) fun δ => ?_
        simp
        exact hq
  · have hm1 : ∀ (a0 a2 a3 a4 a5 : Option RV) (Q : RV → Wd → Prop) (E : DX → Wd → Prop), Q (.d (lI (r.map (· % by_)))) W → wpM (lcF false (gtName 5) evYes p_plain_row_e9 [a0, some (.d (.int by_)), a2, a3, a4, a5] (dI r)) W Q E := fun a0 a2 a3 a4 a5 Q E hq => by
      rw [lc_plainT r (fun x => x % by_) hz fun x hx => ?_]
      · exact hq
      · simp [p_plain_row_e9]
        omega
    have hx2 : ∀ (a2 a3 a4 a5 : Option RV) (QD : List D → Wd → Prop) (E : DX → Wd → Prop), QD (dI r) W → wpM (evIter (evVar 0) [some (.d x), a2, a3, a4, a5]) W QD E := fun _ _ _ _ QD E h => by rcases hx with rfl | rfl <;> simp <;> exact h
    have h0 : by_ ≠ 0 := by omega
    cases e : hd (r.map (· % by_)) with
    | none =>
      have hp : P by_ r = List.replicate r.length 0 := by unfold P; simp [h0, e]
      rw [hp] at hq
      rcases hx with rfl | rfl
      · simp [m_plain_row, startD, h0, wipeD]
        refine hm1 _ _ _ _ _ _ _ ?_
        simp
        rw [head_of, e]
        simp [p_plain_row_s8]
        rw [w_rep1 (by omega), lI_rep]
        simp
        exact hq
      · simp [m_plain_row, startD, h0, wipeD]
        refine hm1 _ _ _ _ _ _ _ ?_
        simp
        rw [head_of, e]
        simp [p_plain_row_s8]
        rw [w_rep1 (by omega), lI_rep]
        simp
        exact hq
    | some k =>
      have h1 : k < r.length := by have := (hd_lt e).1; simpa using this
      have hb0 : 0 < by_ := by omega
      have hp : P by_ r = r.map fun x => x * inv (col r k % by_) by_ % by_ := by unfold P; simp [h0, e]
      rw [hp] at hq
      have hi : (col r k % by_).natAbs < 2 ^ 500 := by
        have h2 := Int.emod_nonneg (col r k) h0
        have h3 := Int.emod_lt_of_pos (col r k) hb0
        have : (col r k % by_).natAbs < 2 ^ 7 := by omega
        exact Nat.lt_of_lt_of_le this (Nat.pow_le_pow_right (by decide) (by decide))
      have hinv : ∀ (a : Int) (n : Nat), 0 ≤ a → a + n ≤ 1000 → 0 ≤ invL (col r k % by_) by_ a n ∧ invL (col r k % by_) by_ a n ≤ 1000 := fun a n => by
        induction n generalizing a with
        | zero => intro _ _; rw [invL]; omega
        | succ n ih =>
          intro h1 h2
          rw [invL]
          split
          · exact ⟨h1, by omega⟩
          · exact ih (a + 1) (by omega) (by push_cast at h2; omega)
      have hiv := hinv 1 (by_.toNat - 1) (by omega) (by omega)
      have hiv2 : (inv (col r k % by_) by_).natAbs < 2 ^ 1000 := by
        have : (inv (col r k % by_) by_).natAbs < 2 ^ 10 := by
          have h1 : 0 ≤ inv (col r k % by_) by_ := hiv.1
          have h2 : inv (col r k % by_) by_ ≤ 1000 := hiv.2
          omega
        exact Nat.lt_of_lt_of_le this (Nat.pow_le_pow_right (by decide) (by decide))
      have hm2 : ∀ (a0 a2 a4 a5 : Option RV) (Q : RV → Wd → Prop) (E : DX → Wd → Prop), Q (.d (lI (r.map fun x => x * inv (col r k % by_) by_ % by_))) W → wpM (lcF false (gtName 5) evYes p_plain_row_e6 [a0, some (.d (.int by_)), a2, some (.d (.int (inv (col r k % by_) by_))), a4, a5] (dI r)) W Q E := fun a0 a2 a4 a5 Q E hq => by
        rw [lc_plainT r (fun x => x * inv (col r k % by_) by_ % by_) hz fun x hx => ?_]
        · exact hq
        · simp [p_plain_row_e6]
          exact ⟨cmulw (bd_of (hr x hx) (by decide)) hiv2, hb0⟩
      rcases hx with rfl | rfl
      · simp [m_plain_row, startD, h0, wipeD]
        refine hm1 _ _ _ _ _ _ _ ?_
        simp
        rw [head_of, e]
        simp [p_plain_row_s8, p_plain_row_s7, hb0, getI h1]
        rw [inverse_of hi hb0 (by omega)]
        simp [wipeD]
        refine hm2 _ _ _ _ _ _ ?_
        simp
        exact hq
      · simp [m_plain_row, startD, h0, wipeD]
        refine hm1 _ _ _ _ _ _ _ ?_
        simp
        rw [head_of, e]
        simp [p_plain_row_s8, p_plain_row_s7, hb0, getI h1]
        rw [inverse_of hi hb0 (by omega)]
        simp [wipeD]
        refine hm2 _ _ _ _ _ _ ?_
        simp
        exact hq
end
end K21
set_option Elab.async false
set_option linter.all false
set_option maxRecDepth 100000
set_option maxHeartbeats 4000000
set_option autoImplicit false
set_option exponentiation.threshold 2000
namespace K21
open PySem PySem.Spec PyProof.Rows L2 RZ DL SH
section
variable {W : Wd} {E : DX → Wd → Prop} {Q : RV → Wd → Prop}
def gcd2 (i j : Int) : Int := ((Nat.gcd i.natAbs j.natAbs : Nat) : Int)
/-- a row less a multiple of another one -/
def Wo (by_ : Int) (r o : List Int) (c : Nat) : List Int :=
  if col r c = 0 then r
  else if 0 < by_ then (r.zip o).map fun p => (p.1 - col r c * p.2) % by_
  else (r.zip o).map fun p => p.1 * (col o c).fdiv (gcd2 (col r c) (col o c)) - (col r c).fdiv (gcd2 (col r c) (col o c)) * p.2
theorem zip_dI (r o : List Int) : zipD (dI r) (dI o) = (r.zip o).map fun p => D.tup [.int p.1, .int p.2] := zipD_map D.int D.int r o
theorem lc_zip {δ : DL.Env} {T : RV → DL.Env → M DL.Env} {F : DL.Env → M RV} (r o : List Int) (f : Int × Int → Int) (hz : r.length < sizeLine)
    (step : ∀ p ∈ r.zip o, wpM (T (.d (.tup [.int p.1, .int p.2])) δ) W (fun δ1 W1 => wpM (F δ1) W1 (fun v W3 => v = .d (.int (f p)) ∧ W3 = W) fun _ _ => False) fun _ _ => False) :
    wpM (lcF false T evYes F δ (zipD (dI r) (dI o))) W Q E = Q (.d (lI ((r.zip o).map f))) W := by
  rw [zip_dI]
  have := lc_map (W := W) (E := E) (Q := Q) (F := F) (T := T) (δ := δ) (r.zip o) (fun p => D.tup [.int p.1, .int p.2]) (fun p => .int (f p)) (by rw [List.length_zip]; omega) step
  rw [this, show ((r.zip o).map fun p => D.int (f p)) = dI ((r.zip o).map f) from by simp]
theorem fdiv_small {a b : Int} {n : Nat} (hb : 0 < b) (h : a.natAbs < 2 ^ n) : (a.fdiv b).natAbs ≤ 2 ^ n := by
  rw [Int.fdiv_eq_ediv_of_nonneg _ (Int.le_of_lt hb)]
  have := Int.natAbs_ediv_le_natAbs a b
  omega
theorem lt1000 {x n : Nat} (h : x ≤ 2 ^ n) (hn : n < 1000) : x < 2 ^ 1000 := Nat.lt_of_le_of_lt h (Nat.pow_lt_pow_right (by decide) hn)
theorem without {by_ : Int} {r o : List Int} {c : Nat} (hb : Fld by_) (hr : Bd 400 r) (ho : Bd 400 o) (hl : r.length < 1000) (hc : c < r.length) (hco : c < o.length) (hoc : by_ = 0 → col o c ≠ 0) :
    wpM (f_without [.d (lI r), .d (lI o), .d (.int (c : Nat)), .d (.int by_)]) W Q E = Q (.d (lI (Wo by_ r o c))) W := by
  refine pu_by fun Q E hq => ?_
  unfold f_without
  rw [w_fnD]
  have hz : r.length < sizeLine := small_line (by omega)
  have hcr : (col r c).natAbs < 2 ^ 1000 := bd_of (hr _ (mem_getD hc)) (by decide)
  simp [m_without, startD, getI hc]
  by_cases h0 : col r c = 0
  · simp [h0]
    unfold Wo at hq
    rw [if_pos h0] at hq
    exact hq
  · simp [h0, p_without_s5]
    unfold Wo at hq
    rw [if_neg h0] at hq
    by_cases hb0 : 0 < by_
    · rw [if_pos hb0] at hq
      simp [hb0, getI hc, wipeD]
      rw [lc_zip r o (fun p => (p.1 - col r c * p.2) % by_) hz fun p hp => ?_]
      · simp
        exact hq
      · simp [p_without_e4]
        exact ⟨cmulw hcr (bd_of (ho _ (List.of_mem_zip hp).2) (by decide)), hb0⟩
    · rw [if_neg hb0] at hq
      have hz0 : by_ = 0 := by rcases hb with h | h; exact h; omega
      have hg : 0 < gcd2 (col r c) (col o c) := by
        have h1 : 0 < Nat.gcd (col r c).natAbs (col o c).natAbs := Nat.gcd_pos_of_pos_left _ (by omega)
        unfold gcd2
        omega
      have hgl : (gcd2 (col r c) (col o c)).natAbs < 2 ^ 400 := by
        have h1 : Nat.gcd (col r c).natAbs (col o c).natAbs ≤ (col r c).natAbs := Nat.gcd_le_left _ (by omega)
        have h2 := hr _ (mem_getD hc)
        unfold gcd2
        omega
      have hd : ∀ x : Int, CDivG x (gcd2 (col r c) (col o c)) := fun x => ⟨by omega, by have := log2_lt hgl (by decide); omega⟩
      have hn : ((col o c).fdiv (gcd2 (col r c) (col o c))).natAbs < 2 ^ 1000 := lt1000 (fdiv_small hg (ho _ (mem_getD hco))) (by decide)
      have hf : ((col r c).fdiv (gcd2 (col r c) (col o c))).natAbs < 2 ^ 1000 := lt1000 (fdiv_small hg (hr _ (mem_getD hc))) (by decide)
      simp [hb0, p_without_s3, p_without_s2, getI hc, getI hco]
      refine ⟨hd _, hd _, ?_⟩
      have e2 : ∀ a b : Int, newT [.d (.int a), .d (.int b)] = newT ([D.int a, D.int b].map RV.d) := fun a b => rfl
      simp [wipeD]
      show wpM (lcF false _ _ _ _ (zipD (dI r) (dI o))) W _ _
      rw [lc_zip r o (fun p => p.1 * (col o c).fdiv (gcd2 (col r c) (col o c)) - (col r c).fdiv (gcd2 (col r c) (col o c)) * p.2) hz fun p hp => ?_]
      · simp
        exact hq
      · simp [p_without_e1]
        exact ⟨cmulw (bd_of (hr _ (List.of_mem_zip hp).1) (by decide)) hn, cmulw hf (bd_of (ho _ (List.of_mem_zip hp).2) (by decide)), rfl⟩
end
end K21
set_option Elab.async false
set_option linter.all false
set_option maxRecDepth 100000
set_option maxHeartbeats 4000000
set_option autoImplicit false
set_option exponentiation.threshold 2000
namespace K21
open PySem PySem.Spec PyProof.Rows L2 RZ DL SH
section
variable {W : Wd} {E : DX → Wd → Prop} {Q : RV → Wd → Prop}
def hv (r : List Int) : Nat := (hd r).getD 0
theorem hv_of {r : List Int} (h : hd r ≠ none) : hd r = some (hv r) := by
  unfold hv
  cases e : hd r with
  | none => exact absurd e h
  | some k => rfl
theorem hv_lt {r : List Int} (h : hd r ≠ none) : hv r < r.length := (hd_lt (hv_of h)).1
theorem hv_ne {r : List Int} (h : hd r ≠ none) : col r (hv r) ≠ 0 := (hd_lt (hv_of h)).2
/-- what is left of a row, row by row -/
def RS (by_ : Int) (v : List Int) (S : List (List Int)) : List Int := S.foldl (fun f o => Wo by_ f o (hv o)) v
def OkR (by_ : Int) : List Int → List (List Int) → Prop
  | v, [] => Bd 400 v ∧ v.length < 1000
  | v, o :: S => Bd 400 v ∧ v.length < 1000 ∧ Bd 400 o ∧ hd o ≠ none ∧ hv o < v.length ∧ OkR by_ (Wo by_ v o (hv o)) S
theorem OkR.v {by_ : Int} : ∀ {v : List Int} {S : List (List Int)}, OkR by_ v S → Bd 400 v ∧ v.length < 1000
  | _, [], h => h
  | _, _ :: _, h => ⟨h.1, h.2.1⟩
theorem OkR.fin {by_ : Int} : ∀ {v : List Int} {S : List (List Int)}, OkR by_ v S → Bd 400 (RS by_ v S) ∧ (RS by_ v S).length < 1000
  | _, [], h => h
  | v, o :: S, h => OkR.fin (v := Wo by_ v o (hv o)) (S := S) h.2.2.2.2.2
theorem rest_loop (by_ : Int) (hb : Fld by_) (δ0 δ1 : Option RV) : ∀ (S : List (List Int)) (v : List Int) (x : Option RV) (QS : Fl × DL.Env → Wd → Prop) (E : DX → Wd → Prop), OkR by_ v S →
    (∀ y, QS (.nx, [δ0, δ1, some (.d (.int by_)), some (.d (lI (RS by_ v S))), y]) W) →
    wpM (goFor (gtName 4) p_rest_of_b1 (S.map lI) [δ0, δ1, some (.d (.int by_)), some (.d (lI v)), x]) W QS E
  | [], v, x, QS, E, _, h => by
    simp [w_goFor0]
    exact h x
  | o :: S, v, x, QS, E, ok, h => by
    obtain ⟨h1, h2, h3, h4, h5, h6⟩ := ok
    simp only [List.map_cons]
    rw [w_goFor]
    simp [p_rest_of_b1]
    rw [head_of, hv_of h4]
    simp
    rw [without hb h1 h3 h2 h5 (hv_lt h4) (fun _ => hv_ne h4)]
    simp
    exact rest_loop by_ hb δ0 δ1 S _ _ QS E h6 h
theorem rest_of {by_ : Int} {r : List Int} {S : List (List Int)} {x : D} (hb : Fld by_) (hx : x = lI r ∨ x = .tup (dI r)) (hr : Bd 400 r) (hl : r.length < 1000) (ok : OkR by_ (P by_ r) S) :
    wpM (f_rest_of [.d (lR S), .d x, .d (.int by_)]) W Q E = Q (.d (lI (P by_ (RS by_ (P by_ r) S)))) W := by
  refine pu_by fun Q E hq => ?_
  unfold f_rest_of
  rw [w_fnD]
  simp [m_rest_of, startD]
  rw [plain_row hb hx hr hl]
  simp
  refine rest_loop by_ hb _ _ S _ _ _ _ ok fun y => ?_
  simp
  rw [plain_row hb (.inl rfl) ok.fin.1 ok.fin.2]
  simp
  exact hq
/-- the reduced rows and one more -/
def PI (by_ : Int) (S : List (List Int)) (m : List Int) : List (List Int) := sortBy (fun r => ((hv r : Nat) : Int)) ((S.map fun o => P by_ (Wo by_ o m (hv m))) ++ [m])
theorem put_none {by_ : Int} {r : List Int} {S : List (List Int)} {x : D} (hb : Fld by_) (hx : x = lI r ∨ x = .tup (dI r)) (hr : Bd 400 r) (hl : r.length < 1000) (ok : OkR by_ (P by_ r) S)
    (hn : hd (P by_ (RS by_ (P by_ r) S)) = none) : wpM (f_put_in [.d (lR S), .d x, .d (.int by_)]) W Q E = Q (.d (lR S)) W := by
  refine pu_by fun Q E hq => ?_
  unfold f_put_in
  rw [w_fnD]
  simp [m_put_in, startD]
  rw [rest_of hb hx hr hl ok]
  simp [p_put_in_s4]
  rw [head_of, hn]
  simp [p_put_in_s3]
  exact hq
theorem put_some {by_ : Int} {r m : List Int} {S : List (List Int)} {x : D} (hb : Fld by_) (hx : x = lI r ∨ x = .tup (dI r)) (hr : Bd 400 r) (hl : r.length < 1000) (ok : OkR by_ (P by_ r) S) (hS : S.length < 1000)
    (hm : P by_ (RS by_ (P by_ r) S) = m) (hn : hd m ≠ none) (hbm : Bd 400 m) (hso : ∀ o ∈ S, Bd 400 o ∧ o.length < 1000 ∧ hv m < o.length ∧ Bd 400 (Wo by_ o m (hv m)) ∧ hd (P by_ (Wo by_ o m (hv m))) ≠ none ∧ (Wo by_ o m (hv m)).length < 1000) :
    wpM (f_put_in [.d (lR S), .d x, .d (.int by_)]) W Q E = Q (.d (lR (PI by_ S m))) W := by
  refine pu_by fun Q E hq => ?_
  unfold f_put_in
  rw [w_fnD]
  simp [m_put_in, startD]
  rw [rest_of hb hx hr hl ok, hm]
  simp [p_put_in_s4]
  rw [head_of, hv_of hn]
  simp [p_put_in_s3, p_put_in_s2, wipeD]
  rw [lc_map S lI (fun o => lI (P by_ (Wo by_ o m (hv m)))) (small_line (by omega)) fun o ho => ?_]
  · simp
    rw [show (S.map (fun o => lI (P by_ (Wo by_ o m (hv m)))) ++ [lI m]) = ((S.map fun o => P by_ (Wo by_ o m (hv m))) ++ [m]).map lI by simp]
    refine ⟨small_le (by omega), ?_⟩
    rw [w_sortKey _ lI (fun r => ((hv r : Nat) : Int)) fun r hr => ?_]
    · simp
      exact hq
    · have h : hd r ≠ none := by
        simp at hr
        rcases hr with ⟨o, ho, rfl⟩ | rfl
        · exact (hso o ho).2.2.2.2.1
        · exact hn
      rw [head_of, hv_of h]
      exact ⟨rfl, rfl⟩
  · obtain ⟨h1, h2, h3, h4, h5, h6⟩ := hso o ho
    simp [p_put_in_e1]
    rw [without hb h1 hbm h2 h3 (hv_lt hn) (fun _ => hv_ne hn)]
    simp
    rw [plain_row hb (.inl rfl) h4 h6]
    exact ⟨rfl, rfl⟩
end
end K21
set_option Elab.async false
set_option linter.all false
set_option maxRecDepth 100000
set_option maxHeartbeats 4000000
set_option autoImplicit false
set_option exponentiation.threshold 2000
/-! N4: rows, in plain Lean. -/
namespace K21
open PySem PySem.Spec PyProof.Rows L2 RZ DL SH
theorem hd_none {r : List Int} : hd r = none ↔ ∀ x ∈ r, x = 0 := by
  induction r with
  | nil => simp [hd]
  | cons x r ih =>
    rw [hd]
    by_cases e : x = 0
    · simp [e, ih]
    · simp [e]
theorem col_cons {x : Int} {r : List Int} {k : Nat} : col (x :: r) (k + 1) = col r k := rfl
theorem col_z {x : Int} {r : List Int} : col (x :: r) 0 = x := rfl
theorem hd_zero : ∀ {r : List Int} {k j : Nat}, hd r = some k → j < k → col r j = 0
  | x :: r, k, j, h, hj => by
    rw [hd] at h
    split at h
    · simp at h
      obtain ⟨i, hi, rfl⟩ := h
      cases j with
      | zero => rw [col_z]; assumption
      | succ j => rw [col_cons]; exact hd_zero hi (by omega)
    · cases h; omega
theorem hv_zero {r : List Int} {j : Nat} (h : hd r ≠ none) (hj : j < hv r) : col r j = 0 := hd_zero (hv_of h) hj
/-- the head is where all ahead is 0 and it isn't -/
theorem hd_at : ∀ {r : List Int} {k : Nat}, col r k ≠ 0 → (∀ j, j < k → col r j = 0) → hd r = some k
  | [], k, h, _ => by simp [col] at h
  | x :: r, 0, h, _ => by rw [hd, if_neg (by simpa [col] using h)]
  | x :: r, k + 1, h, hz => by
    have e : x = 0 := hz 0 (by omega)
    rw [hd, if_pos e, hd_at (r := r) (k := k) h fun j hj => hz (j + 1) (by omega)]
    rfl
theorem hd_map (f : Int → Int) : ∀ (r : List Int), (∀ x ∈ r, f x = 0 ↔ x = 0) → hd (r.map f) = hd r
  | [], _ => rfl
  | x :: r, h => by
    have h1 := h x (by simp)
    rw [List.map_cons, hd, hd, hd_map f r fun y hy => h y (by simp [hy])]
    by_cases e : x = 0
    · rw [if_pos e, if_pos (h1.mpr e)]
    · rw [if_neg e, if_neg (fun z => e (h1.mp z))]
theorem col_map (f : Int → Int) (r : List Int) (k : Nat) (h : k < r.length) : col (r.map f) k = f (col r k) := by simp [col, h]
theorem col_map0 (f : Int → Int) (h0 : f 0 = 0) (r : List Int) (k : Nat) : col (r.map f) k = f (col r k) := by
  by_cases h : k < r.length
  · exact col_map f r k h
  · simp [col, h, h0]
theorem col_out {r : List Int} {k : Nat} (h : r.length ≤ k) : col r k = 0 := by simp [col, h]
theorem ext_col {r s : List Int} (hl : r.length = s.length) (h : ∀ k, k < r.length → col r k = col s k) : r = s := by
  apply List.ext_getElem hl
  intro i h1 h2
  have := h i h1
  simpa [col, h1, h2] using this
def zipW (f : Int → Int → Int) (r s : List Int) : List Int := (r.zip s).map fun p => f p.1 p.2
theorem zipW_len {f : Int → Int → Int} {r s : List Int} (h : r.length = s.length) : (zipW f r s).length = r.length := by simp [zipW, h]
theorem col_zipW {f : Int → Int → Int} {r s : List Int} {k : Nat} (hl : r.length = s.length) (h : k < r.length) : col (zipW f r s) k = f (col r k) (col s k) := by
  have h2 : k < s.length := by omega
  have e : (r.zip s)[k]? = some (r[k], s[k]) := by rw [List.getElem?_eq_getElem (by simp; omega), List.getElem_zip]
  simp [zipW, col, h, h2, e]
/-! gcd -/
theorem gcd_fold (r : List Int) (g : Nat) : r.foldl (fun (g : Int) x => ((Nat.gcd g.natAbs x.natAbs : Nat) : Int)) (g : Int) = ((r.foldl (fun g x => Nat.gcd g x.natAbs) g : Nat) : Int) := by
  induction r generalizing g with
  | nil => rfl
  | cons x r ih => rw [List.foldl_cons, List.foldl_cons, Int.natAbs_natCast, ih]
def gcdN (r : List Int) : Nat := r.foldl (fun g x => Nat.gcd g x.natAbs) 0
theorem gcdL_N (r : List Int) : gcdL r = (gcdN r : Nat) := gcd_fold r 0
theorem gcdN_mul (a : Nat) (r : List Int) (b : Int) (hb : b.natAbs = a) (g : Nat) : (r.map (b * ·)).foldl (fun g x => Nat.gcd g x.natAbs) (a * g) = a * r.foldl (fun g x => Nat.gcd g x.natAbs) g := by
  induction r generalizing g with
  | nil => rfl
  | cons x r ih => rw [List.map_cons, List.foldl_cons, List.foldl_cons, Int.natAbs_mul, hb, Nat.gcd_mul_left, ih]
theorem gcdL_mul (b : Int) (r : List Int) : gcdL (r.map (b * ·)) = (b.natAbs : Int) * gcdL r := by
  have := gcdN_mul b.natAbs r b rfl 0
  rw [Nat.mul_zero] at this
  rw [gcdL_N, gcdL_N]
  unfold gcdN
  rw [this]
  push_cast
  rfl
/-- the plain row of a multiple -/
theorem P0_mul (a : Int) (ha : a ≠ 0) (r : List Int) : P 0 (r.map (a * ·)) = P 0 r := by
  have h1 : hd (r.map (a * ·)) = hd r := hd_map _ r fun x _ => by show a * x = 0 ↔ _; rw [Int.mul_eq_zero]; exact ⟨fun z => z.resolve_left ha, .inr⟩
  unfold P
  rw [if_pos rfl, if_pos rfl, h1]
  cases e : hd r with
  | none => simp
  | some k =>
    obtain ⟨hk, hc⟩ := hd_lt e
    have hg0 : 0 < gcdL r := by
      have h2 := gcdL_nn r
      have h3 := gcdL_ne (mem_getD hk) hc
      omega
    dsimp only
    rw [List.map_map, gcdL_mul, col_map _ r k hk]
    refine List.map_congr_left fun x hx => ?_
    obtain ⟨q, hq⟩ := gcdL_dvd hx
    show (a * x).fdiv _ = x.fdiv _
    have hg : gcdL r ≠ 0 := by omega
    generalize gcdL r = g at *
    subst hq
    have d1 : ∀ y : Int, (g * q).fdiv g = q := fun _ => by rw [Int.mul_fdiv_cancel_left _ hg]
    rcases Int.lt_or_gt_of_ne ha with hn | hp
    · have ea : (a.natAbs : Int) = -a := by omega
      have c1 : (0 < a * col r k) ↔ ¬ 0 < col r k := by
        constructor
        · intro h h2
          have := Int.mul_neg_of_neg_of_pos hn h2
          omega
        · intro h
          exact Int.mul_pos_of_neg_of_neg hn (by omega)
      by_cases hc0 : 0 < col r k
      · rw [if_neg (fun z => c1.mp z hc0), if_pos hc0, ea]
        rw [show -(-a * g) = a * g by rw [Int.neg_mul, Int.neg_neg], show a * (g * q) = (a * g) * q by rw [Int.mul_assoc]]
        rw [Int.mul_fdiv_cancel_left _ (Int.mul_ne_zero ha hg), Int.mul_fdiv_cancel_left _ hg]
      · rw [if_pos (c1.mpr hc0), if_neg hc0, ea]
        rw [show a * (g * q) = (-a * g) * (-q) by rw [Int.neg_mul, Int.neg_mul_neg, Int.mul_assoc], show g * q = (-g) * (-q) by rw [Int.neg_mul_neg]]
        rw [Int.mul_fdiv_cancel_left _ (Int.mul_ne_zero (by omega) hg), Int.mul_fdiv_cancel_left _ (by omega)]
    · have ea : (a.natAbs : Int) = a := by omega
      have c1 : (0 < a * col r k) ↔ 0 < col r k := ⟨fun h => by
        rcases Int.lt_or_gt_of_ne hc with z | z
        · have := Int.mul_neg_of_pos_of_neg hp z; omega
        · exact z, fun h => Int.mul_pos hp h⟩
      by_cases hc0 : 0 < col r k
      · rw [if_pos (c1.mpr hc0), if_pos hc0, ea, show a * (g * q) = (a * g) * q by rw [Int.mul_assoc]]
        rw [Int.mul_fdiv_cancel_left _ (Int.mul_ne_zero ha hg), Int.mul_fdiv_cancel_left _ hg]
      · rw [if_neg (fun z => hc0 (c1.mp z)), if_neg hc0, ea]
        rw [show a * (g * q) = (-(a * g)) * (-q) by rw [Int.neg_mul_neg, Int.mul_assoc], show g * q = (-g) * (-q) by rw [Int.neg_mul_neg]]
        rw [Int.mul_fdiv_cancel_left _ (by have := Int.mul_ne_zero ha hg; omega), Int.mul_fdiv_cancel_left _ (by omega)]
/-- a row is a multiple of its plain row -/
theorem P0_scale {r : List Int} (h : hd r ≠ none) : ∃ a, a ≠ 0 ∧ a.natAbs = (gcdL r).natAbs ∧ r = (P 0 r).map (a * ·) ∧ (0 < col r (hv r) → a = gcdL r) := by
  have e := hv_of h
  obtain ⟨hk, hc⟩ := hd_lt e
  have hg := gcdL_ne (mem_getD hk) hc
  refine ⟨if 0 < col r (hv r) then gcdL r else -gcdL r, ?_, ?_, ?_, fun z => if_pos z⟩
  · split <;> omega
  · split <;> omega
  · unfold P
    rw [if_pos rfl, e]
    dsimp only
    rw [List.map_map]
    conv => lhs; rw [← List.map_id r]
    refine List.map_congr_left fun x hx => ?_
    obtain ⟨q, hq⟩ := gcdL_dvd hx
    show x = _ * x.fdiv _
    generalize gcdL r = g at *
    subst hq
    split
    · rw [Int.mul_fdiv_cancel_left _ hg]
    · rw [show g * q = (-g) * (-q) by rw [Int.neg_mul_neg], Int.mul_fdiv_cancel_left _ (by omega)]
theorem P0_idem (r : List Int) : P 0 (P 0 r) = P 0 r := by
  by_cases h : hd r = none
  · have e : P 0 r = List.replicate r.length 0 := by unfold P; rw [if_pos rfl, h]
    have h2 : hd (List.replicate r.length 0) = none := hd_none.mpr fun x hx => (List.mem_replicate.mp hx).2
    rw [e]
    unfold P
    rw [if_pos rfl, h2]
    simp
  · obtain ⟨a, ha, _, e, _⟩ := P0_scale h
    conv => rhs; rw [e]
    rw [P0_mul a ha]
end K21
set_option Elab.async false
set_option linter.all false
set_option maxRecDepth 100000
set_option maxHeartbeats 4000000
set_option autoImplicit false
set_option exponentiation.threshold 2000
/-! N5: spaces put together row by row. -/
namespace K21
open PySem PySem.Spec PyProof.Rows L2 RZ DL SH
abbrev hvI (r : List Int) : Int := ((hv r : Nat) : Int)
theorem sortBy_eq {xs T : List (List Int)} (hp : T.Perm xs) (hs : T.Pairwise fun x y => hv x < hv y) : sortBy hvI xs = T := by
  refine List.Perm.eq_of_pairwise (le := fun x y => hvI x ≤ hvI y) (fun a b ha hb h1 h2 => ?_) (sortBy_sorted hvI xs) (hs.imp fun h => by unfold hvI; omega) ((sortBy_perm hvI xs).trans hp.symm)
  have ha' : a ∈ T := hp.mem_iff.mpr ((sortBy_perm hvI xs).mem_iff.mp ha)
  have e : hv a = hv b := by unfold hvI at h1 h2; omega
  obtain ⟨i, hi, rfl⟩ := List.getElem_of_mem ha'
  obtain ⟨j, hj, rfl⟩ := List.getElem_of_mem hb
  rcases Nat.lt_trichotomy i j with h | h | h
  · have := List.pairwise_iff_getElem.mp hs i j hi hj h
    omega
  · subst h; rfl
  · have := List.pairwise_iff_getElem.mp hs j i hj hi h
    omega
/-- a row of a space -/
structure Rw (by_ : Int) (n : Nat) (r : List Int) : Prop where
  len : r.length = n
  bd : Bd 30 r
  hd : hd r ≠ none
  pl : P by_ r = r
def Lt (a b : List Int) : Prop := hv a < hv b ∧ col a (hv b) = 0
structure Spa (by_ : Int) (n : Nat) (S : List (List Int)) : Prop where
  row : ∀ r ∈ S, Rw by_ n r
  pw : S.Pairwise Lt
  n1 : n < 1000
  k1 : S.length < 1000
def PutR (by_ : Int) (S : List (List Int)) (r : List Int) (S' : List (List Int)) : Prop := ∀ x, (x = lI r ∨ x = .tup (dI r)) → ∀ (W : Wd) (Q : RV → Wd → Prop) (E : DX → Wd → Prop), wpM (f_put_in [.d (lR S), .d x, .d (.int by_)]) W Q E = Q (.d (lR S')) W
theorem Bd.mono {m n : Nat} {r : List Int} (h : Bd m r) (hmn : m ≤ n) : Bd n r := fun x hx => Nat.lt_of_lt_of_le (h x hx) (Nat.pow_le_pow_right (by decide) hmn)
theorem Wo_triv {by_ : Int} {r o : List Int} {c : Nat} (h : col r c = 0) : Wo by_ r o c = r := if_pos h
theorem RS_triv {by_ : Int} {v : List Int} : ∀ {S : List (List Int)}, (∀ o ∈ S, col v (hv o) = 0) → RS by_ v S = v
  | [], _ => rfl
  | o :: S, h => by
    show RS by_ (Wo by_ v o (hv o)) S = v
    rw [Wo_triv (h o (by simp))]
    exact RS_triv fun o ho => h o (by simp [ho])
theorem OkR_triv {by_ : Int} {v : List Int} (hb : Bd 400 v) (hl : v.length < 1000) : ∀ {S : List (List Int)}, (∀ o ∈ S, col v (hv o) = 0 ∧ Bd 400 o ∧ hd o ≠ none ∧ hv o < v.length) → OkR by_ v S
  | [], _ => ⟨hb, hl⟩
  | o :: S, h => by
    obtain ⟨h1, h2, h3, h4⟩ := h o (by simp)
    refine ⟨hb, hl, h2, h3, h4, ?_⟩
    rw [Wo_triv h1]
    exact OkR_triv hb hl fun o ho => h o (by simp [ho])
/-- a row is put beside others that have nothing to do with it -/
theorem put_triv {by_ : Int} {n : Nat} {r m : List Int} {S T : List (List Int)} (hb : Fld by_) (hn : n < 1000) (hk : S.length < 1000) (hr : Bd 400 r) (hl : r.length = n) (hm : P by_ r = m) (hmm : P by_ m = m) (hml : m.length = n) (hmb : Bd 400 m) (hmh : hd m ≠ none)
    (h : ∀ o ∈ S, o.length = n ∧ Bd 400 o ∧ hd o ≠ none ∧ P by_ o = o ∧ col m (hv o) = 0 ∧ col o (hv m) = 0) (hp : T.Perm (S ++ [m])) (hs : T.Pairwise fun x y => hv x < hv y) : PutR by_ S r T := by
  intro x hx W Q E
  have e1 : RS by_ m S = m := RS_triv fun o ho => (h o ho).2.2.2.2.1
  have e2 : P by_ (RS by_ (P by_ r) S) = m := by rw [hm, e1, hmm]
  have ok : OkR by_ (P by_ r) S := by
    rw [hm]
    refine OkR_triv hmb (by omega) fun o ho => ?_
    obtain ⟨h1, h2, h3, h4, h5, h6⟩ := h o ho
    exact ⟨h5, h2, h3, by rw [hml, ← h1]; exact hv_lt h3⟩
  rw [put_some hb hx hr (by omega) ok (by omega) e2 hmh hmb fun o ho => ?_]
  · have e3 : PI by_ S m = T := by
      unfold PI
      have e4 : (S.map fun o => P by_ (Wo by_ o m (hv m))) = S := by
        conv => rhs; rw [← List.map_id S]
        refine List.map_congr_left fun o ho => ?_
        obtain ⟨h1, h2, h3, h4, h5, h6⟩ := h o ho
        rw [Wo_triv h6, h4]; rfl
      rw [e4]
      exact sortBy_eq hp hs
    rw [e3]
  · obtain ⟨h1, h2, h3, h4, h5, h6⟩ := h o ho
    rw [Wo_triv h6, h4]
    exact ⟨h2, by omega, by rw [h1, ← hml]; exact hv_lt hmh, h2, h3, by omega⟩
theorem zer_hd {n : Nat} : hd (List.replicate n 0) = none := hd_none.mpr fun x hx => (List.mem_replicate.mp hx).2
theorem zer_P {by_ : Int} {n : Nat} : P by_ (List.replicate n 0) = List.replicate n 0 := by
  unfold P
  by_cases h : by_ = 0
  · rw [if_pos h, zer_hd]; simp
  · rw [if_neg h]
    have : (List.replicate n (0 : Int)).map (· % by_) = List.replicate n 0 := by simp [List.map_replicate]
    rw [this, zer_hd]; simp
theorem zer_col {n k : Nat} : col (List.replicate n 0) k = 0 := by
  unfold col
  simp [List.getElem?_replicate]
  split <;> rfl
theorem zer_bd {n m : Nat} : Bd m (List.replicate n 0) := fun x hx => by rw [(List.mem_replicate.mp hx).2]; exact Nat.two_pow_pos m
/-- a row of noughts changes nothing -/
theorem put_zero {by_ : Int} {n : Nat} {S : List (List Int)} (hb : Fld by_) (s : Spa by_ n S) : PutR by_ S (List.replicate n 0) S := by
  intro x hx W Q E
  refine put_none hb hx zer_bd (by simpa using s.n1) ?_ ?_
  · rw [zer_P]
    exact OkR_triv zer_bd (by simpa using s.n1) fun o ho => ⟨zer_col, (s.row o ho).bd.mono (by decide), (s.row o ho).hd, by rw [List.length_replicate, ← (s.row o ho).len]; exact hv_lt (s.row o ho).hd⟩
  · rw [zer_P, RS_triv fun o ho => zer_col, zer_P, zer_hd]
theorem Spa.sub {by_ : Int} {n : Nat} {S T : List (List Int)} (s : Spa by_ n S) (h : T.Sublist S) : Spa by_ n T := ⟨fun r hr => s.row r (h.subset hr), s.pw.sublist h, s.n1, Nat.lt_of_le_of_lt h.length_le s.k1⟩
theorem Lt.ort {by_ : Int} {n : Nat} {a b : List Int} (hb : Rw by_ n b) (h : Lt a b) : col b (hv a) = 0 := hv_zero hb.hd h.1
theorem Spa.ort {by_ : Int} {n : Nat} {A B : List (List Int)} {r : List Int} (s : Spa by_ n (A ++ r :: B)) : ∀ o, o ∈ A ∨ o ∈ B → col r (hv o) = 0 ∧ col o (hv r) = 0 := by
  have h := List.pairwise_append.mp s.pw
  have hr := s.row r (by simp)
  intro o ho
  rcases ho with ho | ho
  · have := h.2.2 o ho r (by simp)
    exact ⟨this.ort hr, this.2⟩
  · have := (List.pairwise_cons.mp h.2.1).1 o ho
    exact ⟨this.2, this.ort (s.row o (by simp [ho]))⟩
/-- the next row of a space, or a multiple of it -/
theorem put_next {by_ : Int} {n : Nat} {A : List (List Int)} {r r' : List Int} (hb : Fld by_) (s : Spa by_ n (A ++ [r])) (hr : Bd 400 r') (hl : r'.length = n) (hp : P by_ r' = r) : PutR by_ A r' (A ++ [r]) := by
  have rr := s.row r (by simp)
  refine put_triv hb s.n1 (by have := s.k1; simp at this; omega) hr hl hp rr.pl rr.len (rr.bd.mono (by decide)) rr.hd (fun o ho => ?_) (List.Perm.refl _) (s.pw.imp fun h => h.1)
  have ro := s.row o (by simp [ho])
  exact ⟨ro.len, ro.bd.mono (by decide), ro.hd, ro.pl, s.ort o (.inl ho)⟩
inductive Run (by_ : Int) : List (List Int) → List (List Int) → List (List Int) → Prop
  | nil (S : List (List Int)) : Run by_ S [] S
  | cons {S S' T rs : List (List Int)} {r : List Int} (h : PutR by_ S r S') (t : Run by_ S' rs T) : Run by_ S (r :: rs) T
theorem Run.app {by_ : Int} {S T U rs rs' : List (List Int)} (h : Run by_ S rs T) (h' : Run by_ T rs' U) : Run by_ S (rs ++ rs') U := by
  induction h with
  | nil S => exact h'
  | cons h t ih => exact .cons h (ih h')
theorem run_next {by_ : Int} {n : Nat} (hb : Fld by_) : ∀ (B A : List (List Int)), Spa by_ n (A ++ B) → Run by_ A B (A ++ B)
  | [], A, _ => by rw [List.append_nil]; exact .nil A
  | r :: B, A, s => by
    have e : A ++ r :: B = (A ++ [r]) ++ B := by simp
    have s1 : Spa by_ n (A ++ [r]) := s.sub (by rw [e]; exact List.sublist_append_left _ _)
    have rr := s.row r (by simp)
    refine .cons (put_next hb s1 (rr.bd.mono (by decide)) rr.len rr.pl) ?_
    rw [e]
    exact run_next hb B (A ++ [r]) (by rw [← e]; exact s)
theorem run_space {by_ : Int} {n : Nat} {S : List (List Int)} (hb : Fld by_) (s : Spa by_ n S) : Run by_ [] S S := run_next hb S [] s
/-- a row told by a multiple -/
theorem run_mult {by_ : Int} {n : Nat} {A B : List (List Int)} {r r' : List Int} (hb : Fld by_) (s : Spa by_ n (A ++ r :: B)) (hr : Bd 400 r') (hl : r'.length = n) (hp : P by_ r' = r) : Run by_ [] (A ++ r' :: B) (A ++ r :: B) := by
  have e : A ++ r :: B = (A ++ [r]) ++ B := by simp
  have s1 : Spa by_ n (A ++ [r]) := s.sub (by rw [e]; exact List.sublist_append_left _ _)
  refine (run_space hb (s.sub (List.sublist_append_left _ _))).app (.cons (put_next hb s1 hr hl hp) ?_)
  rw [e]
  exact run_next hb B (A ++ [r]) (by rw [← e]; exact s)
theorem run_zero {by_ : Int} {n : Nat} {A B : List (List Int)} (hb : Fld by_) (s : Spa by_ n (A ++ B)) : Run by_ [] (A ++ List.replicate n 0 :: B) (A ++ B) :=
  (run_space hb (s.sub (List.sublist_append_left _ _))).app (.cons (put_zero hb (s.sub (List.sublist_append_left _ _))) (run_next hb B A s))
theorem run_rot {by_ : Int} {n : Nat} {B : List (List Int)} {r : List Int} (hb : Fld by_) (s : Spa by_ n (r :: B)) : Run by_ [] (B ++ [r]) (r :: B) := by
  have rr := s.row r (by simp)
  refine (run_space hb (s.sub (List.sublist_cons_self _ _))).app (.cons (put_triv hb s.n1 (by have := s.k1; simp at this; omega) (rr.bd.mono (by decide)) rr.len rr.pl rr.pl rr.len (rr.bd.mono (by decide)) rr.hd (fun o ho => ?_) (List.perm_append_comm (l₁ := [r])) (s.pw.imp fun h => h.1)) (.nil _))
  have ro := s.row o (by simp [ho])
  exact ⟨ro.len, ro.bd.mono (by decide), ro.hd, ro.pl, (Spa.ort (A := []) s) o (.inr ho)⟩
end K21
set_option Elab.async false
set_option linter.all false
set_option maxRecDepth 100000
set_option maxHeartbeats 4000000
set_option autoImplicit false
set_option exponentiation.threshold 2000
/-! N6: multiples by a prime's remainders; a row told twice; two rows mixed. -/
namespace K21
open PySem PySem.Spec PyProof.Rows L2 RZ DL SH
/-- entries are remainders, the head is 1 -/
structure Un (by_ : Int) (r : List Int) : Prop where
  one : col r (hv r) = 1
  ge : ∀ x ∈ r, 0 ≤ x
  lt : ∀ x ∈ r, x < by_
theorem Un.col {by_ : Int} {r : List Int} (u : Un by_ r) (h : 0 < by_) (k : Nat) : 0 ≤ col r k ∧ col r k < by_ := by
  by_cases hk : k < r.length
  · exact ⟨u.ge _ (mem_getD hk), u.lt _ (mem_getD hk)⟩
  · rw [col_out (by omega)]; omega
theorem invL_ok {x p : Int} : ∀ (n : Nat) (a e : Int), a ≤ e → e < a + n → x * e % p = 1 → x * invL x p a n % p = 1
  | 0, a, e, h1, h2, _ => by omega
  | n + 1, a, e, h1, h2, h3 => by
    rw [invL]
    split
    · assumption
    · rename_i hn
      have : a ≠ e := fun z => hn (by rw [z]; exact h3)
      exact invL_ok n (a + 1) e (by omega) (by push_cast at h2; omega) h3
theorem mod_mul {p a b : Int} : (a % p) * b % p = a * b % p := by rw [Int.mul_emod, Int.emod_emod_of_dvd _ (Int.dvd_refl p), ← Int.mul_emod]
theorem P_mult {by_ c : Int} {r r' : List Int} (h2 : 2 ≤ by_) (u : Un by_ r) (hr : hd r ≠ none) (hl : r'.length = r.length) (hc : ∃ e, 1 ≤ e ∧ e < by_ ∧ c * e % by_ = 1) (he : ∀ k, k < r.length → col r' k % by_ = c * col r k % by_) : P by_ r' = r := by
  obtain ⟨e, e1, e2, e3⟩ := hc
  have hk := hv_lt hr
  have h0 : by_ ≠ 0 := by omega
  have cm : ∀ k, k < r.length → col (r'.map (· % by_)) k = c * col r k % by_ := fun k h => by rw [col_map _ _ _ (by omega)]; exact he k h
  have hhd : hd (r'.map (· % by_)) = some (hv r) := by
    refine hd_at ?_ fun j hj => ?_
    · rw [cm _ hk, u.one, Int.mul_one]
      intro z
      have : c * e % by_ = 0 := by rw [Int.mul_emod, z, Int.zero_mul, Int.zero_emod]
      omega
    · rw [cm _ (by omega), hv_zero hr hj, Int.mul_zero, Int.zero_emod]
  unfold P
  rw [if_neg h0, hhd]
  dsimp only
  have hh : col r' (hv r) % by_ = c % by_ := by rw [he _ hk, u.one, Int.mul_one]
  have hin : (c % by_) * inv (c % by_) by_ % by_ = 1 := by
    unfold inv
    refine invL_ok _ 1 e e1 (by omega) ?_
    rw [mod_mul]; exact e3
  rw [hh]
  refine ext_col (by simp [hl]) fun k hk' => ?_
  rw [List.length_map, hl] at hk'
  rw [col_map _ _ _ (by omega)]
  show col r' k * inv (c % by_) by_ % by_ = col r k
  obtain ⟨z1, z2⟩ := u.col (by omega) k
  have s1 : col r' k * inv (c % by_) by_ % by_ = (c * col r k) * inv (c % by_) by_ % by_ := by rw [← mod_mul, he k hk', mod_mul]
  have s2 : (c * col r k) * inv (c % by_) by_ % by_ = col r k * ((c % by_) * inv (c % by_) by_) % by_ := by
    rw [show c * col r k * inv (c % by_) by_ = c * (inv (c % by_) by_ * col r k) by rw [Int.mul_assoc, Int.mul_comm (col r k)], ← mod_mul (a := c)]
    congr 1
    rw [Int.mul_comm (col r k), Int.mul_assoc]
  rw [s1, s2, Int.mul_comm, ← mod_mul, hin, Int.one_mul, Int.emod_eq_of_lt z1 z2]
theorem P_unit {by_ : Int} {r : List Int} (h2 : 2 ≤ by_) (u : Un by_ r) (hr : hd r ≠ none) : P by_ r = r :=
  P_mult (c := 1) h2 u hr rfl ⟨1, by omega, by omega, by rw [Int.mul_one]; exact Int.emod_eq_of_lt (by omega) (by omega)⟩ fun k _ => by rw [Int.one_mul]
/-- a row less itself -/
theorem Wo_self {by_ : Int} {r : List Int} (hr : hd r ≠ none) (u : 0 < by_ → Un by_ r) : Wo by_ r r (hv r) = List.replicate r.length 0 := by
  have hc := hv_ne hr
  unfold Wo
  rw [if_neg hc]
  have z : ∀ p : Int × Int, p ∈ r.zip r → p.1 = p.2 := fun p hp => by
    obtain ⟨i, hi, e⟩ := List.getElem_of_mem hp
    rw [List.getElem_zip] at e
    rw [← e]
  have zl : (r.zip r).map (fun _ => (0 : Int)) = List.replicate r.length 0 := by simp [List.map_const']
  split
  · rename_i h
    rw [(u h).one, ← zl]
    refine List.map_congr_left fun p hp => ?_
    rw [z p hp, Int.one_mul, Int.sub_self, Int.zero_emod]
  · rw [← zl]
    refine List.map_congr_left fun p hp => ?_
    rw [z p hp, Int.mul_comm, Int.sub_self]
theorem RS_app {by_ : Int} {v : List Int} {A B : List (List Int)} : RS by_ v (A ++ B) = RS by_ (RS by_ v A) B := List.foldl_append
theorem OkR_app {by_ : Int} : ∀ {A B : List (List Int)} {v : List Int}, OkR by_ v A → OkR by_ (RS by_ v A) B → OkR by_ v (A ++ B)
  | [], _, _, _, h => h
  | o :: A, B, v, h, h' => ⟨h.1, h.2.1, h.2.2.1, h.2.2.2.1, h.2.2.2.2.1, OkR_app (A := A) h.2.2.2.2.2 h'⟩
theorem run_dup {by_ : Int} {n : Nat} {A B : List (List Int)} {r : List Int} (hb : Fld by_) (s : Spa by_ n (A ++ r :: B)) (u : 0 < by_ → Un by_ r) : Run by_ [] ((A ++ r :: B) ++ [r]) (A ++ r :: B) := by
  refine (run_space hb s).app (.cons (fun x hx W Q E => ?_) (.nil _))
  have rr := s.row r (by simp)
  have hn : r.length = n := rr.len
  have hn1 := s.n1
  have e1 : RS by_ r A = r := RS_triv fun o ho => (s.ort o (.inl ho)).1
  have e2 : RS by_ (Wo by_ r r (hv r)) B = List.replicate n 0 := by rw [Wo_self rr.hd u, hn]; exact RS_triv fun o ho => zer_col
  have e3 : RS by_ r (A ++ r :: B) = List.replicate n 0 := by
    rw [RS_app, e1]
    exact e2
  have b4 : Bd 400 r := rr.bd.mono (by decide)
  refine put_none hb hx b4 (by omega) ?_ ?_
  · rw [rr.pl]
    refine OkR_app (OkR_triv b4 (by omega) fun o ho => ?_) ?_
    · have ro := s.row o (by simp [ho])
      exact ⟨(s.ort o (.inl ho)).1, ro.bd.mono (by decide), ro.hd, by rw [hn, ← ro.len]; exact hv_lt ro.hd⟩
    · rw [e1]
      refine ⟨b4, by omega, b4, rr.hd, hv_lt rr.hd, ?_⟩
      rw [Wo_self rr.hd u, hn]
      refine OkR_triv zer_bd (by simpa using hn1) fun o ho => ?_
      have ro := s.row o (by simp [ho])
      exact ⟨zer_col, ro.bd.mono (by decide), ro.hd, by rw [List.length_replicate, ← ro.len]; exact hv_lt ro.hd⟩
  · rw [rr.pl, e3, zer_P, zer_hd]
/-- what two rows mixed come to -/
structure Mix (by_ : Int) (n : Nat) (a b x y : List Int) : Prop where
  rw : Rw by_ n x
  hv : hv x = hv a
  z : ∀ k, col a k = 0 → col b k = 0 → col x k = 0
  y : P by_ (Wo by_ x b (K21.hv b)) = a
  yb : Bd 400 (Wo by_ x b (K21.hv b))
  yl : (Wo by_ x b (K21.hv b)).length = n
theorem run_mixed {by_ : Int} {n : Nat} {A B C : List (List Int)} {a b x' x y : List Int} (hb : Fld by_) (s : Spa by_ n (A ++ a :: (B ++ b :: C))) (m : Mix by_ n a b x y) (hx : P by_ x' = x) (hxb : Bd 400 x') (hxl : x'.length = n) :
    Run by_ [] (A ++ x' :: (B ++ b :: C)) (A ++ a :: (B ++ b :: C)) := by
  have ra := s.row a (by simp)
  have rb := s.row b (by simp)
  have hn1 := s.n1
  have hk1 := s.k1
  simp at hk1
  have sAB : Spa by_ n (A ++ a :: B) := s.sub (by simp)
  have oa : ∀ o, o ∈ A ∨ o ∈ B → col a (hv o) = 0 ∧ col o (hv a) = 0 := sAB.ort
  have e0 : A ++ a :: (B ++ b :: C) = (A ++ a :: B) ++ b :: C := by simp
  have sb : Spa by_ n ((A ++ a :: B) ++ b :: C) := by rw [← e0]; exact s
  have ob : ∀ o, o ∈ A ++ a :: B ∨ o ∈ C → col b (hv o) = 0 ∧ col o (hv b) = 0 := sb.ort
  have hab : Lt a b := (List.pairwise_append.mp sb.pw).2.2 a (by simp) b (by simp)
  have sX : Spa by_ n (A ++ x :: B) := by
    refine ⟨fun r hr => ?_, ?_, hn1, by simp; omega⟩
    · simp at hr
      rcases hr with hr | rfl | hr
      · exact s.row r (by simp [hr])
      · exact m.rw
      · exact s.row r (by simp [hr])
    · have h := List.pairwise_append.mp sAB.pw
      have h2 := List.pairwise_cons.mp h.2.1
      refine List.pairwise_append.mpr ⟨h.1, List.pairwise_cons.mpr ⟨fun o ho => ?_, h2.2⟩, fun o ho q hq => ?_⟩
      · have := h2.1 o ho
        exact ⟨by rw [m.hv]; exact this.1, m.z _ this.2 (ob o (.inl (by simp [ho]))).1⟩
      · rcases List.mem_cons.mp hq with rfl | hq
        · have := h.2.2 o ho a (by simp)
          exact ⟨by rw [m.hv]; exact this.1, by rw [m.hv]; exact this.2⟩
        · exact h.2.2 o ho q (by simp [hq])
  have r1 : Run by_ [] (A ++ x' :: B) (A ++ x :: B) := run_mult hb sX hxb hxl hx
  have r2 : PutR by_ (A ++ x :: B) b ((A ++ a :: B) ++ [b]) := by
    intro z hz W Q E
    have bb4 : Bd 400 b := rb.bd.mono (by decide)
    have bz : ∀ o ∈ A ++ x :: B, col b (hv o) = 0 := fun o ho => by
      simp at ho
      rcases ho with ho | rfl | ho
      · exact (ob o (.inl (by simp [ho]))).1
      · rw [m.hv]; exact (ob a (.inl (by simp))).1
      · exact (ob o (.inl (by simp [ho]))).1
    have e1 : RS by_ b (A ++ x :: B) = b := RS_triv bz
    have ok : OkR by_ (P by_ b) (A ++ x :: B) := by
      rw [rb.pl]
      refine OkR_triv bb4 (by rw [rb.len]; omega) fun o ho => ?_
      have ro := sX.row o ho
      exact ⟨bz o ho, ro.bd.mono (by decide), ro.hd, by rw [rb.len, ← ro.len]; exact hv_lt ro.hd⟩
    have e5 : ((A ++ x :: B).map fun o => P by_ (Wo by_ o b (hv b))) = A ++ a :: B := by
      have tr : ∀ L : List (List Int), (∀ o ∈ L, Rw by_ n o ∧ col o (hv b) = 0) → (L.map fun o => P by_ (Wo by_ o b (hv b))) = L := fun L hL => by
        conv => rhs; rw [← List.map_id L]
        refine List.map_congr_left fun o ho => ?_
        obtain ⟨h1, h2⟩ := hL o ho
        rw [Wo_triv h2, h1.pl]; rfl
      rw [List.map_append, List.map_cons, m.y, tr A fun o ho => ⟨s.row o (by simp [ho]), (ob o (.inl (by simp [ho]))).2⟩, tr B fun o ho => ⟨s.row o (by simp [ho]), (ob o (.inl (by simp [ho]))).2⟩]
    rw [put_some hb hz bb4 (by rw [rb.len]; omega) ok (by simp; omega) (m := b) (by rw [rb.pl, e1, rb.pl]) rb.hd bb4 fun o ho => ?_]
    · have e6 : PI by_ (A ++ x :: B) b = (A ++ a :: B) ++ [b] := by
        unfold PI
        rw [e5]
        exact sortBy_eq (List.Perm.refl _) ((sb.sub (by simp)).pw.imp fun h => h.1)
      rw [e6]
    · have ro := sX.row o ho
      have hlt : hv b < o.length := by rw [ro.len, ← rb.len]; exact hv_lt rb.hd
      refine ⟨ro.bd.mono (by decide), by rw [ro.len]; omega, hlt, ?_⟩
      have tr : Rw by_ n o → col o (hv b) = 0 → Bd 400 (Wo by_ o b (hv b)) ∧ hd (P by_ (Wo by_ o b (hv b))) ≠ none ∧ (Wo by_ o b (hv b)).length < 1000 := fun h1 h2 => by
        rw [Wo_triv h2, h1.pl]
        exact ⟨h1.bd.mono (by decide), h1.hd, by rw [h1.len]; omega⟩
      simp at ho
      rcases ho with ho | rfl | ho
      · exact tr ro (ob o (.inl (by simp [ho]))).2
      · rw [m.y]
        exact ⟨m.yb, ra.hd, by rw [m.yl]; omega⟩
      · exact tr ro (ob o (.inl (by simp [ho]))).2
  have e3 : A ++ x' :: (B ++ b :: C) = (A ++ x' :: B) ++ b :: C := by simp
  rw [e3, e0]
  refine r1.app (.cons r2 ?_)
  have := run_next hb C ((A ++ a :: B) ++ [b]) (by simpa using s)
  simpa using this
end K21
set_option Elab.async false
set_option linter.all false
set_option maxRecDepth 100000
set_option maxHeartbeats 4000000
set_option autoImplicit false
set_option exponentiation.threshold 2000
/-! N7: two rows mixed: what they come to. -/
namespace K21
open PySem PySem.Spec PyProof.Rows L2 RZ DL SH
theorem Bd.col {n : Nat} {r : List Int} (h : Bd n r) (k : Nat) : (col r k).natAbs < 2 ^ n := by
  by_cases hk : k < r.length
  · exact h _ (mem_getD hk)
  · rw [col_out (by omega)]; exact Nat.two_pow_pos n
theorem Bd.of_col {n : Nat} {r : List Int} (h : ∀ k, k < r.length → (K21.col r k).natAbs < 2 ^ n) : Bd n r := fun x hx => by
  obtain ⟨i, hi, rfl⟩ := List.getElem_of_mem hx
  have := h i hi
  simpa [K21.col, hi] using this
abbrev add2 (a b : List Int) : List Int := zipW (· + ·) a b
theorem Wo_len {by_ : Int} {r o : List Int} {c : Nat} (h : o.length = r.length) : (Wo by_ r o c).length = r.length := by
  unfold Wo
  split
  · rfl
  · split <;> simp [h]
theorem add_col {a b : List Int} (h : a.length = b.length) (k : Nat) : col (add2 a b) k = col a k + col b k := by
  by_cases hk : k < a.length
  · rw [col_zipW h hk]
  · rw [col_out (by rw [zipW_len h]; omega), col_out (by omega), col_out (by omega)]; rfl
theorem add_hd {a b : List Int} (h : a.length = b.length) (ha : hd a ≠ none) (hb : hd b ≠ none) (lt : Lt a b) : hd (add2 a b) = some (hv a) := by
  refine hd_at ?_ fun j hj => ?_
  · rw [add_col h, hv_zero hb lt.1]
    have := hv_ne ha
    omega
  · rw [add_col h, hv_zero ha hj, hv_zero hb (Nat.lt_trans hj lt.1)]; rfl
theorem hv_some {r : List Int} {k : Nat} (h : hd r = some k) : hv r = k := by unfold hv; rw [h]; rfl
theorem natAbs_le_mul {a x : Int} (h : a ≠ 0) : x.natAbs ≤ (a * x).natAbs := by
  rw [Int.natAbs_mul]
  exact Nat.le_mul_of_pos_left _ (by omega)
theorem pow_add_lt {a b m n : Nat} (h1 : a < 2 ^ m) (h2 : b < 2 ^ n) : a * b < 2 ^ (m + n) := by
  rw [Nat.pow_add]
  exact Nat.mul_lt_mul'' h1 h2
theorem mix0 {n : Nat} {a b : List Int} (ha : Rw 0 n a) (hb : Rw 0 n b) (hab : Bd 20 a) (hbb : Bd 20 b) (lt : Lt a b) : ∃ x y, P 0 (add2 a b) = x ∧ Mix 0 n a b x y := by
  have hl : a.length = b.length := by rw [ha.len, hb.len]
  have hh := add_hd hl ha.hd hb.hd lt
  obtain ⟨c, hc, _, ex, _⟩ := P0_scale (r := add2 a b) (by rw [hh]; simp)
  have xl : (P 0 (add2 a b)).length = n := by
    have := congrArg List.length ex
    rw [List.length_map, zipW_len hl] at this
    rw [← this, ha.len]
  refine ⟨P 0 (add2 a b), [], rfl, ?_⟩
  obtain ⟨x, hxe⟩ : ∃ x, x = P 0 (add2 a b) := ⟨_, rfl⟩
  rw [← hxe] at ex xl ⊢
  have cx : ∀ k, c * col x k = col a k + col b k := fun k => by
    have : col (add2 a b) k = c * col x k := by
      conv => lhs; rw [ex]
      exact col_map0 _ (Int.mul_zero c) x k
    rw [← this, add_col hl]
  have xz : ∀ k, col a k + col b k = 0 → col x k = 0 := fun k h => by
    have := cx k
    rw [h] at this
    exact (Int.mul_eq_zero.mp this).resolve_left hc
  have hx : hd x = some (hv a) := by
    refine hd_at (fun z => ?_) fun j hj => xz j ?_
    · have := cx (hv a)
      rw [z, Int.mul_zero, hv_zero hb.hd lt.1] at this
      exact hv_ne ha.hd (by omega)
    · rw [hv_zero ha.hd hj, hv_zero hb.hd (Nat.lt_trans hj lt.1)]; rfl
  have xb : Bd 21 x := Bd.of_col fun k hk => by
    have h1 := natAbs_le_mul (x := col x k) hc
    have h2 := hab.col k
    have h3 := hbb.col k
    rw [cx k] at h1
    have h4 := Int.natAbs_add_le (col a k) (col b k)
    omega
  have xp : P 0 x = x := by rw [hxe]; exact P0_idem _
  have xhv : hv x = hv a := hv_some hx
  have hbk : hv b < n := by rw [← hb.len]; exact hv_lt hb.hd
  have bb := hv_ne hb.hd
  have ab0 := lt.2
  have cb : c * col x (hv b) = col b (hv b) := by rw [cx, ab0]; omega
  have xb0 : col x (hv b) ≠ 0 := fun z => by rw [z, Int.mul_zero] at cb; exact bb cb.symm
  have hg : 0 < gcd2 (col x (hv b)) (col b (hv b)) := by
    have h1 : 0 < Nat.gcd (col x (hv b)).natAbs (col b (hv b)).natAbs := Nat.gcd_pos_of_pos_left _ (by omega)
    unfold gcd2
    omega
  have g1 : gcd2 (col x (hv b)) (col b (hv b)) ∣ col x (hv b) := Int.ofNat_dvd_left.mpr (Nat.gcd_dvd_left _ _)
  have g2 : gcd2 (col x (hv b)) (col b (hv b)) ∣ col b (hv b) := Int.ofNat_dvd_left.mpr (Nat.gcd_dvd_right _ _)
  have ye0 : Wo 0 x b (hv b) = zipW (fun p q => p * (col b (hv b)).fdiv (gcd2 (col x (hv b)) (col b (hv b))) - (col x (hv b)).fdiv (gcd2 (col x (hv b)) (col b (hv b))) * q) x b := by
    unfold Wo zipW
    rw [if_neg xb0, if_neg (by omega)]
  generalize gcd2 (col x (hv b)) (col b (hv b)) = d at *
  obtain ⟨ft, hf⟩ := g1
  obtain ⟨nr, hn⟩ := g2
  have fe : (col x (hv b)).fdiv d = ft := by
    conv => lhs; arg 1; rw [hf]
    exact Int.mul_fdiv_cancel_left _ (by omega)
  have ne : (col b (hv b)).fdiv d = nr := by
    conv => lhs; arg 1; rw [hn]
    exact Int.mul_fdiv_cancel_left _ (by omega)
  have nr0 : nr ≠ 0 := fun z => by rw [z, Int.mul_zero] at hn; exact bb hn
  have cf : c * ft = nr := by
    rw [hf, hn] at cb
    have : d * (c * ft) = d * nr := by rw [← cb]; rw [Int.mul_left_comm]
    exact Int.eq_of_mul_eq_mul_left (by omega) this
  have ye : Wo 0 x b (hv b) = zipW (fun p q => p * nr - ft * q) x b := by
    rw [ye0, fe, ne]
  have xbl : x.length = b.length := by rw [xl, hb.len]
  have ycol : ∀ k, k < n → c * col (Wo 0 x b (hv b)) k = nr * col a k := fun k hk => by
    rw [ye, col_zipW xbl (by omega), Int.mul_sub, ← Int.mul_assoc, cx, ← Int.mul_assoc, cf, Int.add_mul, Int.mul_comm nr (col b k)]
    rw [Int.mul_comm (col a k)]
    omega
  have yl : (Wo 0 x b (hv b)).length = n := by rw [Wo_len xbl.symm, xl]
  have ymap : (Wo 0 x b (hv b)).map (c * ·) = a.map (nr * ·) := by
    refine ext_col (by simp [yl, ha.len]) fun k hk => ?_
    rw [List.length_map, yl] at hk
    rw [col_map _ _ _ (by omega), col_map _ _ _ (by rw [ha.len]; exact hk)]
    exact ycol k hk
  have ftb : ft.natAbs < 2 ^ 21 := by
    have h1 := natAbs_le_mul (a := d) (x := ft) (by omega)
    rw [← hf] at h1
    have := xb.col (hv b)
    omega
  have nrb : nr.natAbs < 2 ^ 20 := by
    have h1 := natAbs_le_mul (a := d) (x := nr) (by omega)
    rw [← hn] at h1
    have := hbb.col (hv b)
    omega
  refine ⟨⟨xl, xb.mono (by decide), by rw [hx]; simp, xp⟩, xhv, fun k h1 h2 => xz k (by omega), ?_, ?_, yl⟩
  · rw [← P0_mul c hc, ymap, P0_mul nr nr0, ha.pl]
  · refine Bd.mono (m := 50) (Bd.of_col fun k hk => ?_) (by decide)
    rw [yl] at hk
    rw [ye, col_zipW xbl (by omega)]
    have h1 := pow_add_lt (xb.col k) nrb
    have h2 := pow_add_lt ftb (hbb.col k)
    rw [← Int.natAbs_mul] at h1 h2
    have h3 := Int.natAbs_sub_le (col x k * nr) (ft * col b k)
    omega
theorem mixP {by_ : Int} {n : Nat} {a b : List Int} (h2 : 2 ≤ by_) (h97 : by_ ≤ 97) (ha : Rw by_ n a) (hb : Rw by_ n b) (ua : Un by_ a) (ub : Un by_ b) (lt : Lt a b) : ∃ x y, P by_ (add2 a b) = x ∧ Mix by_ n a b x y := by
  have hl : a.length = b.length := by rw [ha.len, hb.len]
  have h0 : 0 < by_ := by omega
  have hak : hv a < n := by rw [← ha.len]; exact hv_lt ha.hd
  have hbk : hv b < n := by rw [← hb.len]; exact hv_lt hb.hd
  have xl : ((add2 a b).map (· % by_)).length = n := by rw [List.length_map, zipW_len hl, ha.len]
  have xc : ∀ k, col ((add2 a b).map (· % by_)) k = (col a k + col b k) % by_ := fun k => by rw [col_map0 (· % by_) (Int.zero_emod by_), add_col hl]
  have xr : ∀ k, 0 ≤ col ((add2 a b).map (· % by_)) k ∧ col ((add2 a b).map (· % by_)) k < by_ := fun k => by
    rw [xc]
    exact ⟨Int.emod_nonneg _ (by omega), Int.emod_lt_of_pos _ h0⟩
  have x1 : col ((add2 a b).map (· % by_)) (hv a) = 1 := by
    rw [xc, ua.one, hv_zero hb.hd lt.1]
    exact Int.emod_eq_of_lt (by omega) (by omega)
  have hx : hd ((add2 a b).map (· % by_)) = some (hv a) := by
    refine hd_at (by rw [x1]; decide) fun j hj => ?_
    rw [xc, hv_zero ha.hd hj, hv_zero hb.hd (Nat.lt_trans hj lt.1)]
    exact Int.zero_emod _
  have xhv : hv ((add2 a b).map (· % by_)) = hv a := hv_some hx
  have ux : Un by_ ((add2 a b).map (· % by_)) := by
    refine ⟨by rw [xhv]; exact x1, fun z hz => ?_, fun z hz => ?_⟩
    · obtain ⟨y, _, rfl⟩ := List.mem_map.mp hz
      exact Int.emod_nonneg _ (by omega)
    · obtain ⟨y, _, rfl⟩ := List.mem_map.mp hz
      exact Int.emod_lt_of_pos _ h0
  have xh : hd ((add2 a b).map (· % by_)) ≠ none := by rw [hx]; simp
  have xP : P by_ (add2 a b) = (add2 a b).map (· % by_) := by
    refine P_mult (c := 1) h2 ux xh (by simp) ⟨1, by omega, by omega, Int.emod_eq_of_lt (by omega) (by omega)⟩ fun k hk => ?_
    rw [xc, add_col hl, Int.one_mul, Int.emod_emod_of_dvd _ (Int.dvd_refl _)]
  refine ⟨_, [], xP, ?_⟩
  generalize (add2 a b).map (· % by_) = x at *
  have xbl : x.length = b.length := by rw [xl, hb.len]
  have x2 : col x (hv b) = 1 := by
    rw [xc, lt.2, ub.one]
    exact Int.emod_eq_of_lt (by omega) (by omega)
  have ye : Wo by_ x b (hv b) = a := by
    have e : Wo by_ x b (hv b) = zipW (fun p q => (p - 1 * q) % by_) x b := by
      unfold Wo zipW
      rw [if_neg (by rw [x2]; decide), if_pos h0, x2]
    rw [e]
    refine ext_col (by rw [zipW_len xbl, xl, ha.len]) fun k hk => ?_
    rw [zipW_len xbl] at hk
    rw [col_zipW xbl hk, xc, Int.one_mul]
    have : ((col a k + col b k) % by_ - col b k) % by_ = (col a k + col b k - col b k) % by_ := by rw [Int.emod_sub_emod]
    rw [this, Int.add_sub_cancel]
    obtain ⟨z1, z2⟩ := ua.col h0 k
    exact Int.emod_eq_of_lt z1 z2
  have xbd : Bd 30 x := Bd.of_col fun k _ => by
    have h := xr k
    have : (col x k).natAbs < 2 ^ 7 := by omega
    omega
  refine ⟨⟨xl, xbd, xh, P_unit h2 ux xh⟩, xhv, fun k h1 h2 => by rw [xc, h1, h2]; exact Int.zero_emod _, ?_, ?_, ?_⟩
  · rw [ye, ha.pl]
  · rw [ye]; exact ha.bd.mono (by decide)
  · rw [ye, ha.len]
end K21
set_option Elab.async false
set_option linter.all false
set_option maxRecDepth 100000
set_option maxHeartbeats 4000000
set_option autoImplicit false
set_option exponentiation.threshold 2000
/-! N8: reduced_rows, is_space. -/
namespace K21
open PySem PySem.Spec PyProof.Rows L2 RZ DL SH
section
variable {W : Wd} {E : DX → Wd → Prop} {Q : RV → Wd → Prop}
/-- a thing that stands for a row -/
def IsR (x : D) (r : List Int) : Prop := x = lI r ∨ x = .tup (dI r)
inductive AreR : List D → List (List Int) → Prop
  | nil : AreR [] []
  | cons {x : D} {r : List Int} {xs : List D} {rs : List (List Int)} (h : IsR x r) (t : AreR xs rs) : AreR (x :: xs) (r :: rs)
theorem AreR.lists : ∀ rs : List (List Int), AreR (rs.map lI) rs
  | [] => .nil
  | r :: rs => .cons (.inl rfl) (lists rs)
theorem AreR.len {xs : List D} {rs : List (List Int)} (h : AreR xs rs) : xs.length = rs.length := by
  induction h with
  | nil => rfl
  | cons _ _ ih => simp [ih]
theorem rr_loop (by_ : Int) (δ0 : Option RV) {S rs T : List (List Int)} (run : Run by_ S rs T) : ∀ (xs : List D) (x : Option RV) (QS : Fl × DL.Env → Wd → Prop) (E : DX → Wd → Prop), AreR xs rs →
    (∀ y, QS (.nx, [δ0, some (.d (.int by_)), some (.d (lR T)), y]) W) →
    wpM (goFor (gtName 3) p_reduced_rows_b1 xs [δ0, some (.d (.int by_)), some (.d (lR S)), x]) W QS E := by
  induction run with
  | nil S =>
    intro xs x QS E h hq
    cases h
    rw [w_goFor0]
    exact hq x
  | cons h t ih =>
    intro xs x QS E ha hq
    cases ha with
    | cons h1 h2 =>
      rw [w_goFor]
      simp [p_reduced_rows_b1]
      rw [h _ h1]
      simp
      exact ih _ _ QS E h2 hq
theorem reduced_rows {by_ : Int} {rs T : List (List Int)} {xs : List D} {t : Bool} (run : Run by_ [] rs T) (ha : AreR xs rs) : wpM (f_reduced_rows [.d (sq t xs), .d (.int by_)]) W Q E = Q (.d (lR T)) W := by
  refine pu_by fun Q E hq => ?_
  unfold f_reduced_rows
  rw [w_fnD]
  have e : (D.lst [] : D) = lR [] := rfl
  cases t
  · simp [m_reduced_rows, startD, sq]
    rw [e]
    refine rr_loop by_ _ run xs _ _ _ ha fun y => ?_
    simp
    exact hq
  · simp [m_reduced_rows, startD, sq]
    rw [e]
    refine rr_loop by_ _ run xs _ _ _ ha fun y => ?_
    simp
    exact hq
/-! is_integer, is_row -/
def plainD : D → Bool
  | .ty _ => false
  | .frz _ => false
  | .obj _ _ => false
  | _ => true
def isI : D → Bool
  | .int _ => true
  | _ => false
theorem is_integer {x : D} (h : plainD x = true) : wpM (f_is_integer [.d x]) W Q E = Q (.d (.bl (isI x))) W := by
  refine pu_by fun Q E hq => ?_
  unfold f_is_integer
  rw [w_fnD]
  cases x <;> simp [plainD] at h <;> simp [m_is_integer, startD, tyOf, isI] at hq ⊢ <;> exact hq
theorem is_row {xs : List D} {t : Bool} (h : ∀ x ∈ xs, plainD x = true) (hl : xs.length < 1000) : wpM (f_is_row [.d (sq t xs), .d (.int (xs.length : Nat))]) W Q E = Q (.d (.bl (xs.all isI))) W := by
  refine pu_by fun Q E hq => ?_
  unfold f_is_row
  rw [w_fnD]
  have lc : ∀ (a0 a1 a2 : Option RV) (Q : RV → Wd → Prop) (E : DX → Wd → Prop), Q (.d (.lst (xs.map fun x => D.bl (isI x)))) W → wpM (lcF false (gtName 2) evYes p_is_row_e1 [a0, a1, a2] xs) W Q E := fun a0 a1 a2 Q E hq => by
    have := lc_map (W := W) (E := E) (Q := Q) (T := gtName 2) (F := p_is_row_e1) (δ := [a0, a1, a2]) xs id (fun x => .bl (isI x)) (small_line (by omega)) fun x hx => by
      simp [p_is_row_e1]
      rw [is_integer (h x hx)]
      exact ⟨rfl, rfl⟩
    rw [List.map_id] at this
    rw [this]
    exact hq
  have ea : (xs.map isI).all id = xs.all isI := by rw [List.all_map]; rfl
  cases t
  · simp [m_is_row, startD, sq, tyOf, wipeD]
    refine lc _ _ _ _ _ ?_
    simp
    exact hq
  · simp [m_is_row, startD, sq, tyOf, wipeD]
    refine lc _ _ _ _ _ ?_
    simp
    exact hq
/-! is_space -/
def seqD : D → Option (List D)
  | .lst xs => some xs
  | .tup xs => some xs
  | _ => none
theorem seqD_sq {x : D} {ps : List D} (h : seqD x = some ps) : ∃ t, x = sq t ps := by
  cases x <;> simp [seqD] at h
  · subst h; exact ⟨false, rfl⟩
  · subst h; exact ⟨true, rfl⟩
def good (n0 : Nat) (x : D) : Bool := match seqD x with
  | none => false
  | some ps => decide (1 ≤ ps.length) && (decide (ps.length ≤ 40) && (decide (ps.length = n0) && ps.all isI))
/-- an element that the loop may look at -/
def okEl (x : D) : Prop := plainD x = true ∧ ∀ ps, seqD x = some ps → ps.length < 1000 ∧ ∀ p ∈ ps, plainD p = true
theorem sp_loop (t0 : Bool) (x0 : D) (rest : List D) (by_ : RV) (p0 : List D) (h0 : seqD x0 = some p0) : ∀ (xs : List D) (y : Option RV) (QS : Fl × DL.Env → Wd → Prop) (E : DX → Wd → Prop), (∀ x ∈ xs, okEl x) →
    (∀ y, if xs.all (good p0.length) = true then QS (.nx, [some (.d (sq t0 (x0 :: rest))), some by_, y]) W else QS (.rt (.d (.bl false)), [some (.d (sq t0 (x0 :: rest))), some by_, y]) W) →
    wpM (goFor (gtName 2) p_is_space_b2 xs [some (.d (sq t0 (x0 :: rest))), some by_, y]) W QS E
  | [], y, QS, E, _, h => by
    rw [w_goFor0]
    simpa using h y
  | x :: xs, y, QS, E, ho, h => by
    have ih := sp_loop t0 x0 rest by_ p0 h0 xs (some (.d x)) QS E (fun z hz => ho z (by simp [hz]))
    obtain ⟨o1, o2⟩ := ho x (by simp)
    rw [w_goFor]
    rw [List.all_cons] at h
    cases e : seqD x with
    | none =>
      have hg : good p0.length x = false := by unfold good; rw [e]
      rw [hg] at h
      have := h (some (.d x))
      cases x <;> simp [seqD] at e <;> simp [plainD] at o1 <;> simp [p_is_space_b2, tyOf] <;> simpa using this
    | some ps =>
      obtain ⟨q1, q2⟩ := o2 ps e
      obtain ⟨t, rfl⟩ := seqD_sq e
      obtain ⟨t1, rfl⟩ := seqD_sq h0
      have hg : good p0.length (sq t ps) = (decide (1 ≤ ps.length) && (decide (ps.length ≤ 40) && (decide (ps.length = p0.length) && ps.all isI))) := by unfold good; rw [e]
      rw [hg] at h
      simp [p_is_space_b2]
      have i1 : ((1 : Int) ≤ ps.length) = (1 ≤ ps.length) := by apply propext; omega
      have i2 : ((ps.length : Int) ≤ 40) = (ps.length ≤ 40) := by apply propext; omega
      by_cases c1 : 1 ≤ ps.length
      · simp only [i1, i2, if_pos c1]
        by_cases c2 : ps.length ≤ 40
        · simp [c2]
          by_cases c3 : ps.length = p0.length
          · simp [c3]
            rw [← c3]
            rw [is_row q2 q1]
            cases c4 : ps.all isI with
            | true =>
              simp
              refine ih fun y => ?_
              have := h y
              have d1 : 1 ≤ p0.length := by omega
              have d2 : p0.length ≤ 40 := by omega
              simpa [d1, d2, c3, c4] using this
            | false =>
              simp
              have := h (some (.d (sq t ps)))
              simpa [c1, c2, c3, c4] using this
          · have c3' : ¬ (ps.length : Int) = p0.length := by omega
            simp [c3', c3]
            have := h (some (.d (sq t ps)))
            simpa [c1, c2, c3] using this
        · simp [c2]
          have := h (some (.d (sq t ps)))
          simpa [c1, c2] using this
      · simp only [i1, if_neg c1]
        have := h (some (.d (sq t ps)))
        simpa [c1] using this
theorem lists_AreR {xs : List D} {rs : List (List Int)} (h : AreR xs rs) (hl : xs.length < 1000) (hr : ∀ r ∈ rs, r.length < 1000) {a0 a1 a2 : Option RV} : wpM (lcF false (gtName 2) evYes p_is_space_e1 [a0, a1, a2] xs) W Q E = Q (.d (lR rs)) W := by
  have hf : ∀ (xs : List D) (rs : List (List Int)), AreR xs rs → xs.map (fun x => match seqD x with | some ps => D.lst ps | none => .non) = rs.map lI := fun xs rs h => by
    induction h with
    | nil => rfl
    | cons h t ih =>
      rw [List.map_cons, List.map_cons, ih]
      rcases h with rfl | rfl <;> rfl
  have hm : ∀ x ∈ xs, ∃ t ps, x = sq t ps := fun x hx => by
    clear hl hr
    induction h with
    | nil => cases hx
    | cons h t ih =>
      rcases List.mem_cons.mp hx with rfl | hx
      · rcases h with rfl | rfl
        · exact ⟨false, _, rfl⟩
        · exact ⟨true, _, rfl⟩
      · exact ih hx
  have := lc_map (W := W) (E := E) (Q := Q) (T := gtName 2) (F := p_is_space_e1) (δ := [a0, a1, a2]) xs id (fun x => match seqD x with | some ps => D.lst ps | none => .non) (small_line (by omega)) fun x hx => by
    obtain ⟨t, ps, rfl⟩ := hm x hx
    simp [p_is_space_e1]
    cases t <;> rfl
  rw [List.map_id] at this
  rw [this, hf xs rs h]
/-- what is_space tells of a list whose elements may be looked at -/
theorem is_space_bad {t0 : Bool} {x0 : D} {rest : List D} {by_ : RV} (hk : (x0 :: rest).length ≤ 40) (ho : ∀ x ∈ x0 :: rest, okEl x) (hb : seqD x0 = none ∨ ∃ p0, seqD x0 = some p0 ∧ (x0 :: rest).all (good p0.length) = false) :
    wpM (f_is_space [.d (sq t0 (x0 :: rest)), by_]) W Q E = Q (.d (.bl false)) W := by
  refine pu_by fun Q E hq => ?_
  unfold f_is_space
  rw [w_fnD]
  have i1 : ¬ (40 : Int) < (rest.length : Int) + 1 := by simp at hk; omega
  simp [m_is_space, startD, i1]
  rcases hb with hb | ⟨p0, h0, hb⟩
  · obtain ⟨o1, o2⟩ := ho x0 (by simp)
    rw [w_goFor]
    cases x0 <;> simp [seqD] at hb <;> simp [plainD] at o1 <;> simp [p_is_space_b2, tyOf] <;> exact hq
  · refine sp_loop t0 x0 rest by_ p0 h0 _ none _ _ ho fun y => ?_
    rw [hb]
    simp
    exact hq
theorem is_space_ok {t : Bool} {by_ : Int} {n : Nat} {xs : List D} {rs T : List (List Int)} (ha : AreR xs rs) (hk : rs.length ≤ 40) (hr : ∀ r ∈ rs, r.length = n) (h1 : 1 ≤ n) (h2 : n ≤ 40) (run : Run by_ [] rs T) :
    wpM (f_is_space [.d (sq t xs), .d (.int by_)]) W Q E = Q (.d (.bl (decide (T = rs)))) W := by
  refine pu_by fun Q E hq => ?_
  unfold f_is_space
  rw [w_fnD]
  have i1 : ¬ (40 : Int) < (xs.length : Int) := by rw [ha.len]; omega
  simp [m_is_space, startD, i1]
  have fin : ∀ (y : Option RV), wpM (evRet (ev2 (opEq false) (evCallF 2 f_reduced_rows (evCons (evVar 0) (evCons (evVar 1) evNil))) (evLc false [2] (evIter (evVar 0)) (gtName 2) evYes p_is_space_e1)) [some (.d (sq t xs)), some (.d (.int by_)), y]) W (kFn W Q) (gcE W E) := fun y => by
    simp [wipeD]
    rw [reduced_rows run ha]
    simp [wipeD]
    rw [lists_AreR ha (by rw [ha.len]; omega) fun r h => by rw [hr r h]; omega]
    simp
    rw [w_eq shp_lR shp_lR]
    simp
    exact hq
  cases ha with
  | nil =>
    rw [w_goFor0]
    simp
    have := fin none
    simpa using this
  | cons h t' =>
    rename_i x r xs rs
    have hgood : ∀ (ys : List D) (ss : List (List Int)), AreR ys ss → (∀ s ∈ ss, s.length = n) → (∀ y ∈ ys, okEl y) ∧ ys.all (good n) = true := fun ys ss ha hs => by
      induction ha with
      | nil => exact ⟨fun y hy => (nomatch hy), rfl⟩
      | cons h t ih =>
        rename_i y s ys ss
        obtain ⟨g1, g2⟩ := ih fun s' h' => hs s' (by simp [h'])
        have hn : s.length = n := hs s (by simp)
        have hp : ∀ p ∈ dI s, plainD p = true := fun p hp => by
          obtain ⟨i, _, rfl⟩ := List.mem_map.mp hp
          rfl
        have hi : (dI s).all isI = true := List.all_eq_true.mpr fun p hp => by
          obtain ⟨i, _, rfl⟩ := List.mem_map.mp hp
          rfl
        have gy : seqD y = some (dI s) ∧ plainD y = true := by rcases h with rfl | rfl <;> exact ⟨rfl, rfl⟩
        refine ⟨fun z hz => ?_, ?_⟩
        · rcases List.mem_cons.mp hz with rfl | hz
          · refine ⟨gy.2, fun ps e => ?_⟩
            rw [gy.1] at e
            cases e
            exact ⟨by rw [dI_len]; omega, hp⟩
          · exact g1 z hz
        · rw [List.all_cons, g2, Bool.and_true]
          unfold good
          rw [gy.1]
          simp [hn, h1, h2]
          exact fun a ha => rfl
    obtain ⟨g1, g2⟩ := hgood _ _ (.cons h t') hr
    have hn : r.length = n := hr r (by simp)
    have h0 : seqD x = some (dI r) := by rcases h with rfl | rfl <;> rfl
    refine sp_loop t x xs (.d (.int by_)) (dI r) h0 _ none _ _ g1 fun y => ?_
    rw [dI_len, hn, g2, if_pos rfl]
    simp
    have := fin y
    simpa using this
end
end K21
set_option Elab.async false
set_option linter.all false
set_option maxRecDepth 100000
set_option maxHeartbeats 4000000
set_option autoImplicit false
set_option exponentiation.threshold 2000
/-! N9: fields. -/
namespace K21
open PySem PySem.Spec PyProof.Rows L2 RZ DL SH
section
variable {W : Wd} {E : DX → Wd → Prop} {Q : RV → Wd → Prop}
def fldB (b : Int) : Bool := !(decide (b = 1)) && (decide (0 ≤ b) && (decide (b ≤ 97) && ([2, 3, 5, 7] : List Int).all fun s => !(decide (b % s = 0)) || decide (b ∈ [0, s])))
theorem is_field {b : Int} (h : fldB b = true) : wpM (f_is_field [.d (.int b)]) W Q E = Q (.d (.bl true)) W := by
  refine pu_by fun Q E hq => ?_
  unfold f_is_field
  rw [w_fnD]
  unfold fldB at h
  rw [Bool.and_eq_true, Bool.and_eq_true, Bool.and_eq_true] at h
  obtain ⟨h1, h2, h3, h4⟩ := h
  simp at h1 h2 h3
  simp [m_is_field, startD]
  rw [is_integer rfl]
  simp [isI, h1, h2, h3, wipeD]
  have lc : ∀ (Q : RV → Wd → Prop) (E : DX → Wd → Prop), Q (.d (.lst (([2, 3, 5, 7] : List Int).map fun s => .bl (!(decide (b % s = 0)) || decide (b ∈ [0, s]))))) W → wpM (lcF false (gtName 1) evYes p_is_field_e1 [some (.d (.int b)), none] [D.int 2, D.int 3, D.int 5, D.int 7]) W Q E := fun Q E hq => by
    have := lc_map (W := W) (Q := Q) (E := E) (T := gtName 1) (F := p_is_field_e1) (δ := [some (.d (.int b)), none]) ([2, 3, 5, 7] : List Int) D.int (fun s => .bl (!(decide (b % s = 0)) || decide (b ∈ [0, s]))) (by decide) (fun s hs => by
      have : 0 < s := by simp at hs; omega
      simp [p_is_field_e1, this]
      by_cases c : b % s = 0
      · simp [c]
      · simp [c])
    rw [show (List.map D.int [2, 3, 5, 7]) = [D.int 2, D.int 3, D.int 5, D.int 7] from rfl] at this
    rw [this]
    exact hq
  refine lc _ _ ?_
  have e : blsL (List.map RV.d (([2, 3, 5, 7] : List Int).map fun s => D.bl (!(decide (b % s = 0)) || decide (b ∈ [0, s])))) = some (([2, 3, 5, 7] : List Int).map fun s => (!(decide (b % s = 0)) || decide (b ∈ [0, s]))) := blsL_dI _ _
  have h5 : (([2, 3, 5, 7] : List Int).map fun s => (!(decide (b % s = 0)) || decide (b ∈ [0, s]))).all id = true := by rw [List.all_map]; exact h4
  simp only [kB_ap, w_consA, w_nil, consB_ap, w_ret, w_bAll, seqOf_l, allK, Option.bind_some, e, lookK_some, allF_ap, h5]
  simp
  refine Eq.mpr (congrArg (fun z => Q (RV.d (D.bl z)) W) (?_ : _ = true)) hq
  simpa using h5
theorem need_by {b : Int} (h : fldB b = true) : wpM (f_need_by [.d (.int b)]) W Q E = Q (.d (.int b)) W := by
  refine pu_by fun Q E hq => ?_
  unfold f_need_by
  rw [w_fnD]
  simp [m_need_by, startD]
  rw [is_field h]
  simp
  exact hq
theorem is_reduced {b : Int} {x : D} {v : D} (h : fldB b = true) (hs : ∀ (Q : RV → Wd → Prop) (E : DX → Wd → Prop), wpM (f_is_space [.d x, .d (.int b)]) W Q E = Q (.d v) W) : wpM (f_is_reduced [.d x, .d (.int b)]) W Q E = Q (.d v) W := by
  refine pu_by fun Q E hq => ?_
  unfold f_is_reduced
  rw [w_fnD]
  simp [m_is_reduced, startD]
  rw [need_by h]
  simp
  rw [hs]
  simp
  exact hq
end
end K21
set_option Elab.async false
set_option linter.all false
set_option maxRecDepth 100000
set_option maxHeartbeats 4000000
set_option autoImplicit false
set_option exponentiation.threshold 2000
/-! N10: draws. -/
namespace K21
open PySem PySem.Spec PyProof.Rows L2 RZ DL SH
section
variable {s : Strm} {J : Wd} {E : DX → Wd → Prop} {N : Nat}
theorem chance {n : Int} (ok : s.ok N) (hN : N < 2 ^ 40) (h0 : 0 < n) (h1 : n < 2 ^ 200) (Q : RV → Wd → Prop) (h : ∀ (b : Bool) (s' : Strm), s'.ok (N + 1) → Q (.d (.bl b)) (s'.W J)) : wpM (f__law_chance [.r 1, .d (.int n)]) (s.W J) Q E := by
  unfold f__law_chance
  rw [w_fnD]
  simp [m__law_chance, startD]
  refine below ok hN h0 h1 _ fun i s' _ _ ok' => ?_
  simp
  exact h _ s' ok'
theorem bnumber (ok : s.ok N) (hN : N + 2 < 2 ^ 40) (Q : RV → Wd → Prop) (h : ∀ (i : Int) (s' : Strm), -1000 < i → i < 1000 → s'.ok (N + 2) → Q (.d (.int i)) (s'.W J)) : wpM (f__law_bnumber [.r 1]) (s.W J) Q E := by
  unfold f__law_bnumber
  rw [w_fnD]
  simp [m__law_bnumber, startD]
  refine chance ok (by omega) (by decide) (by decide) _ fun b s' ok' => ?_
  cases b
  · simp
    refine below ok' (by omega) (by decide) (by decide) _ fun i s' _ _ ok' => ?_
    simp
    exact h _ s' (by omega) (by omega) ok'
  · simp
    refine below ok' (by omega) (by decide) (by decide) _ fun i s' _ _ ok' => ?_
    simp
    exact h _ s' (by omega) (by omega) ok'
def primes : List Int := [2, 3, 5, 7, 11, 13, 17, 19, 23, 29, 31, 37, 41, 43, 47, 53, 59, 61, 67, 71, 73, 79, 83, 89, 97]
theorem bprimes {W : Wd} {Q : RV → Wd → Prop} : wpM (f__law_bprimes []) W Q E = Q (.d (lI primes)) W := by
  refine pu_by fun Q E hq => ?_
  unfold f__law_bprimes
  rw [w_fnD]
  simp [m__law_bprimes, startD]
  exact hq
def IsBy (b : Int) : Prop := b ∈ (0 :: primes)
instance {b : Int} : Decidable (IsBy b) := inferInstanceAs (Decidable (b ∈ (0 :: primes)))
theorem IsBy.fld {b : Int} (h : IsBy b) : fldB b = true := by
  unfold IsBy primes at h
  simp at h
  rcases h with h | h | h | h | h | h | h | h | h | h | h | h | h | h | h | h | h | h | h | h | h | h | h | h | h | h <;> subst h <;> decide
theorem IsBy.f {b : Int} (h : IsBy b) : Fld b := by
  unfold IsBy primes at h
  simp at h
  unfold Fld
  omega
/-- a prime but 2 is odd -/
theorem IsBy.odd {b : Int} (h : IsBy b) (h2 : 2 < b) : b % 2 = 1 := by
  unfold IsBy primes at h
  simp at h
  omega
theorem bfield (ok : s.ok N) (hN : N + 2 < 2 ^ 40) (Q : RV → Wd → Prop) (h : ∀ (i : Int) (s' : Strm), IsBy i → s'.ok (N + 2) → Q (.d (.int i)) (s'.W J)) : wpM (f__law_bfield [.r 1]) (s.W J) Q E := by
  unfold f__law_bfield
  rw [w_fnD]
  simp [m__law_bfield, startD]
  rw [bprimes]
  simp
  refine pickM ok (by omega) (by decide) (by decide) _ fun x s' hx ok' => ?_
  obtain ⟨i, hi, rfl⟩ := List.mem_map.mp hx
  simp
  refine pickM ok' (by omega) (by simp) (by simp) _ fun x s' hx ok'' => ?_
  have : ∃ j, x = .int j ∧ IsBy j := by
    simp at hx
    rcases hx with rfl | rfl | rfl | rfl | rfl
    · exact ⟨0, rfl, by decide⟩
    · exact ⟨2, rfl, by decide⟩
    · exact ⟨3, rfl, by decide⟩
    · exact ⟨5, rfl, by decide⟩
    · exact ⟨i, rfl, List.mem_cons_of_mem _ hi⟩
  obtain ⟨j, rfl, hj⟩ := this
  simp
  exact h j s' hj ok''
theorem bentry {b : Int} (hb : IsBy b) (ok : s.ok N) (hN : N + 3 < 2 ^ 40) (Q : RV → Wd → Prop) (h : ∀ (i : Int) (s' : Strm), (b = 0 → -1000 < i ∧ i < 1000) → (0 < b → 0 ≤ i ∧ i < b) → s'.ok (N + 3) → Q (.d (.int i)) (s'.W J)) : wpM (f__law_bentry [.r 1, .d (.int b)]) (s.W J) Q E := by
  unfold f__law_bentry
  rw [w_fnD]
  have hf := hb.f
  unfold Fld at hf
  by_cases h0 : 0 < b
  · simp [m__law_bentry, startD, h0]
    refine below ok (by omega) h0 (by omega) _ fun i s' h1 h2 ok' => ?_
    simp
    exact h i s' (fun z => by omega) (fun _ => ⟨h1, h2⟩) (ok'.mono (by omega))
  · simp [m__law_bentry, startD, h0]
    refine bnumber ok (by omega) _ fun i s' h1 h2 ok' => ?_
    simp
    refine pickM ok' (by omega) (by simp) (by simp) _ fun x s' hx ok'' => ?_
    have : ∃ j, x = .int j ∧ -1000 < j ∧ j < 1000 := by
      simp at hx
      rcases hx with rfl | rfl
      · exact ⟨0, rfl, by decide, by decide⟩
      · exact ⟨i, rfl, h1, h2⟩
    obtain ⟨j, rfl, hj⟩ := this
    simp
    exact h j s' (fun _ => hj) (fun z => absurd z h0) ok''
end
end K21
set_option Elab.async false
set_option linter.all false
set_option maxRecDepth 100000
set_option maxHeartbeats 4000000
set_option autoImplicit false
set_option exponentiation.threshold 2000
/-! N11: common divisors, tidy rows. -/
namespace K21
open PySem PySem.Spec PyProof.Rows L2 RZ DL SH
section
variable {W : Wd} {E : DX → Wd → Prop} {Q : RV → Wd → Prop}
theorem half_mod {b r : Nat} (h : r < b) (h0 : r ≠ 0) {k : Nat} (hb : b < 2 ^ (k + 1)) : b % r < 2 ^ k := by
  have h2 : b % r < r := Nat.mod_lt _ (by omega)
  rw [Nat.pow_succ] at hb
  by_cases c : r ≤ 2 ^ k
  · omega
  · have h3 : b % r = b - r := by rw [Nat.mod_eq_sub_mod (by omega), Nat.mod_eq_of_lt (by omega)]
    omega
theorem eu_loop : ∀ (k a b fuel : Nat) (x0 x2 : Option RV) (QS : Fl × DL.Env → Wd → Prop) (E : DX → Wd → Prop), b < 2 ^ k → 2 * k < fuel →
    QS (.nx, [x0, some (.d (.int (Nat.gcd a b : Nat))), x2, some (.d (.int 0))]) W →
    wpM (evWhile p__law_bcommon_t1 p__law_bcommon_b2 fuel [x0, some (.d (.int (a : Nat))), x2, some (.d (.int (b : Nat)))]) W QS E
  | k, a, b, 0, _, _, _, _, _, hf, _ => by omega
  | 0, a, b, fuel + 1, x0, x2, QS, E, hb, hf, h => by
    have e : b = 0 := by simpa using hb
    subst e
    rw [w_while]
    simp [p__law_bcommon_t1]
    simpa using h
  | k + 1, a, b, fuel + 1, x0, x2, QS, E, hb, hf, h => by
    rw [w_while]
    by_cases e : b = 0
    · subst e
      simp [p__law_bcommon_t1]
      simpa using h
    · have e' : ¬ (b : Int) = 0 := by omega
      simp [p__law_bcommon_t1, e, p__law_bcommon_b2]
      refine ⟨by omega, ?_⟩
      rw [show (a : Int) % b = ((a % b : Nat) : Int) from (Int.natCast_emod a b).symm]
      have hlt : a % b < b := Nat.mod_lt _ (by omega)
      have hg : Nat.gcd a b = Nat.gcd (a % b) b := by rw [Nat.gcd_comm, Nat.gcd_rec]
      rw [hg] at h
      generalize a % b = r at *
      cases fuel with
      | zero => omega
      | succ fuel =>
        rw [w_while]
        by_cases e2 : r = 0
        · simp [p__law_bcommon_t1, e2]
          rw [e2] at h
          simpa using h
        · have e2' : ¬ (r : Int) = 0 := by omega
          simp [p__law_bcommon_t1, e2, p__law_bcommon_b2]
          refine ⟨by omega, ?_⟩
          rw [show (b : Int) % r = ((b % r : Nat) : Int) from (Int.natCast_emod b r).symm]
          refine eu_loop k r (b % r) fuel x0 x2 QS E (half_mod hlt e2 hb) (by omega) ?_
          have : Nat.gcd r (b % r) = Nat.gcd r b := by
            conv => rhs; rw [Nat.gcd_rec]
            rw [Nat.gcd_comm]
          rw [this]
          exact h
theorem common_loop (x0 : Option RV) : ∀ (r : List Int) (g : Nat) (x2 x3 : Option RV) (QS : Fl × DL.Env → Wd → Prop) (E : DX → Wd → Prop), Bd 40 r →
    (∀ y2 y3, QS (.nx, [x0, some (.d (.int (r.foldl (fun g x => ((Nat.gcd g.natAbs x.natAbs : Nat) : Int)) (g : Int)))), y2, y3]) W) →
    wpM (goFor (gtName 2) p__law_bcommon_b3 (dI r) [x0, some (.d (.int (g : Nat))), x2, x3]) W QS E
  | [], g, x2, x3, QS, E, _, h => by
    simp [w_goFor0]
    exact h x2 x3
  | x :: r, g, x2, x3, QS, E, hb, h => by
    simp only [dI, List.map_cons]
    rw [w_goFor]
    have hx : (if x < 0 then -x else x) = (x.natAbs : Int) := by split <;> omega
    simp [p__law_bcommon_b3]
    rw [hx]
    refine eu_loop 40 g x.natAbs 100 _ _ _ _ (hb x (by simp)) (by omega) ?_
    simp
    refine common_loop x0 r _ _ _ QS E (fun y hy => hb y (by simp [hy])) fun y2 y3 => ?_
    have := h y2 y3
    rw [List.foldl_cons, Int.natAbs_natCast] at this
    exact this
theorem bcommon {r : List Int} (hb : Bd 40 r) : wpM (f__law_bcommon [.d (lI r)]) W Q E = Q (.d (.int (gcdL r))) W := by
  refine pu_by fun Q E hq => ?_
  unfold f__law_bcommon
  rw [w_fnD]
  simp [m__law_bcommon, startD]
  refine common_loop _ r 0 none none _ _ hb fun y2 y3 => ?_
  simp
  exact hq
theorem heads_of : ∀ {r : List Int}, hd r ≠ none → ∃ t, r.filter (fun x => !decide (x = 0)) = col r (hv r) :: t
  | [], h => absurd rfl h
  | x :: r, h => by
    by_cases e : x = 0
    · have e1 : hd (x :: r) = (hd r).map (· + 1) := by rw [hd, if_pos e]
      have h2 : hd r ≠ none := fun z => h (by rw [e1, z]; rfl)
      obtain ⟨t, ht⟩ := heads_of h2
      have e3 : hv (x :: r) = hv r + 1 := by unfold hv; rw [e1, hv_of h2]; rfl
      exact ⟨t, by rw [e3, col_cons, List.filter_cons, if_neg (by simp [e]), ht]⟩
    · have e3 : hv (x :: r) = 0 := by unfold hv; rw [hd, if_neg e]; rfl
      exact ⟨r.filter _, by rw [e3, col_z, List.filter_cons, if_pos (by simp [e])]⟩
theorem heads_lc {r : List Int} (hz : r.length < sizeLine) {a0 a1 a2 a3 a4 a5 a6 : Option RV} : wpM (lcF false (gtName 5) p__law_btidy_q9 p__law_btidy_e8 [a0, a1, a2, a3, a4, a5, a6] (dI r)) W Q E = Q (.d (lI (r.filter fun x => !decide (x = 0)))) W := by
  refine lc_eq (W := W) (Q := Q) (E := E) (T := gtName 5) (Ta := p__law_btidy_q9) (F := p__law_btidy_e8) (δ := [a0, a1, a2, a3, a4, a5, a6]) r D.int D.int (fun x => !decide (x = 0)) hz fun x hx => ?_
  simp [p__law_btidy_q9, p__law_btidy_e8]
theorem eq_nil {x : List Int} {W : Wd} {Q : RV → Wd → Prop} {E : DX → Wd → Prop} : wpM (opEq false (.d (lI x)) (.d (.lst []))) W Q E = Q (.d (.bl (decide (x = [])))) W := by
  have := w_eq (W := W) (Q := Q) (E := E) (neg := false) (x := lI x) (y := lI []) shp_lI shp_lI
  rw [deq_lI, Bool.bne_false] at this
  exact this
/-- a row whose head is above 0, made tidy by fractions -/
theorem btidy0 {r : List Int} (hb : Bd 40 r) (hl : r.length < 1000) (hh : hd r ≠ none) (hp : 0 < col r (hv r)) : wpM (f__law_btidy [.d (lI r), .d (.int 0)]) W Q E = Q (.d (lI (P 0 r))) W := by
  refine pu_by fun Q E hq => ?_
  have hz : r.length < sizeLine := small_line (by omega)
  obtain ⟨t, ht⟩ := heads_of hh
  have hpe : P 0 r = r.map fun x => x.fdiv (gcdL r) := by
    unfold P
    rw [if_pos rfl, hv_of hh]
    dsimp only
    rw [if_pos hp]
  rw [hpe] at hq
  have hm := mem_getD (hv_lt hh)
  have hg : gcdL r ≠ 0 := gcdL_ne hm (hv_ne hh)
  have hgl := gcdL_le hm (hv_ne hh)
  have hd0 : ∀ x : Int, CDivG x (gcdL r) := fun x => ⟨hg, by have := hb _ hm; have := log2_lt (n := (gcdL r).natAbs) (k := 40) (by omega) (by decide); omega⟩
  unfold f__law_btidy
  rw [w_fnD]
  simp [m__law_btidy, startD, p__law_btidy_s10, wipeD]
  rw [heads_lc hz, ht]
  simp [p__law_btidy_s7]
  rw [eq_nil]
  simp [p__law_btidy_s6, p__law_btidy_s2, hp]
  rw [bcommon hb]
  simp [wipeD]
  rw [lc_plainT r (fun x => x.fdiv (gcdL r)) hz fun x hx => ?_]
  · simp
    exact hq
  · simp [p__law_btidy_e1]
    exact hd0 x
theorem btidyP {b : Int} {r : List Int} (h2 : 2 ≤ b) (h97 : b ≤ 97) (hl : r.length < 1000) (hh : hd r ≠ none) (u : Un b r) : wpM (f__law_btidy [.d (lI r), .d (.int b)]) W Q E = Q (.d (lI r)) W := by
  refine pu_by fun Q E hq => ?_
  have hz : r.length < sizeLine := small_line (by omega)
  obtain ⟨t, ht⟩ := heads_of hh
  rw [u.one] at ht
  have hb0 : 0 < b := by omega
  have hmod : r.map (· % b) = r := by
    conv => rhs; rw [← List.map_id r]
    exact List.map_congr_left fun x hx => Int.emod_eq_of_lt (u.ge x hx) (u.lt x hx)
  have hmod2 : r.map (fun x => x * 1 % b) = r := by
    conv => rhs; rw [← List.map_id r]
    refine List.map_congr_left fun x hx => ?_
    rw [Int.mul_one]
    exact Int.emod_eq_of_lt (u.ge x hx) (u.lt x hx)
  unfold f__law_btidy
  rw [w_fnD]
  simp [m__law_btidy, startD, hb0, p__law_btidy_s10, wipeD]
  rw [lc_plainT r (· % b) hz fun x hx => by simp [p__law_btidy_e11]; omega, hmod]
  simp [p__law_btidy_s10, wipeD]
  rw [heads_lc hz, ht]
  simp [p__law_btidy_s7]
  rw [eq_nil]
  simp [p__law_btidy_s6, hb0, wipeD]
  refine ⟨by omega, ?_⟩
  have hfac : ∀ (a0 a3 a4 a5 : Option RV) (Q : RV → Wd → Prop) (E : DX → Wd → Prop), (∀ t, Q (.d (lI (1 :: t))) W) → wpM (lcF false (gtName 6) p__law_btidy_q5 p__law_btidy_e4 [a0, some (.d (.int b)), some (.d (lI (1 :: t))), a3, a4, a5, none] (DL.intsFrom 1 (b.toNat - 1))) W Q E := fun a0 a3 a4 a5 Q E hq => by
    have e : DL.intsFrom 1 (b.toNat - 1) = ((List.range (b.toNat - 1)).map fun i : Nat => (1 : Int) + i).map D.int := by unfold DL.intsFrom; rw [List.map_map]; rfl
    rw [e]
    rw [lc_eq (W := W) (T := gtName 6) (Ta := p__law_btidy_q5) (F := p__law_btidy_e4) _ D.int D.int (fun x => decide (x * 1 % b = 1)) (by simp; exact small_line (by omega)) fun x hx => ?_]
    · have e2 : b.toNat - 1 = (b.toNat - 2) + 1 := by omega
      rw [e2, List.range_succ_eq_map, List.map_cons, List.filter_cons, if_pos (by simp; exact Int.emod_eq_of_lt (by omega) (by omega))]
      exact hq _
    · simp at hx
      obtain ⟨i, hi, rfl⟩ := hx
      simp [p__law_btidy_q5, p__law_btidy_e4]
      refine ⟨cmulw ?_ (by decide), by omega⟩
      exact Nat.lt_of_lt_of_le (show (1 + (i : Int)).natAbs < 2 ^ 10 by omega) (Nat.pow_le_pow_right (by decide) (by decide))
  refine hfac _ _ _ _ _ _ fun t => ?_
  simp [wipeD]
  rw [lc_plainT r (fun x => x * 1 % b) hz fun x hx => ?_, hmod2]
  · simp
    exact hq
  · simp [p__law_btidy_e3]
    refine ⟨cmulw ?_ (by decide), by omega⟩
    have h1 := u.ge x hx
    have h2 := u.lt x hx
    exact Nat.lt_of_lt_of_le (show x.natAbs < 2 ^ 7 by omega) (Nat.pow_le_pow_right (by decide) (by decide))
end
end K21
set_option Elab.async false
set_option linter.all false
set_option maxRecDepth 100000
set_option maxHeartbeats 4000000
set_option autoImplicit false
set_option exponentiation.threshold 2000
/-! N12: drawn spaces. -/
namespace K21
open PySem PySem.Spec PyProof.Rows L2 RZ DL SH
/-- a drawn row -/
structure RO (b : Int) (n : Nat) (H : List Nat) (h : Nat) (r : List Int) : Prop where
  len : r.length = n
  hd : hd r = some h
  z : ∀ k ∈ H, k ≠ h → col r k = 0
  pl : P b r = r
  bd : Bd 13 r
  un : 0 < b → Un b r
  pos : 0 < col r h
/-- a row ahead of being made tidy -/
theorem ro_of {b : Int} {n h : Nat} {H : List Nat} {r : List Int} (hb : IsBy b) (len : r.length = n) (hh : hd r = some h) (z : ∀ k ∈ H, k ≠ h → col r k = 0) (bd : Bd 13 r) (un : 0 < b → Un b r) (pos : 0 < col r h) : RO b n H h (P b r) := by
  have hne : hd r ≠ none := by rw [hh]; simp
  have hf := hb.f
  unfold Fld at hf
  rcases hf with rfl | ⟨h2, h97⟩
  · have hv' : hv r = h := hv_some hh
    obtain ⟨a, ha, _, e, hp⟩ := P0_scale hne
    have ha2 := hp (by rw [hv']; exact pos)
    have hg := gcdL_nn r
    have ap : 0 < a := by rw [ha2] at ha ⊢; omega
    have cx : ∀ k, col r k = a * col (P 0 r) k := fun k => by
      conv => lhs; rw [e]
      exact col_map0 _ (Int.mul_zero a) _ k
    have hl : (P 0 r).length = n := by
      have := congrArg List.length e
      rw [List.length_map] at this
      omega
    refine ⟨hl, ?_, fun k hk hne => ?_, P0_idem r, Bd.of_col fun k _ => ?_, fun z => by omega, ?_⟩
    · have : hd ((P 0 r).map (a * ·)) = hd (P 0 r) := hd_map _ _ fun x _ => by show a * x = 0 ↔ _; rw [Int.mul_eq_zero]; exact ⟨fun z => z.resolve_left ha, .inr⟩
      rw [← this, ← e]; exact hh
    · have := z k hk hne
      rw [cx] at this
      exact (Int.mul_eq_zero.mp this).resolve_left ha
    · have h1 := natAbs_le_mul (x := col (P 0 r) k) ha
      rw [← cx] at h1
      have := bd.col k
      omega
    · rw [cx] at pos
      exact Int.pos_of_mul_pos_right pos (by omega) |> fun h => h
  · have u := un (by omega)
    have e : P b r = r := P_unit h2 u hne
    rw [e]
    exact ⟨len, hh, z, e, bd, un, pos⟩
section
variable {s : Strm} {J : Wd} {E : DX → Wd → Prop} {N : Nat}
theorem to_ints : ∀ {xs : List D}, (∀ x ∈ xs, ∃ z, x = D.int z) → ∃ r, xs = dI r
  | [], _ => ⟨[], rfl⟩
  | x :: xs, h => by
    obtain ⟨z, rfl⟩ := h x (by simp)
    obtain ⟨r, hr⟩ := to_ints (xs := xs) fun y hy => h y (by simp [hy])
    subst hr
    exact ⟨z :: r, rfl⟩
abbrev nI (H : List Nat) : List Int := H.map fun (k : Nat) => (k : Int)
theorem intsFrom_get {n i : Nat} {d : D} (h : (DL.intsFrom 0 n)[i]? = some d) : i < n ∧ d = .int (i : Nat) := by
  unfold DL.intsFrom at h
  rw [List.getElem?_map] at h
  cases e : (List.range n)[i]? with
  | none => rw [e] at h; cases h
  | some j =>
    rw [e] at h
    obtain ⟨h1, h2⟩ := List.getElem?_eq_some_iff.mp e
    rw [List.getElem_range] at h2
    subst h2
    cases h
    exact ⟨by simpa using h1, by simp⟩
theorem intsFrom_len {lo : Int} {n : Nat} : (DL.intsFrom lo n).length = n := by unfold DL.intsFrom; simp
theorem set_col {r : List Int} {h k : Nat} {v : Int} (hh : h < r.length) : col (r.set h v) k = if k = h then v else col r k := by
  by_cases e : k = h
  · subst e; simp [col, hh]
  · rw [if_neg e]
    simp [col, List.getElem?_set, Ne.symm e]
/-- the row that is drawn for a head -/
theorem row_ok {b : Int} {n h : Nat} {H : List Nat} {r : List Int} {v : Int} (hb : IsBy b) (hl : r.length = n) (hh : h < n) (hH : h ∈ H) (z : ∀ k, k < n → (k < h ∨ k ∈ H → col r k = 0) ∧ (b = 0 → -1000 < col r k ∧ col r k < 1000) ∧ (0 < b → 0 ≤ col r k ∧ col r k < b)) (hv0 : b = 0 → 1 ≤ v ∧ v ≤ 8) (hv1 : 0 < b → v = 1) : RO b n H h (P b (r.set h v)) ∧ hd (r.set h v) = some h ∧ (0 < b → Un b (r.set h v)) ∧ 0 < col (r.set h v) h ∧ Bd 13 (r.set h v) := by
  have sc : ∀ k, col (r.set h v) k = if k = h then v else col r k := fun k => set_col (by omega)
  have hf := hb.f
  unfold Fld at hf
  have vpos : 0 < v := by
    rcases hf with h0 | h0
    · have := hv0 h0; omega
    · have := hv1 (by omega); omega
  have hhd : hd (r.set h v) = some h := by
    refine hd_at (by rw [sc, if_pos rfl]; omega) fun j hj => ?_
    rw [sc, if_neg (by omega)]
    exact (z j (by omega)).1 (.inl hj)
  have bdk : ∀ k, k < n → (col r k).natAbs < 2 ^ 13 := fun k hk => by
    obtain ⟨_, z1, z2⟩ := z k hk
    rcases hf with h0 | h0
    · have := z1 h0; omega
    · have := z2 (by omega); omega
  have hbd : Bd 13 (r.set h v) := Bd.of_col fun k hk => by
    rw [sc]
    split
    · rcases hf with h0 | h0
      · have := hv0 h0; omega
      · have := hv1 (by omega); omega
    · exact bdk k (by simp at hk; omega)
  have hun : 0 < b → Un b (r.set h v) := fun hb0 => by
    have v1 := hv1 hb0
    have rng : ∀ k, k < n → 0 ≤ col (r.set h v) k ∧ col (r.set h v) k < b := fun k hk => by
      rw [sc]
      split
      · omega
      · exact (z k hk).2.2 hb0
    have hmem : ∀ x ∈ r.set h v, 0 ≤ x ∧ x < b := fun x hx => by
      obtain ⟨i, hi, rfl⟩ := List.getElem_of_mem hx
      have := rng i (by simp at hi; omega)
      have e : col (r.set h v) i = (r.set h v)[i] := by unfold col; rw [List.getD_eq_getElem?_getD, List.getElem?_eq_getElem hi]; rfl
      rw [← e]; exact this
    refine ⟨?_, fun x hx => (hmem x hx).1, fun x hx => (hmem x hx).2⟩
    rw [hv_some hhd, sc, if_pos rfl, v1]
  have hpos : 0 < col (r.set h v) h := by rw [sc, if_pos rfl]; exact vpos
  refine ⟨ro_of hb (by simp [hl]) hhd (fun k hk hne => ?_) hbd hun hpos, hhd, hun, hpos, hbd⟩
  rw [sc, if_neg hne]
  by_cases hkn : k < n
  · exact (z k hkn).1 (.inr hk)
  · exact col_out (by omega)
def SpP (b : Int) (n : Nat) (H : List Nat) (N : Nat) (J : Wd) (i : Nat) (δ : DL.Env) (W : Wd) : Prop :=
  ∃ (s' : Strm) (S : List (List Int)) (X : Wd) (y5 y6 y7 : Option RV), δ = [some (.r 1), some (.d (.int (n : Nat))), some (.d (.int b)), some (.d (lI (nI H))), some (.r (J.length + 2)), y5, y6, y7] ∧
    W = s'.W (J ++ .lst (S.map (RV.d ∘ lI)) :: X) ∧ s'.ok (N + (3 * n + 2) * i) ∧ S.length = i ∧ ∀ (j : Nat) (r : List Int), S[j]? = some r → ∃ h, H[j]? = some h ∧ RO b n H h r
theorem sp_turn {b : Int} {n : Nat} {H : List Nat} (hb : IsBy b) (hn : n < 100) (hH : ∀ k ∈ H, k < n) (hN : N + (3 * n + 2) * n < 1000000000) (hHl : H.length ≤ n) {i : Nat} {d : D} {δ : DL.Env} {W : Wd} (hdd : (dI (nI H))[i]? = some d) (h : SpP b n H N J i δ W) :
    wpM (gtName 5 (.d d) δ) W (kB (fun δ1 => p__law_bspace_b2 δ1) (fun p W' => (p.1 = .nx ∨ p.1 = .ct) ∧ SpP b n H N J (i + 1) p.2 W') E) E := by
  generalize hB : p__law_bspace_b2 = B
  obtain ⟨s', S, X, y5, y6, y7, rfl, rfl, ok, hS, hr⟩ := h
  obtain ⟨h, hhi, rfl⟩ : ∃ h, H[i]? = some h ∧ d = .int ((h : Nat) : Int) := by
    rw [List.getElem?_map, List.getElem?_map] at hdd
    cases e : H[i]? with
    | none => rw [e] at hdd; cases hdd
    | some h => rw [e] at hdd; cases hdd; exact ⟨h, rfl, rfl⟩
  have hmem : h ∈ H := List.mem_of_getElem? hhi
  have hlt := hH h hmem
  have hi : i < H.length := (List.getElem?_eq_some_iff.mp hhi).1
  have hin : i ≤ n := by omega
  have hNi : N + (3 * n + 2) * i + (3 * n + 2) < 1000000000 := by
    have : (3 * n + 2) * i + (3 * n + 2) ≤ (3 * n + 2) * n := by
      have : (3 * n + 2) * (i + 1) ≤ (3 * n + 2) * n := Nat.mul_le_mul_left _ (by omega)
      rw [Nat.mul_succ] at this
      exact this
    omega
  subst hB
  simp [p__law_bspace_b2, wipeD]
  refine ⟨by omega, ?_⟩
  refine lc_draw (DL.intsFrom 0 n) 3 (fun i x => ∃ z : Int, x = .int z ∧ (i < h ∨ i ∈ H → z = 0) ∧ (b = 0 → -1000 < z ∧ z < 1000) ∧ (0 < b → 0 ≤ z ∧ z < b)) ok (by rw [intsFrom_len]; exact small_line (by omega)) (fun j d s1 hd1 ok1 => ?_) fun xs s2 hxl hx ok2 => ?_
  · obtain ⟨hj, rfl⟩ := intsFrom_get hd1
    have c1 : ((j : Int) < h) = (j < h) := by apply propext; omega
    have c2 : (∃ a ∈ H, (a : Int) = j) = (j ∈ H) := by
      apply propext
      refine ⟨fun ⟨a, ha, e⟩ => ?_, fun h => ⟨j, h, rfl⟩⟩
      have : a = j := by omega
      rwa [← this]
    have z0 : ∃ z : Int, D.int 0 = .int z ∧ (j < h ∨ j ∈ H → z = 0) ∧ (b = 0 → -1000 < z ∧ z < 1000) ∧ (0 < b → 0 ≤ z ∧ z < b) := ⟨0, rfl, fun _ => rfl, fun _ => by omega, fun h => by omega⟩
    have okj : s1.ok (N + (3 * n + 2) * i + 3 * (j + 1)) := ok1.mono (by omega)
    simp [p__law_bspace_e1, c1]
    by_cases cj : j < h
    · simp [cj]
      exact ⟨s1, rfl, okj⟩
    · simp [cj]
      by_cases ch : j ∈ H
      · simp [c2, ch]
        exact ⟨s1, rfl, okj⟩
      · simp [c2, ch]
        refine bentry hb ok1 (by omega) _ fun z s2 h1 h2 ok2 => ?_
        exact ⟨.int z, rfl, ⟨z, rfl, h1, h2⟩, s2, rfl, ok2.mono (by omega)⟩
  · rw [intsFrom_len] at hxl ok2
    obtain ⟨r, rfl⟩ := to_ints (xs := xs) fun x hx' => by
      obtain ⟨q, hq, rfl⟩ := List.getElem_of_mem hx'
      obtain ⟨z, hz, _⟩ := hx q _ (List.getElem?_eq_getElem hq)
      exact ⟨z, hz⟩
    rw [dI_len] at hxl
    have hz : ∀ k, k < n → (k < h ∨ k ∈ H → col r k = 0) ∧ (b = 0 → -1000 < col r k ∧ col r k < 1000) ∧ (0 < b → 0 ≤ col r k ∧ col r k < b) := fun k hk => by
      have hk' : k < r.length := by omega
      obtain ⟨z, hz, h1⟩ := hx k (.int (col r k)) (by rw [List.getElem?_map, getI hk']; rfl)
      cases hz
      exact h1
    simp
    have fin : ∀ (v : Int) (s3 : Strm) (y7 : Option RV) (E : DX → Wd → Prop), (b = 0 → 1 ≤ v ∧ v ≤ 8) → (0 < b → v = 1) → s3.ok (N + (3 * n + 2) * (i + 1)) →
        wpM (asgF (gtSub (evVar 6) (evVar 5)) [some (.r 1), some (.d (.int (n : Nat))), some (.d (.int b)), some (.d (lI (nI H))), some (.r (J.length + 2)), some (.d (.int (h : Nat))), some (.r (J.length + (X.length + 1) + 2)), y7] (.d (.int v)))
          (s3.W (J ++ MO.lst (List.map (RV.d ∘ lI) S) :: (X ++ [MO.lst (List.map (RV.d ∘ D.int) r)])))
          (kB (seqF (evDrop (evMth mAppend (evVar 4) (evCons (evCallF 2 f__law_btidy (evCons (evFrz (evVar 6)) (evCons (evVar 2) evNil))) evNil)))) (fun p W' => (p.fst = Fl.nx ∨ p.fst = Fl.ct) ∧ SpP b n H N J (i + 1) p.snd W') E) E := fun v s3 y7 E v0 v1 ok3 => by
      obtain ⟨ro, hh1, hun, hpos, hbd⟩ := row_ok hb hxl hlt hmem hz v0 v1
      have hne : hd (r.set h v) ≠ none := by rw [hh1]; simp
      have hf := hb.f
      unfold Fld at hf
      have e1 : (List.map (RV.d ∘ D.int) r).set h (.d (.int v)) = List.map RV.d (dI (r.set h v)) := by show _ = List.map RV.d (List.map D.int (r.set h v)); rw [List.map_set, List.map_set, List.map_map]
      have tid : ∀ (W : Wd) (Q : RV → Wd → Prop) (E : DX → Wd → Prop), wpM (f__law_btidy [.d (lI (r.set h v)), .d (.int b)]) W Q E = Q (.d (lI (P b (r.set h v)))) W := fun W Q E => by
        rcases hf with h0 | ⟨h2, h97⟩
        · subst h0
          exact btidy0 (hbd.mono (by decide)) (by simp; omega) hne (by rw [hv_some hh1]; exact hpos)
        · rw [P_unit h2 (hun (by omega)) hne]
          exact btidyP h2 h97 (by simp; omega) hne (hun (by omega))
      simp [ixN_nat (show h < r.length by omega)]
      rw [e1, pureL_map]
      generalize r.set h v = r1 at *
      simp
      rw [tid]
      simp
      have hSl : S.length < sizeLine := small_line (by omega)
      refine ⟨by omega, s3, S ++ [P b r1], X ++ [.fz (.lst (dI r1))], _, _, _, rfl, by simp, ok3, by simp [hS], fun j r' hr' => ?_⟩
      by_cases hj : j < S.length
      · rw [List.getElem?_append_left hj] at hr'
        exact hr j r' hr'
      · rw [List.getElem?_append_right (by omega)] at hr'
        have hj0 : j = i := by
          have := (List.getElem?_eq_some_iff.mp hr').1
          simp at this
          omega
        subst hj0
        rw [hS, Nat.sub_self] at hr'
        cases hr'
        exact ⟨h, hhi, ro⟩
    have hoki : ∀ (s3 : Strm), s3.ok (N + (3 * n + 2) * i + 3 * n + 2) → s3.ok (N + (3 * n + 2) * (i + 1)) := fun s3 h => h.mono (by rw [Nat.mul_succ]; omega)
    by_cases hb0 : 0 < b
    · simp only [hb0, decide_true, ifEF_t, w_ret, kB_ap]
      exact fin 1 s2 y7 E (fun z => by omega) (fun _ => rfl) (hoki s2 (ok2.mono (by omega)))
    · simp [hb0]
      refine below ok2 (by omega) (by decide) (by decide) _ fun z s3 h1 h2 ok3 => ?_
      simp
      refine pickM ok3 (by omega) (by simp) (by simp) _ fun x s4 hx4 ok4 => ?_
      have : ∃ q : Int, x = .int q ∧ 0 ≤ q ∧ q < 7 := by
        simp at hx4
        rcases hx4 with rfl | rfl | rfl
        · exact ⟨0, rfl, by omega, by omega⟩
        · exact ⟨1, rfl, by omega, by omega⟩
        · exact ⟨z, rfl, h1, h2⟩
      obtain ⟨q, rfl, q1, q2⟩ := this
      simp only [kB_ap, opAdd_i, w_ret]
      exact fin (1 + q) s4 y7 E (fun _ => by omega) (fun z => absurd z hb0) (hoki s4 ok4)
end
end K21
set_option Elab.async false
set_option linter.all false
set_option maxRecDepth 100000
set_option maxHeartbeats 4000000
set_option autoImplicit false
set_option exponentiation.threshold 2000
namespace K21
open PySem PySem.Spec PyProof.Rows L2 RZ DL SH
section
variable {s : Strm} {J : Wd} {E : DX → Wd → Prop} {N : Nat}
/-- a drawn space -/
structure Drawn (b : Int) (n : Nat) (S : List (List Int)) : Prop where
  ex : ∃ H : List Nat, H.Pairwise (· < ·) ∧ (∀ k ∈ H, k < n) ∧ S.length = H.length ∧ ∀ (j : Nat) (r : List Int), S[j]? = some r → ∃ h, H[j]? = some h ∧ RO b n H h r
theorem sub_len {n : Nat} {H : List Nat} (h : H.Sublist (List.range n)) : H.length ≤ n := by have := h.length_le; simpa using this
theorem bspace {b : Int} {n : Nat} (hb : IsBy b) (hn : n < 100) (ok : s.ok N) (hN : N < 900000000) (Q : RV → Wd → Prop) (h : ∀ (S : List (List Int)) (s' : Strm), Drawn b n S → s'.ok (N + 4 * n * n + 3 * n) → Q (.d (lR S)) (s'.W J)) :
    wpM (f__law_bspace [.r 1, .d (.int (n : Nat)), .d (.int b)]) (s.W J) Q E := by
  have hnn : n * n ≤ 99 * n := Nat.mul_le_mul_right _ (by omega)
  unfold f__law_bspace
  rw [w_fnD]
  simp [m__law_bspace, startD, wipeD]
  refine ⟨by omega, ?_⟩
  refine lc_drawF (DL.intsFrom 0 n) 1 id ok (by rw [intsFrom_len]; exact small_line (by omega)) (fun j d s1 hd1 ok1 => ?_) fun xs s2 hxs ok2 => ?_
  · obtain ⟨hj, rfl⟩ := intsFrom_get hd1
    simp [p__law_bspace_q4, p__law_bspace_e3]
    refine below ok1 (by omega) (by decide) (by decide) _ fun z s2 _ _ ok2 => ?_
    simp
    exact ⟨s2, rfl, ok2.mono (by omega)⟩
  · rw [intsFrom_len] at ok2
    obtain ⟨H, hH, rfl⟩ : ∃ H : List Nat, H.Sublist (List.range n) ∧ xs = dI (nI H) := by
      have : DL.intsFrom 0 n = (List.range n).map fun k : Nat => D.int (k : Int) := by unfold DL.intsFrom; simp
      rw [this, List.sublist_map_iff] at hxs
      obtain ⟨H, h1, rfl⟩ := hxs
      exact ⟨H, h1, by show _ = List.map D.int (List.map _ H); rw [List.map_map]; rfl⟩
    have hHp : H.Pairwise (· < ·) := List.pairwise_lt_range.sublist hH
    have hHn : ∀ k ∈ H, k < n := fun k hk => by simpa using hH.subset hk
    have hHl := sub_len hH
    rw [List.map_id]
    have hlen : (dI (nI H)).length = H.length := by simp
    generalize hB : p__law_bspace_b2 = B
    simp
    have eH : List.map (D.int ∘ fun k : Nat => (k : Int)) H = dI (nI H) := by show _ = List.map D.int (List.map _ H); rw [List.map_map]
    rw [eH]
    have hNn : (3 * n + 2) * n ≤ 299 * n := Nat.mul_le_mul_right _ (by omega)
    refine wpM_mono (goFor_inv (P := SpP b n H (N + n) J) (dI (nI H)) (fun i d δ W hd hp => ?_) (dI (nI H)) 0 _ _ rfl (Nat.zero_le _) ⟨s2, [], [], none, none, none, rfl, rfl, ok2.mono (by omega), rfl, fun j r hr => by simp at hr⟩) (fun p W' hp => ?_) fun _ _ z => z
    · subst hB
      exact sp_turn hb hn hHn (by omega) hHl hd hp
    · obtain ⟨f, δ⟩ := p
      obtain ⟨hf, s', S, X, y5, y6, y7, h1, rfl, ok3, hS, hr⟩ := hp
      dsimp only at hf h1
      subst hf h1
      rw [hlen] at ok3 hS
      have hk : N + n + (3 * n + 2) * H.length ≤ N + 4 * n * n + 3 * n := by
        have : (3 * n + 2) * H.length ≤ (3 * n + 2) * n := Nat.mul_le_mul_left _ hHl
        have e1 : (3 * n + 2) * n = 3 * (n * n) + 2 * n := by rw [Nat.add_mul, Nat.mul_assoc]
        have e2 : 4 * n * n = 4 * (n * n) := Nat.mul_assoc _ _ _
        omega
      simp
      have eS : pureL (List.map (RV.d ∘ lI) S) = some (S.map lI) := by rw [← List.map_map, pureL_map]
      rw [eS]
      simp
      exact h S s' ⟨H, hHp, hHn, hS, hr⟩ (ok3.mono hk)
end
end K21
set_option Elab.async false
set_option linter.all false
set_option maxRecDepth 100000
set_option maxHeartbeats 4000000
set_option autoImplicit false
set_option exponentiation.threshold 2000
/-! N14: drawn spaces are spaces; loose things, copies. -/
namespace K21
open PySem PySem.Spec PyProof.Rows L2 RZ DL SH
theorem RO.rw {b : Int} {n h : Nat} {H : List Nat} {r : List Int} (o : RO b n H h r) : Rw b n r := ⟨o.len, o.bd.mono (by decide), by rw [o.hd]; simp, o.pl⟩
theorem P0_unit {r : List Int} (h : hd r ≠ none) (h1 : col r (hv r) = 1) : P 0 r = r := by
  have hm := mem_getD (hv_lt h)
  have hg : gcdL r = 1 := by
    have h2 := gcdL_le hm (hv_ne h)
    have h3 := gcdL_ne hm (hv_ne h)
    have h4 := gcdL_nn r
    rw [h1] at h2
    have : (1 : Int).natAbs = 1 := rfl
    omega
  unfold P
  rw [if_pos rfl, hv_of h]
  dsimp only
  rw [h1, if_pos (by decide), hg]
  conv => rhs; rw [← List.map_id r]
  exact List.map_congr_left fun x _ => by simp
theorem Drawn.rows {b : Int} {n : Nat} {S : List (List Int)} (d : Drawn b n S) : ∀ r ∈ S, Rw b n r ∧ Bd 13 r ∧ (0 < b → Un b r) ∧ 0 < col r (hv r) := fun r hr => by
  obtain ⟨H, h1, h2, h3, h4⟩ := d.ex
  obtain ⟨j, hj, rfl⟩ := List.getElem_of_mem hr
  obtain ⟨h, hh, ro⟩ := h4 j _ (List.getElem?_eq_getElem hj)
  exact ⟨ro.rw, ro.bd, ro.un, by rw [hv_some ro.hd]; exact ro.pos⟩
theorem Drawn.pw {b : Int} {n : Nat} {S : List (List Int)} (d : Drawn b n S) : S.Pairwise Lt := by
  obtain ⟨H, h1, h2, h3, h4⟩ := d.ex
  rw [List.pairwise_iff_getElem]
  intro i j hi hj hij
  obtain ⟨a, ha, ra⟩ := h4 i _ (List.getElem?_eq_getElem hi)
  obtain ⟨c, hc, rc⟩ := h4 j _ (List.getElem?_eq_getElem hj)
  have hac : a < c := by
    obtain ⟨hi', ea⟩ := List.getElem?_eq_some_iff.mp ha
    obtain ⟨hj', ec⟩ := List.getElem?_eq_some_iff.mp hc
    have := List.pairwise_iff_getElem.mp h1 i j hi' hj' hij
    rwa [ea, ec] at this
  refine ⟨by rw [hv_some ra.hd, hv_some rc.hd]; exact hac, ?_⟩
  rw [hv_some rc.hd]
  exact ra.z c (List.mem_of_getElem? hc) (by omega)
theorem Drawn.le {b : Int} {n : Nat} {S : List (List Int)} (d : Drawn b n S) : S.length ≤ n := by
  obtain ⟨H, h1, h2, h3, h4⟩ := d.ex
  rw [h3]
  have : H.Sublist (List.range n) → H.length ≤ n := fun h => sub_len h
  have hnd : H.Nodup := h1.imp fun h => by omega
  have := List.Nodup.length_le_of_subset (l₁ := H) (l₂ := List.range n) hnd fun k hk => by simpa using h2 k hk
  simpa using this
theorem Drawn.spa {b : Int} {n : Nat} {S : List (List Int)} (d : Drawn b n S) (hn : n < 1000) : Spa b n S := ⟨fun r hr => (d.rows r hr).1, d.pw, hn, by have := d.le; omega⟩
theorem Drawn.spa0 {b : Int} {n : Nat} {S : List (List Int)} (d : Drawn b n S) (hn : n < 1000) (hb : 0 < b) : Spa 0 n S := ⟨fun r hr => by
  obtain ⟨h1, h2, h3, h4⟩ := d.rows r hr
  exact ⟨h1.len, h1.bd, h1.hd, P0_unit h1.hd (h3 hb).one⟩, d.pw, hn, by have := d.le; omega⟩
section
variable {s : Strm} {J W : Wd} {E : DX → Wd → Prop} {N : Nat}
theorem loose_int {n : Nat} {i : Int} {Q : RV → Wd → Prop} : wpM (f__law_loose (n + 1) [.r 1, .d (.int i)]) W Q E = Q (.d (.int i)) W := by
  refine pu_by fun Q E hq => ?_
  rw [f__law_loose_s, w_fnD]
  simp [m__law_loose, startD, tyOf]
  exact hq
theorem loose_row {n : Nat} {r : List Int} (hr : r.length < 1000) (ok : s.ok N) (hN : N < 900000000) (Q : RV → Wd → Prop) (h : ∀ (x : D) (s' : Strm), IsR x r → s'.ok (N + 1) → Q (.d x) (s'.W J)) : wpM (f__law_loose (n + 2) [.r 1, .d (lI r)]) (s.W J) Q E := by
  rw [f__law_loose_s, w_fnD]
  simp [m__law_loose, startD, tyOf, wipeD]
  rw [lc_plainT r id (small_line (by omega)) fun x hx => by
    simp [p__law_loose_e1]
    rw [loose_int]
    exact ⟨rfl, rfl⟩]
  simp
  refine below ok (by omega) (by decide) (by decide) _ fun i s' _ _ ok' => ?_
  simp
  by_cases h0 : i = 0
  · simp [h0]
    exact h _ s' (.inl rfl) ok'
  · simp [h0]
    exact h _ s' (.inr rfl) ok'
theorem loose_rows {n : Nat} {S : List (List Int)} (hS : ∀ r ∈ S, r.length < 1000) (hl : S.length < 1000) (ok : s.ok N) (hN : N < 800000000) (Q : RV → Wd → Prop) (h : ∀ (t : Bool) (xs : List D) (s' : Strm), AreR xs S → s'.ok (N + S.length + 1) → Q (.d (sq t xs)) (s'.W J)) :
    wpM (f__law_loose (n + 3) [.r 1, .d (lR S)]) (s.W J) Q E := by
  rw [f__law_loose_s, w_fnD]
  simp [m__law_loose, startD, tyOf, wipeD]
  refine lc_draw (S.map lI) 1 (fun i x => ∃ r, S[i]? = some r ∧ IsR x r) ok (by simp; exact small_line (by omega)) (fun i d s1 hd ok1 => ?_) fun xs s2 hxl hx ok2 => ?_
  · rw [List.getElem?_map] at hd
    cases e : S[i]? with
    | none => rw [e] at hd; cases hd
    | some r =>
      rw [e] at hd
      cases hd
      simp [p__law_loose_e1]
      refine loose_row (hS r (List.mem_of_getElem? e)) ok1 (by have := (List.getElem?_eq_some_iff.mp e).1; omega) _ fun x s2 hx ok2 => ?_
      exact ⟨x, rfl, hx, s2, rfl, ok2.mono (by omega)⟩
  · have ha : AreR xs S := by
      clear h hS hl ok ok2 hN
      rw [List.length_map] at hxl
      induction xs generalizing S with
      | nil =>
        cases S with
        | nil => exact .nil
        | cons _ _ => simp at hxl
      | cons x xs ih =>
        cases S with
        | nil => simp at hxl
        | cons r S =>
          obtain ⟨r', h1, h2⟩ := hx 0 x rfl
          cases h1
          exact .cons h2 (ih (S := S) (by simpa using hxl) fun i y hy => hx (i + 1) y hy)
    rw [w_newL_f]
    rw [List.length_map] at ok2
    simp
    refine below ok2 (by omega) (by decide) (by decide) _ fun i s' _ _ ok' => ?_
    simp
    by_cases h0 : i = 0
    · simp [h0]
      exact h false xs s' ha (ok'.mono (by omega))
    · simp [h0]
      exact h true xs s' ha (ok'.mono (by omega))
/-! copies -/
def cpy : Nat → D → Bool
  | 0, _ => false
  | n + 1, .lst xs => decide (xs.length < 1000) && xs.all (cpy n)
  | n + 1, .tup xs => decide (xs.length < 1000) && xs.all (cpy n)
  | _ + 1, .int _ => true
  | _ + 1, .bl _ => true
  | _ + 1, .str _ => true
  | _ + 1, .non => true
  | _ + 1, _ => false
theorem copied : ∀ {n : Nat} {x : D}, cpy n x = true → ∀ {W : Wd} {Q : RV → Wd → Prop} {E : DX → Wd → Prop}, wpM (f__law_copied n [.d x]) W Q E = Q (.d x) W
  | 0, x, h, _, _, _ => by simp [cpy] at h
  | n + 1, x, h, W, Q, E => by
    refine pu_by fun Q E hq => ?_
    have lc : ∀ (xs : List D) (a0 a1 a2 : Option RV) (Q : RV → Wd → Prop) (E : DX → Wd → Prop), xs.length < 1000 → (∀ x ∈ xs, cpy n x = true) → Q (.d (.lst xs)) W → wpM (lcF false (gtName 3) evYes (p__law_copied_e1 (f__law_copied n)) [a0, a1, a2, none] xs) W Q E := fun xs a0 a1 a2 Q E hl hx hq => by
      have := lc_map (W := W) (Q := Q) (E := E) (T := gtName 3) (F := p__law_copied_e1 (f__law_copied n)) (δ := [a0, a1, a2, none]) xs id id (small_line (by omega)) fun x hx' => by
        simp [p__law_copied_e1]
        rw [copied (hx x hx')]
        exact ⟨rfl, rfl⟩
      rw [List.map_id] at this
      rw [this]
      exact hq
    rw [f__law_copied_s, w_fnD]
    cases x with
    | lst xs =>
      simp [cpy] at h
      simp [m__law_copied, startD, tyOf, wipeD]
      refine lc xs _ _ _ _ _ h.1 h.2 ?_
      simp
      exact hq
    | tup xs =>
      simp [cpy] at h
      simp [m__law_copied, startD, tyOf, wipeD]
      refine lc xs _ _ _ _ _ h.1 h.2 ?_
      simp
      exact hq
    | int i => simp [m__law_copied, startD, tyOf]; exact hq
    | bl i => simp [m__law_copied, startD, tyOf]; exact hq
    | str i => simp [m__law_copied, startD, tyOf]; exact hq
    | non => simp [m__law_copied, startD, tyOf]; exact hq
    | ty _ => simp [cpy] at h
    | frz _ => simp [cpy] at h
    | dK _ => simp [cpy] at h
    | dT _ => simp [cpy] at h
    | obj _ _ => simp [cpy] at h
end
end K21
set_option Elab.async false
set_option linter.all false
set_option maxRecDepth 100000
set_option maxHeartbeats 4000000
set_option autoImplicit false
set_option exponentiation.threshold 2000
/-! N15: bent spaces are told to be none. -/
namespace K21
open PySem PySem.Spec PyProof.Rows L2 RZ DL SH
/-- what is asked of a wrong thing -/
structure Bent (b : Int) (t : D) : Prop where
  no : ∀ (W : Wd) (Q : RV → Wd → Prop) (E : DX → Wd → Prop), wpM (f_is_reduced [.d t, .d (.int b)]) W Q E = Q (.d (.bl false)) W
  cp : cpy 5 t = true
  so : sok 5 t = true
def cp1 (x : D) : Prop := cpy 4 x = true ∧ sok 4 x = true
theorem cp_int {n : Nat} {i : Int} : cpy (n + 1) (.int i) = true ∧ sok (n + 1) (.int i) = true := ⟨rfl, rfl⟩
theorem cp_row {n : Nat} {r : List Int} (h : r.length < 1000) : cpy (n + 2) (lI r) = true ∧ sok (n + 2) (lI r) = true := by
  have hz : r.length < sizeLine := small_line (by omega)
  refine ⟨?_, ?_⟩
  · rw [cpy, Bool.and_eq_true]
    exact ⟨by simp; omega, by rw [List.all_map]; exact List.all_eq_true.mpr fun _ _ => rfl⟩
  · rw [sok, Bool.and_eq_true]
    exact ⟨by simp; exact hz, by rw [List.all_map]; exact List.all_eq_true.mpr fun _ _ => rfl⟩
theorem cp_lst {n : Nat} {xs : List D} (h : xs.length < 1000) (hx : ∀ x ∈ xs, cpy n x = true ∧ sok n x = true) : cpy (n + 1) (.lst xs) = true ∧ sok (n + 1) (.lst xs) = true := by
  have hz : xs.length < sizeLine := small_line (by omega)
  refine ⟨?_, ?_⟩
  · rw [cpy, Bool.and_eq_true]
    exact ⟨by simp; omega, List.all_eq_true.mpr fun x hx' => (hx x hx').1⟩
  · rw [sok, Bool.and_eq_true]
    exact ⟨by simp; exact hz, List.all_eq_true.mpr fun x hx' => (hx x hx').2⟩
abbrev put1 (A : List (List Int)) (x : D) (B : List (List Int)) : D := .lst (A.map lI ++ x :: B.map lI)
theorem bent_of {b : Int} {t : D} (hb : IsBy b) (hs : ∀ (W : Wd) (Q : RV → Wd → Prop) (E : DX → Wd → Prop), wpM (f_is_space [.d t, .d (.int b)]) W Q E = Q (.d (.bl false)) W) (h : cpy 5 t = true ∧ sok 5 t = true) : Bent b t :=
  ⟨fun W Q E => is_reduced hb.fld fun Q E => hs W Q E, h.1, h.2⟩
theorem put1_cp {A B : List (List Int)} {x : D} (hx : cp1 x) (hl : (A ++ B).length < 900) (hr : ∀ r ∈ A ++ B, r.length < 1000) : cpy 5 (put1 A x B) = true ∧ sok 5 (put1 A x B) = true := by
  refine cp_lst (by simp at hl ⊢; omega) fun y hy => ?_
  simp at hy
  rcases hy with ⟨r, h, rfl⟩ | rfl | ⟨r, h, rfl⟩
  · exact cp_row (hr r (by simp [h]))
  · exact hx
  · exact cp_row (hr r (by simp [h]))
theorem okEl_row {r : List Int} (h : r.length < 1000) : okEl (lI r) := ⟨rfl, fun ps e => by
  have e' : dI r = ps := by simpa [seqD] using e
  subst e'
  exact ⟨by simpa using h, fun p hp => by obtain ⟨i, _, rfl⟩ := List.mem_map.mp hp; rfl⟩⟩
theorem good_no {n : Nat} {x : D} {ps : List D} (e : seqD x = some ps) (h : ps.all isI = false ∨ ps.length ≠ n) : good n x = false := by
  unfold good
  rw [e]
  dsimp only
  rcases h with h | h
  · rw [h]; simp
  · have : decide (ps.length = n) = false := by simp [h]
    rw [this]; simp
/-- a wrong element in the place of a row -/
theorem bent_bad {b : Int} {n : Nat} {A B : List (List Int)} {x : D} (hb : IsBy b) (hn : n < 900) (hl : (A ++ B).length < 40) (hr : ∀ r ∈ A ++ B, r.length = n) (ox : okEl x) (cx : cp1 x)
    (hx : seqD x = none ∨ (∃ ps, seqD x = some ps ∧ ps.all isI = false) ∨ (∃ ps, seqD x = some ps ∧ ps.length ≠ n ∧ A ++ B ≠ [])) : Bent b (put1 A x B) := by
  refine bent_of hb (fun W Q E => ?_) (put1_cp cx (by omega) fun r h => by rw [hr r h]; omega)
  have hok : ∀ y ∈ A.map lI ++ x :: B.map lI, okEl y := fun y hy => by
    simp at hy
    rcases hy with ⟨r, h, rfl⟩ | rfl | ⟨r, h, rfl⟩
    · exact okEl_row (by rw [hr r (by simp [h])]; omega)
    · exact ox
    · exact okEl_row (by rw [hr r (by simp [h])]; omega)
  have hlen : (A.map lI ++ x :: B.map lI).length ≤ 40 := by simp at hl ⊢; omega
  cases A with
  | nil =>
    refine is_space_bad (t0 := false) (x0 := x) (rest := B.map lI) hlen hok ?_
    rcases hx with h | ⟨ps, h1, h2⟩ | ⟨ps, h1, h2, h3⟩
    · exact .inl h
    · refine .inr ⟨ps, h1, ?_⟩
      rw [List.all_cons, good_no h1 (.inl h2), Bool.false_and]
    · refine .inr ⟨ps, h1, ?_⟩
      cases B with
      | nil => exact absurd rfl h3
      | cons r B =>
        have e : seqD (lI r) = some (dI r) := rfl
        have hrn := hr r (by simp)
        rw [List.map_cons, List.all_cons, List.all_cons, good_no e (.inr (by rw [dI_len, hrn]; exact fun z => h2 z.symm)), Bool.false_and, Bool.and_false]
  | cons a A =>
    refine is_space_bad (t0 := false) (x0 := lI a) (rest := A.map lI ++ x :: B.map lI) hlen hok (.inr ⟨dI a, rfl, ?_⟩)
    have han : (dI a).length = n := by rw [dI_len]; exact hr a (by simp)
    rw [han]
    by_cases c : seqD x = none
    · have : good n x = false := by unfold good; rw [c]
      simp [this]
    · have : good n x = false := by
        rcases hx with h | ⟨ps, h1, h2⟩ | ⟨ps, h1, h2, h3⟩
        · exact absurd h c
        · exact good_no h1 (.inl h2)
        · exact good_no h1 (.inr h2)
      simp [this]
/-- rows that come to something else -/
theorem bent_rows {b : Int} {n : Nat} {rs T : List (List Int)} (hb : IsBy b) (hn : n ≤ 40) (h1 : 1 ≤ n) (hk : rs.length ≤ 40) (hr : ∀ r ∈ rs, r.length = n) (run : Run b [] rs T) (hne : T ≠ rs) : Bent b (lR rs) := by
  refine bent_of hb (fun W Q E => ?_) (cp_lst (by simp; omega) fun y hy => by
    obtain ⟨r, h, rfl⟩ := List.mem_map.mp hy
    exact cp_row (by rw [hr r h]; omega))
  have := is_space_ok (W := W) (Q := Q) (E := E) (t := false) (AreR.lists rs) hk hr h1 hn run
  rw [show decide (T = rs) = false by simp [hne]] at this
  exact this
theorem put1_row {A B : List (List Int)} {r : List Int} : put1 A (lI r) B = lR (A ++ r :: B) := by simp
section
variable {b : Int} {n : Nat} {A B : List (List Int)} {r : List Int}
theorem bent_mult {r' : List Int} (hb : IsBy b) (hn : n ≤ 40) (h1 : 1 ≤ n) (s : Spa b n (A ++ r :: B)) (hk : (A ++ r :: B).length ≤ 40) (hr : Bd 400 r') (hl : r'.length = n) (hp : P b r' = r) (hne : r' ≠ r) : Bent b (put1 A (lI r') B) := by
  rw [put1_row]
  refine bent_rows hb hn h1 (by simpa using hk) (fun q hq => ?_) (run_mult hb.f s hr hl hp) fun z => ?_
  · simp at hq
    rcases hq with hq | rfl | hq
    · exact (s.row q (by simp [hq])).len
    · exact hl
    · exact (s.row q (by simp [hq])).len
  · have := (List.append_cancel_left z)
    exact hne (List.cons.inj this).1.symm
theorem bent_zero (hb : IsBy b) (hn : n ≤ 40) (h1 : 1 ≤ n) (s : Spa b n (A ++ r :: B)) (hk : (A ++ r :: B).length ≤ 40) : Bent b (put1 A (lI (List.replicate n 0)) B) := by
  rw [put1_row]
  refine bent_rows hb hn h1 (by simpa using hk) (fun q hq => ?_) (run_zero hb.f (s.sub (by simp))) fun z => ?_
  · simp at hq
    rcases hq with hq | rfl | hq
    · exact (s.row q (by simp [hq])).len
    · simp
    · exact (s.row q (by simp [hq])).len
  · have := congrArg List.length z
    simp at this
theorem bent_dup (hb : IsBy b) (hn : n ≤ 40) (h1 : 1 ≤ n) (s : Spa b n (A ++ r :: B)) (hk : (A ++ r :: B).length < 40) (u : 0 < b → Un b r) : Bent b (lR ((A ++ r :: B) ++ [r])) := by
  refine bent_rows hb hn h1 (by simp at hk ⊢; omega) (fun q hq => ?_) (run_dup hb.f s u) fun z => ?_
  · simp at hq
    exact (s.row q (by simp; rcases hq with h | h | h | h <;> simp [h])).len
  · have := congrArg List.length z
    simp at this
theorem bent_rot {S : List (List Int)} (hb : IsBy b) (hn : n ≤ 40) (h1 : 1 ≤ n) (s : Spa b n (r :: S)) (hk : (r :: S).length ≤ 40) (hS : S ≠ []) : Bent b (lR (S ++ [r])) := by
  refine bent_rows hb hn h1 (by simpa using hk) (fun q hq => ?_) (run_rot hb.f s) fun z => ?_
  · simp at hq
    exact (s.row q (by simp; rcases hq with h | h <;> simp [h])).len
  · cases S with
    | nil => exact hS rfl
    | cons q S =>
      have e : r = q := (List.cons.inj z).1
      subst e
      have := (List.pairwise_cons.mp s.pw).1 r (by simp)
      exact absurd this.1 (by omega)
theorem bent_mixed {C : List (List Int)} {a c x' x y : List Int} (hb : IsBy b) (hn : n ≤ 40) (h1 : 1 ≤ n) (s : Spa b n (A ++ a :: (B ++ c :: C))) (hk : (A ++ a :: (B ++ c :: C)).length ≤ 40) (m : Mix b n a c x y) (hx : P b x' = x) (hxb : Bd 400 x') (hxl : x'.length = n) (hne : x' ≠ a) : Bent b (lR (A ++ x' :: (B ++ c :: C))) := by
  refine bent_rows hb hn h1 (by simpa using hk) (fun q hq => ?_) (run_mixed hb.f s m hx hxb hxl) fun z => ?_
  · simp at hq
    rcases hq with hq | rfl | hq | rfl | hq
    · exact (s.row q (by simp [hq])).len
    · exact hxl
    · exact (s.row q (by simp [hq])).len
    · exact (s.row q (by simp)).len
    · exact (s.row q (by simp [hq])).len
  · have := (List.append_cancel_left z)
    exact hne (List.cons.inj this).1.symm
end
end K21
set_option Elab.async false
set_option linter.all false
set_option maxRecDepth 100000
set_option maxHeartbeats 4000000
set_option autoImplicit false
set_option exponentiation.threshold 2000
/-! N16: what is bent. -/
namespace K21
open PySem PySem.Spec PyProof.Rows L2 RZ DL SH
structure Cx1 (b : Int) (n : Nat) (A : List (List Int)) (r : List Int) (B : List (List Int)) : Prop where
  hb : IsBy b
  n1 : 1 ≤ n
  n7 : n ≤ 7
  s : Spa b n (A ++ r :: B)
  k : (A ++ r :: B).length ≤ n
  bd : ∀ q ∈ A ++ r :: B, Bd 13 q
  u : ∀ q ∈ A ++ r :: B, 0 < b → Un b q
  pos : 0 < col r (hv r)
def OddOk (b : Int) (A B : List (List Int)) (x : D) : Prop := Bent b (put1 A x B) ∧ shp 60 x = true
section
variable {b : Int} {n : Nat} {A B : List (List Int)} {r : List Int}
theorem Cx1.rl (c : Cx1 b n A r B) : r.length = n := (c.s.row r (by simp)).len
theorem Cx1.rh (c : Cx1 b n A r B) : hd r ≠ none := (c.s.row r (by simp)).hd
theorem Cx1.len (c : Cx1 b n A r B) : ∀ q ∈ A ++ B, q.length = n := fun q hq => by
  simp at hq
  exact (c.s.row q (by simp; rcases hq with h | h <;> simp [h])).len
theorem Cx1.mult (c : Cx1 b n A r B) {r' : List Int} (hr : Bd 400 r') (hl : r'.length = n) (hp : P b r' = r) (hne : r' ≠ r) : OddOk b A B (lI r') :=
  ⟨bent_mult c.hb (by have := c.n7; omega) c.n1 c.s (by have := c.k; have := c.n7; omega) hr hl hp hne, shp_lI⟩
theorem Cx1.bad (c : Cx1 b n A r B) {x : D} (ox : okEl x) (cx : cp1 x) (sh : shp 60 x = true) (hx : seqD x = none ∨ (∃ ps, seqD x = some ps ∧ ps.all isI = false) ∨ (∃ ps, seqD x = some ps ∧ ps.length ≠ n ∧ A ++ B ≠ [])) : OddOk b A B x := by
  have h1 := c.k
  have h2 := c.n7
  simp at h1
  exact ⟨bent_bad c.hb (by omega) (by simp; omega) c.len ox cx hx, sh⟩
theorem Cx1.zero (c : Cx1 b n A r B) : OddOk b A B (lI (List.replicate n 0)) :=
  ⟨bent_zero c.hb (by have := c.n7; omega) c.n1 c.s (by have := c.k; have := c.n7; omega), shp_lI⟩
theorem odd_map {α : Type} (f : Int → D) (r : List Int) : r.map f = (r.map f) := rfl
/-- a row with a truth in the place of 1 -/
theorem Cx1.truth (c : Cx1 b n A r B) (h1 : (1 : Int) ∈ r) : OddOk b A B (.lst (r.map fun x => if x = 1 then D.bl true else .int x)) := by
  have hl := c.rl
  have h7 := c.n7
  have pl : ∀ x : Int, plainD (if x = 1 then D.bl true else .int x) = true := fun x => by split <;> rfl
  refine c.bad ⟨rfl, fun ps e => ?_⟩ (cp_lst (by simp; omega) fun y hy => ?_) ?_ (.inr (.inl ⟨_, rfl, ?_⟩))
  · cases e
    refine ⟨by simp; omega, fun p hp => ?_⟩
    obtain ⟨x, _, rfl⟩ := List.mem_map.mp hp
    exact pl x
  · obtain ⟨x, _, rfl⟩ := List.mem_map.mp hy
    split <;> exact ⟨rfl, rfl⟩
  · rw [shp]
    exact shpL_map _ (fun x => by split <;> simp [shp]) r
  · rw [List.all_map]
    simp
    exact ⟨1, h1, by simp [isI]⟩
theorem Cx1.strs (c : Cx1 b n A r B) : OddOk b A B (.lst (r.map fun x => D.str (toString x))) := by
  have hl := c.rl
  have h7 := c.n7
  have h1 := c.n1
  refine c.bad ⟨rfl, fun ps e => ?_⟩ (cp_lst (by simp; omega) fun y hy => ?_) ?_ (.inr (.inl ⟨_, rfl, ?_⟩))
  · cases e
    refine ⟨by simp; omega, fun p hp => ?_⟩
    obtain ⟨x, _, rfl⟩ := List.mem_map.mp hp
    rfl
  · obtain ⟨x, _, rfl⟩ := List.mem_map.mp hy
    exact ⟨rfl, rfl⟩
  · rw [shp]
    exact shpL_map _ (fun x => by simp only [shp]; exact ofString_ok _) r
  · rw [List.all_map]
    cases r with
    | nil => simp at hl; omega
    | cons x r => simp [isI]
theorem Cx1.neg (c : Cx1 b n A r B) : OddOk b A B (lI (r.map (-1 * ·))) := by
  have hl := c.rl
  have hb13 := c.bd r (by simp)
  have hf := c.hb.f
  unfold Fld at hf
  refine c.mult ?_ (by simp [hl]) ?_ fun z => ?_
  · refine Bd.mono (m := 13) (fun x hx => ?_) (by decide)
    obtain ⟨y, hy, rfl⟩ := List.mem_map.mp hx
    have := hb13 y hy
    omega
  · rcases hf with h0 | ⟨h2, h97⟩
    · subst h0
      rw [P0_mul (-1) (by decide)]
      exact (c.s.row r (by simp)).pl
    · refine P_mult (c := -1) h2 (c.u r (by simp) (by omega)) c.rh (by simp) ⟨b - 1, by omega, by omega, ?_⟩ fun k hk => ?_
      · have : (-1 : Int) * (b - 1) = 1 + b * (-1) := by omega
        rw [this, Int.add_mul_emod_self_left]
        exact Int.emod_eq_of_lt (by omega) (by omega)
      · rw [col_map _ _ _ hk]
  · have h := col_map (-1 * ·) r (hv r) (hv_lt c.rh)
    rw [z] at h
    have := c.pos
    omega
theorem Cx1.plus (c : Cx1 b n A r B) (hb0 : 0 < b) : OddOk b A B (lI (r.map (· + b))) := by
  have hl := c.rl
  have hb13 := c.bd r (by simp)
  have hf := c.hb.f
  unfold Fld at hf
  refine c.mult ?_ (by simp [hl]) ?_ fun z => ?_
  · refine Bd.mono (m := 14) (fun x hx => ?_) (by decide)
    obtain ⟨y, hy, rfl⟩ := List.mem_map.mp hx
    have := hb13 y hy
    omega
  · refine P_mult (c := 1) (by omega) (c.u r (by simp) (by omega)) c.rh (by simp) ⟨1, by omega, by omega, Int.emod_eq_of_lt (by omega) (by omega)⟩ fun k hk => ?_
    rw [col_map _ _ _ hk, Int.one_mul, Int.add_emod_right]
  · have h := col_map (· + b) r (hv r) (hv_lt c.rh)
    rw [z] at h
    omega
theorem Cx1.minus (c : Cx1 b n A r B) (hb0 : 0 < b) (hm : b - 1 ∈ r) : OddOk b A B (lI (r.map fun x => if x = b - 1 then -1 else x)) := by
  have hl := c.rl
  have hb13 := c.bd r (by simp)
  have hf := c.hb.f
  unfold Fld at hf
  refine c.mult ?_ (by simp [hl]) ?_ fun z => ?_
  · refine Bd.mono (m := 13) (fun x hx => ?_) (by decide)
    obtain ⟨y, hy, rfl⟩ := List.mem_map.mp hx
    have := hb13 y hy
    split <;> omega
  · refine P_mult (c := 1) (by omega) (c.u r (by simp) (by omega)) c.rh (by simp) ⟨1, by omega, by omega, Int.emod_eq_of_lt (by omega) (by omega)⟩ fun k hk => ?_
    rw [col_map _ _ _ hk, Int.one_mul]
    show (if col r k = b - 1 then -1 else col r k) % b = _
    split
    · rename_i e
      rw [e, show (-1 : Int) = b - 1 + b * (-1) by omega, Int.add_mul_emod_self_left]
    · rfl
  · obtain ⟨i, hi, e⟩ := List.getElem_of_mem hm
    have h := congrArg (fun l : List Int => l[i]?) z
    simp [hi, e] at h
    omega
theorem Cx1.two0 (c : Cx1 b n A r B) (hb0 : b = 0) : OddOk b A B (lI (r.map (2 * ·))) := by
  have hl := c.rl
  have hb13 := c.bd r (by simp)
  refine c.mult ?_ (by simp [hl]) ?_ fun z => ?_
  · refine Bd.mono (m := 14) (fun x hx => ?_) (by decide)
    obtain ⟨y, hy, rfl⟩ := List.mem_map.mp hx
    have := hb13 y hy
    omega
  · subst hb0
    rw [P0_mul 2 (by decide)]
    exact (c.s.row r (by simp)).pl
  · have h := col_map (2 * ·) r (hv r) (hv_lt c.rh)
    rw [z] at h
    have := c.pos
    omega
theorem Cx1.two (c : Cx1 b n A r B) (hb2 : 2 < b) : OddOk b A B (lI (r.map fun x => 2 * x % b)) := by
  have hl := c.rl
  have hodd := c.hb.odd hb2
  have hf := c.hb.f
  unfold Fld at hf
  have u := c.u r (by simp) (by omega)
  refine c.mult ?_ (by simp [hl]) ?_ fun z => ?_
  · refine Bd.mono (m := 7) (fun x hx => ?_) (by decide)
    obtain ⟨y, hy, rfl⟩ := List.mem_map.mp hx
    have h1 := Int.emod_nonneg (2 * y) (show b ≠ 0 by omega)
    have h2 := Int.emod_lt_of_pos (2 * y) (show 0 < b by omega)
    omega
  · refine P_mult (c := 2) (by omega) u c.rh (by simp) ⟨(b + 1) / 2, by omega, by omega, ?_⟩ fun k hk => ?_
    · have : 2 * ((b + 1) / 2) = 1 + b * 1 := by omega
      rw [this, Int.add_mul_emod_self_left]
      exact Int.emod_eq_of_lt (by omega) (by omega)
    · rw [col_map _ _ _ hk]
      exact Int.emod_emod_of_dvd _ (Int.dvd_refl _)
  · have h := col_map (fun x => 2 * x % b) r (hv r) (hv_lt c.rh)
    rw [z, u.one] at h
    have : (2 : Int) * 1 % b = 2 := Int.emod_eq_of_lt (by omega) (by omega)
    have h2 : (1 : Int) = 2 * 1 % b := h
    omega
theorem Cx1.more (c : Cx1 b n A r B) (h : A ++ B ≠ []) : OddOk b A B (lI (r ++ [0])) := by
  have hl := c.rl
  have h7 := c.n7
  exact c.bad (okEl_row (by simp; omega)) (cp_row (by simp; omega)) shp_lI (.inr (.inr ⟨_, rfl, by simp; omega, h⟩))
theorem Cx1.less (c : Cx1 b n A r B) (h : A ++ B ≠ []) : OddOk b A B (lI r.dropLast) := by
  have hl := c.rl
  have h1 := c.n1
  have h7 := c.n7
  exact c.bad (okEl_row (by simp; omega)) (cp_row (by simp; omega)) shp_lI (.inr (.inr ⟨_, rfl, by simp; omega, h⟩))
theorem Cx1.flat (c : Cx1 b n A r B) {x : D} (hx : x = .non ∨ x = .int 7 ∨ x = .str "ab") : OddOk b A B x := by
  rcases hx with rfl | rfl | rfl
  · exact c.bad ⟨rfl, fun ps e => by cases e⟩ ⟨rfl, rfl⟩ rfl (.inl rfl)
  · exact c.bad ⟨rfl, fun ps e => by cases e⟩ ⟨rfl, rfl⟩ rfl (.inl rfl)
  · exact c.bad ⟨rfl, fun ps e => by cases e⟩ ⟨rfl, rfl⟩ (by simp only [shp]; exact ofString_ok _) (.inl rfl)
end
end K21
set_option Elab.async false
set_option linter.all false
set_option maxRecDepth 100000
set_option maxHeartbeats 4000000
set_option autoImplicit false
set_option exponentiation.threshold 2000
/-! N17: bbent walked. -/
namespace K21
open PySem PySem.Spec PyProof.Rows L2 RZ DL SH
section
variable {b : Int} {n at_ : Nat} {S : List (List Int)} {r : List Int} {s : Strm} {J : Wd} {E : DX → Wd → Prop} {N : Nat}
structure Cx2 (b : Int) (n : Nat) (S : List (List Int)) (at_ : Nat) (r : List Int) : Prop where
  ix : S[at_]? = some r
  c : Cx1 b n (S.take at_) r (S.drop (at_ + 1))
  e : S = S.take at_ ++ r :: S.drop (at_ + 1)
  hb : IsBy b
  d : Drawn b n S
theorem split_at {α : Type} {S : List α} {i : Nat} {r : α} (h : S[i]? = some r) : S = S.take i ++ r :: S.drop (i + 1) := by
  obtain ⟨hi, e⟩ := List.getElem?_eq_some_iff.mp h
  rw [← e, ← List.drop_eq_getElem_cons hi, List.take_append_drop]
theorem Cx2.of (hb : IsBy b) (d : Drawn b n S) (h1 : 1 ≤ n) (h7 : n ≤ 7) (h : S[at_]? = some r) : Cx2 b n S at_ r := by
  have e := split_at h
  have sp := d.spa (by omega)
  refine ⟨h, ⟨hb, h1, h7, by rw [← e]; exact sp, by rw [← e]; exact d.le, fun q hq => (d.rows q (by rw [e]; exact hq)).2.1, fun q hq => (d.rows q (by rw [e]; exact hq)).2.2.1, (d.rows r (by rw [e]; simp)).2.2.2⟩, e, hb, d⟩
theorem Cx2.k (c : Cx2 b n S at_ r) : S.length ≤ 7 := by have := c.d.le; have := c.c.n7; omega
theorem Cx2.lt (c : Cx2 b n S at_ r) : at_ < S.length := (List.getElem?_eq_some_iff.mp c.ix).1
/-- the slots of bbent -/
abbrev bE (b : Int) (n : Nat) (S : List (List Int)) (at_ : Nat) (r : List Int) (y7 y8 y9 y10 : Option RV) : DL.Env :=
  [some (.r 1), some (.d (lR S)), some (.d (.int b)), some (.d (.int (at_ : Nat))), some (.d (lI r)), some (.d (.int (n : Nat))), some (.d (.int (hv r : Nat))), y7, y8, y9, y10, none, none, none, none]
def FinB (b : Int) (N : Nat) (J : Wd) (QS : Fl × DL.Env → Wd → Prop) : Prop := ∀ (t : D) (s' : Strm) (δ : DL.Env), Bent b t → s'.ok (N + 2) → QS (.rt (.d t), δ) (s'.W J)
/-- two rows of a drawn space mixed -/
theorem mix_bent (hb : IsBy b) (d : Drawn b n S) (h1 : 1 ≤ n) (h7 : n ≤ 7) {i j : Nat} {a c : List Int} (hij : i < j) (hi : S[i]? = some a) (hj : S[j]? = some c) : Bent b (lR (S.take i ++ add2 a c :: S.drop (i + 1))) := by
  have e1 := split_at hi
  have hj2 : (S.drop (i + 1))[j - (i + 1)]? = some c := by rw [List.getElem?_drop, show i + 1 + (j - (i + 1)) = j by omega]; exact hj
  have e2 := split_at hj2
  have sp := d.spa (show n < 1000 by omega)
  have am : a ∈ S := List.mem_of_getElem? hi
  have cm : c ∈ S := List.mem_of_getElem? hj
  obtain ⟨ra, ba, ua, _⟩ := d.rows a am
  obtain ⟨rc, bc, uc, _⟩ := d.rows c cm
  obtain ⟨hi', ea⟩ := List.getElem?_eq_some_iff.mp hi
  obtain ⟨hj', ec⟩ := List.getElem?_eq_some_iff.mp hj
  have lt : Lt a c := by
    have := List.pairwise_iff_getElem.mp d.pw i j hi' hj' hij
    rwa [ea, ec] at this
  have hl : a.length = c.length := by rw [ra.len, rc.len]
  have hf := hb.f
  unfold Fld at hf
  have mx : ∃ x y, P b (add2 a c) = x ∧ Mix b n a c x y := by
    rcases hf with h0 | ⟨h2, h97⟩
    · subst h0
      exact mix0 ra rc (ba.mono (by decide)) (bc.mono (by decide)) lt
    · exact mixP h2 h97 ra rc (ua (by omega)) (uc (by omega)) lt
  obtain ⟨x, y, hx, m⟩ := mx
  rw [e2] at e1 ⊢
  rw [e1] at sp
  have dl := d.le
  have := bent_mixed (x' := add2 a c) hb (by omega) h1 sp (by rw [← e1]; omega) m hx (Bd.mono (m := 14) (Bd.of_col fun k _ => by
    rw [add_col hl]
    have h3 := ba.col k
    have h4 := bc.col k
    have := Int.natAbs_add_le (col a k) (col c k)
    omega) (by decide)) (by rw [zipW_len hl, ra.len]) fun z => by
      have h5 : col (add2 a c) (hv c) = col a (hv c) := congrArg (fun q => col q (hv c)) z
      rw [add_col hl, lt.2] at h5
      have := hv_ne rc.hd
      omega
  exact this
theorem Cx2.dup (c : Cx2 b n S at_ r) : Bent b (lR (S ++ [r])) := by
  have h7 := c.c.n7
  have := bent_dup (r := r) c.hb (by omega) c.c.n1 c.c.s (by have := c.c.k; omega) (c.c.u r (by simp))
  rwa [← c.e] at this
theorem rot_bent (hb : IsBy b) (d : Drawn b n S) (h1 : 1 ≤ n) (h7 : n ≤ 7) (hk : 1 < S.length) : Bent b (lR (S.drop 1 ++ S.take 1)) := by
  cases S with
  | nil => simp at hk
  | cons q S =>
    have dl := d.le
    have dl2 : (q :: S).length ≤ 40 := by omega
    exact bent_rot hb (by omega) h1 (d.spa (by omega)) dl2 fun z => by subst z; simp at hk
theorem far_lc {a0 a1 a2 a4 a5 a6 a7 a8 a9 a10 a11 a12 a14 : Option RV} {at_ k : Nat} {W : Wd} {Q : RV → Wd → Prop} (hk : k < 100) : wpM (lcF false (gtName 13) p__law_bbent_q3 p__law_bbent_e2 [a0, a1, a2, some (.d (.int (at_ : Nat))), a4, a5, a6, a7, a8, a9, a10, a11, a12, none, a14] (DL.intsFrom 0 k)) W Q E = Q (.d (.lst (((List.range k).filter fun j => !decide (j = at_)).map fun j : Nat => D.int (j : Int)))) W := by
  have e : DL.intsFrom 0 k = (List.range k).map fun j : Nat => D.int (j : Int) := by unfold DL.intsFrom; simp
  rw [e]
  refine lc_eq (List.range k) _ _ (fun j => !decide (j = at_)) (by simp; exact small_line (by omega)) fun j hj => ?_
  have : ((j : Int) = at_) = (j = at_) := by apply propext; omega
  simp [p__law_bbent_q3, p__law_bbent_e2, this]
theorem mixed_lc {a0 a1 a2 a3 a4 a5 a6 a7 a8 a9 a10 a11 a13 : Option RV} {p q : List Int} {W : Wd} {Q : RV → Wd → Prop} (hp : p.length < 1000) : wpM (lcF false (gtUnp 2 (gtCons (gtName 12) (gtCons (gtName 14) gtNil))) evYes p__law_bbent_e1 [a0, a1, a2, a3, a4, a5, a6, a7, a8, a9, a10, a11, none, a13, none] (zipD (dI p) (dI q))) W Q E = Q (.d (lI (add2 p q))) W := by
  refine lc_zip p q (fun z => z.1 + z.2) (small_line (by omega)) fun z hz => ?_
  simp [p__law_bbent_e1]
/-- there is another place -/
structure far_ne (at_ k : Nat) : Prop where
  lt : at_ < k
  two : 1 < k
theorem far_ne.pos {at_ k : Nat} (h : far_ne at_ k) : 0 < (((List.range k).filter fun j => !decide (j = at_)).map fun j : Nat => D.int (j : Int)).length := by
  have h1 := h.lt
  have h2 := h.two
  refine List.length_pos_of_mem (a := D.int ((if at_ = 0 then 1 else 0 : Nat) : Int)) (List.mem_map.mpr ⟨if at_ = 0 then 1 else 0, ?_, rfl⟩)
  simp
  split <;> omega
theorem far_small {at_ k : Nat} (h : k < 1000) : (((List.range k).filter fun j => !decide (j = at_)).map fun j : Nat => D.int (j : Int)).length < 10000 := by
  have := List.length_filter_le (fun j => !decide (j = at_)) (List.range k)
  simp at this ⊢
  omega
theorem b_s4 (c : Cx2 b n S at_ r) (ok : s.ok N) (hN : N < 900000000) {found : List D} (hf : ∀ t ∈ found, Bent b t) (h0 : 0 < found.length) (hl : found.length < 100) {y7 y9 y10 : Option RV} {QS : Fl × DL.Env → Wd → Prop} (fin : FinB b N J QS) :
    wpM (p__law_bbent_s4 (bE b n S at_ r y7 (some (.d (.lst found))) y9 y10)) (s.W J) QS E := by
  have hk := c.k
  have last : ∀ (s1 : Strm) (fs : List D) (y9 y10 : Option RV) (E : DX → Wd → Prop), s1.ok (N + 1) → (∀ t ∈ fs, Bent b t) → 0 < fs.length → fs.length < 1000 → wpM (evRet (evCallF 2 f__law_pick (evCons (evVar 0) (evCons (evVar 8) evNil))) (bE b n S at_ r y7 (some (.d (.lst fs))) y9 y10)) (s1.W J) QS E := fun s1 fs y9 y10 E ok1 h1 h2 h3 => by
    simp
    refine pickM ok1 (by omega) h2 (by omega) _ fun x s2 hx ok2 => ?_
    simp
    exact fin x s2 _ (h1 x hx) ok2
  simp [p__law_bbent_s4]
  by_cases h2 : 1 < S.length
  · have h2' : (1 : Int) < S.length := by omega
    simp [h2', wipeD]
    rw [far_lc (by omega)]
    simp
    refine ⟨by omega, ?_⟩
    refine pickM ok (by omega) ?_ ?_ _ fun x s1 hx ok1 => ?_
    · have e1 : far_ne at_ S.length := ⟨c.lt, h2⟩
      exact e1.pos
    · exact far_small (k := S.length) (by omega)
    · simp at hx
      obtain ⟨j, ⟨hj, hne⟩, rfl⟩ := hx
      have hat := c.lt
      have ha := c.ix
      obtain ⟨d, hd⟩ : ∃ d, S[j]? = some d := ⟨_, List.getElem?_eq_getElem hj⟩
      have hal : r.length < 1000 := by have := (c.d.rows r (List.mem_of_getElem? ha)).1.len; have := c.c.n7; omega
      have hdl : d.length < 1000 := by have := (c.d.rows d (List.mem_of_getElem? hd)).1.len; have := c.c.n7; omega
      have dup := c.dup
      have rot := rot_bent c.hb c.d c.c.n1 c.c.n7 h2
      have e0 : cutL (List.map lI S) none (some 1) = (S.map lI).take 1 := cutL_take _ 1
      have e1 : cutL (List.map lI S) (some 1) none = (S.map lI).drop 1 := cutL_drop _ 1
      rcases Nat.lt_or_gt_of_ne hne with hlt | hlt
      · have mix := mix_bent c.hb c.d c.c.n1 c.c.n7 hlt hd ha
        have hlt' : ¬ at_ < j := by omega
        simp [hlt, hlt', atI_nat', hd, ha, wipeD]
        rw [mixed_lc hdl]
        simp [hlt, hlt', cutL_take, cutL_drop, cutL_drop1, atI_nat', ha]
        refine ⟨small_le (by omega), ?_⟩
        rw [w_newL_p (ds := (S.take j).map lI ++ [lI (add2 d r)]) (by simp)]
        simp [hlt, hlt', cutL_take, cutL_drop, cutL_drop1, atI_nat', ha]
        refine ⟨small_le (by omega), ?_⟩
        rw [w_newL_p (ds := (S.take j).map lI ++ lI (add2 d r) :: (S.drop (j + 1)).map lI) (by simp)]
        simp [hlt, hlt', cutL_take, cutL_drop, cutL_drop1, atI_nat', ha]
        refine ⟨by rw [e0, e1]; exact small_le (by simp; omega), small_le (by omega), small_le (by omega), ?_⟩
        rw [w_newL_p (ds := found ++ [lR (S.take j ++ add2 d r :: S.drop (j + 1)), lR (S.drop 1 ++ S.take 1), lR (S ++ [r])]) (by simp [e0, e1])]
        simp
        have := last s1 (found ++ [lR (S.take j ++ add2 d r :: S.drop (j + 1)), lR (S.drop 1 ++ S.take 1), lR (S ++ [r])]) (some (.d (.int (j : Nat)))) (some (.d (lI (add2 d r)))) E ok1 (fun t ht => by
          simp at ht
          rcases ht with h | h | h | h
          · exact hf t h
          · subst h; simpa using mix
          · subst h; simpa using rot
          · subst h; simpa using dup) (by simp) (by simp; omega)
        simpa using this
      · have hlt' : ¬ j < at_ := by omega
        have hlt2 : at_ < j := hlt
        have mix := mix_bent c.hb c.d c.c.n1 c.c.n7 hlt ha hd
        simp [hlt', hlt2, atI_nat', hd, ha, wipeD]
        rw [mixed_lc hal]
        simp [hlt', hlt2, cutL_take, cutL_drop, cutL_drop1, atI_nat', ha]
        refine ⟨small_le (by omega), ?_⟩
        rw [w_newL_p (ds := (S.take at_).map lI ++ [lI (add2 r d)]) (by simp)]
        simp [hlt2, hlt', cutL_take, cutL_drop, cutL_drop1, atI_nat', ha]
        refine ⟨small_le (by omega), ?_⟩
        rw [w_newL_p (ds := (S.take at_).map lI ++ lI (add2 r d) :: (S.drop (at_ + 1)).map lI) (by simp)]
        simp [hlt2, hlt', cutL_take, cutL_drop, cutL_drop1, atI_nat', ha]
        refine ⟨by rw [e0, e1]; exact small_le (by simp; omega), small_le (by omega), small_le (by omega), ?_⟩
        rw [w_newL_p (ds := found ++ [lR (S.take at_ ++ add2 r d :: S.drop (at_ + 1)), lR (S.drop 1 ++ S.take 1), lR (S ++ [r])]) (by simp [e0, e1])]
        simp
        have := last s1 (found ++ [lR (S.take at_ ++ add2 r d :: S.drop (at_ + 1)), lR (S.drop 1 ++ S.take 1), lR (S ++ [r])]) (some (.d (.int (j : Nat)))) (some (.d (lI (add2 r d)))) E ok1 (fun t ht => by
          simp at ht
          rcases ht with h | h | h | h
          · exact hf t h
          · subst h; simpa using mix
          · subst h; simpa using rot
          · subst h; simpa using dup) (by simp) (by simp; omega)
        simpa using this
  · have h2' : ¬ (1 : Int) < S.length := by omega
    simp [h2']
    have := last s found y9 y10 E (ok.mono (by omega)) hf h0 (by omega)
    simpa using this
theorem found_lc {odd : List D} {y7 y8 y9 y10 : Option RV} {W : Wd} {Q : RV → Wd → Prop} (hl : odd.length < 100) (hS : S.length < 1000) (hs : ∀ x ∈ odd, shp 60 x = true) :
    wpM (lcF false (gtName 13) p__law_bbent_q6 p__law_bbent_e5 (bE b n S at_ r y7 y8 y9 y10) odd) W Q E = Q (.d (.lst ((odd.filter fun x => decide (b ≠ 2) || !deq x (lI r)).map fun x => put1 (S.take at_) x (S.drop (at_ + 1))))) W := by
  have := lc_eq (T := gtName 13) (Ta := p__law_bbent_q6) (F := p__law_bbent_e5) (δ := bE b n S at_ r y7 y8 y9 y10) (W := W) (Q := Q) (E := E) odd id (fun x => put1 (S.take at_) x (S.drop (at_ + 1))) (fun x => decide (b ≠ 2) || !deq x (lI r)) (small_line (by omega)) (fun x hx => by
    have e : wpM (opEq true (.d x) (.d (lI r))) = wpM (M.ret (.d (.bl (deq x (lI r) != true)))) := by
      funext W Q E
      exact w_eq (hs x hx) shp_lI
    have bd : ∀ δ1 W1, δ1 = bE b n S at_ r y7 y8 y9 y10 → wpM (p__law_bbent_e5 (δ1.set 13 (some (.d x)))) W1 (fun v W3 => v = .d (put1 (S.take at_) x (S.drop (at_ + 1))) ∧ W3 = W1) fun _ _ => False := fun δ1 W1 h => by
      subst h
      simp [p__law_bbent_e5, cutL_take, cutL_drop, cutL_drop1]
      refine ⟨small_le (by omega), ?_⟩
      rw [w_newL_p (ds := (S.take at_).map lI ++ [x]) (by simp)]
      simp [cutL_take, cutL_drop, cutL_drop1]
      refine ⟨small_le (by omega), ?_⟩
      rw [w_newL_p (ds := (S.take at_).map lI ++ x :: (S.drop (at_ + 1)).map lI) (by simp)]
      simp
    by_cases hb : b = 2
    · simp [p__law_bbent_q6, hb, e]
      intro _
      have := bd _ W rfl
      simpa [hb] using this
    · simp [p__law_bbent_q6, hb]
      have := bd _ W rfl
      simpa using this)
  simpa using this
theorem b_s7 (c : Cx2 b n S at_ r) (ok : s.ok N) (hN : N < 900000000) {odd : List D} (ho : ∀ x ∈ odd, OddOk b (S.take at_) (S.drop (at_ + 1)) x) (h0 : D.non ∈ odd) (hl : odd.length < 50) {y8 y9 y10 : Option RV} {QS : Fl × DL.Env → Wd → Prop} (fin : FinB b N J QS) :
    wpM (p__law_bbent_s7 (bE b n S at_ r (some (.d (.lst odd))) y8 y9 y10)) (s.W J) QS E := by
  have hk := c.k
  simp [p__law_bbent_s7, wipeD]
  generalize hB : p__law_bbent_s4 = B
  rw [found_lc (by omega) (by omega) fun x hx => (ho x hx).2]
  simp
  subst hB
  have hm : put1 (S.take at_) .non (S.drop (at_ + 1)) ∈ (odd.filter fun x => decide (b ≠ 2) || !deq x (lI r)).map fun x => put1 (S.take at_) x (S.drop (at_ + 1)) := List.mem_map.mpr ⟨_, List.mem_filter.mpr ⟨h0, by simp [deq]⟩, rfl⟩
  have hlen := List.length_filter_le (fun x => decide (b ≠ 2) || !deq x (lI r)) odd
  have := b_s4 (E := E) (y7 := some (.d (.lst odd))) (y9 := y9) (y10 := y10) c ok hN (found := (odd.filter fun x => decide (b ≠ 2) || !deq x (lI r)).map fun x => put1 (S.take at_) x (S.drop (at_ + 1))) (fun t ht => by
    obtain ⟨x, hx, rfl⟩ := List.mem_map.mp ht
    exact (ho x (List.mem_filter.mp hx).1).1) (List.length_pos_of_mem hm) (by rw [List.length_map]; omega) fin
  simpa using this
end
end K21
set_option Elab.async false
set_option linter.all false
set_option maxRecDepth 100000
set_option maxHeartbeats 4000000
set_option autoImplicit false
set_option exponentiation.threshold 2000
/-! N18: bbent walked, its first half. -/
namespace K21
open PySem PySem.Spec PyProof.Rows L2 RZ DL SH
section
variable {b : Int} {n at_ : Nat} {S : List (List Int)} {r : List Int} {s : Strm} {J : Wd} {E : DX → Wd → Prop} {N : Nat}
abbrev Odds (b : Int) (at_ : Nat) (S : List (List Int)) (odd : List D) : Prop := ∀ x ∈ odd, OddOk b (S.take at_) (S.drop (at_ + 1)) x
theorem Odds.app {odd ex : List D} (h : Odds b at_ S odd) (h2 : Odds b at_ S ex) : Odds b at_ S (odd ++ ex) := fun x hx => by
  rcases List.mem_append.mp hx with h' | h'
  · exact h x h'
  · exact h2 x h'
theorem lI_fn (f : Int → Int) (r : List Int) : D.lst (r.map fun x => D.int (f x)) = lI (r.map f) := by
  show _ = D.lst ((r.map f).map D.int)
  rw [List.map_map]; rfl
theorem row_lc (f : Int → Int) {T : RV → DL.Env → M DL.Env} {F : DL.Env → M RV} {δ : DL.Env} {W : Wd} {Q : RV → Wd → Prop} (hr : r.length < 1000)
    (step : ∀ x ∈ r, wpM (T (.d (.int x)) δ) W (fun δ1 W1 => wpM (F δ1) W1 (fun v W3 => v = .d (.int (f x)) ∧ W3 = W) fun _ _ => False) fun _ _ => False) :
    wpM (lcF false T evYes F δ (dI r)) W Q E = Q (.d (lI (r.map f))) W := by
  rw [← lI_fn]
  exact lc_map r D.int (fun x => D.int (f x)) (small_line (by omega)) step
theorem e8_lc {δ : DL.Env} (hδ : δ.length = 15) {W : Wd} {Q : RV → Wd → Prop} (hr : r.length < 1000) (hb : Bd 13 r) :
    wpM (lcF false (gtName 12) evYes p__law_bbent_e8 δ (dI r)) W Q E = Q (.d (lI (r.map (2 * ·)))) W :=
  row_lc (2 * ·) hr fun x hx => by
    simp [p__law_bbent_e8, hδ]
    exact cmulw (by decide) (Nat.lt_trans (hb x hx) (by decide))
theorem e9_lc {y0 y1 y3 y4 y5 y6 y7 y8 y9 y10 y11 y13 y14 : Option RV} {W : Wd} {Q : RV → Wd → Prop} (hr : r.length < 1000) (hb : Bd 13 r) (h0 : 0 < b) :
    wpM (lcF false (gtName 12) evYes p__law_bbent_e9 [y0, y1, some (.d (.int b)), y3, y4, y5, y6, y7, y8, y9, y10, y11, none, y13, y14] (dI r)) W Q E = Q (.d (lI (r.map fun x => 2 * x % b))) W :=
  row_lc (fun x => 2 * x % b) hr fun x hx => by
    simp [p__law_bbent_e9]
    exact ⟨cmulw (by decide) (Nat.lt_trans (hb x hx) (by decide)), h0⟩
theorem e12_lc {y0 y1 y3 y4 y5 y6 y7 y8 y9 y10 y11 y13 y14 : Option RV} {W : Wd} {Q : RV → Wd → Prop} (hr : r.length < 1000) :
    wpM (lcF false (gtName 12) evYes p__law_bbent_e12 [y0, y1, some (.d (.int b)), y3, y4, y5, y6, y7, y8, y9, y10, y11, none, y13, y14] (dI r)) W Q E = Q (.d (lI (r.map (· + b)))) W :=
  row_lc (· + b) hr fun x hx => by
    simp [p__law_bbent_e12]
theorem e11_lc {y0 y1 y3 y4 y5 y6 y7 y8 y9 y10 y11 y13 y14 : Option RV} {W : Wd} {Q : RV → Wd → Prop} (hr : r.length < 1000) :
    wpM (lcF false (gtName 12) evYes p__law_bbent_e11 [y0, y1, some (.d (.int b)), y3, y4, y5, y6, y7, y8, y9, y10, y11, none, y13, y14] (dI r)) W Q E = Q (.d (lI (r.map fun x => if x = b - 1 then -1 else x))) W :=
  row_lc (fun x => if x = b - 1 then -1 else x) hr fun x hx => by
    by_cases h : x = b - 1
    · simp [p__law_bbent_e11, h]
    · simp [p__law_bbent_e11, h]
theorem e14_lc {δ : DL.Env} (hδ : δ.length = 15) {W : Wd} {Q : RV → Wd → Prop} (hr : r.length < 1000) :
    wpM (lcF false (gtName 12) evYes p__law_bbent_e14 δ (dI r)) W Q E = Q (.d (lI (r.map (-1 * ·)))) W :=
  row_lc (-1 * ·) hr fun x hx => by
    simp [p__law_bbent_e14, hδ]
theorem w_bStr {W : Wd} {Q : RV → Wd → Prop} {i : Int} : wpM (bStr [.d (.int i)]) W Q E = (i.natAbs.log2 < 1920 ∧ Q (.d (.str (toString i))) W) := by
  show wpM ((M.guard _).bind _) W Q E = _
  rw [w_bind, w_guard]; rfl
theorem e15_lc {δ : DL.Env} (hδ : δ.length = 15) {W : Wd} {Q : RV → Wd → Prop} (hr : r.length < 1000) (hb : Bd 13 r) :
    wpM (lcF false (gtName 12) evYes p__law_bbent_e15 δ (dI r)) W Q E = Q (.d (.lst (r.map fun x => D.str (toString x)))) W :=
  lc_map r D.int (fun x => D.str (toString x)) (small_line (by omega)) fun x hx => by
    simp [p__law_bbent_e15, hδ, w_bStr]
    exact log2_lt (Nat.lt_trans (hb x hx) (by decide)) (by decide)
theorem e18_lc {δ : DL.Env} (hδ : δ.length = 15) {W : Wd} {Q : RV → Wd → Prop} (hr : r.length < 1000) :
    wpM (lcF false (gtName 12) evYes p__law_bbent_e18 δ (dI r)) W Q E = Q (.d (.lst (r.map fun x => if x = 1 then D.bl true else .int x))) W :=
  lc_map r D.int (fun x => if x = 1 then D.bl true else .int x) (small_line (by omega)) fun x hx => by
    by_cases h : x = 1
    · simp [p__law_bbent_e18, hδ, h]
    · simp [p__law_bbent_e18, hδ, h]
theorem b_s10 (c : Cx2 b n S at_ r) (ok : s.ok N) (hN : N < 900000000) {odd : List D} (ho : Odds b at_ S odd) (h0 : D.non ∈ odd) (hl : odd.length < 40) {y8 y9 y10 : Option RV} {QS : Fl × DL.Env → Wd → Prop} (fin : FinB b N J QS) :
    wpM (p__law_bbent_s10 (bE b n S at_ r (some (.d (.lst odd))) y8 y9 y10)) (s.W J) QS E := by
  have hrl : r.length < 1000 := by have := c.c.rl; have := c.c.n7; omega
  have bd : Bd 13 r := c.c.bd r (by simp)
  have go : ∀ (ex : List D) (E : DX → Wd → Prop), Odds b at_ S ex → ex.length < 3 → wpM (p__law_bbent_s7 (bE b n S at_ r (some (.d (.lst (odd ++ ex)))) y8 y9 y10)) (s.W J) QS E := fun ex E h1 h2 => b_s7 c ok hN (ho.app h1) (by simp [h0]) (by simp; omega) fin
  simp [p__law_bbent_s10, wipeD]
  generalize hB : p__law_bbent_s7 = B
  rw [hB] at go
  by_cases hb : b = 0
  · simp [hb, wipeD]
    rw [e8_lc rfl hrl bd]
    simp
    refine ⟨small_le (by omega), ?_⟩
    rw [w_newL_p (ds := odd ++ [lI (r.map (2 * ·))]) (by simp)]
    simp
    have := go [lI (r.map (2 * ·))] E (by intro x hx; simp at hx; subst hx; exact c.c.two0 hb) (by simp)
    simpa [hb] using this
  · by_cases hb2 : 2 < b
    · simp [hb, hb2, wipeD]
      rw [e9_lc hrl bd (by omega)]
      simp
      refine ⟨small_le (by omega), ?_⟩
      rw [w_newL_p (ds := odd ++ [lI (r.map fun x => 2 * x % b)]) (by simp)]
      simp
      have := go [lI (r.map fun x => 2 * x % b)] E (by intro x hx; simp at hx; subst hx; exact c.c.two hb2) (by simp)
      simpa using this
    · simp [hb, hb2, wipeD]
      refine ⟨small_le (by omega), ?_⟩
      have := go [] E (by intro x hx; cases hx) (by simp)
      simpa using this
theorem b_s13 (c : Cx2 b n S at_ r) (ok : s.ok N) (hN : N < 900000000) {odd : List D} (ho : Odds b at_ S odd) (h0 : D.non ∈ odd) (hl : odd.length < 35) {y8 y9 y10 : Option RV} {QS : Fl × DL.Env → Wd → Prop} (fin : FinB b N J QS) :
    wpM (p__law_bbent_s13 (bE b n S at_ r (some (.d (.lst odd))) y8 y9 y10)) (s.W J) QS E := by
  have hrl : r.length < 1000 := by have := c.c.rl; have := c.c.n7; omega
  have bd : Bd 13 r := c.c.bd r (by simp)
  have go : ∀ (ex : List D) (E : DX → Wd → Prop), Odds b at_ S ex → ex.length < 3 → wpM (p__law_bbent_s10 (bE b n S at_ r (some (.d (.lst (odd ++ ex)))) y8 y9 y10)) (s.W J) QS E := fun ex E h1 h2 => b_s10 c ok hN (ho.app h1) (by simp [h0]) (by simp; omega) fin
  simp [p__law_bbent_s13, wipeD]
  generalize hB : p__law_bbent_s10 = B
  rw [hB] at go
  by_cases hb : 0 < b
  · simp [hb, wipeD]
    rw [e12_lc hrl]
    simp
    by_cases hm : b - 1 ∈ r
    · simp [hm, wipeD]
      rw [e11_lc hrl]
      simp
      refine ⟨small_le (by omega), ?_⟩
      rw [w_newL_p (ds := odd ++ [lI (r.map (· + b)), lI (r.map fun x => if x = b - 1 then -1 else x)]) (by simp)]
      simp
      have := go [lI (r.map (· + b)), lI (r.map fun x => if x = b - 1 then -1 else x)] E (by
        intro x hx; simp at hx
        rcases hx with rfl | rfl
        · exact c.c.plus hb
        · exact c.c.minus hb hm) (by simp)
      simpa using this
    · simp [hm, wipeD]
      refine ⟨small_le (by omega), ?_⟩
      rw [w_newL_p (ds := odd ++ [lI (r.map (· + b)), .non]) (by simp)]
      simp
      have := go [lI (r.map (· + b)), .non] E (by
        intro x hx; simp at hx
        rcases hx with rfl | rfl
        · exact c.c.plus hb
        · exact c.c.flat (.inl rfl)) (by simp)
      simpa using this
  · simp [hb, wipeD]
    refine ⟨small_le (by omega), ?_⟩
    have := go [] E (by intro x hx; cases hx) (by simp)
    simpa using this
end
end K21
set_option Elab.async false
set_option linter.all false
set_option maxRecDepth 100000
set_option maxHeartbeats 4000000
set_option autoImplicit false
set_option exponentiation.threshold 2000
/-! N19: bbent walked, its second half. -/
namespace K21
open PySem PySem.Spec PyProof.Rows L2 RZ DL SH
section
variable {b : Int} {n at_ : Nat} {S : List (List Int)} {r : List Int} {s : Strm} {J : Wd} {E : DX → Wd → Prop} {N : Nat}
theorem neg_row {r : List Int} (h : hd r ≠ none) : r.take (hv r) ++ -(col r (hv r)) :: (r.drop (hv r + 1)).map (-1 * ·) = r.map (-1 * ·) := by
  have hl := hv_lt h
  have e : r = r.take (hv r) ++ r[hv r] :: r.drop (hv r + 1) := by rw [← List.drop_eq_getElem_cons hl, List.take_append_drop]
  have c : col r (hv r) = r[hv r] := by simp [col, hl]
  have z : (r.take (hv r)).map (-1 * ·) = r.take (hv r) := by
    have : (r.take (hv r)).map (-1 * ·) = (r.take (hv r)).map id := List.map_congr_left fun x hx => by
      obtain ⟨i, hi, e2⟩ := List.getElem_of_mem hx
      have hi' : i < hv r := by rw [List.length_take] at hi; omega
      have hi2 : i < r.length := by omega
      rw [List.getElem_take] at e2
      have z := hv_zero h hi'
      simp [col, hi2, e2] at z
      simp [z]
    rw [this, List.map_id]
  conv => rhs; rw [e, List.map_append, List.map_cons, z]
  rw [c]
  simp
theorem heads_filter : ∀ {r : List Int} {i : Nat} (k : Nat), hd r = some i → ∃ rest : List D, ((r.zipIdx k).filter fun p => decide (p.1 ≠ 0)).map (fun p => D.int (p.2 : Nat)) = D.int ((k + i : Nat) : Int) :: rest ∧ rest.length < r.length
  | x :: r, i, k, h => by
    rw [hd] at h
    by_cases e : x = 0
    · simp only [e, if_pos, Option.map_eq_some_iff] at h
      obtain ⟨j, hj, rfl⟩ := h
      obtain ⟨rest, h1, h2⟩ := heads_filter (k + 1) hj
      refine ⟨rest, ?_, by simp; omega⟩
      rw [List.zipIdx_cons, List.filter_cons_of_neg (by simp [e]), h1, show k + 1 + j = k + (j + 1) by omega]
    · simp only [e, if_false] at h
      cases h
      refine ⟨((r.zipIdx (k + 1)).filter fun p => decide (p.1 ≠ 0)).map (fun p => D.int (p.2 : Nat)), ?_, ?_⟩
      · rw [List.zipIdx_cons, List.filter_cons_of_pos (by simp [e])]
        rfl
      · have := List.length_filter_le (fun p : Int × Nat => decide (p.1 ≠ 0)) (r.zipIdx (k + 1))
        simp at this ⊢
        omega
theorem b_s16 (c : Cx2 b n S at_ r) (ok : s.ok N) (hN : N < 900000000) {odd : List D} (ho : Odds b at_ S odd) (h0 : D.non ∈ odd) (hl : odd.length < 30) {y8 y9 y10 : Option RV} {QS : Fl × DL.Env → Wd → Prop} (fin : FinB b N J QS) :
    wpM (p__law_bbent_s16 (bE b n S at_ r (some (.d (.lst odd))) y8 y9 y10)) (s.W J) QS E := by
  have hrl : r.length < 1000 := by have := c.c.rl; have := c.c.n7; omega
  have bd : Bd 13 r := c.c.bd r (by simp)
  have hh := hv_lt c.c.rh
  have hx : r[hv r]? = some (col r (hv r)) := by simp [col, hh]
  have go : ∀ (ex : List D) (E : DX → Wd → Prop), Odds b at_ S ex → ex.length < 3 → wpM (p__law_bbent_s13 (bE b n S at_ r (some (.d (.lst (odd ++ ex)))) y8 y9 y10)) (s.W J) QS E := fun ex E h1 h2 => b_s13 c ok hN (ho.app h1) (by simp [h0]) (by simp; omega) fin
  have fd := go [.lst (r.map fun x => D.str (toString x)), lI (r.map (-1 * ·))] E (by
        intro x hx; simp at hx
        rcases hx with rfl | rfl
        · exact c.c.strs
        · have := c.c.neg
          simpa using this) (by simp)
  simp [p__law_bbent_s16, wipeD]
  generalize hB : p__law_bbent_s13 = B
  rw [hB] at go fd
  rw [e15_lc rfl hrl bd]
  simp [cutL_take, cutL_drop, cutL_drop1, atI_nat', hx, wipeD]
  refine ⟨small_le (by omega), ?_⟩
  rw [w_newL_p (ds := dI (r.take (hv r)) ++ [.int (-col r (hv r))]) (by simp)]
  simp [cutL_take, cutL_drop, cutL_drop1, atI_nat', hx, wipeD]
  have ed : List.drop (hv r + 1) (dI r) = dI (r.drop (hv r + 1)) := by simp
  rw [ed, e14_lc rfl (by simp; omega)]
  simp
  refine ⟨small_le (by omega), ?_⟩
  rw [w_newL_p (ds := dI (r.map (-1 * ·))) (by rw [← neg_row c.c.rh]; simp)]
  simp
  refine ⟨small_le (by omega), ?_⟩
  rw [w_newL_p (ds := odd ++ [.lst (r.map fun x => D.str (toString x)), lI (r.map (-1 * ·))]) (by simp)]
  simpa using fd
theorem b_s17 (c : Cx2 b n S at_ r) (ok : s.ok N) (hN : N < 900000000) {odd : List D} (ho : Odds b at_ S odd) (h0 : D.non ∈ odd) (hl : odd.length < 25) {y8 y9 y10 : Option RV} {QS : Fl × DL.Env → Wd → Prop} (fin : FinB b N J QS) :
    wpM (p__law_bbent_s17 (bE b n S at_ r (some (.d (.lst odd))) y8 y9 y10)) (s.W J) QS E := by
  have hrl : r.length < 1000 := by have := c.c.rl; have := c.c.n7; omega
  have hat := c.lt
  have go : ∀ (ex : List D) (E : DX → Wd → Prop), Odds b at_ S ex → ex.length < 3 → wpM (p__law_bbent_s16 (bE b n S at_ r (some (.d (.lst (odd ++ ex)))) y8 y9 y10)) (s.W J) QS E := fun ex E h1 h2 => b_s16 c ok hN (ho.app h1) (by simp [h0]) (by simp; omega) fin
  simp [p__law_bbent_s17, wipeD]
  generalize hB : p__law_bbent_s16 = B
  rw [hB] at go
  by_cases h2 : 1 < S.length
  · have h2' : (1 : Int) < S.length := by omega
    simp [h2', wipeD]
    have ne : S.take at_ ++ S.drop (at_ + 1) ≠ [] := fun z => by
      have : (S.take at_ ++ S.drop (at_ + 1)).length = 0 := by rw [z]; rfl
      rw [List.length_append, List.length_take, List.length_drop] at this
      omega
    refine ⟨small_le (by omega), small_le (by omega), ?_⟩
    rw [w_newL_p (ds := odd ++ [lI (r ++ [0]), lI r.dropLast]) (by simp [cutL_init])]
    simp
    have := go [lI (r ++ [0]), lI r.dropLast] E (by
        intro x hx; simp at hx
        rcases hx with rfl | rfl
        · have := c.c.more ne
          simpa using this
        · have := c.c.less ne
          simpa using this) (by simp)
    simpa using this
  · have h2' : ¬ (1 : Int) < S.length := by omega
    simp [h2', wipeD]
    refine ⟨small_le (by omega), ?_⟩
    have := go [] E (by intro x hx; cases hx) (by simp)
    simpa using this
theorem b_s19 (c : Cx2 b n S at_ r) (ok : s.ok N) (hN : N < 900000000) {y7 y8 y9 y10 : Option RV} {QS : Fl × DL.Env → Wd → Prop} (fin : FinB b N J QS) {B19 : DL.Env → M (Fl × DL.Env)} (hB19 : p__law_bbent_s19 = B19) :
    wpM (B19 (bE b n S at_ r y7 y8 y9 y10)) (s.W J) QS E := by
  subst hB19
  have h7 := c.c.n7
  have hrl : r.length < 1000 := by have := c.c.rl; omega
  have go : ∀ (x : D) (E : DX → Wd → Prop), OddOk b (S.take at_) (S.drop (at_ + 1)) x → wpM (p__law_bbent_s17 (bE b n S at_ r (some (.d (.lst [.lst (List.replicate n (.int 0)), .non, .int 7, .str "ab", x]))) y8 y9 y10)) (s.W J) QS E := fun x E h1 => b_s17 c ok hN (by
      intro y hy; simp at hy
      rcases hy with rfl | rfl | rfl | rfl | rfl
      · have := c.c.zero
        have e : lI (List.replicate n 0) = D.lst (List.replicate n (.int 0)) := by
          show D.lst ((List.replicate n 0).map D.int) = _
          rw [List.map_replicate]
        rw [e] at this
        exact this
      · exact c.c.flat (.inl rfl)
      · exact c.c.flat (.inr (.inl rfl))
      · exact c.c.flat (.inr (.inr rfl))
      · exact h1) (by simp) (by simp) fin
  simp [p__law_bbent_s19, wipeD]
  generalize hB : p__law_bbent_s17 = B
  rw [hB] at go
  rw [w_rep1 (small_le (by omega))]
  simp
  by_cases h1 : (1 : Int) ∈ r
  · simp [h1, wipeD]
    rw [e18_lc rfl hrl]
    simp
    have := go _ E (c.c.truth h1)
    simpa using this
  · simp [h1, wipeD]
    have := go _ E (c.c.flat (.inl rfl))
    simpa using this
theorem b_s22 (c : Cx2 b n S at_ r) (ok : s.ok N) (hN : N < 900000000) {y7 y8 y9 y10 : Option RV} {QS : Fl × DL.Env → Wd → Prop} (fin : FinB b N J QS) :
    wpM (p__law_bbent_s22 [some (.r 1), some (.d (lR S)), some (.d (.int b)), some (.d (.int (at_ : Nat))), some (.d (lI r)), some (.d (.int (n : Nat))), none, y7, y8, y9, y10, none, none, none, none]) (s.W J) QS E := by
  have h7 := c.c.n7
  have hrl : r.length < 1000 := by have := c.c.rl; omega
  simp [p__law_bbent_s22, wipeD]
  generalize hB : p__law_bbent_s19 = B
  have go : ∀ E : DX → Wd → Prop, wpM (B (bE b n S at_ r y7 y8 y9 y10)) (s.W J) QS E := fun E => b_s19 c ok hN fin hB
  rw [enumD_map]
  have lc : ∀ (W : Wd) (Q : RV → Wd → Prop) (E : DX → Wd → Prop) δ, δ = [some (.r 1), some (.d (lR S)), some (.d (.int b)), some (.d (.int (at_ : Nat))), some (.d (lI r)), some (.d (.int (n : Nat))), none, y7, y8, y9, y10, none, none, none, none] → wpM (lcF false (gtUnp 2 (gtCons (gtName 11) (gtCons (gtName 12) gtNil))) p__law_bbent_q21 p__law_bbent_e20 δ (r.zipIdx.map fun p => D.tup [.int (p.2 : Nat), .int p.1])) W Q E = Q (.d (.lst ((r.zipIdx.filter fun p => decide (p.1 ≠ 0)).map fun p => D.int (p.2 : Nat)))) W := fun W Q E δ hd => by
    subst hd
    exact lc_eq r.zipIdx (fun p => D.tup [.int (p.2 : Nat), .int p.1]) (fun p => D.int (p.2 : Nat)) (fun p => decide (p.1 ≠ 0)) (by simp; exact small_line (by omega)) fun x hx => by
      simp [p__law_bbent_q21, p__law_bbent_e20]
  rw [lc _ _ _ _ rfl]
  obtain ⟨rest, h1, h2⟩ := heads_filter 0 (hv_of c.c.rh)
  rw [h1]
  simp [atI_0]
  have := go E
  simpa using this
theorem b_s23 (c : Cx2 b n S at_ r) (ok : s.ok N) (hN : N < 900000000) {QS : Fl × DL.Env → Wd → Prop} (fin : FinB b N J QS) {B23 : DL.Env → M (Fl × DL.Env)} (hB23 : p__law_bbent_s23 = B23) :
    wpM (B23 [some (.r 1), some (.d (lR S)), some (.d (.int b)), some (.d (.int (at_ : Nat))), none, none, none, none, none, none, none, none, none, none, none]) (s.W J) QS E := by
  subst hB23
  have hat := c.lt
  have go : ∀ E, wpM (p__law_bbent_s22 [some (.r 1), some (.d (lR S)), some (.d (.int b)), some (.d (.int (at_ : Nat))), some (.d (lI r)), some (.d (.int (n : Nat))), none, none, none, none, none, none, none, none, none]) (s.W J) QS E := fun E => b_s22 c ok hN fin
  simp [p__law_bbent_s23, wipeD]
  generalize hB : p__law_bbent_s22 = B
  rw [hB] at go
  have i0 : ∃ q, S[0]? = some q ∧ q.length = n := by
    have h0 : 0 < S.length := by omega
    exact ⟨S[0], List.getElem?_eq_getElem h0, (c.d.rows _ (List.getElem_mem h0)).1.len⟩
  obtain ⟨q, hq, hql⟩ := i0
  have a0 : ∀ xs : List RV, atI xs 0 = xs[0]? := fun xs => atI_nat' (j := 0)
  simp [c.ix, a0, hq, hql]
  have := go E
  simpa using this
theorem bbent (hb : IsBy b) (d : Drawn b n S) (h1 : 1 ≤ n) (h7 : n ≤ 7) (h0 : 0 < S.length) (ok : s.ok N) (hN : N < 800000000) (Q : RV → Wd → Prop) (h : ∀ (t : D) (s' : Strm), Bent b t → s'.ok (N + 3) → Q (.d t) (s'.W J)) :
    wpM (f__law_bbent [.r 1, .d (lR S), .d (.int b)]) (s.W J) Q E := by
  have hl := d.le
  unfold f__law_bbent
  rw [w_fnD]
  generalize hB : p__law_bbent_s23 = B
  simp [m__law_bbent, startD, wipeD, hB]
  refine below ok (by omega) (by omega) (by omega) _ fun z s1 hz1 hz2 ok1 => ?_
  obtain ⟨at_, rfl⟩ := Int.eq_ofNat_of_zero_le hz1
  have hat : at_ < S.length := by omega
  simp
  refine b_s23 (Cx2.of hb d h1 h7 (List.getElem?_eq_getElem hat)) ok1 (by omega) (fun t s' δ ht ok' => ?_) hB
  simp
  exact h t s' ht ok'
end
end K21
set_option Elab.async false
set_option linter.all false
set_option maxRecDepth 100000
set_option maxHeartbeats 4000000
set_option autoImplicit false
set_option exponentiation.threshold 2000
/-! N20: breduce of a drawn space by 0. -/
namespace K21
open PySem PySem.Spec PyProof.Rows L2 RZ DL SH
section
variable {b : Int} {n : Nat} {S : List (List Int)} {r p : List Int} {J : Wd} {E : DX → Wd → Prop} {W : Wd} {Q : RV → Wd → Prop}
/-- a tidy row with 1 at its head -/
structure T1 (n : Nat) (r : List Int) : Prop where
  rw : Rw 0 n r
  one : col r (hv r) = 1
  bd : Bd 13 r
theorem T1.of (d : Drawn b n S) (hn : n < 1000) (hb : 0 < b) (h : r ∈ S) : T1 n r := ⟨(d.spa0 hn hb).row r h, ((d.rows r h).2.2.1 hb).one, (d.rows r h).2.1⟩
theorem T1.tidy (t : T1 n r) (hn : n < 1000) : wpM (f__law_btidy [.d (lI r), .d (.int 0)]) W Q E = Q (.d (lI r)) W := by
  have := btidy0 (W := W) (Q := Q) (E := E) (t.bd.mono (by decide)) (by rw [t.rw.len]; exact hn) t.rw.hd (by rw [t.one]; decide)
  rw [this, t.rw.pl]
theorem bcut (t : T1 n r) (tp : T1 n p) (hn : n < 100) {k : Nat} (hk : k < n) (hr : col r k = 0) (hp : col p k = 1) : wpM (f__law_bcut [.d (lI r), .d (lI p), .d (.int (k : Nat)), .d (.int 0)]) W Q E = Q (.d (lI r)) W := by
  refine pu_by fun Q E hq => ?_
  have hrl := t.rw.len
  have hpl := tp.rw.len
  have g1 : r[k]? = some 0 := by
    have : k < r.length := by omega
    rw [List.getElem?_eq_getElem this]
    simp [col, this] at hr
    rw [hr]
  have g2 : p[k]? = some 1 := by
    have : k < p.length := by omega
    rw [List.getElem?_eq_getElem this]
    simp [col, this] at hp
    rw [hp]
  unfold f__law_bcut
  rw [w_fnD]
  simp [m__law_bcut, startD, wipeD, g1]
  rw [lc_zip r p (fun z => z.1) (small_line (by omega)) fun z hz => ?_]
  · have e : (r.zip p).map (fun z => z.1) = r := by
      show (r.zip p).map Prod.fst = r
      rw [List.map_fst_zip]
      omega
    rw [e]
    simp
    rw [t.tidy (by omega)]
    simp
    exact hq
  · have hz1 : z.1 ∈ r := (List.of_mem_zip hz).1
    have hz2 : z.2 ∈ p := (List.of_mem_zip hz).2
    simp [p__law_bcut_e1, g1, g2]
    exact ⟨cmulw (Nat.lt_trans (t.bd _ hz1) (by decide)) (by decide), cmulw (by decide) (Nat.lt_trans (tp.bd _ hz2) (by decide))⟩
abbrev rE (S : List (List Int)) (l : Nat) (A : List (List Int)) (y4 y5 y6 : Option RV) : DL.Env := [some (.d (lR S)), some (.d (.int 0)), some (.r l), some (.d (lR A)), y4, y5, y6, none, none]
def spots (L : List (List Int)) (i : Nat) : List D := (L.zipIdx.filter fun p => decide (col p.1 i ≠ 0)).map fun p => D.int (p.2 : Nat)
theorem spots_0 {L : List (List Int)} {i : Nat} (h : ∀ r ∈ L, col r i = 0) (k : Nat) : ((L.zipIdx k).filter fun p => decide (col p.1 i ≠ 0)) = [] := by
  rw [List.filter_eq_nil_iff]
  intro p hp
  have := h p.1 (List.fst_mem_of_mem_zipIdx hp)
  simp [this]
theorem spots_1 {L : List (List Int)} {q : List Int} {i : Nat} (hq : col q i ≠ 0) (h : ∀ r ∈ L, col r i = 0) : spots (q :: L) i = [.int 0] := by
  unfold spots
  rw [List.zipIdx_cons, List.filter_cons_of_pos (by simp [hq]), spots_0 h]
  rfl
theorem spots_lc {A L : List (List Int)} {l i : Nat} {y5 y6 : Option RV} (hW : IsAt l (L.map lI) W) (hL : L.length < 1000) (hr : ∀ r ∈ L, i < r.length) :
    wpM (lcFP false (gtUnp 2 (gtCons (gtName 8) (gtCons (gtName 7) gtNil))) p__law_breduce_q7 p__law_breduce_e6 (rE S l A (some (.d (.int (i : Nat)))) y5 y6) (l, L.map lI, enumD (L.map lI))) W Q E = Q (.d (.lst (spots L i))) W := by
  rw [enumD_map]
  exact lcP_eq L.zipIdx (fun p => D.tup [.int (p.2 : Nat), lI p.1]) (fun p => D.int (p.2 : Nat)) (fun p => decide (col p.1 i ≠ 0)) hW (by simp; exact small_line (by omega)) fun p hp => by
    have hl := hr p.1 (List.fst_mem_of_mem_zipIdx hp)
    have g : p.1[i]? = some (col p.1 i) := by simp [col, hl]
    simp [p__law_breduce_q7, p__law_breduce_e6, g]
theorem eq_nil0 : wpM (opEq false (.d (.lst [])) (.d (.lst []))) W Q E = Q (.d (.bl true)) W := eq_nil (x := [])
theorem eq_nil1 {x : Int} : wpM (opEq false (.d (.lst [.int x])) (.d (.lst []))) W Q E = Q (.d (.bl false)) W := eq_nil (x := [x])
theorem cut_turn {A L : List (List Int)} {i : Nat} {y5 y6 : Option RV} {QS : Fl × DL.Env → Wd → Prop} (hn : n < 100) (hi : i < n) (hL : ∀ r ∈ L, T1 n r) (hz : ∀ r ∈ L, col r i = 0) (hl : (A ++ L).length < 100)
    (h : ∀ y4 y5 y6, QS (.ct, rE S J.length A y4 y5 y6) (J ++ [.lst ((L.map lI).map RV.d)])) :
    wpM (p__law_breduce_b8 (rE S J.length A (some (.d (.int (i : Nat)))) y5 y6)) (J ++ [.lst ((L.map lI).map RV.d)]) QS E := by
  have at_ : IsAt J.length (L.map lI) (J ++ [.lst ((L.map lI).map RV.d)]) := by simp [IsAt]
  generalize hW : J ++ [MO.lst ((L.map lI).map RV.d)] = W at at_ h ⊢
  generalize hB : p__law_breduce_s4 = B
  simp [p__law_breduce_b8, p__law_breduce_s5, hB, wipeD]
  rw [w_pkA at_]
  simp
  rw [spots_lc at_ (by simp at hl; omega) fun r hr => by rw [(hL r hr).rw.len]; exact hi]
  have e : spots L i = [] := by unfold spots; rw [spots_0 hz]; rfl
  rw [e]
  simp
  simp [p__law_breduce_s5]
  rw [eq_nil0]
  simp
  exact h _ _ _
theorem cut_s3 {A L : List (List Int)} {q : List Int} {i : Nat} {y5 : Option RV} {QS : Fl × DL.Env → Wd → Prop} (hn : n < 100) (hi : i < n) (hA : ∀ r ∈ A, T1 n r ∧ col r i = 0) (hq : T1 n q) (hqi : col q i = 1) (hL : ∀ r ∈ L, T1 n r) (hz : ∀ r ∈ L, col r i = 0) (hl : A.length + (L.length + 1) < 100)
    (h : ∀ y4 y5 y6, QS (.nx, rE S (J.length + 1) (A ++ [q]) y4 y5 y6) ((J ++ [.lst ((L.map lI).map RV.d)]) ++ [.lst ((L.map lI).map RV.d)])) {B3 : DL.Env → M (Fl × DL.Env)} (hB3 : p__law_breduce_s3 = B3) :
    wpM (B3 [some (.d (lR S)), some (.d (.int 0)), some (.r J.length), some (.d (lR A)), some (.d (.int (i : Nat))), y5, some (.d (lI q)), none, none]) (J ++ [.lst ((L.map lI).map RV.d)]) QS E := by
  subst hB3
  have at_ : IsAt J.length (L.map lI) (J ++ [.lst ((L.map lI).map RV.d)]) := by simp [IsAt]
  have hlen : (J ++ [MO.lst ((L.map lI).map RV.d)]).length = J.length + 1 := by simp
  generalize hW : J ++ [MO.lst ((L.map lI).map RV.d)] = W at at_ h hlen ⊢
  simp [p__law_breduce_s3, wipeD]
  rw [w_pkA at_]
  simp only [kB_ap, id_eq]
  have l1 : ∀ (Q : RV → Wd → Prop) (E : DX → Wd → Prop), wpM (lcFP true (gtName 7) evYes p__law_breduce_e2 [some (.d (lR S)), some (.d (.int 0)), some (.r J.length), some (.d (lR A)), some (.d (.int (i : Nat))), y5, some (.d (lI q)), none, none] (J.length, L.map lI, L.map lI)) W Q E = Q (.r W.length) (W ++ [.lst ((L.map lI).map RV.d)]) := fun Q E =>
    lcP_mapT L lI lI at_ (small_line (by omega)) fun r hr => by
      simp [p__law_breduce_e2]
      rw [bcut (hL r hr) hq hn hi (hz r hr) hqi]
      simp
  rw [l1]
  simp [wipeD, hlen]
  have l2 : ∀ (y : Option RV) (W : Wd) (Q : RV → Wd → Prop) (E : DX → Wd → Prop), wpM (lcF false (gtName 7) evYes p__law_breduce_e1 [some (.d (lR S)), some (.d (.int 0)), y, some (.d (lR A)), some (.d (.int (i : Nat))), y5, some (.d (lI q)), none, none] (A.map lI)) W Q E = Q (.d (lR A)) W := fun y W Q E =>
    lc_map A lI lI (small_line (by omega)) fun r hr => by
      simp [p__law_breduce_e1]
      rw [bcut (hA r hr).1 hq hn hi (hA r hr).2 hqi]
      simp
  rw [l2]
  simp
  refine ⟨small_le (by omega), ?_⟩
  have := h (some (.d (.int (i : Nat)))) y5 (some (.d (lI q)))
  simpa [rE, lR] using this
theorem cut_turn2 {A L : List (List Int)} {q : List Int} {i : Nat} {y5 y6 : Option RV} {QS : Fl × DL.Env → Wd → Prop} (hn : n < 100) (hi : i < n) (hA : ∀ r ∈ A, T1 n r ∧ col r i = 0) (hq : T1 n q) (hqi : col q i = 1) (hL : ∀ r ∈ L, T1 n r) (hz : ∀ r ∈ L, col r i = 0) (hl : (A ++ q :: L).length < 100)
    (h : ∀ y4 y5 y6, QS (.nx, rE S (J.length + 1) (A ++ [q]) y4 y5 y6) ((J ++ [.lst ((L.map lI).map RV.d)]) ++ [.lst ((L.map lI).map RV.d)])) :
    wpM (p__law_breduce_b8 (rE S J.length A (some (.d (.int (i : Nat)))) y5 y6)) (J ++ [.lst (((q :: L).map lI).map RV.d)]) QS E := by
  have hll : A.length + (L.length + 1) < 100 := by simpa using hl
  have at_ : IsAt J.length ((q :: L).map lI) (J ++ [.lst (((q :: L).map lI).map RV.d)]) := by simp [IsAt]
  generalize hW : J ++ [MO.lst (((q :: L).map lI).map RV.d)] = W at at_ ⊢
  generalize hB : p__law_breduce_s4 = B
  simp [p__law_breduce_b8, p__law_breduce_s5, hB, wipeD]
  rw [w_pkA at_]
  simp only [kB_ap]
  rw [spots_lc at_ (by simp; omega) fun r hr => by
    rcases List.mem_cons.mp hr with rfl | hr
    · rw [hq.rw.len]; exact hi
    · rw [(hL r hr).rw.len]; exact hi]
  rw [spots_1 (by rw [hqi]; decide) hz]
  simp
  simp [p__law_breduce_s5, hB]
  rw [eq_nil1]
  simp
  subst hB
  have at2 : W[J.length]? = some (.lst (RV.d (lI q) :: (L.map lI).map RV.d)) := at_
  simp only [p__law_breduce_s4]
  generalize hB : p__law_breduce_s3 = B
  simp [at2]
  have hw : W.set J.length (.lst (L.map (RV.d ∘ lI))) = J ++ [MO.lst ((L.map lI).map RV.d)] := by
    rw [← hW]
    simp
  rw [hw]
  exact cut_s3 hn hi hA hq hqi hL hz hll h hB
def CutP (S : List (List Int)) (W : Wd) (i : Nat) (δ : DL.Env) (W' : Wd) : Prop := ∃ (X : Wd) (j : Nat) (y4 y5 y6 : Option RV), j ≤ S.length ∧ W' = (W ++ X) ++ [.lst (((S.drop j).map lI).map RV.d)] ∧ δ = rE S (W ++ X).length (S.take j) y4 y5 y6 ∧ (∀ r ∈ S.take j, hv r < i) ∧ ∀ r ∈ S.drop j, i ≤ hv r
theorem cut_step (d : Drawn b n S) (hb : 0 < b) (hn : n < 100) {i : Nat} (hi : i < n) {δ : DL.Env} {W' : Wd} (h : CutP S W i δ W') {B : DL.Env → M (Fl × DL.Env)} (hB : p__law_breduce_b8 = B) :
    wpM (gtName 4 (.d (.int (i : Nat))) δ) W' (kB (fun δ1 => B δ1) (fun p W'' => (p.1 = .nx ∨ p.1 = .ct) ∧ CutP S W (i + 1) p.2 W'') E) E := by
  subst hB
  obtain ⟨X, j, y4, y5, y6, hj, rfl, rfl, h1, h2⟩ := h
  have hle := d.le
  have t1 : ∀ r ∈ S, T1 n r := fun r hr => T1.of d (by omega) hb hr
  have tA : ∀ r ∈ S.take j, T1 n r := fun r hr => t1 r (List.mem_of_mem_take hr)
  have tL : ∀ r ∈ S.drop j, T1 n r := fun r hr => t1 r (List.mem_of_mem_drop hr)
  have pw := d.pw
  rw [← List.take_append_drop j S, List.pairwise_append] at pw
  obtain ⟨_, pL, pAL⟩ := pw
  rw [w_gtName, kB_ap]
  show wpM (p__law_breduce_b8 (rE S (W ++ X).length (S.take j) (some (.d (.int (i : Nat)))) y5 y6)) _ _ _
  cases hD : S.drop j with
  | nil =>
    refine cut_turn hn hi (by simp) (by simp) (by simp; omega) fun y4 y5 y6 => ⟨.inr rfl, X, j, y4, y5, y6, hj, by rw [hD], rfl, fun r hr => by have := h1 r hr; omega, by rw [hD]; simp⟩
  | cons q L =>
    have hjl : j < S.length := by
      have := congrArg List.length hD
      simp at this
      omega
    have e1 : S.take (j + 1) = S.take j ++ [q] := by
      rw [List.take_add_one, ← List.head?_drop, hD]; rfl
    have e2 : S.drop (j + 1) = L := by
      rw [← List.tail_drop, hD]; rfl
    rw [hD] at tL pL pAL h2
    obtain ⟨pq, _⟩ := List.pairwise_cons.mp pL
    have hlen : (S.take j ++ q :: L).length < 100 := by rw [← hD, List.take_append_drop]; omega
    by_cases hqi : hv q = i
    · have c0 : ∀ r ∈ L, col r i = 0 := fun r hr => hv_zero (tL r (by simp [hr])).rw.hd (by have := (pq r hr).1; omega)
      refine cut_turn2 hn hi (fun r hr => ⟨tA r hr, by have := (pAL r hr q (by simp)).2; rwa [hqi] at this⟩) (tL q (by simp)) (by rw [← hqi]; exact (tL q (by simp)).one) (fun r hr => tL r (by simp [hr])) c0 hlen fun y4 y5 y6 => ⟨.inl rfl, X ++ [.lst ((L.map lI).map RV.d)], j + 1, y4, y5, y6, hjl, ?_, ?_, fun r hr => ?_, fun r hr => ?_⟩
      · rw [e2, List.append_assoc W X]
      · rw [e1, ← List.append_assoc, List.length_append (bs := [_])]; rfl
      · rw [e1] at hr
        rcases List.mem_append.mp hr with hr | hr
        · have := h1 r hr; omega
        · simp at hr; subst hr; omega
      · rw [e2] at hr
        have := (pq r hr).1
        omega
    · have gt : ∀ r ∈ q :: L, i < hv r := fun r hr => by
        have := h2 q (by simp)
        rcases List.mem_cons.mp hr with rfl | hr
        · omega
        · have := (pq r hr).1
          omega
      refine cut_turn hn hi tL (fun r hr => hv_zero (tL r hr).rw.hd (gt r hr)) hlen fun y4 y5 y6 => ⟨.inr rfl, X, j, y4, y5, y6, hj, by rw [hD], rfl, fun r hr => by have := h1 r hr; omega, fun r hr => by rw [hD] at hr; have := gt r hr; omega⟩
theorem breduce0 (d : Drawn b n S) (hb : 0 < b) (hn : n < 100) : wpM (f__law_breduce [.d (lR S), .d (.int 0)]) W Q E = Q (.d (lR S)) W := by
  refine pu_by fun Q E hQ => ?_
  have hle := d.le
  have t1 : ∀ r ∈ S, T1 n r := fun r hr => T1.of d (by omega) hb hr
  unfold f__law_breduce
  rw [w_fnD]
  generalize hB : p__law_breduce_b8 = B
  simp [m__law_breduce, startD, wipeD, hB]
  have l1 : ∀ (W : Wd) (Q : RV → Wd → Prop) (E : DX → Wd → Prop), wpM (lcF true (gtName 7) evYes p__law_breduce_e9 [some (.d (lR S)), some (.d (.int 0)), none, none, none, none, none, none, none] (S.map lI)) W Q E = Q (.r W.length) (W ++ [.lst ((S.map lI).map RV.d)]) := fun W Q E =>
    lc_mapT S lI lI (small_line (by omega)) fun r hr => by
      simp [p__law_breduce_e9]
      rw [(t1 r hr).tidy (by omega)]
      simp
  rw [l1]
  simp
  by_cases h0 : 0 < S.length
  · have hql : S[0].length = n := (t1 _ (List.getElem_mem h0)).rw.len
    have a0 : ∀ xs : List RV, atI xs 0 = xs[0]? := fun xs => atI_nat' (j := 0)
    simp [h0, a0, hql]
    refine ⟨by omega, ?_⟩
    have init : CutP S W 0 [some (.d (.lst (S.map lI))), some (.d (.int 0)), some (.r W.length), some (.d (.lst [])), none, none, none, none, none] (W ++ [.lst (S.map (RV.d ∘ lI))]) := ⟨[], 0, none, none, none, Nat.zero_le _, by simp, by simp [rE, lR], by simp, fun _ _ => Nat.zero_le _⟩
    refine wpM_mono (goFor_inv (P := CutP S W) (DL.intsFrom 0 n) (fun i d δ W' hd hp => ?_) (DL.intsFrom 0 n) 0 _ _ rfl (Nat.zero_le _) init) (fun p W' hp => ?_) fun _ _ z => z
    · obtain ⟨hi, rfl⟩ := intsFrom_get hd
      exact cut_step d hb hn hi hp hB
    · obtain ⟨f, δ⟩ := p
      obtain ⟨hf, X, j, y4, y5, y6, hj, rfl, h1, h2, h3⟩ := hp
      dsimp only at hf h1
      subst hf h1
      rw [intsFrom_len] at h2 h3
      have hjS : S.drop j = [] := by
        rw [List.eq_nil_iff_forall_not_mem]
        intro r hr
        have := h3 r hr
        have t := t1 r (List.mem_of_mem_drop hr)
        have := hv_lt t.rw.hd
        have := t.rw.len
        omega
      have hjl : S.take j = S := by
        have := List.take_append_drop j S
        rwa [hjS, List.append_nil] at this
      rw [hjl]
      simp
      exact hQ
  · have : S = [] := by
      cases S with
      | nil => rfl
      | cons a S => simp at h0
    subst this
    simp
    rw [w_rng1]
    simp [DL.intsFrom, w_goFor0]
    exact hQ
end
end K21
set_option Elab.async false
set_option linter.all false
set_option maxRecDepth 100000
set_option maxHeartbeats 4000000
set_option autoImplicit false
set_option exponentiation.threshold 2000
/-! N21: things that are no spaces. -/
namespace K21
open PySem PySem.Spec PyProof.Rows L2 RZ DL SH
section
variable {b : Int} {n : Nat} {S : List (List Int)} {J : Wd} {E : DX → Wd → Prop} {W : Wd} {Q : RV → Wd → Prop}
def Flat : D → Prop
  | .non => True
  | .int _ => True
  | .str _ => True
  | .bl _ => True
  | .dK _ => True
  | _ => False
theorem is_space_flat {x : D} {by_ : RV} (h : Flat x) : wpM (f_is_space [.d x, by_]) W Q E = Q (.d (.bl false)) W := by
  refine pu_by fun Q E hq => ?_
  unfold f_is_space
  rw [w_fnD]
  cases x <;> try exact h.elim
  all_goals
    simp [m_is_space, startD, tyOf]
    exact hq
/-- no space, whatever the field -/
def NoSp (x : D) : Prop := ∀ (by_ : RV) (W : Wd) (Q : RV → Wd → Prop) (E : DX → Wd → Prop), wpM (f_is_space [.d x, by_]) W Q E = Q (.d (.bl false)) W
theorem NoSp.red {x : D} (h : NoSp x) (hb : IsBy b) : wpM (f_is_reduced [.d x, .d (.int b)]) W Q E = Q (.d (.bl false)) W := is_reduced hb.fld fun Q E => h _ W Q E
theorem NoSp.flat {x : D} (h : Flat x) : NoSp x := fun _ _ _ _ => is_space_flat h
theorem okEl_int {i : Int} : okEl (.int i) := ⟨rfl, fun ps e => by cases e⟩
theorem NoSp.row {q : List Int} (h0 : 0 < q.length) (h : q.length ≤ 40) : NoSp (lI q) := fun by_ W Q E => by
  cases q with
  | nil => simp at h0
  | cons i q =>
    have := is_space_bad (W := W) (Q := Q) (E := E) (t0 := false) (x0 := .int i) (rest := dI q) (by_ := by_) (by simpa using h) (fun x hx => by
      rcases List.mem_cons.mp hx with rfl | hx
      · exact okEl_int
      · obtain ⟨j, _, rfl⟩ := List.mem_map.mp hx
        exact okEl_int) (.inl rfl)
    exact this
theorem NoSp.nest : NoSp (.lst [.lst []]) := fun by_ W Q E =>
  is_space_bad (t0 := false) (x0 := .lst []) (rest := []) (by simp) (fun x hx => by
    simp at hx; subst hx
    exact ⟨rfl, fun ps e => by cases e; simp⟩) (.inr ⟨[], rfl, by decide⟩)
theorem NoSp.two : NoSp (.lst [.lst [.int 1, .int 0], .lst [.int 0, .int 1, .int 0]]) := fun by_ W Q E =>
  is_space_bad (t0 := false) (x0 := .lst [.int 1, .int 0]) (rest := [.lst [.int 0, .int 1, .int 0]]) (by simp) (fun x hx => by
    simp at hx
    rcases hx with rfl | rfl
    · exact okEl_row (r := [1, 0]) (by simp)
    · exact okEl_row (r := [0, 1, 0]) (by simp)) (.inr ⟨_, rfl, by decide⟩)
/-- nothing at all is a reduced space -/
theorem red_empty (t : Bool) (hb : IsBy b) : wpM (f_is_reduced [.d (sq t []), .d (.int b)]) W Q E = Q (.d (.bl true)) W :=
  is_reduced hb.fld fun Q E => by
    have := is_space_ok (W := W) (Q := Q) (E := E) (t := t) (by_ := b) (n := 1) (xs := []) (rs := []) .nil (by simp) (by simp) (by decide) (by decide) (.nil _)
    simpa using this
/-- a row of 40 with one 1 -/
def wide1 : List Int := 1 :: List.replicate 39 0
def wide2 : List Int := List.replicate 39 0 ++ [1]
theorem wide1_hd : hd wide1 = some 0 := by decide
theorem wide2_hd : hd wide2 = some 39 := by decide
theorem red_wide1 : wpM (f_is_reduced [.d (lR [wide1]), .d (.int 0)]) W Q E = Q (.d (.bl true)) W :=
  is_reduced (by decide) fun Q E => by
    have hh : hv wide1 = 0 := hv_some wide1_hd
    have sp : Spa 0 40 [wide1] := ⟨fun r hr => by
      simp at hr; subst hr
      exact ⟨by decide, by unfold Bd; decide, by rw [wide1_hd]; simp, P0_unit (by rw [wide1_hd]; simp) (by rw [hh]; decide)⟩, by simp, by decide, by simp⟩
    have := is_space_ok (W := W) (Q := Q) (E := E) (t := false) (by_ := 0) (n := 40) (AreR.lists [wide1]) (by simp) (by simp; decide) (by decide) (by decide) (run_space (.inl rfl) sp)
    rw [decide_eq_true rfl] at this
    exact this
theorem red_wide2 : wpM (f_is_reduced [.d (lR [wide2]), .d (.int 97)]) W Q E = Q (.d (.bl true)) W :=
  is_reduced (by decide) fun Q E => by
    have hh : hv wide2 = 39 := hv_some wide2_hd
    have sp : Spa 97 40 [wide2] := ⟨fun r hr => by
      simp at hr; subst hr
      exact ⟨by decide, by unfold Bd; decide, by rw [wide2_hd]; simp, P_unit (by decide) ⟨by rw [hh]; decide, by decide, by decide⟩ (by rw [wide2_hd]; simp)⟩, by simp, by decide, by simp⟩
    have := is_space_ok (W := W) (Q := Q) (E := E) (t := false) (by_ := 97) (n := 40) (AreR.lists [wide2]) (by simp) (by simp; decide) (by decide) (by decide) (run_space (.inr (by decide)) sp)
    rw [decide_eq_true rfl] at this
    exact this
theorem red_wide3 : wpM (f_is_reduced [.d (lR [wide1 ++ [0]]), .d (.int 0)]) W Q E = Q (.d (.bl false)) W :=
  is_reduced (by decide) fun Q E =>
    is_space_bad (t0 := false) (x0 := lI (wide1 ++ [0])) (rest := []) (by simp) (fun x hx => by
      simp only [List.mem_cons, List.not_mem_nil, or_false] at hx
      subst hx
      exact okEl_row (by decide)) (.inr ⟨_, rfl, by decide⟩)
end
end K21
set_option Elab.async false
set_option linter.all false
set_option maxRecDepth 100000
set_option maxHeartbeats 4000000
set_option autoImplicit false
set_option exponentiation.threshold 2000
/-! N22: the law, a turn of it. -/
namespace K21
open PySem PySem.Spec PyProof.Rows L2 RZ DL SH
section
variable {b : Int} {n : Nat} {S : List (List Int)} {J : Wd} {E : DX → Wd → Prop} {W : Wd} {Q : RV → Wd → Prop} {s : Strm} {N : Nat} {QS : Fl × DL.Env → Wd → Prop}
theorem red_rows {t : Bool} {xs : List D} (hb : IsBy b) (d : Drawn b n S) (h1 : 1 ≤ n) (h7 : n ≤ 7) (ha : AreR xs S) : wpM (f_is_reduced [.d (sq t xs), .d (.int b)]) W Q E = Q (.d (.bl true)) W :=
  is_reduced hb.fld fun Q E => by
    have hle := d.le
    have := is_space_ok (W := W) (Q := Q) (E := E) (t := t) (by_ := b) (n := n) ha (by omega) (fun r hr => (d.rows r hr).1.len) h1 (by omega) (run_space hb.f (d.spa (by omega)))
    rw [decide_eq_true rfl] at this
    exact this
theorem red_rows0 (hb : 0 < b) (d : Drawn b n S) (h1 : 1 ≤ n) (h7 : n ≤ 7) : wpM (f_is_reduced [.d (lR S), .d (.int 0)]) W Q E = Q (.d (.bl true)) W :=
  is_reduced (by decide) fun Q E => by
    have hle := d.le
    have := is_space_ok (W := W) (Q := Q) (E := E) (t := false) (by_ := 0) (n := n) (AreR.lists S) (by omega) (fun r hr => (d.rows r hr).1.len) h1 (by omega) (run_space (.inl rfl) (d.spa0 (by omega) hb))
    rw [decide_eq_true rfl] at this
    exact this
theorem same_w {x : D} (h : sok 6 x = true) : wpM (f__law_same 6 [.d x, .d x]) W Q E = Q (.d (.bl true)) W := pu_by fun Q E hq => same_refl 6 x h W Q E hq
abbrev lE (y2 y3 y4 y5 y6 y7 y8 y9 : Option RV) : DL.Env := [none, some (.r 1), y2, y3, y4, y5, y6, y7, y8, y9]
def FinT (N : Nat) (J : Wd) (QS : Fl × DL.Env → Wd → Prop) : Prop := ∀ (f : Fl) (s' : Strm) (y2 y3 y4 y5 y6 y7 y8 y9 : Option RV), (f = .nx ∨ f = .ct) → s'.ok N → QS (f, lE y2 y3 y4 y5 y6 y7 y8 y9) (s'.W J)
theorem t_s1 (hb : IsBy b) (d : Drawn b n S) (h1 : 1 ≤ n) (h7 : n ≤ 7) (ok : s.ok N) {odd : D} (ho : NoSp odd) {y2 y6 y7 y9 : Option RV} (fin : FinT N J QS) :
    wpM (p_law_s1 (lE y2 (some (.d (.int b))) (some (.d (.int (n : Nat)))) (some (.d (lR S))) y6 y7 (some (.d odd)) y9)) (s.W J) QS E := by
  simp [p_law_s1]
  rw [ho.red hb]
  simp
  rw [same_w rfl]
  simp
  by_cases h0 : 0 < b
  · simp [h0]
    rw [red_rows0 h0 d h1 h7]
    simp
    rw [breduce0 d h0 (by omega)]
    simp
    rw [w_eq shp_lR shp_lR]
    simp
    rw [same_w rfl]
    simp
    exact fin _ _ _ _ _ _ _ _ _ _ (.inl rfl) ok
  · simp [h0]
    exact fin _ _ _ _ _ _ _ _ _ _ (.inl rfl) ok
theorem disp1 {x : D} {y2 y3 y4 y6 y7 y8 y9 : Option RV} : wpM (evDisp1 (cI 0) (evVar 5) (lE y2 y3 y4 (some (.d x)) y6 y7 y8 y9)) W Q E = Q (.d (.dK [(.inl 0, x)])) W := rfl
theorem t_s2 (hb : IsBy b) (d : Drawn b n S) (h1 : 1 ≤ n) (h7 : n ≤ 7) (h0 : 0 < S.length) (ok : s.ok N) (hN : N < 900000000) {y2 y6 y7 y8 y9 : Option RV} (fin : FinT (N + 1) J QS) :
    wpM (p_law_s2 (lE y2 (some (.d (.int b))) (some (.d (.int (n : Nat)))) (some (.d (lR S))) y6 y7 y8 y9)) (s.W J) QS E := by
  have go : ∀ (odd : D) (s1 : Strm) (E : DX → Wd → Prop), NoSp odd → s1.ok (N + 1) → wpM (p_law_s1 (lE y2 (some (.d (.int b))) (some (.d (.int (n : Nat)))) (some (.d (lR S))) y6 y7 (some (.d odd)) y9)) (s1.W J) QS E := fun odd s1 E h2 ok1 => t_s1 hb d h1 h7 ok1 h2 fin
  have hql : S[0].length = n := (d.rows _ (List.getElem_mem h0)).1.len
  have a0 : ∀ xs : List RV, atI xs 0 = xs[0]? := fun xs => atI_nat' (j := 0)
  simp [p_law_s2]
  generalize hB : p_law_s1 = B
  rw [hB] at go
  rw [disp1]
  simp [a0, h0]
  refine pickM ok (by omega) ?_ ?_ _ fun x s1 hx ok1 => ?_
  · simp
  · simp
  · have ho : NoSp x := by
      simp at hx
      rcases hx with rfl | rfl | rfl | rfl | rfl | rfl | rfl | rfl | rfl | rfl | rfl
      · exact .flat trivial
      · exact .flat trivial
      · exact .flat trivial
      · exact .flat trivial
      · exact .flat trivial
      · exact .flat trivial
      · exact .flat trivial
      · exact .nest
      · exact .row (q := [5]) (by decide) (by decide)
      · exact .row (by omega) (by omega)
      · exact .two
    have := go x s1 E ho ok1
    simp
    simpa using this
theorem t_s3 (hb : IsBy b) (d : Drawn b n S) (h1 : 1 ≤ n) (h7 : n ≤ 7) (h0 : 0 < S.length) (ok : s.ok N) (hN : N < 900000000) {t : D} (ht : Bent b t) {y2 y8 y9 : Option RV} (fin : FinT (N + 1) J QS) :
    wpM (p_law_s3 (lE y2 (some (.d (.int b))) (some (.d (.int (n : Nat)))) (some (.d (lR S))) (some (.d t)) (some (.d t)) y8 y9)) (s.W J) QS E := by
  have go : ∀ (E : DX → Wd → Prop), wpM (p_law_s2 (lE y2 (some (.d (.int b))) (some (.d (.int (n : Nat)))) (some (.d (lR S))) (some (.d t)) (some (.d t)) y8 y9)) (s.W J) QS E := fun E => t_s2 hb d h1 h7 h0 ok hN fin
  simp [p_law_s3]
  generalize hB : p_law_s2 = B
  rw [hB] at go
  rw [ht.no]
  simp
  rw [same_w (by simp [sok, ht.so, sizeLine])]
  simp
  exact go E
theorem t_s4 (hb : IsBy b) (d : Drawn b n S) (h1 : 1 ≤ n) (h7 : n ≤ 7) (h0 : 0 < S.length) (ok : s.ok N) (hN : N < 900000000) {t : D} (ht : Bent b t) {y2 y7 y8 y9 : Option RV} (fin : FinT (N + 1) J QS) :
    wpM (p_law_s4 (lE y2 (some (.d (.int b))) (some (.d (.int (n : Nat)))) (some (.d (lR S))) (some (.d t)) y7 y8 y9)) (s.W J) QS E := by
  have go : ∀ (E : DX → Wd → Prop), wpM (p_law_s3 (lE y2 (some (.d (.int b))) (some (.d (.int (n : Nat)))) (some (.d (lR S))) (some (.d t)) (some (.d t)) y8 y9)) (s.W J) QS E := fun E => t_s3 hb d h1 h7 h0 ok hN ht fin
  simp [p_law_s4]
  generalize hB : p_law_s3 = B
  rw [hB] at go
  rw [copied ht.cp]
  simp
  exact go E
theorem t_s5 (hb : IsBy b) (d : Drawn b n S) (h1 : 1 ≤ n) (h7 : n ≤ 7) (h0 : 0 < S.length) (ok : s.ok N) (hN : N < 800000000) {y2 y6 y7 y8 y9 : Option RV} (fin : FinT (N + 4) J QS) :
    wpM (p_law_s5 (lE y2 (some (.d (.int b))) (some (.d (.int (n : Nat)))) (some (.d (lR S))) y6 y7 y8 y9)) (s.W J) QS E := by
  have go : ∀ (t : D) (s1 : Strm) (E : DX → Wd → Prop), Bent b t → s1.ok (N + 3) → wpM (p_law_s4 (lE y2 (some (.d (.int b))) (some (.d (.int (n : Nat)))) (some (.d (lR S))) (some (.d t)) y7 y8 y9)) (s1.W J) QS E := fun t s1 E ht ok1 => t_s4 hb d h1 h7 h0 ok1 (by omega) ht fin
  simp [p_law_s5]
  generalize hB : p_law_s4 = B
  rw [hB] at go
  refine bbent hb d h1 h7 h0 ok hN _ fun t s1 ht ok1 => ?_
  simp
  exact go t s1 E ht ok1
theorem eq_nilR {x : List (List Int)} : wpM (opEq false (.d (lR x)) (.d (.lst []))) W Q E = Q (.d (.bl (decide (x = [])))) W := by
  have := w_eq (W := W) (Q := Q) (E := E) (neg := false) (x := lR x) (y := lR []) shp_lR shp_lR
  rw [deq_lR, Bool.bne_false] at this
  exact this
theorem t_s6 (hb : IsBy b) (d : Drawn b n S) (h1 : 1 ≤ n) (h7 : n ≤ 7) (ok : s.ok N) (hN : N < 800000000) {y2 y6 y7 y8 y9 : Option RV} (fin : FinT (N + 4) J QS) :
    wpM (p_law_s6 (lE y2 (some (.d (.int b))) (some (.d (.int (n : Nat)))) (some (.d (lR S))) y6 y7 y8 y9)) (s.W J) QS E := by
  have go : 0 < S.length → ∀ (E : DX → Wd → Prop), wpM (p_law_s5 (lE y2 (some (.d (.int b))) (some (.d (.int (n : Nat)))) (some (.d (lR S))) y6 y7 y8 y9)) (s.W J) QS E := fun h0 E => t_s5 hb d h1 h7 h0 ok hN fin
  simp [p_law_s6]
  generalize hB : p_law_s5 = B
  rw [hB] at go
  rw [eq_nilR]
  by_cases h0 : S = []
  · simp [h0]
    exact fin _ _ _ _ _ _ _ _ _ _ (.inr rfl) (ok.mono (by omega))
  · simp [h0]
    exact go (List.length_pos_iff.mpr h0) E
theorem red_emptyL (hb : IsBy b) : wpM (f_is_reduced [.d (.lst []), .d (.int b)]) W Q E = Q (.d (.bl true)) W := red_empty false hb
theorem red_emptyT (hb : IsBy b) : wpM (f_is_reduced [.d (.tup []), .d (.int b)]) W Q E = Q (.d (.bl true)) W := red_empty true hb
theorem rep3 {x : D} : wpM (opMul false (.d (.lst [x])) (.d (.int 3))) W Q E = Q (.d (.lst [x, x, x])) W := w_rep1 (n := 3) (by decide)
theorem t_s7 (hb : IsBy b) (d : Drawn b n S) (h1 : 1 ≤ n) (h7 : n ≤ 7) (ok : s.ok N) (hN : N < 700000000) {y2 y6 y7 y8 y9 : Option RV} (fin : FinT (N + 12) J QS) :
    wpM (p_law_s7 (lE y2 (some (.d (.int b))) (some (.d (.int (n : Nat)))) (some (.d (lR S))) y6 y7 y8 y9)) (s.W J) QS E := by
  have hle := d.le
  have go : ∀ (s1 : Strm) (E : DX → Wd → Prop), s1.ok (N + S.length + 1) → wpM (p_law_s6 (lE y2 (some (.d (.int b))) (some (.d (.int (n : Nat)))) (some (.d (lR S))) y6 y7 y8 y9)) (s1.W J) QS E := fun s1 E ok1 => t_s6 (N := N + 8) hb d h1 h7 (ok1.mono (by omega)) (by omega) fin
  simp [p_law_s7]
  generalize hB : p_law_s6 = B
  rw [hB] at go
  refine loose_rows (n := 2) (fun r hr => by rw [(d.rows r hr).1.len]; omega) (by omega) ok (by omega) _ fun t xs s1 hx ok1 => ?_
  simp
  rw [red_rows hb d h1 h7 hx]
  simp
  rw [red_emptyL hb]
  simp
  rw [red_emptyT hb]
  simp
  rw [rep3]
  simp
  rw [same_w (by decide)]
  simp
  exact go s1 E ok1
theorem t_s8 (hb : IsBy b) (h1 : 1 ≤ n) (h7 : n ≤ 7) (ok : s.ok N) (hN : N < 600000000) {y2 y5 y6 y7 y8 y9 : Option RV} (fin : FinT (N + 240) J QS) :
    wpM (p_law_s8 (lE y2 (some (.d (.int b))) (some (.d (.int (n : Nat)))) y5 y6 y7 y8 y9)) (s.W J) QS E := by
  have h4 : 4 * n * n + 3 * n ≤ 220 := by
    have : 4 * n * n ≤ 28 * 7 := Nat.mul_le_mul (by omega) h7
    omega
  have go : ∀ (S : List (List Int)) (s1 : Strm) (E : DX → Wd → Prop), Drawn b n S → s1.ok (N + 4 * n * n + 3 * n) → wpM (p_law_s7 (lE y2 (some (.d (.int b))) (some (.d (.int (n : Nat)))) (some (.d (lR S))) y6 y7 y8 y9)) (s1.W J) QS E := fun S s1 E d ok1 => t_s7 (N := N + 228) hb d h1 h7 (ok1.mono (by omega)) (by omega) fin
  simp [p_law_s8]
  generalize hB : p_law_s7 = B
  rw [hB] at go
  refine bspace hb (by omega) ok (by omega) _ fun S s1 d ok1 => ?_
  simp
  exact go S s1 E d ok1
theorem turn (ok : s.ok N) (hN : N < 500000000) {y2 y3 y4 y5 y6 y7 y8 y9 : Option RV} (fin : FinT (N + 250) J QS) :
    wpM (p_law_b9 (lE y2 y3 y4 y5 y6 y7 y8 y9)) (s.W J) QS E := by
  have go : ∀ (b : Int) (n : Nat) (s1 : Strm) (E : DX → Wd → Prop), IsBy b → 1 ≤ n → n ≤ 7 → s1.ok (N + 3) → wpM (p_law_s8 (lE y2 (some (.d (.int b))) (some (.d (.int (n : Nat)))) y5 y6 y7 y8 y9)) (s1.W J) QS E := fun b n s1 E hb h1 h7 ok1 => t_s8 (N := N + 10) hb h1 h7 (ok1.mono (by omega)) (by omega) fin
  simp [p_law_b9]
  generalize hB : p_law_s8 = B
  rw [hB] at go
  refine bfield ok (by omega) _ fun b s1 hb ok1 => ?_
  simp
  refine below ok1 (by omega) (by decide) (by decide) _ fun z s2 hz1 hz2 ok2 => ?_
  obtain ⟨k, rfl⟩ := Int.eq_ofNat_of_zero_le hz1
  simp
  have := go b (1 + k) s2 E hb (by omega) (by omega) ok2
  simpa using this
end
end K21
set_option Elab.async false
set_option linter.all false
set_option maxRecDepth 100000
set_option maxHeartbeats 4000000
set_option autoImplicit false
set_option exponentiation.threshold 2000
/-! N23: the law. -/
namespace K21
open PySem PySem.Spec PyProof.Rows L2 RZ DL SH
section
variable {J : Wd} {E : DX → Wd → Prop} {W : Wd} {Q : RV → Wd → Prop}
def LP (N : Nat) (δ : DL.Env) (W : Wd) : Prop := ∃ (s : Strm) (J : Wd) (y2 y3 y4 y5 y6 y7 y8 y9 : Option RV), W = s.W J ∧ δ = lE y2 y3 y4 y5 y6 y7 y8 y9 ∧ s.ok N
def z39 : List D := List.replicate 39 (.int 0)
theorem rep39 : wpM (opMul false (.d (.lst [.int 0])) (.d (.int 39))) W Q E = Q (.d (.lst z39)) W := w_rep1 (n := 39) (by decide)
theorem z39_len : z39.length = 39 := rfl
theorem wide1_D : D.lst (D.int 1 :: z39) = lI wide1 := rfl
theorem wide2_D : D.lst (z39 ++ [D.int 1]) = lI wide2 := rfl
theorem wide3_D : D.lst (dI wide1 ++ [D.int 0]) = lI (wide1 ++ [0]) := rfl
theorem law_end {y2 y3 y4 y5 y6 y7 y8 y9 : Option RV} {s : Strm} {QS : Fl × DL.Env → Wd → Prop} (h : ∀ δ, QS (.rt (.d (.bl true)), δ) (s.W J)) : wpM (evSeq (evAsg (evLst false (evCons (ev2 (opAdd false) (evLst false (evCons (cI 1) evNil)) (ev2 (opMul false) (evLst false (evCons (cI 0) evNil)) (cI 39))) evNil)) (gtName 9))
    (evRet (evCallF 2 (f__law_same 6) (evCons (evLst false (evCons (evCallF 2 f_is_reduced (evCons (evVar 9) (evCons (cI 0) evNil))) (evCons (evCallF 2 f_is_reduced (evCons (evLst false (evCons (ev2 (opAdd false) (ev2 opIx (evVar 9) (cI 0)) (evLst false (evCons (cI 0) evNil))) evNil)) (evCons (cI 0) evNil))) (evCons (evCallF 2 f_is_reduced (evCons (evLst false (evCons (ev2 (opAdd false) (ev2 (opMul false) (evLst false (evCons (cI 0) evNil)) (cI 39)) (evLst false (evCons (cI 1) evNil))) evNil)) (evCons (cI 97) evNil))) evNil)))) (evCons (evLst false (evCons (cB true) (evCons (cB false) (evCons (cB true) evNil)))) evNil)))) (lE y2 y3 y4 y5 y6 y7 y8 y9)) (s.W J) QS E := by
  simp
  rw [rep39]
  simp [z39_len]
  try refine ⟨by decide, ?_⟩
  rw [w_newL_p (ds := D.int 1 :: z39) (by simp), wide1_D]
  generalize hw : wide1 = w1
  have hl : w1.length = 40 := by rw [← hw]; decide
  simp [hl]
  have r1 : ∀ (W : Wd) (Q : RV → Wd → Prop) (E : DX → Wd → Prop), wpM (f_is_reduced [.d (.lst [lI w1]), .d (.int 0)]) W Q E = Q (.d (.bl true)) W := fun W Q E => by rw [← hw]; exact red_wide1
  have r3 : ∀ (W : Wd) (Q : RV → Wd → Prop) (E : DX → Wd → Prop), wpM (f_is_reduced [.d (.lst [lI (w1 ++ [0])]), .d (.int 0)]) W Q E = Q (.d (.bl false)) W := fun W Q E => by rw [← hw]; exact red_wide3
  have r2 : ∀ (W : Wd) (Q : RV → Wd → Prop) (E : DX → Wd → Prop), wpM (f_is_reduced [.d (.lst [lI wide2]), .d (.int 97)]) W Q E = Q (.d (.bl true)) W := fun W Q E => red_wide2
  rw [r1]
  simp [hl]
  try refine ⟨small_le (by omega), ?_⟩
  rw [show D.lst (List.map D.int w1 ++ [D.int 0]) = lI (w1 ++ [0]) by simp [lI], r3]
  simp
  rw [rep39]
  simp [z39_len]
  try refine ⟨by decide, ?_⟩
  rw [w_newL_p (ds := z39 ++ [D.int 1]) (by simp), wide2_D]
  simp
  rw [r2]
  simp
  rw [same_w (by decide)]
  simp
  exact h _
theorem math (ns : List Int) (hl : ns.length ≤ 63) : wpM (m_law (lawEnv 10)) (startW ns) (fun p _ => p.1 = .rt (.d (.bl true))) (fun _ _ => False) := by
  generalize hQ : (fun (p : Fl × DL.Env) (_ : Wd) => p.1 = .rt (.d (.bl true))) = QF
  have e0 : startW ns = (Strm.mk ns 0 0 43).W [] := rfl
  have ok0 : (Strm.mk ns 0 0 43).ok 0 := ⟨hl, Int.le_refl _, Int.le_refl _, Int.le_refl _, show (0 : Int) ≤ 43 by decide, show (43 : Int) < 2147483647 by decide⟩
  rw [e0]
  unfold m_law
  generalize hL : (evSeq (evAsg (evLst false (evCons (ev2 (opAdd false) (evLst false (evCons (cI 1) evNil)) (ev2 (opMul false) (evLst false (evCons (cI 0) evNil)) (cI 39))) evNil)) (gtName 9)) (evRet _)) = L
  generalize hB : p_law_b9 = B
  simp
  rw [show ∀ (QD : List D → Wd → Prop) (W : Wd) (E : DX → Wd → Prop), wpM (rng1 [.d (.int 14)]) W QD E = ((14 : Nat) < 2 ^ 62 ∧ QD (DL.intsFrom 0 14) W) from fun QD W E => w_rng1n (k := 14)]
  refine ⟨by decide, ?_⟩
  simp only [kB_ap, w_forF]
  have hlen : (DL.intsFrom 0 14).length = 14 := rfl
  refine wpM_mono (goFor_inv (fun i δ W => LP (250 * i) δ W) (DL.intsFrom 0 14) (fun i d δ W hd hP => ?_) (DL.intsFrom 0 14) 0 (lawEnv 10) _ rfl (Nat.zero_le _) ⟨_, [], none, none, none, none, none, none, none, none, rfl, rfl, ok0⟩) (fun p W' hp => ?_) fun _ _ z => z
  · have hi : i < 14 := by rw [← hlen]; exact (List.getElem?_eq_some_iff.mp hd).1
    obtain ⟨s, J, y2, y3, y4, y5, y6, y7, y8, y9, rfl, rfl, ok⟩ := hP
    subst hB
    rw [w_gtName, kB_ap]
    refine turn (N := 250 * i) ok (by omega) (J := J) (y2 := some (.d d)) (y3 := y3) (y4 := y4) (y5 := y5) (y6 := y6) (y7 := y7) (y8 := y8) (y9 := y9) fun f s' y2 y3 y4 y5 y6 y7 y8 y9 hf ok' => ⟨hf, s', J, y2, y3, y4, y5, y6, y7, y8, y9, rfl, rfl, ok'.mono (by omega)⟩
  · obtain ⟨f, δ⟩ := p
    obtain ⟨h1, h2⟩ := hp
    obtain rfl : f = .nx := h1
    obtain ⟨s, J, y2, y3, y4, y5, y6, y7, y8, y9, rfl, rfl, ok⟩ := h2
    simp
    rw [← hL]
    exact law_end fun δ => by rw [← hQ]
end
end K21
set_option Elab.async false
set_option linter.all false
set_option maxRecDepth 100000
set_option maxHeartbeats 4000000
namespace K21
open PySem PySem.Spec PyProof.Rows L2 RZ DL
theorem all_mk {l : PySem.W.OpenLaw} {w : World} {K : PySem.W.Frag} {h : Heap} {mg : Str → Option Value} {fa : Addr} (X : K.In h) (G : h.Ns mainGlobals mg) (hfa : mg "law" = some (.ref fa))
    {oc0 kV0 dc0 pm0 cd0 ct0 : Value} {od0 an0 : Option Addr} {sl0 : Array (Option Value)} {f0 : Addr}
    (a0 : PySem.W.nsIn K mainGlobals "_law_below" = some (some (.ref f0))) (l0 : K.lookup f0 = some ⟨oc0, od0, .func (PySem.W.fnOf "_law_below" "_law_below" (defArgs s__law_below) (defBody s__law_below) (defScope s__law_below) .none kV0 dc0 pm0 an0 cd0 ct0), sl0⟩) (c0 : PySem.W.codeIn K cd0 "_law_below" = true) (k0 : PySem.W.keepIn K (.ref f0) = true)
    {oc1 kV1 dc1 pm1 cd1 ct1 : Value} {od1 an1 : Option Addr} {sl1 : Array (Option Value)} {f1 : Addr}
    (a1 : PySem.W.nsIn K mainGlobals "_law_pick" = some (some (.ref f1))) (l1 : K.lookup f1 = some ⟨oc1, od1, .func (PySem.W.fnOf "_law_pick" "_law_pick" (defArgs s__law_pick) (defBody s__law_pick) (defScope s__law_pick) .none kV1 dc1 pm1 an1 cd1 ct1), sl1⟩) (c1 : PySem.W.codeIn K cd1 "_law_pick" = true) (k1 : PySem.W.keepIn K (.ref f1) = true)
    {oc2 kV2 dc2 pm2 cd2 ct2 : Value} {od2 an2 : Option Addr} {sl2 : Array (Option Value)} {f2 : Addr}
    (a2 : PySem.W.nsIn K mainGlobals "_law_bbent" = some (some (.ref f2))) (l2 : K.lookup f2 = some ⟨oc2, od2, .func (PySem.W.fnOf "_law_bbent" "_law_bbent" (defArgs s__law_bbent) (defBody s__law_bbent) (defScope s__law_bbent) .none kV2 dc2 pm2 an2 cd2 ct2), sl2⟩) (c2 : PySem.W.codeIn K cd2 "_law_bbent" = true) (k2 : PySem.W.keepIn K (.ref f2) = true)
    {oc3 kV3 dc3 pm3 cd3 ct3 : Value} {od3 an3 : Option Addr} {sl3 : Array (Option Value)} {f3 : Addr}
    (a3 : PySem.W.nsIn K mainGlobals "_law_bprimes" = some (some (.ref f3))) (l3 : K.lookup f3 = some ⟨oc3, od3, .func (PySem.W.fnOf "_law_bprimes" "_law_bprimes" (defArgs s__law_bprimes) (defBody s__law_bprimes) (defScope s__law_bprimes) .none kV3 dc3 pm3 an3 cd3 ct3), sl3⟩) (c3 : PySem.W.codeIn K cd3 "_law_bprimes" = true) (k3 : PySem.W.keepIn K (.ref f3) = true)
    {oc4 kV4 dc4 pm4 cd4 ct4 : Value} {od4 an4 : Option Addr} {sl4 : Array (Option Value)} {f4 : Addr}
    (a4 : PySem.W.nsIn K mainGlobals "_law_bfield" = some (some (.ref f4))) (l4 : K.lookup f4 = some ⟨oc4, od4, .func (PySem.W.fnOf "_law_bfield" "_law_bfield" (defArgs s__law_bfield) (defBody s__law_bfield) (defScope s__law_bfield) .none kV4 dc4 pm4 an4 cd4 ct4), sl4⟩) (c4 : PySem.W.codeIn K cd4 "_law_bfield" = true) (k4 : PySem.W.keepIn K (.ref f4) = true)
    {oc5 kV5 dc5 pm5 cd5 ct5 : Value} {od5 an5 : Option Addr} {sl5 : Array (Option Value)} {f5 : Addr}
    (a5 : PySem.W.nsIn K mainGlobals "_law_bcommon" = some (some (.ref f5))) (l5 : K.lookup f5 = some ⟨oc5, od5, .func (PySem.W.fnOf "_law_bcommon" "_law_bcommon" (defArgs s__law_bcommon) (defBody s__law_bcommon) (defScope s__law_bcommon) .none kV5 dc5 pm5 an5 cd5 ct5), sl5⟩) (c5 : PySem.W.codeIn K cd5 "_law_bcommon" = true) (k5 : PySem.W.keepIn K (.ref f5) = true)
    {oc6 kV6 dc6 pm6 cd6 ct6 : Value} {od6 an6 : Option Addr} {sl6 : Array (Option Value)} {f6 : Addr}
    (a6 : PySem.W.nsIn K mainGlobals "_law_btidy" = some (some (.ref f6))) (l6 : K.lookup f6 = some ⟨oc6, od6, .func (PySem.W.fnOf "_law_btidy" "_law_btidy" (defArgs s__law_btidy) (defBody s__law_btidy) (defScope s__law_btidy) .none kV6 dc6 pm6 an6 cd6 ct6), sl6⟩) (c6 : PySem.W.codeIn K cd6 "_law_btidy" = true) (k6 : PySem.W.keepIn K (.ref f6) = true)
    {oc7 kV7 dc7 pm7 cd7 ct7 : Value} {od7 an7 : Option Addr} {sl7 : Array (Option Value)} {f7 : Addr}
    (a7 : PySem.W.nsIn K mainGlobals "_law_bcut" = some (some (.ref f7))) (l7 : K.lookup f7 = some ⟨oc7, od7, .func (PySem.W.fnOf "_law_bcut" "_law_bcut" (defArgs s__law_bcut) (defBody s__law_bcut) (defScope s__law_bcut) .none kV7 dc7 pm7 an7 cd7 ct7), sl7⟩) (c7 : PySem.W.codeIn K cd7 "_law_bcut" = true) (k7 : PySem.W.keepIn K (.ref f7) = true)
    {oc8 kV8 dc8 pm8 cd8 ct8 : Value} {od8 an8 : Option Addr} {sl8 : Array (Option Value)} {f8 : Addr}
    (a8 : PySem.W.nsIn K mainGlobals "_law_breduce" = some (some (.ref f8))) (l8 : K.lookup f8 = some ⟨oc8, od8, .func (PySem.W.fnOf "_law_breduce" "_law_breduce" (defArgs s__law_breduce) (defBody s__law_breduce) (defScope s__law_breduce) .none kV8 dc8 pm8 an8 cd8 ct8), sl8⟩) (c8 : PySem.W.codeIn K cd8 "_law_breduce" = true) (k8 : PySem.W.keepIn K (.ref f8) = true)
    {oc9 kV9 dc9 pm9 cd9 ct9 : Value} {od9 an9 : Option Addr} {sl9 : Array (Option Value)} {f9 : Addr}
    (a9 : PySem.W.nsIn K mainGlobals "_law_chance" = some (some (.ref f9))) (l9 : K.lookup f9 = some ⟨oc9, od9, .func (PySem.W.fnOf "_law_chance" "_law_chance" (defArgs s__law_chance) (defBody s__law_chance) (defScope s__law_chance) .none kV9 dc9 pm9 an9 cd9 ct9), sl9⟩) (c9 : PySem.W.codeIn K cd9 "_law_chance" = true) (k9 : PySem.W.keepIn K (.ref f9) = true)
    {oc10 kV10 dc10 pm10 cd10 ct10 : Value} {od10 an10 : Option Addr} {sl10 : Array (Option Value)} {f10 : Addr}
    (a10 : PySem.W.nsIn K mainGlobals "_law_bnumber" = some (some (.ref f10))) (l10 : K.lookup f10 = some ⟨oc10, od10, .func (PySem.W.fnOf "_law_bnumber" "_law_bnumber" (defArgs s__law_bnumber) (defBody s__law_bnumber) (defScope s__law_bnumber) .none kV10 dc10 pm10 an10 cd10 ct10), sl10⟩) (c10 : PySem.W.codeIn K cd10 "_law_bnumber" = true) (k10 : PySem.W.keepIn K (.ref f10) = true)
    {oc11 kV11 dc11 pm11 cd11 ct11 : Value} {od11 an11 : Option Addr} {sl11 : Array (Option Value)} {f11 : Addr}
    (a11 : PySem.W.nsIn K mainGlobals "_law_bentry" = some (some (.ref f11))) (l11 : K.lookup f11 = some ⟨oc11, od11, .func (PySem.W.fnOf "_law_bentry" "_law_bentry" (defArgs s__law_bentry) (defBody s__law_bentry) (defScope s__law_bentry) .none kV11 dc11 pm11 an11 cd11 ct11), sl11⟩) (c11 : PySem.W.codeIn K cd11 "_law_bentry" = true) (k11 : PySem.W.keepIn K (.ref f11) = true)
    {oc12 kV12 dc12 pm12 cd12 ct12 : Value} {od12 an12 : Option Addr} {sl12 : Array (Option Value)} {f12 : Addr}
    (a12 : PySem.W.nsIn K mainGlobals "_law_bspace" = some (some (.ref f12))) (l12 : K.lookup f12 = some ⟨oc12, od12, .func (PySem.W.fnOf "_law_bspace" "_law_bspace" (defArgs s__law_bspace) (defBody s__law_bspace) (defScope s__law_bspace) .none kV12 dc12 pm12 an12 cd12 ct12), sl12⟩) (c12 : PySem.W.codeIn K cd12 "_law_bspace" = true) (k12 : PySem.W.keepIn K (.ref f12) = true)
    {oc13 kV13 dc13 pm13 cd13 ct13 : Value} {od13 an13 : Option Addr} {sl13 : Array (Option Value)} {f13 : Addr}
    (a13 : PySem.W.nsIn K mainGlobals "_law_copied" = some (some (.ref f13))) (l13 : K.lookup f13 = some ⟨oc13, od13, .func (PySem.W.fnOf "_law_copied" "_law_copied" (defArgs s__law_copied) (defBody s__law_copied) (defScope s__law_copied) .none kV13 dc13 pm13 an13 cd13 ct13), sl13⟩) (c13 : PySem.W.codeIn K cd13 "_law_copied" = true) (k13 : PySem.W.keepIn K (.ref f13) = true)
    {oc14 kV14 dc14 pm14 cd14 ct14 : Value} {od14 an14 : Option Addr} {sl14 : Array (Option Value)} {f14 : Addr}
    (a14 : PySem.W.nsIn K mainGlobals "_law_mixed" = some (some (.ref f14))) (l14 : K.lookup f14 = some ⟨oc14, od14, .func (PySem.W.fnOf "_law_mixed" "_law_mixed" (defArgs s__law_mixed) (defBody s__law_mixed) (defScope s__law_mixed) .none kV14 dc14 pm14 an14 cd14 ct14), sl14⟩) (c14 : PySem.W.codeIn K cd14 "_law_mixed" = true) (k14 : PySem.W.keepIn K (.ref f14) = true)
    {oc15 kV15 dc15 pm15 cd15 ct15 : Value} {od15 an15 : Option Addr} {sl15 : Array (Option Value)} {f15 : Addr}
    (a15 : PySem.W.nsIn K mainGlobals "_law_loose" = some (some (.ref f15))) (l15 : K.lookup f15 = some ⟨oc15, od15, .func (PySem.W.fnOf "_law_loose" "_law_loose" (defArgs s__law_loose) (defBody s__law_loose) (defScope s__law_loose) .none kV15 dc15 pm15 an15 cd15 ct15), sl15⟩) (c15 : PySem.W.codeIn K cd15 "_law_loose" = true) (k15 : PySem.W.keepIn K (.ref f15) = true)
    {oc16 kV16 dc16 pm16 cd16 ct16 : Value} {od16 an16 : Option Addr} {sl16 : Array (Option Value)} {f16 : Addr}
    (a16 : PySem.W.nsIn K mainGlobals "_law_same" = some (some (.ref f16))) (l16 : K.lookup f16 = some ⟨oc16, od16, .func (PySem.W.fnOf "_law_same" "_law_same" (defArgs s__law_same) (defBody s__law_same) (defScope s__law_same) .none kV16 dc16 pm16 an16 cd16 ct16), sl16⟩) (c16 : PySem.W.codeIn K cd16 "_law_same" = true) (k16 : PySem.W.keepIn K (.ref f16) = true)
    {oc17 kV17 dc17 pm17 cd17 ct17 : Value} {od17 an17 : Option Addr} {sl17 : Array (Option Value)} {f17 : Addr}
    (a17 : PySem.W.nsIn K mainGlobals "_law_start" = some (some (.ref f17))) (l17 : K.lookup f17 = some ⟨oc17, od17, .func (PySem.W.fnOf "_law_start" "_law_start" (defArgs s__law_start) (defBody s__law_start) (defScope s__law_start) .none kV17 dc17 pm17 an17 cd17 ct17), sl17⟩) (c17 : PySem.W.codeIn K cd17 "_law_start" = true) (k17 : PySem.W.keepIn K (.ref f17) = true)
    {oc18 kV18 dc18 pm18 cd18 ct18 : Value} {od18 an18 : Option Addr} {sl18 : Array (Option Value)} {f18 : Addr}
    (a18 : PySem.W.nsIn K mainGlobals "is_integer" = some (some (.ref f18))) (l18 : K.lookup f18 = some ⟨oc18, od18, .func (PySem.W.fnOf "is_integer" "is_integer" (defArgs s_is_integer) (defBody s_is_integer) (defScope s_is_integer) .none kV18 dc18 pm18 an18 cd18 ct18), sl18⟩) (c18 : PySem.W.codeIn K cd18 "is_integer" = true) (k18 : PySem.W.keepIn K (.ref f18) = true)
    {oc19 kV19 dc19 pm19 cd19 ct19 : Value} {od19 an19 : Option Addr} {sl19 : Array (Option Value)} {f19 : Addr}
    (a19 : PySem.W.nsIn K mainGlobals "is_row" = some (some (.ref f19))) (l19 : K.lookup f19 = some ⟨oc19, od19, .func (PySem.W.fnOf "is_row" "is_row" (defArgs s_is_row) (defBody s_is_row) (defScope s_is_row) .none kV19 dc19 pm19 an19 cd19 ct19), sl19⟩) (c19 : PySem.W.codeIn K cd19 "is_row" = true) (k19 : PySem.W.keepIn K (.ref f19) = true)
    {oc20 kV20 dc20 pm20 cd20 ct20 : Value} {od20 an20 : Option Addr} {sl20 : Array (Option Value)} {f20 : Addr}
    (a20 : PySem.W.nsIn K mainGlobals "head_of" = some (some (.ref f20))) (l20 : K.lookup f20 = some ⟨oc20, od20, .func (PySem.W.fnOf "head_of" "head_of" (defArgs s_head_of) (defBody s_head_of) (defScope s_head_of) .none kV20 dc20 pm20 an20 cd20 ct20), sl20⟩) (c20 : PySem.W.codeIn K cd20 "head_of" = true) (k20 : PySem.W.keepIn K (.ref f20) = true)
    {oc21 kV21 dc21 pm21 cd21 ct21 : Value} {od21 an21 : Option Addr} {sl21 : Array (Option Value)} {f21 : Addr}
    (a21 : PySem.W.nsIn K mainGlobals "inverse_of" = some (some (.ref f21))) (l21 : K.lookup f21 = some ⟨oc21, od21, .func (PySem.W.fnOf "inverse_of" "inverse_of" (defArgs s_inverse_of) (defBody s_inverse_of) (defScope s_inverse_of) .none kV21 dc21 pm21 an21 cd21 ct21), sl21⟩) (c21 : PySem.W.codeIn K cd21 "inverse_of" = true) (k21 : PySem.W.keepIn K (.ref f21) = true)
    {oc22 kV22 dc22 pm22 cd22 ct22 : Value} {od22 an22 : Option Addr} {sl22 : Array (Option Value)} {f22 : Addr}
    (a22 : PySem.W.nsIn K mainGlobals "plain_row" = some (some (.ref f22))) (l22 : K.lookup f22 = some ⟨oc22, od22, .func (PySem.W.fnOf "plain_row" "plain_row" (defArgs s_plain_row) (defBody s_plain_row) (defScope s_plain_row) .none kV22 dc22 pm22 an22 cd22 ct22), sl22⟩) (c22 : PySem.W.codeIn K cd22 "plain_row" = true) (k22 : PySem.W.keepIn K (.ref f22) = true)
    {oc23 kV23 dc23 pm23 cd23 ct23 : Value} {od23 an23 : Option Addr} {sl23 : Array (Option Value)} {f23 : Addr}
    (a23 : PySem.W.nsIn K mainGlobals "without" = some (some (.ref f23))) (l23 : K.lookup f23 = some ⟨oc23, od23, .func (PySem.W.fnOf "without" "without" (defArgs s_without) (defBody s_without) (defScope s_without) .none kV23 dc23 pm23 an23 cd23 ct23), sl23⟩) (c23 : PySem.W.codeIn K cd23 "without" = true) (k23 : PySem.W.keepIn K (.ref f23) = true)
    {oc24 kV24 dc24 pm24 cd24 ct24 : Value} {od24 an24 : Option Addr} {sl24 : Array (Option Value)} {f24 : Addr}
    (a24 : PySem.W.nsIn K mainGlobals "rest_of" = some (some (.ref f24))) (l24 : K.lookup f24 = some ⟨oc24, od24, .func (PySem.W.fnOf "rest_of" "rest_of" (defArgs s_rest_of) (defBody s_rest_of) (defScope s_rest_of) .none kV24 dc24 pm24 an24 cd24 ct24), sl24⟩) (c24 : PySem.W.codeIn K cd24 "rest_of" = true) (k24 : PySem.W.keepIn K (.ref f24) = true)
    {oc25 kV25 dc25 pm25 cd25 ct25 : Value} {od25 an25 : Option Addr} {sl25 : Array (Option Value)} {f25 : Addr}
    (a25 : PySem.W.nsIn K mainGlobals "put_in" = some (some (.ref f25))) (l25 : K.lookup f25 = some ⟨oc25, od25, .func (PySem.W.fnOf "put_in" "put_in" (defArgs s_put_in) (defBody s_put_in) (defScope s_put_in) .none kV25 dc25 pm25 an25 cd25 ct25), sl25⟩) (c25 : PySem.W.codeIn K cd25 "put_in" = true) (k25 : PySem.W.keepIn K (.ref f25) = true)
    {oc26 kV26 dc26 pm26 cd26 ct26 : Value} {od26 an26 : Option Addr} {sl26 : Array (Option Value)} {f26 : Addr}
    (a26 : PySem.W.nsIn K mainGlobals "reduced_rows" = some (some (.ref f26))) (l26 : K.lookup f26 = some ⟨oc26, od26, .func (PySem.W.fnOf "reduced_rows" "reduced_rows" (defArgs s_reduced_rows) (defBody s_reduced_rows) (defScope s_reduced_rows) .none kV26 dc26 pm26 an26 cd26 ct26), sl26⟩) (c26 : PySem.W.codeIn K cd26 "reduced_rows" = true) (k26 : PySem.W.keepIn K (.ref f26) = true)
    {oc27 kV27 dc27 pm27 cd27 ct27 : Value} {od27 an27 : Option Addr} {sl27 : Array (Option Value)} {f27 : Addr}
    (a27 : PySem.W.nsIn K mainGlobals "is_space" = some (some (.ref f27))) (l27 : K.lookup f27 = some ⟨oc27, od27, .func (PySem.W.fnOf "is_space" "is_space" (defArgs s_is_space) (defBody s_is_space) (defScope s_is_space) .none kV27 dc27 pm27 an27 cd27 ct27), sl27⟩) (c27 : PySem.W.codeIn K cd27 "is_space" = true) (k27 : PySem.W.keepIn K (.ref f27) = true)
    {oc28 kV28 dc28 pm28 cd28 ct28 : Value} {od28 an28 : Option Addr} {sl28 : Array (Option Value)} {f28 : Addr}
    (a28 : PySem.W.nsIn K mainGlobals "is_field" = some (some (.ref f28))) (l28 : K.lookup f28 = some ⟨oc28, od28, .func (PySem.W.fnOf "is_field" "is_field" (defArgs s_is_field) (defBody s_is_field) (defScope s_is_field) .none kV28 dc28 pm28 an28 cd28 ct28), sl28⟩) (c28 : PySem.W.codeIn K cd28 "is_field" = true) (k28 : PySem.W.keepIn K (.ref f28) = true)
    {oc29 kV29 dc29 pm29 cd29 ct29 : Value} {od29 an29 : Option Addr} {sl29 : Array (Option Value)} {f29 : Addr}
    (a29 : PySem.W.nsIn K mainGlobals "need_by" = some (some (.ref f29))) (l29 : K.lookup f29 = some ⟨oc29, od29, .func (PySem.W.fnOf "need_by" "need_by" (defArgs s_need_by) (defBody s_need_by) (defScope s_need_by) .none kV29 dc29 pm29 an29 cd29 ct29), sl29⟩) (c29 : PySem.W.codeIn K cd29 "need_by" = true) (k29 : PySem.W.keepIn K (.ref f29) = true)
    {oc30 kV30 dc30 pm30 cd30 ct30 : Value} {od30 an30 : Option Addr} {sl30 : Array (Option Value)} {f30 : Addr}
    (a30 : PySem.W.nsIn K mainGlobals "is_reduced" = some (some (.ref f30))) (l30 : K.lookup f30 = some ⟨oc30, od30, .func (PySem.W.fnOf "is_reduced" "is_reduced" (defArgs s_is_reduced) (defBody s_is_reduced) (defScope s_is_reduced) .none kV30 dc30 pm30 an30 cd30 ct30), sl30⟩) (c30 : PySem.W.codeIn K cd30 "is_reduced" = true) (k30 : PySem.W.keepIn K (.ref f30) = true)
    {oc31 kV31 dc31 pm31 cd31 ct31 : Value} {od31 an31 : Option Addr} {sl31 : Array (Option Value)} {f31 : Addr}
    (a31 : PySem.W.nsIn K mainGlobals "law" = some (some (.ref f31))) (l31 : K.lookup f31 = some ⟨oc31, od31, .func (PySem.W.fnOf "law" "law" (defArgs s_law) (defBody s_law) (defScope s_law) .none kV31 dc31 pm31 an31 cd31 ct31), sl31⟩) (c31 : PySem.W.codeIn K cd31 "law" = true) (k31 : PySem.W.keepIn K (.ref f31) = true)
    (z_abs : PySem.W.nsIn K mainGlobals "abs" = some none)
    (z_all : PySem.W.nsIn K mainGlobals "all" = some none)
    (z_bool : PySem.W.nsIn K mainGlobals "bool" = some none)
    (z_dict : PySem.W.nsIn K mainGlobals "dict" = some none)
    (z_enumerate : PySem.W.nsIn K mainGlobals "enumerate" = some none)
    (z_int : PySem.W.nsIn K mainGlobals "int" = some none)
    (z_isinstance : PySem.W.nsIn K mainGlobals "isinstance" = some none)
    (z_len : PySem.W.nsIn K mainGlobals "len" = some none)
    (z_list : PySem.W.nsIn K mainGlobals "list" = some none)
    (z_max : PySem.W.nsIn K mainGlobals "max" = some none)
    (z_min : PySem.W.nsIn K mainGlobals "min" = some none)
    (z_range : PySem.W.nsIn K mainGlobals "range" = some none)
    (z_sorted : PySem.W.nsIn K mainGlobals "sorted" = some none)
    (z_str : PySem.W.nsIn K mainGlobals "str" = some none)
    (z_tuple : PySem.W.nsIn K mainGlobals "tuple" = some none)
    (z_zip : PySem.W.nsIn K mainGlobals "zip" = some none)
    {ti_MOST_LONG : Tok} (zi_MOST_LONG : PySem.W.nsIn K mainGlobals "MOST_LONG" = some (some (.int 40 ti_MOST_LONG)))
    (zf_gcd : PySem.W.nsIn K mainGlobals "gcd" = some (some (.builtin "math.gcd"))) :
    ∃ fd : FuncData, (∀ (s : Shared) (v : Value), BindsTo s fd ⟨[v], []⟩ [("script", v)]) ∧ ∀ base : Heap, K.In base → base.Ns mainGlobals mg → FnOk l.prog w K mg base (L2.CX l.prog w) 8 fa fd ["script"] (spLawD K) := by
  have e := hfa.symm.trans (PySem.W.mg_of X G a31)
  cases e
  have T : Top K mg := {
    d__law_below := ⟨f0, _, fun_mk (st := s__law_below) l0 c0 k0, PySem.W.mg_of X G a0, (fun_mk (st := s__law_below) l0 c0 k0).binds (ps := ["stream", "many"]) fun _ _ _ _ _ _ us hl => match us, hl with | [_, _], _ => rfl⟩
    d__law_pick := ⟨f1, _, fun_mk (st := s__law_pick) l1 c1 k1, PySem.W.mg_of X G a1, (fun_mk (st := s__law_pick) l1 c1 k1).binds (ps := ["stream", "some"]) fun _ _ _ _ _ _ us hl => match us, hl with | [_, _], _ => rfl⟩
    d__law_bbent := ⟨f2, _, fun_mk (st := s__law_bbent) l2 c2 k2, PySem.W.mg_of X G a2, (fun_mk (st := s__law_bbent) l2 c2 k2).binds (ps := ["stream", "space", "by"]) fun _ _ _ _ _ _ us hl => match us, hl with | [_, _, _], _ => rfl⟩
    d__law_bprimes := ⟨f3, _, fun_mk (st := s__law_bprimes) l3 c3 k3, PySem.W.mg_of X G a3, (fun_mk (st := s__law_bprimes) l3 c3 k3).binds (ps := []) fun _ _ _ _ _ _ us hl => match us, hl with | [], _ => rfl⟩
    d__law_bfield := ⟨f4, _, fun_mk (st := s__law_bfield) l4 c4 k4, PySem.W.mg_of X G a4, (fun_mk (st := s__law_bfield) l4 c4 k4).binds (ps := ["stream"]) fun _ _ _ _ _ _ us hl => match us, hl with | [_], _ => rfl⟩
    d__law_bcommon := ⟨f5, _, fun_mk (st := s__law_bcommon) l5 c5 k5, PySem.W.mg_of X G a5, (fun_mk (st := s__law_bcommon) l5 c5 k5).binds (ps := ["row"]) fun _ _ _ _ _ _ us hl => match us, hl with | [_], _ => rfl⟩
    d__law_btidy := ⟨f6, _, fun_mk (st := s__law_btidy) l6 c6 k6, PySem.W.mg_of X G a6, (fun_mk (st := s__law_btidy) l6 c6 k6).binds (ps := ["row", "by"]) fun _ _ _ _ _ _ us hl => match us, hl with | [_, _], _ => rfl⟩
    d__law_bcut := ⟨f7, _, fun_mk (st := s__law_bcut) l7 c7 k7, PySem.W.mg_of X G a7, (fun_mk (st := s__law_bcut) l7 c7 k7).binds (ps := ["row", "pivot", "column", "by"]) fun _ _ _ _ _ _ us hl => match us, hl with | [_, _, _, _], _ => rfl⟩
    d__law_breduce := ⟨f8, _, fun_mk (st := s__law_breduce) l8 c8 k8, PySem.W.mg_of X G a8, (fun_mk (st := s__law_breduce) l8 c8 k8).binds (ps := ["rows", "by"]) fun _ _ _ _ _ _ us hl => match us, hl with | [_, _], _ => rfl⟩
    d__law_chance := ⟨f9, _, fun_mk (st := s__law_chance) l9 c9 k9, PySem.W.mg_of X G a9, (fun_mk (st := s__law_chance) l9 c9 k9).binds (ps := ["stream", "many"]) fun _ _ _ _ _ _ us hl => match us, hl with | [_, _], _ => rfl⟩
    d__law_bnumber := ⟨f10, _, fun_mk (st := s__law_bnumber) l10 c10 k10, PySem.W.mg_of X G a10, (fun_mk (st := s__law_bnumber) l10 c10 k10).binds (ps := ["stream"]) fun _ _ _ _ _ _ us hl => match us, hl with | [_], _ => rfl⟩
    d__law_bentry := ⟨f11, _, fun_mk (st := s__law_bentry) l11 c11 k11, PySem.W.mg_of X G a11, (fun_mk (st := s__law_bentry) l11 c11 k11).binds (ps := ["stream", "by"]) fun _ _ _ _ _ _ us hl => match us, hl with | [_, _], _ => rfl⟩
    d__law_bspace := ⟨f12, _, fun_mk (st := s__law_bspace) l12 c12 k12, PySem.W.mg_of X G a12, (fun_mk (st := s__law_bspace) l12 c12 k12).binds (ps := ["stream", "size", "by"]) fun _ _ _ _ _ _ us hl => match us, hl with | [_, _, _], _ => rfl⟩
    d__law_copied := ⟨f13, _, fun_mk (st := s__law_copied) l13 c13 k13, PySem.W.mg_of X G a13, (fun_mk (st := s__law_copied) l13 c13 k13).binds (ps := ["thing"]) fun _ _ _ _ _ _ us hl => match us, hl with | [_], _ => rfl⟩
    d__law_mixed := ⟨f14, _, fun_mk (st := s__law_mixed) l14 c14 k14, PySem.W.mg_of X G a14, (fun_mk (st := s__law_mixed) l14 c14 k14).binds (ps := ["stream", "some"]) fun _ _ _ _ _ _ us hl => match us, hl with | [_, _], _ => rfl⟩
    d__law_loose := ⟨f15, _, fun_mk (st := s__law_loose) l15 c15 k15, PySem.W.mg_of X G a15, (fun_mk (st := s__law_loose) l15 c15 k15).binds (ps := ["stream", "thing"]) fun _ _ _ _ _ _ us hl => match us, hl with | [_, _], _ => rfl⟩
    d__law_same := ⟨f16, _, fun_mk (st := s__law_same) l16 c16 k16, PySem.W.mg_of X G a16, (fun_mk (st := s__law_same) l16 c16 k16).binds (ps := ["found", "due"]) fun _ _ _ _ _ _ us hl => match us, hl with | [_, _], _ => rfl⟩
    d__law_start := ⟨f17, _, fun_mk (st := s__law_start) l17 c17 k17, PySem.W.mg_of X G a17, (fun_mk (st := s__law_start) l17 c17 k17).binds (ps := ["script"]) fun _ _ _ _ _ _ us hl => match us, hl with | [_], _ => rfl⟩
    d_is_integer := ⟨f18, _, fun_mk (st := s_is_integer) l18 c18 k18, PySem.W.mg_of X G a18, (fun_mk (st := s_is_integer) l18 c18 k18).binds (ps := ["thing"]) fun _ _ _ _ _ _ us hl => match us, hl with | [_], _ => rfl⟩
    d_is_row := ⟨f19, _, fun_mk (st := s_is_row) l19 c19 k19, PySem.W.mg_of X G a19, (fun_mk (st := s_is_row) l19 c19 k19).binds (ps := ["thing", "size"]) fun _ _ _ _ _ _ us hl => match us, hl with | [_, _], _ => rfl⟩
    d_head_of := ⟨f20, _, fun_mk (st := s_head_of) l20 c20 k20, PySem.W.mg_of X G a20, (fun_mk (st := s_head_of) l20 c20 k20).binds (ps := ["row"]) fun _ _ _ _ _ _ us hl => match us, hl with | [_], _ => rfl⟩
    d_inverse_of := ⟨f21, _, fun_mk (st := s_inverse_of) l21 c21 k21, PySem.W.mg_of X G a21, (fun_mk (st := s_inverse_of) l21 c21 k21).binds (ps := ["number", "prime"]) fun _ _ _ _ _ _ us hl => match us, hl with | [_, _], _ => rfl⟩
    d_plain_row := ⟨f22, _, fun_mk (st := s_plain_row) l22 c22 k22, PySem.W.mg_of X G a22, (fun_mk (st := s_plain_row) l22 c22 k22).binds (ps := ["row", "by"]) fun _ _ _ _ _ _ us hl => match us, hl with | [_, _], _ => rfl⟩
    d_without := ⟨f23, _, fun_mk (st := s_without) l23 c23 k23, PySem.W.mg_of X G a23, (fun_mk (st := s_without) l23 c23 k23).binds (ps := ["row", "other", "column", "by"]) fun _ _ _ _ _ _ us hl => match us, hl with | [_, _, _, _], _ => rfl⟩
    d_rest_of := ⟨f24, _, fun_mk (st := s_rest_of) l24 c24 k24, PySem.W.mg_of X G a24, (fun_mk (st := s_rest_of) l24 c24 k24).binds (ps := ["space", "row", "by"]) fun _ _ _ _ _ _ us hl => match us, hl with | [_, _, _], _ => rfl⟩
    d_put_in := ⟨f25, _, fun_mk (st := s_put_in) l25 c25 k25, PySem.W.mg_of X G a25, (fun_mk (st := s_put_in) l25 c25 k25).binds (ps := ["space", "row", "by"]) fun _ _ _ _ _ _ us hl => match us, hl with | [_, _, _], _ => rfl⟩
    d_reduced_rows := ⟨f26, _, fun_mk (st := s_reduced_rows) l26 c26 k26, PySem.W.mg_of X G a26, (fun_mk (st := s_reduced_rows) l26 c26 k26).binds (ps := ["rows", "by"]) fun _ _ _ _ _ _ us hl => match us, hl with | [_, _], _ => rfl⟩
    d_is_space := ⟨f27, _, fun_mk (st := s_is_space) l27 c27 k27, PySem.W.mg_of X G a27, (fun_mk (st := s_is_space) l27 c27 k27).binds (ps := ["thing", "by"]) fun _ _ _ _ _ _ us hl => match us, hl with | [_, _], _ => rfl⟩
    d_is_field := ⟨f28, _, fun_mk (st := s_is_field) l28 c28 k28, PySem.W.mg_of X G a28, (fun_mk (st := s_is_field) l28 c28 k28).binds (ps := ["by"]) fun _ _ _ _ _ _ us hl => match us, hl with | [_], _ => rfl⟩
    d_need_by := ⟨f29, _, fun_mk (st := s_need_by) l29 c29 k29, PySem.W.mg_of X G a29, (fun_mk (st := s_need_by) l29 c29 k29).binds (ps := ["by"]) fun _ _ _ _ _ _ us hl => match us, hl with | [_], _ => rfl⟩
    d_is_reduced := ⟨f30, _, fun_mk (st := s_is_reduced) l30 c30 k30, PySem.W.mg_of X G a30, (fun_mk (st := s_is_reduced) l30 c30 k30).binds (ps := ["thing", "by"]) fun _ _ _ _ _ _ us hl => match us, hl with | [_, _], _ => rfl⟩
    z_abs := PySem.W.mg_none_of X G z_abs
    z_all := PySem.W.mg_none_of X G z_all
    z_bool := PySem.W.mg_none_of X G z_bool
    z_dict := PySem.W.mg_none_of X G z_dict
    z_enumerate := PySem.W.mg_none_of X G z_enumerate
    z_int := PySem.W.mg_none_of X G z_int
    z_isinstance := PySem.W.mg_none_of X G z_isinstance
    z_len := PySem.W.mg_none_of X G z_len
    z_list := PySem.W.mg_none_of X G z_list
    z_max := PySem.W.mg_none_of X G z_max
    z_min := PySem.W.mg_none_of X G z_min
    z_range := PySem.W.mg_none_of X G z_range
    z_sorted := PySem.W.mg_none_of X G z_sorted
    z_str := PySem.W.mg_none_of X G z_str
    z_tuple := PySem.W.mg_none_of X G z_tuple
    z_zip := PySem.W.mg_none_of X G z_zip
    zi_MOST_LONG := ⟨ti_MOST_LONG, PySem.W.mg_of X G zi_MOST_LONG⟩
    zf_gcd := PySem.W.mg_of X G zf_gcd }
  exact ⟨_, fun s v => .of_eq rfl, fun base _ _ => ok_law T (fun_mk (st := s_law) l31 c31 k31) math⟩
end K21
open PySem PySem.W PyProof.Rows
set_option maxHeartbeats 0 in
theorem PySem.Challenge.cw_foldedsums_k21_reduced_rows_judged_holds : PySem.Challenge.rw_foldedsums_k21_reduced_rows_judged.Holds := by
  w_on; o_law; k_head; (case hw => w_witness2)
  k_fill
  refine L2.walk_of (l := PySem.Challenge.rw_foldedsums_k21_reduced_rows_judged) (n := 63) (k := 8) (x := "script") (CX := fun w => L2.CX PySem.Challenge.rw_foldedsums_k21_reduced_rows_judged.prog w) (sp := fun w => DL.spLawD _) rfl (by decide) rfl ⟨rfl, by decide, by decide⟩ (fun w h Y => PySem.W.kIn_of Y) ?F (fun _ _ a ns hl _ hS => ⟨a, ns, rfl, hS, hl, fun _ => rfl⟩) (fun _ _ _ _ _ h => by obtain ⟨_, _, _, _, _, _, _, _, _, _, _, _, z⟩ := h; exact z)
  case F =>
    intro w mg fa h KX G hmg
    refine' K21.all_mk KX G hmg ?a0 ?l0 ?c0 ?k0 ?a1 ?l1 ?c1 ?k1 ?a2 ?l2 ?c2 ?k2 ?a3 ?l3 ?c3 ?k3 ?a4 ?l4 ?c4 ?k4 ?a5 ?l5 ?c5 ?k5 ?a6 ?l6 ?c6 ?k6 ?a7 ?l7 ?c7 ?k7 ?a8 ?l8 ?c8 ?k8 ?a9 ?l9 ?c9 ?k9 ?a10 ?l10 ?c10 ?k10 ?a11 ?l11 ?c11 ?k11 ?a12 ?l12 ?c12 ?k12 ?a13 ?l13 ?c13 ?k13 ?a14 ?l14 ?c14 ?k14 ?a15 ?l15 ?c15 ?k15 ?a16 ?l16 ?c16 ?k16 ?a17 ?l17 ?c17 ?k17 ?a18 ?l18 ?c18 ?k18 ?a19 ?l19 ?c19 ?k19 ?a20 ?l20 ?c20 ?k20 ?a21 ?l21 ?c21 ?k21 ?a22 ?l22 ?c22 ?k22 ?a23 ?l23 ?c23 ?k23 ?a24 ?l24 ?c24 ?k24 ?a25 ?l25 ?c25 ?k25 ?a26 ?l26 ?c26 ?k26 ?a27 ?l27 ?c27 ?k27 ?a28 ?l28 ?c28 ?k28 ?a29 ?l29 ?c29 ?k29 ?a30 ?l30 ?c30 ?k30 ?a31 ?l31 ?c31 ?k31 ?z_abs ?z_all ?z_bool ?z_dict ?z_enumerate ?z_int ?z_isinstance ?z_len ?z_list ?z_max ?z_min ?z_range ?z_sorted ?z_str ?z_tuple ?z_zip ?zi_MOST_LONG ?zf_gcd
    (case a0 => k_is); (case l0 => k_is); (case c0 => k_is); (case k0 => k_is); (case a1 => k_is); (case l1 => k_is); (case c1 => k_is); (case k1 => k_is); (case a2 => k_is); (case l2 => k_is); (case c2 => k_is); (case k2 => k_is); (case a3 => k_is); (case l3 => k_is); (case c3 => k_is); (case k3 => k_is); (case a4 => k_is); (case l4 => k_is); (case c4 => k_is); (case k4 => k_is); (case a5 => k_is); (case l5 => k_is); (case c5 => k_is); (case k5 => k_is); (case a6 => k_is); (case l6 => k_is); (case c6 => k_is); (case k6 => k_is); (case a7 => k_is); (case l7 => k_is); (case c7 => k_is); (case k7 => k_is); (case a8 => k_is); (case l8 => k_is); (case c8 => k_is); (case k8 => k_is); (case a9 => k_is); (case l9 => k_is); (case c9 => k_is); (case k9 => k_is); (case a10 => k_is); (case l10 => k_is); (case c10 => k_is); (case k10 => k_is); (case a11 => k_is); (case l11 => k_is); (case c11 => k_is); (case k11 => k_is); (case a12 => k_is); (case l12 => k_is); (case c12 => k_is); (case k12 => k_is); (case a13 => k_is); (case l13 => k_is); (case c13 => k_is); (case k13 => k_is); (case a14 => k_is); (case l14 => k_is); (case c14 => k_is); (case k14 => k_is); (case a15 => k_is); (case l15 => k_is); (case c15 => k_is); (case k15 => k_is); (case a16 => k_is); (case l16 => k_is); (case c16 => k_is); (case k16 => k_is); (case a17 => k_is); (case l17 => k_is); (case c17 => k_is); (case k17 => k_is); (case a18 => k_is); (case l18 => k_is); (case c18 => k_is); (case k18 => k_is); (case a19 => k_is); (case l19 => k_is); (case c19 => k_is); (case k19 => k_is); (case a20 => k_is); (case l20 => k_is); (case c20 => k_is); (case k20 => k_is); (case a21 => k_is); (case l21 => k_is); (case c21 => k_is); (case k21 => k_is); (case a22 => k_is); (case l22 => k_is); (case c22 => k_is); (case k22 => k_is); (case a23 => k_is); (case l23 => k_is); (case c23 => k_is); (case k23 => k_is); (case a24 => k_is); (case l24 => k_is); (case c24 => k_is); (case k24 => k_is); (case a25 => k_is); (case l25 => k_is); (case c25 => k_is); (case k25 => k_is); (case a26 => k_is); (case l26 => k_is); (case c26 => k_is); (case k26 => k_is); (case a27 => k_is); (case l27 => k_is); (case c27 => k_is); (case k27 => k_is); (case a28 => k_is); (case l28 => k_is); (case c28 => k_is); (case k28 => k_is); (case a29 => k_is); (case l29 => k_is); (case c29 => k_is); (case k29 => k_is); (case a30 => k_is); (case l30 => k_is); (case c30 => k_is); (case k30 => k_is); (case a31 => k_is); (case l31 => k_is); (case c31 => k_is); (case k31 => k_is); (case z_abs => k_is); (case z_all => k_is); (case z_bool => k_is); (case z_dict => k_is); (case z_enumerate => k_is); (case z_int => k_is); (case z_isinstance => k_is); (case z_len => k_is); (case z_list => k_is); (case z_max => k_is); (case z_min => k_is); (case z_range => k_is); (case z_sorted => k_is); (case z_str => k_is); (case z_tuple => k_is); (case z_zip => k_is); (case zi_MOST_LONG => k_is); (case zf_gcd => k_is)

