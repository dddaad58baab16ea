import PyProof.Rows.All
import HandS.ForMost
import HandS.Wide
import HandS.IsInst
import HandS.Style
import HandS.Zip
import HandS.Conv
import HandS.NoneIn
import HandS.Walk
import KE.GoesMore
import HandS.WordsExc
import KE.KDictZip
import KE.GoesZip
import HandS.Codes
import PySem.Challenge.RW_foldedsums_k01_signs_told_from_others
set_option Elab.async false
set_option linter.all false
set_option maxRecDepth 100000
set_option maxHeartbeats 4000000
/-! DL: what a def does, told of data. Pure trees (D), mutable things by labels in a world (W). -/
namespace DL
open PySem PySem.Spec PyProof.Rows L2

inductive Ty where
  | non | bl | int | str | lst | tup | dct
  deriving DecidableEq
def Ty.nm : Ty → String
  | .non => "NoneType" | .bl => "bool" | .int => "int" | .str => "str" | .lst => "list" | .tup => "tuple" | .dct => "dict"
/-- data: frz is the script, a list that is locked -/
inductive D where
  | non | bl (b : Bool) | int (i : Int) | str (s : Str) | ty (t : Ty) | frz (xs : List D)
  | lst (xs : List D) | tup (xs : List D)
  | dK (kvs : List (Key × D)) | dT (kvs : List (List Key × D))
/-- a value at run time: data, or a label -/
inductive RV where
  | d (x : D) | r (l : Nat)
/-- what a label stands for: a list that may change; a thing that never changes again -/
inductive MO where
  | lst (xs : List RV)
  | fz (x : D)
def MO.mut : MO → Prop
  | .fz _ => False
  | _ => True
abbrev Wd := List MO
/-- an exception: its class's name, its fields -/
structure DX where
  cls : Str
  fs : List (Str × D)
abbrev Env := List (Option RV)

/-- the readings' monad -/
abbrev M (α : Type) := Wd → Option (Except DX α × Wd)
def M.ret {α : Type} (a : α) : M α := fun W => some (.ok a, W)
def M.fail {α : Type} : M α := fun _ => none
def M.bind {α β : Type} (m : M α) (f : α → M β) : M β := fun W =>
  match m W with
  | none => none
  | some (.ok a, W') => f a W'
  | some (.error e, W') => some (.error e, W')
def M.opt {α : Type} (o : Option α) : M α := fun W => match o with | some a => some (.ok a, W) | none => none
instance : Monad M where
  pure := M.ret
  bind := M.bind
def wpM {α : Type} (m : M α) (W : Wd) (Q : α → Wd → Prop) (E : DX → Wd → Prop) : Prop :=
  match m W with
  | none => False
  | some (.ok a, W') => Q a W'
  | some (.error e, W') => E e W'
theorem wpM_bind {α β : Type} {m : M α} {f : α → M β} {W : Wd} {Q : β → Wd → Prop} {E : DX → Wd → Prop} : wpM (m.bind f) W Q E ↔ wpM m W (fun a W' => wpM (f a) W' Q E) E := by
  unfold wpM M.bind
  cases m W with
  | none => exact Iff.rfl
  | some p =>
    obtain ⟨r, W'⟩ := p
    cases r with
    | ok a => exact Iff.rfl
    | error e => exact Iff.rfl
theorem wpM_ret {α : Type} {a : α} {W : Wd} {Q : α → Wd → Prop} {E : DX → Wd → Prop} : wpM (M.ret a) W Q E ↔ Q a W := Iff.rfl
theorem wpM_opt {α : Type} {o : Option α} {W : Wd} {Q : α → Wd → Prop} {E : DX → Wd → Prop} (h : wpM (M.opt o) W Q E) : ∃ a, o = some a ∧ Q a W := by
  cases o with
  | none => exact h.elim
  | some a => exact ⟨a, rfl, h⟩
theorem wpM_mono {α : Type} {m : M α} {W : Wd} {Q Q' : α → Wd → Prop} {E E' : DX → Wd → Prop} (h : wpM m W Q E) (hq : ∀ a W', Q a W' → Q' a W') (he : ∀ e W', E e W' → E' e W') : wpM m W Q' E' := by
  unfold wpM at h ⊢
  cases e : m W with
  | none => rw [e] at h; exact h.elim
  | some p =>
    obtain ⟨r, W'⟩ := p
    rw [e] at h
    cases r with
    | ok a => exact hq _ _ h
    | error e => exact he _ _ h

/-! ### what is fixed through a def's body; a configuration -/
structure Gh where
  K : PySem.W.Frag
  Ex : XK
  cv : Str → Value
structure Cf where
  H : Hp
  ren : Nat → Addr
  W : Wd
  Ao : Addr → Prop
def Cf.live (c : Cf) (a : Addr) : Prop := ∃ l o, c.W[l]? = some o ∧ o.mut ∧ c.ren l = a
def Av (c : Cf) (a : Addr) : Prop := c.Ao a ∨ c.live a
mutual
def Rep (c : Cf) : D → V → Prop
  | .non, v => v = .non
  | .bl b, v => v = .bl b
  | .int i, v => v = .int i
  | .str s, v => v = .str s
  | .ty t, v => v = .ty t.nm
  | .frz xs, v => ∃ a o vs, v = .ref a ∧ c.H a = some (.frz o (.lst vs)) ∧ ¬ Av c a ∧ RepL c xs vs
  | .lst xs, v => ∃ a vs, v = .ref a ∧ c.H a = some (.lst vs) ∧ ¬ Av c a ∧ RepL c xs vs
  | .tup xs, v => ∃ a vs, v = .ref a ∧ c.H a = some (.tup vs) ∧ ¬ Av c a ∧ RepL c xs vs
  | .dK kvs, v => ∃ a ws, v = .ref a ∧ c.H a = some (.dK ws) ∧ ¬ Av c a ∧ RepK c kvs ws
  | .dT kvs, v => ∃ a ws, v = .ref a ∧ c.H a = some (.dT ws) ∧ ¬ Av c a ∧ RepT c kvs ws
def RepL (c : Cf) : List D → List V → Prop
  | [], vs => vs = []
  | x :: xs, vs => ∃ v r, vs = v :: r ∧ Rep c x v ∧ RepL c xs r
def RepK (c : Cf) : List (Key × D) → List (Key × V) → Prop
  | [], ws => ws = []
  | (k, x) :: xs, ws => ∃ v r, ws = (k, v) :: r ∧ Rep c x v ∧ RepK c xs r
def RepT (c : Cf) : List (List Key × D) → List (List Key × V) → Prop
  | [], ws => ws = []
  | (k, x) :: xs, ws => ∃ v r, ws = (k, v) :: r ∧ Rep c x v ∧ RepT c xs r
end
structure Ext (c c' : Cf) : Prop where
  keep : ∀ b o, c.H b = some o → ¬ c.live b → c'.H b = some o
  dead : ∀ b o, c.H b = some o → ¬ c.live b → ¬ c'.live b
  ren : ∀ l, l < c.W.length → c'.ren l = c.ren l
  len : c.W.length ≤ c'.W.length
  ao : c'.Ao = c.Ao
theorem Ext.refl (c : Cf) : Ext c c := ⟨fun _ _ h _ => h, fun _ _ _ h => h, fun _ _ => rfl, Nat.le_refl _, rfl⟩
theorem Ext.trans {c c1 c2 : Cf} (a : Ext c c1) (b : Ext c1 c2) : Ext c c2 :=
  ⟨fun x o h n => b.keep x o (a.keep x o h n) (a.dead x o h n), fun x o h n => b.dead x o (a.keep x o h n) (a.dead x o h n),
   fun l h => (b.ren l (Nat.lt_of_lt_of_le h a.len)).trans (a.ren l h), Nat.le_trans a.len b.len, b.ao.trans a.ao⟩
section
variable {G : Gh} {c c' : Cf}
/-- what readings of data lean on -/
structure Wk (c c' : Cf) : Prop where
  keep : ∀ b o, c.H b = some o → ¬ Av c b → c'.H b = some o ∧ ¬ Av c' b
  ren : ∀ l, l < c.W.length → c'.ren l = c.ren l
  len : c.W.length ≤ c'.W.length
theorem Ext.wk (e : Ext c c') : Wk c c' := ⟨fun b o h n => ⟨e.keep b o h fun q => n (.inr q), fun z => z.elim (fun y => n (.inl (by rw [← e.ao]; exact y))) fun y => e.dead b o h (fun q => n (.inr q)) y⟩, e.ren, e.len⟩
theorem Wk.at (e : Wk c c') {a : Addr} {o : HO} (h : c.H a = some o) (n : ¬ Av c a) : c'.H a = some o := (e.keep a o h n).1
theorem Wk.av (e : Wk c c') {a : Addr} {o : HO} (h : c.H a = some o) (n : ¬ Av c a) : ¬ Av c' a := (e.keep a o h n).2
mutual
theorem Rep.monoW (e : Wk c c') : ∀ (x : D) (v : V), Rep c x v → Rep c' x v
  | .non, _, h => h
  | .bl _, _, h => h
  | .int _, _, h => h
  | .str _, _, h => h
  | .ty _, _, h => h
  | .frz xs, v, h => by
    obtain ⟨a, o, vs, rfl, s, n, r⟩ := h
    exact ⟨a, o, vs, rfl, e.at s n, e.av s n, RepL.monoW e xs vs r⟩
  | .lst xs, v, h => by
    obtain ⟨a, vs, rfl, s, n, r⟩ := h
    exact ⟨a, vs, rfl, e.at s n, e.av s n, RepL.monoW e xs vs r⟩
  | .tup xs, v, h => by
    obtain ⟨a, vs, rfl, s, n, r⟩ := h
    exact ⟨a, vs, rfl, e.at s n, e.av s n, RepL.monoW e xs vs r⟩
  | .dK kvs, v, h => by
    obtain ⟨a, vs, rfl, s, n, r⟩ := h
    exact ⟨a, vs, rfl, e.at s n, e.av s n, RepK.monoW e kvs vs r⟩
  | .dT kvs, v, h => by
    obtain ⟨a, vs, rfl, s, n, r⟩ := h
    exact ⟨a, vs, rfl, e.at s n, e.av s n, RepT.monoW e kvs vs r⟩
theorem RepL.monoW (e : Wk c c') : ∀ (xs : List D) (vs : List V), RepL c xs vs → RepL c' xs vs
  | [], _, h => h
  | x :: xs, _, h => by
    obtain ⟨v, r, rfl, h1, h2⟩ := h
    exact ⟨v, r, rfl, Rep.monoW e x v h1, RepL.monoW e xs r h2⟩
theorem RepK.monoW (e : Wk c c') : ∀ (xs : List (Key × D)) (vs : List (Key × V)), RepK c xs vs → RepK c' xs vs
  | [], _, h => h
  | (k, x) :: xs, _, h => by
    obtain ⟨v, r, rfl, h1, h2⟩ := h
    exact ⟨v, r, rfl, Rep.monoW e x v h1, RepK.monoW e xs r h2⟩
theorem RepT.monoW (e : Wk c c') : ∀ (xs : List (List Key × D)) (vs : List (List Key × V)), RepT c xs vs → RepT c' xs vs
  | [], _, h => h
  | (k, x) :: xs, _, h => by
    obtain ⟨v, r, rfl, h1, h2⟩ := h
    exact ⟨v, r, rfl, Rep.monoW e x v h1, RepT.monoW e xs r h2⟩
end
theorem Rep.mono (e : Ext c c') (x : D) (v : V) (h : Rep c x v) : Rep c' x v := Rep.monoW e.wk x v h
theorem RepL.mono (e : Ext c c') (x : List D) (v : List V) (h : RepL c x v) : RepL c' x v := RepL.monoW e.wk x v h
def RepRV (c : Cf) : RV → V → Prop
  | .d x, v => Rep c x v
  | .r l, v => v = .ref (c.ren l) ∧ l < c.W.length
theorem RepRV.monoW (e : Wk c c') {x : RV} {v : V} (h : RepRV c x v) : RepRV c' x v := by
  cases x with
  | d x => exact Rep.monoW e x v h
  | r l => exact ⟨by rw [e.ren l h.2]; exact h.1, Nat.lt_of_lt_of_le h.2 e.len⟩
theorem RepRV.mono (e : Ext c c') {x : RV} {v : V} (h : RepRV c x v) : RepRV c' x v := h.monoW e.wk
def RepVs (c : Cf) (xs : List RV) (vs : List V) : Prop := Paired (RepRV c) xs vs
theorem RepVs.monoW (e : Wk c c') {xs : List RV} {vs : List V} (h : RepVs c xs vs) : RepVs c' xs vs := Paired.mapP h fun _ _ => RepRV.monoW e
theorem RepVs.mono (e : Ext c c') {xs : List RV} {vs : List V} (h : RepVs c xs vs) : RepVs c' xs vs := RepVs.monoW e.wk h
def RepO (c : Cf) : MO → Addr → Prop
  | .lst xs, a => ∃ vs, c.H a = some (.lst vs) ∧ RepVs c xs vs
  | .fz x, a => Rep c x (.ref a)
structure WOk (c : Cf) : Prop where
  obj : ∀ l o, c.W[l]? = some o → RepO c o (c.ren l)
  inj : ∀ l l' o o', c.W[l]? = some o → o.mut → c.W[l']? = some o' → o'.mut → c.ren l = c.ren l' → l = l'
  out : ∀ l o, c.W[l]? = some o → o.mut → ¬ c.Ao (c.ren l)
  ao : ∀ a, c.Ao a → ∃ o, c.H a = some o
theorem RepO.at {a : Addr} {o : MO} (h : RepO c o a) (m : o.mut) : ∃ ho, c.H a = some ho := by
  cases o with
  | lst xs => obtain ⟨vs, e, _⟩ := h; exact ⟨_, e⟩
  | fz x => exact m.elim
/-- behind an extension that leaves the object -/
theorem RepO.monoW (e : Wk c c') {a : Addr} {o : MO} (h : RepO c o a) (k : o.mut → ∀ ho, c.H a = some ho → c'.H a = some ho) : RepO c' o a := by
  cases o with
  | lst xs => obtain ⟨vs, q, r⟩ := h; exact ⟨vs, k trivial _ q, RepVs.monoW e r⟩
  | fz x => exact Rep.monoW e x _ h
theorem RepO.mono (e : Ext c c') {a : Addr} {o : MO} (h : RepO c o a) (k : o.mut → ∀ ho, c.H a = some ho → c'.H a = some ho) : RepO c' o a := h.monoW e.wk k
theorem WOk.has (w : WOk c) {a : Addr} (h : Av c a) : ∃ o, c.H a = some o := by
  rcases h with h | ⟨l, o, h, m, rfl⟩
  · exact w.ao a h
  · exact (w.obj l o h).at m
theorem WOk.fresh (w : WOk c) {a : Addr} (h : c.H a = none) : ¬ Av c a := fun z => by
  obtain ⟨o, e⟩ := w.has z
  rw [h] at e
  cases e
/-- a change that leaves the world's labels and all their objects -/
theorem WOk.of (w : WOk c) {H' : Hp} (k : ∀ b o, c.H b = some o → H' b = some o) : Ext c ⟨H', c.ren, c.W, c.Ao⟩ ∧ WOk ⟨H', c.ren, c.W, c.Ao⟩ := by
  have e : Ext c ⟨H', c.ren, c.W, c.Ao⟩ := ⟨fun b u hb _ => k b u hb, fun _ _ _ n => n, fun _ _ => rfl, Nat.le_refl _, rfl⟩
  refine ⟨e, fun l u hl => (w.obj l u hl).mono e fun _ ho h => k _ _ h, w.inj, w.out, fun a ha => ?_⟩
  obtain ⟨u, hu⟩ := w.ao a ha
  exact ⟨u, k _ _ hu⟩
/-- a pure thing is laid -/
abbrev Cf.lay (c : Cf) (p : Addr) (o : HO) : Cf := ⟨upd c.H p o, c.ren, c.W, c.Ao⟩
theorem lay_keep {p : Addr} {o : HO} (h : c.H p = none) : ∀ b u, c.H b = some u → upd c.H p o b = some u := fun b u hb => by rw [upd_ne (ne_of_none hb h)]; exact hb
theorem WOk.lay (w : WOk c) {p : Addr} {o : HO} (h : c.H p = none) : Ext c (c.lay p o) ∧ WOk (c.lay p o) := w.of (lay_keep h)
theorem WOk.layAv (w : WOk c) {p : Addr} {o : HO} (h : c.H p = none) : ¬ Av (c.lay p o) p := w.fresh h
/-- a mutable thing is laid at a new label -/
abbrev Cf.new (c : Cf) (p : Addr) (o : HO) (m : MO) : Cf := ⟨upd c.H p o, fun l => if l = c.W.length then p else c.ren l, c.W ++ [m], c.Ao⟩
theorem look_new {W : Wd} {m u : MO} {l : Nat} (hl : (W ++ [m])[l]? = some u) : (l < W.length ∧ W[l]? = some u) ∨ (l = W.length ∧ u = m) := by
  by_cases lt : l < W.length
  · rw [List.getElem?_append_left lt] at hl
    exact .inl ⟨lt, hl⟩
  · rw [List.getElem?_append_right (by omega)] at hl
    have : l - W.length = 0 := by
      have := (List.getElem?_eq_some_iff.mp hl).1
      rw [List.length_singleton] at this
      omega
    rw [this] at hl
    have e1 : m = u := by simpa using hl
    exact .inr ⟨by omega, e1.symm⟩
theorem ren_new {p : Addr} {o : HO} {m : MO} {l : Nat} (h : l < c.W.length) : (c.new p o m).ren l = c.ren l := by
  show (if l = c.W.length then p else c.ren l) = _
  rw [if_neg (by omega)]
theorem ren_last {p : Addr} {o : HO} {m : MO} : (c.new p o m).ren c.W.length = p := by show (if c.W.length = c.W.length then p else _) = p; rw [if_pos rfl]
theorem Ext.new {p : Addr} {o : HO} {m : MO} (h : c.H p = none) : Ext c (c.new p o m) := by
  refine ⟨fun b u hb _ => lay_keep h b u hb, fun b u hb n z => ?_, fun l hl => ren_new hl, ?_, rfl⟩
  · obtain ⟨l, x, hl, mu, rfl⟩ := z
    rcases look_new hl with ⟨lt, hl⟩ | ⟨rfl, rfl⟩
    · exact n ⟨l, x, hl, mu, (ren_new lt).symm⟩
    · rw [ren_last] at hb
      rw [h] at hb; cases hb
  · show c.W.length ≤ (c.W ++ [m]).length
    rw [List.length_append]; omega
theorem WOk.new (w : WOk c) {p : Addr} {o : HO} {m : MO} (h : c.H p = none) (r : RepO (c.new p o m) m p) : WOk (c.new p o m) := by
  have e := Ext.new (c := c) (o := o) (m := m) h
  refine ⟨fun l u hl => ?_, fun l l' u u' hl mu hl' mu' q => ?_, fun l u hl mu => ?_, fun a ha => ?_⟩
  · rcases look_new hl with ⟨lt, hl⟩ | ⟨rfl, rfl⟩
    · rw [ren_new lt]
      exact (w.obj l u hl).mono e fun _ ho q => lay_keep h _ _ q
    · rw [ren_last]; exact r
  · rcases look_new hl with ⟨lt, h3⟩ | ⟨e3, _⟩ <;> rcases look_new hl' with ⟨lt', h4⟩ | ⟨e4, _⟩
    · rw [ren_new lt, ren_new lt'] at q
      exact w.inj l l' u u' h3 mu h4 mu' q
    · rw [ren_new lt, e4, ren_last] at q
      obtain ⟨ho, h1⟩ := (w.obj l u h3).at mu
      rw [q, h] at h1; cases h1
    · rw [ren_new lt', e3, ren_last] at q
      obtain ⟨ho, h1⟩ := (w.obj l' u' h4).at mu'
      rw [← q, h] at h1; cases h1
    · rw [e3, e4]
  · rcases look_new hl with ⟨lt, h3⟩ | ⟨e3, _⟩
    · rw [ren_new lt]; exact w.out l u h3 mu
    · rw [e3, ren_last]; exact fun z => w.fresh h (.inl z)
  · obtain ⟨u, hu⟩ := w.ao a ha
    exact ⟨u, lay_keep h _ _ hu⟩
/-- the thing at a label is changed -/
abbrev Cf.put (c : Cf) (l : Nat) (o : HO) (m : MO) : Cf := ⟨upd c.H (c.ren l) o, c.ren, c.W.set l m, c.Ao⟩
theorem look_set {W : Wd} {l k : Nat} {m u : MO} (h : (W.set l m)[k]? = some u) : (k ≠ l ∧ W[k]? = some u) ∨ (k = l ∧ u = m) := by
  by_cases e : k = l
  · subst e
    rw [List.getElem?_set_self'] at h
    cases q : W[k]? with
    | none => rw [q] at h; simp at h
    | some z => rw [q] at h; exact .inr ⟨rfl, by simpa using h.symm⟩
  · rw [List.getElem?_set_ne (Ne.symm e)] at h
    exact .inl ⟨e, h⟩
theorem put_keep {l : Nat} {o : HO} {m0 : MO} (h : c.W[l]? = some m0) (mu : m0.mut) : ∀ b u, c.H b = some u → ¬ c.live b → upd c.H (c.ren l) o b = some u := fun b u hb n => by
  rw [upd_ne (fun (q : b = c.ren l) => n ⟨l, m0, h, mu, q.symm⟩)]; exact hb
theorem Ext.put {l : Nat} {o : HO} {m m0 : MO} (h : c.W[l]? = some m0) (mu : m0.mut) : Ext c (c.put l o m) := by
  refine ⟨put_keep h mu, fun b u hb n z => ?_, fun _ _ => rfl, ?_, rfl⟩
  · obtain ⟨k, x, hk, mx, rfl⟩ := z
    rcases look_set hk with ⟨_, hk⟩ | ⟨rfl, _⟩
    · exact n ⟨k, x, hk, mx, rfl⟩
    · exact n ⟨k, m0, h, mu, rfl⟩
  · show c.W.length ≤ (c.W.set l _).length
    rw [List.length_set]; exact Nat.le_refl _
theorem WOk.put (w : WOk c) {l : Nat} {o : HO} {m m0 : MO} (h : c.W[l]? = some m0) (mu : m0.mut) (r : RepO (c.put l o m) m (c.ren l)) : WOk (c.put l o m) := by
  have e := Ext.put (c := c) (o := o) (m := m) h mu
  refine ⟨fun k u hk => ?_, fun k k' u u' hk mk hk' mk' q => ?_, fun k u hk mk => ?_, fun a ha => ?_⟩
  · rcases look_set hk with ⟨ne, hk⟩ | ⟨rfl, rfl⟩
    · refine (w.obj k u hk).mono e fun mk ho q => ?_
      show upd c.H (c.ren l) o (c.ren k) = _
      rw [upd_ne (fun q => ne (w.inj k l u m0 hk mk h mu q))]; exact q
    · exact r
  · rcases look_set hk with ⟨_, h3⟩ | ⟨e3, _⟩ <;> rcases look_set hk' with ⟨_, h4⟩ | ⟨e4, _⟩
    · exact w.inj k k' u u' h3 mk h4 mk' q
    · subst e4; exact w.inj k k' u m0 h3 mk h mu q
    · subst e3; exact w.inj k k' m0 u' h mu h4 mk' q
    · rw [e3, e4]
  · rcases look_set hk with ⟨_, hk⟩ | ⟨rfl, _⟩
    · exact w.out k u hk mk
    · exact w.out k m0 h mu
  · obtain ⟨u, hu⟩ := w.ao a ha
    by_cases q : a = c.ren l
    · exact absurd ha (q ▸ w.out l m0 h mu)
    · exact ⟨u, by show upd c.H (c.ren l) o a = _; rw [upd_ne q]; exact hu⟩
/-- a label's thing never changes again -/
abbrev Cf.fz (c : Cf) (l : Nat) (x : D) : Cf := ⟨c.H, c.ren, c.W.set l (.fz x), c.Ao⟩
theorem Ext.fz {l : Nat} {x : D} : Ext c (c.fz l x) := by
  refine ⟨fun _ _ h _ => h, fun b o hb n z => ?_, fun _ _ => rfl, by show c.W.length ≤ (c.W.set l _).length; rw [List.length_set]; exact Nat.le_refl _, rfl⟩
  obtain ⟨k, u, hk, mk, rfl⟩ := z
  rcases look_set hk with ⟨_, hk⟩ | ⟨rfl, rfl⟩
  · exact n ⟨k, u, hk, mk, rfl⟩
  · exact mk
theorem WOk.fzAv (w : WOk c) {l : Nat} {m : MO} {x : D} (h : c.W[l]? = some m) (mu : m.mut) : ¬ Av (c.fz l x) (c.ren l) := fun z => by
  rcases z with z | ⟨k, u, hk, mk, q⟩
  · exact w.out l m h mu z
  · rcases look_set hk with ⟨ne, hk⟩ | ⟨rfl, rfl⟩
    · exact ne (w.inj k l u m hk mk h mu q)
    · exact mk
theorem WOk.fz (w : WOk c) {l : Nat} {m : MO} {x : D} (h : c.W[l]? = some m) (mu : m.mut) (r : Rep (c.fz l x) x (.ref (c.ren l))) : WOk (c.fz l x) := by
  refine ⟨fun k u hk => ?_, fun k k' u u' hk mk hk' mk' q => ?_, fun k u hk mk => ?_, w.ao⟩
  · rcases look_set hk with ⟨_, hk⟩ | ⟨rfl, rfl⟩
    · exact (w.obj k u hk).mono Ext.fz fun _ _ q => q
    · exact r
  · rcases look_set hk with ⟨_, h3⟩ | ⟨e3, z3⟩ <;> rcases look_set hk' with ⟨_, h4⟩ | ⟨e4, z4⟩
    · exact w.inj k k' u u' h3 mk h4 mk' q
    · rw [z4] at mk'; exact mk'.elim
    · rw [z3] at mk; exact mk.elim
    · rw [e3, e4]
  · rcases look_set hk with ⟨_, hk⟩ | ⟨rfl, rfl⟩
    · exact w.out k u hk mk
    · exact mk.elim
end
end DL
set_option Elab.async false
set_option linter.all false
set_option maxRecDepth 100000
set_option maxHeartbeats 4000000
/-! DL2: judgements, and the rules of expressions. -/
namespace DL
open PySem PySem.Spec PyProof.Rows L2
/-! ### what is wanted behind -/
def RepF (c : Cf) (fs : List (Str × D)) (ws : List (Str × V)) : Prop := Paired (fun p q => p.1 = q.1 ∧ Rep c p.2 q.2) fs ws
def RepX (G : Gh) (c : Cf) (e : DX) (C : Value) (d : Option Addr) : Prop :=
  C = G.cv e.cls ∧ ((∃ dd ws, d = some dd ∧ c.H dd = some (.xd ws) ∧ RepF c e.fs ws) ∨ (e.fs = [] ∧ d = none))
def QV (c : Cf) (Q : VK) : RV → Wd → Prop := fun v W' => ∀ x c', c'.W = W' → Ext c c' → WOk c' → RepRV c' v x → Q x c'.H
def QE (G : Gh) (c : Cf) : DX → Wd → Prop := fun e W' => ∀ C d c', c'.W = W' → Ext c c' → WOk c' → RepX G c' e C d → G.Ex C d c'.H
def QB (c : Cf) (Q : Bool → Hp → Prop) : Bool → Wd → Prop := fun b W' => ∀ c', c'.W = W' → Ext c c' → WOk c' → Q b c'.H
def QA (c : Cf) (Q : List V → Hp → Prop) : List RV → Wd → Prop := fun vs W' => ∀ xs c', c'.W = W' → Ext c c' → WOk c' → RepVs c' vs xs → Q xs c'.H
section
variable {G : Gh} {c c1 : Cf}
theorem QV.mono {Q : VK} {v : RV} {W : Wd} (e : Ext c c1) (h : QV c Q v W) : QV c1 Q v W := fun x c' hw e' w r => h x c' hw (e.trans e') w r
theorem QE.mono {x : DX} {W : Wd} (e : Ext c c1) (h : QE G c x W) : QE G c1 x W := fun C d c' hw e' w r => h C d c' hw (e.trans e') w r
theorem QB.mono {Q : Bool → Hp → Prop} {b : Bool} {W : Wd} (e : Ext c c1) (h : QB c Q b W) : QB c1 Q b W := fun c' hw e' w => h c' hw (e.trans e') w
theorem QA.mono {Q : List V → Hp → Prop} {vs : List RV} {W : Wd} (e : Ext c c1) (h : QA c Q vs W) : QA c1 Q vs W := fun x c' hw e' w r => h x c' hw (e.trans e') w r
theorem QV.here {Q : VK} {v : RV} {x : V} (h : QV c Q v c.W) (w : WOk c) (r : RepRV c v x) : Q x c.H := h x c rfl (Ext.refl c) w r
end
structure SOk (σ : L2.St) (δ : Env) (c : Cf) : Prop where
  len : σ.length = δ.length
  get : ∀ (i : Nat) (rv : RV), δ[i]? = some (some rv) → ∃ v, σ[i]? = some (some v) ∧ RepRV c rv v
theorem SOk.mono {σ : L2.St} {δ : Env} {c c' : Cf} (s : SOk σ δ c) (e : Ext c c') : SOk σ δ c' :=
  ⟨s.len, fun i rv h => let ⟨v, h1, h2⟩ := s.get i rv h; ⟨v, h1, h2.mono e⟩⟩
theorem SOk.set {σ : L2.St} {δ : Env} {c : Cf} (s : SOk σ δ c) {rv : RV} {v : V} (i : Nat) (r : RepRV c rv v) : SOk (σ.set i (some v)) (δ.set i (some rv)) c := by
  refine ⟨by rw [List.length_set, List.length_set, s.len], fun j x h => ?_⟩
  by_cases e : j = i
  · subst e
    rw [List.getElem?_set_self'] at h ⊢
    cases q : δ[j]? with
    | none => rw [q] at h; simp at h
    | some z =>
      rw [q] at h
      have hx : x = rv := by simpa using h.symm
      subst hx
      have lt : j < σ.length := by rw [s.len]; exact (List.getElem?_eq_some_iff.mp q).1
      rw [List.getElem?_eq_getElem lt]
      exact ⟨v, rfl, r⟩
  · rw [List.getElem?_set_ne (Ne.symm e)] at h ⊢
    exact s.get j x h

/-! ### readings -/
def RdE (G : Gh) (t : TE) (F : Env → M RV) : Prop := ∀ (c : Cf) (σ : L2.St) (δ : Env) (Q : VK), SOk σ δ c → WOk c → wpM (F δ) c.W (QV c Q) (QE G c) → t σ c.H Q
def RdT (G : Gh) (t : TT) (F : Env → M Bool) : Prop := ∀ (c : Cf) (σ : L2.St) (δ : Env) (Q : Bool → Hp → Prop), SOk σ δ c → WOk c → wpM (F δ) c.W (QB c Q) (QE G c) → t σ c.H Q
def RdA (G : Gh) (t : TA) (F : Env → M (List RV)) : Prop := ∀ (c : Cf) (σ : L2.St) (δ : Env) (Q : List V → Hp → Prop), SOk σ δ c → WOk c → wpM (F δ) c.W (QA c Q) (QE G c) → t σ c.H Q
section
variable {ι : Type} {𝒳 : ι → Cx} {G : Gh}
def DE (𝒳 : ι → Cx) (G : Gh) (e : Expr) (F : Env → M RV) : Prop := ∃ t, (∀ i, PE (𝒳 i) e t) ∧ RdE G t F
def DT (𝒳 : ι → Cx) (G : Gh) (e : Expr) (F : Env → M Bool) : Prop := ∃ t, (∀ i, PT (𝒳 i) e t) ∧ RdT G t F
def DW (𝒳 : ι → Cx) (G : Gh) (e : Expr) (F : Env → M Bool) : Prop := ∃ t, (∀ i, PW (𝒳 i) e t) ∧ RdT G t F
def DA (𝒳 : ι → Cx) (G : Gh) (es : List Expr) (F : Env → M (List RV)) : Prop := ∃ t, (∀ i, PA (𝒳 i) es t) ∧ RdA G t F
/-- the contexts of a def's body and of what stands in it -/
structure Fam (𝒳 : ι → Cx) (G : Gh) (CX : CXT) (k : Nat) : Prop where
  K : ∀ i, (𝒳 i).K = G.K
  calm : ∀ i, (𝒳 i).calm = true
  room : ∀ i, Room k (𝒳 i).A
  pass : ∀ i, Passes CX (𝒳 i) G.Ex
variable {e a b : Expr} {Fa Fb : Env → M RV} {pos : Pos}
theorem DE.never : DE 𝒳 G e (fun _ => M.fail) := ⟨fun _ _ _ => False, fun _ => ⟨fun _ _ _ _ _ _ h => h.elim⟩, fun _ _ _ _ _ _ h => h.elim⟩
theorem de_int {i j pos} : DE 𝒳 G (.Constant (.int i) j pos) (fun _ => M.ret (.d (.int i))) := ⟨_, fun _ => pe_int, fun c σ δ Q s w h => QV.here (v := .d (.int i)) h w rfl⟩
theorem de_str {x j pos} : DE 𝒳 G (.Constant (.str x) j pos) (fun _ => M.ret (.d (.str x))) := ⟨_, fun _ => pe_str, fun c σ δ Q s w h => QV.here (v := .d (.str x)) h w rfl⟩
theorem de_bl {x j pos} : DE 𝒳 G (.Constant (.bool x) j pos) (fun _ => M.ret (.d (.bl x))) := ⟨_, fun _ => pe_bl, fun c σ δ Q s w h => QV.here (v := .d (.bl x)) h w rfl⟩
theorem de_non {j pos} : DE 𝒳 G (.Constant .none j pos) (fun _ => M.ret (.d .non)) := ⟨_, fun _ => pe_non, fun c σ δ Q s w h => QV.here (v := .d .non) h w rfl⟩
/-- a slot's value -/
def evVar (i : Nat) (δ : Env) : M RV := M.opt (δ[i]?.join)
theorem de_var (i : Nat) {x : Str} (hN : ∀ k, (𝒳 k).N[i]? = some x := by intro _; rfl) (hv : ∀ k, Vis (𝒳 k).env.scope x := by intro _; first | exact Or.inl rfl | exact Or.inr (Or.inl rfl) | exact Or.inr (Or.inr rfl)) (hd : (x == ("__debug__" : Str)) = false := by decide)
    (hcd : (x == ("__classdict__" : Str)) = false := by decide) : DE 𝒳 G (.Name x pos) (evVar i) := by
  refine ⟨_, fun k => pe_var (hN k) (hv k) hd hcd, fun c σ δ Q s w h => ?_⟩
  obtain ⟨rv, e, q⟩ := wpM_opt h
  have e2 : δ[i]? = some (some rv) := by
    cases z : δ[i]? with
    | none => rw [z] at e; simp at e
    | some y => rw [z] at e; simp at e; rw [e]
  obtain ⟨v, h1, h2⟩ := s.get i rv e2
  exact ⟨v, h1, q.here w h2⟩
/-! ### two operands -/
def OpD (G : Gh) (r : R2) (op : RV → RV → M RV) : Prop := ∀ (c : Cf) (x y : V) (u v : RV) (Q : VK), WOk c → RepRV c u x → RepRV c v y → wpM (op u v) c.W (QV c Q) (QE G c) → r x y c.H Q
def ev2 (op : RV → RV → M RV) (Fa Fb : Env → M RV) (δ : Env) : M RV := (Fa δ).bind fun u => (Fb δ).bind fun v => op u v
theorem RdE.two {ta tb : TE} {r : R2} {op : RV → RV → M RV} (ha : RdE G ta Fa) (hb : RdE G tb Fb) (hr : OpD G r op) : RdE G (tOp r ta tb) (ev2 op Fa Fb) := by
  intro c σ δ Q s w h
  refine ha c σ δ _ s w (wpM_mono (wpM_bind.mp h) (fun u W1 h1 x1 c1 hw e1 w1 r1 => ?_) fun _ _ q => q)
  subst hw
  refine hb c1 σ δ _ (s.mono e1) w1 (wpM_mono (wpM_bind.mp h1) (fun v W2 h2 x2 c2 hw e2 w2 r2 => ?_) fun _ _ q => q.mono e1)
  subst hw
  exact hr c2 x1 x2 u v Q w2 (r1.mono e2) r2 (wpM_mono h2 (fun _ _ q => (q.mono e1).mono e2) fun _ _ q => (q.mono e1).mono e2)
theorem OpD.or {r r' : R2} {op op' : RV → RV → M RV} (f : RV → RV → Bool) (h : OpD G r op) (h' : OpD G r' op') : OpD G (fun x y H Q => r x y H Q ∨ r' x y H Q) (fun u v => if f u v then op u v else op' u v) := by
  intro c x y u v Q w ru rv hq
  dsimp only at hq
  cases e : f u v with
  | true => rw [e] at hq; exact .inl (h c x y u v Q w ru rv hq)
  | false => rw [e] at hq; exact .inr (h' c x y u v Q w ru rv hq)
theorem de_bin {op : Operator} {r : R2} {f : RV → RV → M RV} (hp : ∀ i, OpR (𝒳 i) (binaryOp op) r) (hr : OpD G r f) (ha : DE 𝒳 G a Fa) (hb : DE 𝒳 G b Fb) : DE 𝒳 G (.BinOp a op b pos) (ev2 f Fa Fb) := by
  obtain ⟨ta, pa, ra⟩ := ha
  obtain ⟨tb, pb, rb⟩ := hb
  exact ⟨_, fun i => pe_op (hp i) (pa i) (pb i), ra.two rb hr⟩
theorem de_cmp {op : CmpOp} {r : R2} {f : RV → RV → M RV} (hp : ∀ i, OpR (𝒳 i) (compareOp op) r) (hr : OpD G r f) (ha : DE 𝒳 G a Fa) (hb : DE 𝒳 G b Fb) (hm : behindInMarks op b = false) : DE 𝒳 G (.Compare a [op] [b] pos) (ev2 f Fa Fb) := by
  obtain ⟨ta, pa, ra⟩ := ha
  obtain ⟨tb, pb, rb⟩ := hb
  exact ⟨_, fun i => pe_cmpR (hp i) (pa i) (pb i) hm, ra.two rb hr⟩
/-- a value that is True or False -/
def asB : RV → M Bool
  | .d (.bl b) => M.ret b
  | _ => M.fail
def evB (F : Env → M RV) (δ : Env) : M Bool := (F δ).bind asB
theorem asB_ok {v : RV} {W : Wd} {Q : Bool → Wd → Prop} {E : DX → Wd → Prop} (h : wpM (asB v) W Q E) : ∃ b, v = .d (.bl b) ∧ Q b W := by
  cases v with
  | r l => exact h.elim
  | d x => cases x <;> first | exact ⟨_, rfl, h⟩ | exact h.elim
theorem RdE.test {t : TE} {F : Env → M RV} (h : RdE G t F) : RdT G (tTest t) (evB F) := by
  intro c σ δ Q s w hq
  refine h c σ δ _ s w (wpM_mono (wpM_bind.mp hq) (fun u W1 h1 x1 c1 hw e1 w1 r1 => ?_) fun _ _ q => q)
  obtain ⟨b, rfl, q⟩ := asB_ok h1
  exact ⟨b, r1, q c1 hw e1 w1⟩
theorem dt_cmp {op : CmpOp} {r : R2} {f : RV → RV → M RV} (hp : ∀ i, OpR (𝒳 i) (compareOp op) r) (hr : OpD G r f) (ha : DE 𝒳 G a Fa) (hb : DE 𝒳 G b Fb) (hm : behindInMarks op b = false) : DT 𝒳 G (.Compare a [op] [b] pos) (evB (ev2 f Fa Fb)) := by
  obtain ⟨ta, pa, ra⟩ := ha
  obtain ⟨tb, pb, rb⟩ := hb
  exact ⟨_, fun i => pt_cmpR (hp i) (pa i) (pb i) hm, (ra.two rb hr).test⟩
theorem dt_val {F : Env → M RV} (h : DE 𝒳 G e F) (he : ∀ i, ∀ whole, isTrue e (𝒳 i).env whole = (do let v ← whole; standAt e.pos; holding [v] (truthy v)) := by intro _ _; rfl) : DT 𝒳 G e (evB F) := by
  obtain ⟨t, p, r⟩ := h
  exact ⟨_, fun i => pt_val (p i) (he i), r.test⟩
/-! ### and, or, not -/
variable {Ta Tb : Env → M Bool} {rest : List Expr}
def evAnd (Fa Fb : Env → M RV) (δ : Env) : M RV := (Fa δ).bind fun u => (asB u).bind fun c => if c then Fb δ else M.ret (.d (.bl false))
def evOr (Fa Fb : Env → M RV) (δ : Env) : M RV := (Fa δ).bind fun u => (asB u).bind fun c => if c then M.ret (.d (.bl true)) else Fb δ
def evNot (Fa : Env → M RV) (δ : Env) : M RV := (Fa δ).bind fun u => (asB u).bind fun c => M.ret (.d (.bl !c))
theorem de_one {op} (h : DE 𝒳 G a Fa) : DE 𝒳 G (.BoolOp op [a] pos) Fa := let ⟨_, p, r⟩ := h; ⟨_, fun i => pe_one (p i), r⟩
theorem de_and (ha : DE 𝒳 G a Fa) (hb : DE 𝒳 G (.BoolOp .And (b :: rest) pos) Fb) : DE 𝒳 G (.BoolOp .And (a :: b :: rest) pos) (evAnd Fa Fb) := by
  obtain ⟨ta, pa, ra⟩ := ha
  obtain ⟨tb, pb, rb⟩ := hb
  refine ⟨_, fun i => pe_and (pa i) (pb i), fun c σ δ Q s w hq => ?_⟩
  refine ra c σ δ _ s w (wpM_mono (wpM_bind.mp hq) (fun u W1 h1 x1 c1 hw e1 w1 r1 => ?_) fun _ _ q => q)
  subst hw
  obtain ⟨k, rfl, q⟩ := asB_ok (wpM_bind.mp h1)
  refine ⟨k, r1, ?_⟩
  cases k with
  | true => exact rb c1 σ δ Q (s.mono e1) w1 (wpM_mono q (fun _ _ q => q.mono e1) fun _ _ q => q.mono e1)
  | false => exact QV.here (v := .d (.bl false)) (QV.mono e1 q) w1 rfl
theorem de_or (ha : DE 𝒳 G a Fa) (hb : DE 𝒳 G (.BoolOp .Or (b :: rest) pos) Fb) : DE 𝒳 G (.BoolOp .Or (a :: b :: rest) pos) (evOr Fa Fb) := by
  obtain ⟨ta, pa, ra⟩ := ha
  obtain ⟨tb, pb, rb⟩ := hb
  refine ⟨_, fun i => pe_or (pa i) (pb i), fun c σ δ Q s w hq => ?_⟩
  refine ra c σ δ _ s w (wpM_mono (wpM_bind.mp hq) (fun u W1 h1 x1 c1 hw e1 w1 r1 => ?_) fun _ _ q => q)
  subst hw
  obtain ⟨k, rfl, q⟩ := asB_ok (wpM_bind.mp h1)
  refine ⟨k, r1, ?_⟩
  cases k with
  | true => exact QV.here (v := .d (.bl true)) (QV.mono e1 q) w1 rfl
  | false => exact rb c1 σ δ Q (s.mono e1) w1 (wpM_mono q (fun _ _ q => q.mono e1) fun _ _ q => q.mono e1)
theorem de_not (ha : DE 𝒳 G a Fa) : DE 𝒳 G (.UnaryOp .Not a pos) (evNot Fa) := by
  obtain ⟨ta, pa, ra⟩ := ha
  refine ⟨_, fun i => pe_not (pa i), fun c σ δ Q s w hq => ?_⟩
  refine ra c σ δ _ s w (wpM_mono (wpM_bind.mp hq) (fun u W1 h1 x1 c1 hw e1 w1 r1 => ?_) fun _ _ q => q)
  subst hw
  obtain ⟨k, rfl, q⟩ := asB_ok (wpM_bind.mp h1)
  exact ⟨k, r1, QV.here (v := .d (.bl !k)) (QV.mono e1 q) w1 rfl⟩
def evAndT (Ta Tb : Env → M Bool) (δ : Env) : M Bool := (Ta δ).bind fun c => if c then Tb δ else M.ret false
def evOrT (Ta Tb : Env → M Bool) (δ : Env) : M Bool := (Ta δ).bind fun c => if c then M.ret true else Tb δ
def evNotT (Ta : Env → M Bool) (δ : Env) : M Bool := (Ta δ).bind fun c => M.ret !c
theorem DW.t (h : DW 𝒳 G e Ta) : DT 𝒳 G e Ta := let ⟨_, p, r⟩ := h; ⟨_, fun i => (p i).pt, r⟩
theorem dw_and1 (h : DT 𝒳 G a Ta) : DW 𝒳 G (.BoolOp .And [a] pos) Ta := let ⟨_, p, r⟩ := h; ⟨_, fun i => pw_and1 (p i), r⟩
theorem dw_or1 (h : DT 𝒳 G a Ta) : DW 𝒳 G (.BoolOp .Or [a] pos) Ta := let ⟨_, p, r⟩ := h; ⟨_, fun i => pw_or1 (p i), r⟩
theorem dw_and (ha : DT 𝒳 G a Ta) (hb : DW 𝒳 G (.BoolOp .And (b :: rest) pos) Tb) : DW 𝒳 G (.BoolOp .And (a :: b :: rest) pos) (evAndT Ta Tb) := by
  obtain ⟨ta, pa, ra⟩ := ha
  obtain ⟨tb, pb, rb⟩ := hb
  refine ⟨_, fun i => pw_and (pa i) (pb i), fun c σ δ Q s w hq => ?_⟩
  refine ra c σ δ _ s w (wpM_mono (wpM_bind.mp hq) (fun k W1 h1 c1 hw e1 w1 => ?_) fun _ _ q => q)
  subst hw
  cases k with
  | true => exact rb c1 σ δ Q (s.mono e1) w1 (wpM_mono h1 (fun _ _ q => q.mono e1) fun _ _ q => q.mono e1)
  | false => exact h1 c1 rfl e1 w1
theorem dw_or (ha : DT 𝒳 G a Ta) (hb : DW 𝒳 G (.BoolOp .Or (b :: rest) pos) Tb) : DW 𝒳 G (.BoolOp .Or (a :: b :: rest) pos) (evOrT Ta Tb) := by
  obtain ⟨ta, pa, ra⟩ := ha
  obtain ⟨tb, pb, rb⟩ := hb
  refine ⟨_, fun i => pw_or (pa i) (pb i), fun c σ δ Q s w hq => ?_⟩
  refine ra c σ δ _ s w (wpM_mono (wpM_bind.mp hq) (fun k W1 h1 c1 hw e1 w1 => ?_) fun _ _ q => q)
  subst hw
  cases k with
  | true => exact h1 c1 rfl e1 w1
  | false => exact rb c1 σ δ Q (s.mono e1) w1 (wpM_mono h1 (fun _ _ q => q.mono e1) fun _ _ q => q.mono e1)
theorem dt_not (ha : DT 𝒳 G a Ta) : DT 𝒳 G (.UnaryOp .Not a pos) (evNotT Ta) := by
  obtain ⟨ta, pa, ra⟩ := ha
  refine ⟨_, fun i => pt_not (pa i), fun c σ δ Q s w hq => ?_⟩
  refine ra c σ δ _ s w (wpM_mono (wpM_bind.mp hq) (fun k W1 h1 c1 hw e1 w1 => ?_) fun _ _ q => q)
  exact h1 c1 hw e1 w1
/-- a if t else b -/
def evIf (T : Env → M Bool) (Fa Fb : Env → M RV) (δ : Env) : M RV := (T δ).bind fun c => if c then Fa δ else Fb δ
theorem de_if {t : Expr} (ht : DT 𝒳 G t Ta) (ha : DE 𝒳 G a Fa) (hb : DE 𝒳 G b Fb) : DE 𝒳 G (.IfExp t a b pos) (evIf Ta Fa Fb) := by
  obtain ⟨tt, pt, rt⟩ := ht
  obtain ⟨ta, pa, ra⟩ := ha
  obtain ⟨tb, pb, rb⟩ := hb
  refine ⟨_, fun i => pe_ifExp (pt i) (pa i) (pb i), fun c σ δ Q s w hq => ?_⟩
  refine rt c σ δ _ s w (wpM_mono (wpM_bind.mp hq) (fun k W1 h1 c1 hw e1 w1 => ?_) fun _ _ q => q)
  subst hw
  cases k with
  | true => exact ra c1 σ δ Q (s.mono e1) w1 (wpM_mono h1 (fun _ _ q => q.mono e1) fun _ _ q => q.mono e1)
  | false => exact rb c1 σ δ Q (s.mono e1) w1 (wpM_mono h1 (fun _ _ q => q.mono e1) fun _ _ q => q.mono e1)
/-! ### argument lists -/
def evNil (_ : Env) : M (List RV) := M.ret []
def evCons (F : Env → M RV) (R : Env → M (List RV)) (δ : Env) : M (List RV) := (F δ).bind fun v => (R δ).bind fun vs => M.ret (v :: vs)
theorem da_nil : DA 𝒳 G [] evNil := ⟨_, fun _ => pa_nil, fun c σ δ Q s w h => h [] c rfl (Ext.refl c) w .nil⟩
theorem da_cons {es : List Expr} {R : Env → M (List RV)} (ha : DE 𝒳 G e Fa) (hr : DA 𝒳 G es R) (hs : ∀ i, starEach (e :: es) (𝒳 i).env = (false, eval e (𝒳 i).env) :: starEach es (𝒳 i).env := by intro _; rfl) : DA 𝒳 G (e :: es) (evCons Fa R) := by
  obtain ⟨ta, pa, ra⟩ := ha
  obtain ⟨tr, pr, rr⟩ := hr
  refine ⟨_, fun i => pa_cons (pa i) (pr i) (hs i), fun c σ δ Q s w hq => ?_⟩
  refine ra c σ δ _ s w (wpM_mono (wpM_bind.mp hq) (fun u W1 h1 x1 c1 hw e1 w1 r1 => ?_) fun _ _ q => q)
  subst hw
  refine rr c1 σ δ _ (s.mono e1) w1 (wpM_mono (wpM_bind.mp h1) (fun vs W2 h2 xs c2 hw e2 w2 r2 => ?_) fun _ _ q => q.mono e1)
  subst hw
  exact h2 (x1 :: xs) c2 rfl (e1.trans e2) w2 (.cons (r1.mono e2) r2)
end
end DL
set_option Elab.async false
set_option linter.all false
set_option maxRecDepth 100000
set_option maxHeartbeats 4000000
/-! DL3: operations on values. -/
namespace DL
open PySem PySem.Spec PyProof.Rows L2
def M.guard (p : Prop) [Decidable p] : M Unit := fun W => if p then some (.ok (), W) else none
theorem wpM_guard {p : Prop} [Decidable p] {W : Wd} {Q : Unit → Wd → Prop} {E : DX → Wd → Prop} (h : wpM (M.guard p) W Q E) : p ∧ Q () W := by
  unfold wpM M.guard at h
  by_cases e : p
  · rw [if_pos e] at h; exact ⟨e, h⟩
  · rw [if_neg e] at h; exact h.elim
def M.look {α : Type} (f : Wd → Option α) : M α := fun W => match f W with | some a => some (.ok a, W) | none => none
theorem wpM_look {α : Type} {f : Wd → Option α} {W : Wd} {Q : α → Wd → Prop} {E : DX → Wd → Prop} (h : wpM (M.look f) W Q E) : ∃ a, f W = some a ∧ Q a W := by
  unfold wpM M.look at h
  cases e : f W with
  | none => rw [e] at h; exact h.elim
  | some a => rw [e] at h; exact ⟨a, rfl, h⟩
/-! ### pure things -/
def pureL : List RV → Option (List D)
  | [] => some []
  | .d x :: r => (pureL r).map (x :: ·)
  | .r _ :: _ => none
section
variable {G : Gh} {c : Cf}
theorem pureL_rep : ∀ {rvs : List RV} {ds : List D} {vs : List V}, pureL rvs = some ds → RepVs c rvs vs → RepL c ds vs
  | [], _, _, h, .nil => by cases h; exact rfl
  | .d x :: r, ds, _, h, .cons (b := v) (l₂ := vs) q t => by
    cases e : pureL r with
    | none => simp [pureL, e] at h
    | some ds' =>
      simp [pureL, e] at h
      subst h
      exact ⟨v, vs, rfl, q, pureL_rep e t⟩
  | .r _ :: _, _, _, h, _ => by simp [pureL] at h
theorem repL_vs : ∀ {ds : List D} {vs : List V}, RepL c ds vs → RepVs c (ds.map RV.d) vs
  | [], _, h => by cases h; exact .nil
  | _ :: _, _, h => by
    obtain ⟨v, r, rfl, h1, h2⟩ := h
    exact .cons h1 (repL_vs h2)
theorem repL_len : ∀ {ds : List D} {vs : List V}, RepL c ds vs → ds.length = vs.length
  | [], _, h => by cases h; rfl
  | _ :: _, _, h => by
    obtain ⟨v, r, rfl, _, h2⟩ := h
    rw [List.length_cons, List.length_cons, repL_len h2]
theorem repL_get : ∀ {ds : List D} {vs : List V} {i : Nat} {x : D}, RepL c ds vs → ds[i]? = some x → ∃ v, vs[i]? = some v ∧ Rep c x v
  | [], _, _, _, _, h => by simp at h
  | y :: r, _, i, x, q, h => by
    obtain ⟨v, r', rfl, h1, h2⟩ := q
    cases i with
    | zero => have e : y = x := by simpa using h
              subst e; exact ⟨v, rfl, h1⟩
    | succ i =>
      obtain ⟨z, h3, h4⟩ := repL_get (i := i) h2 (by simpa using h)
      exact ⟨z, by simpa using h3, h4⟩
theorem paired_get {α β : Type} {F : α → β → Prop} : ∀ {l1 : List α} {l2 : List β} {i : Nat} {x : α}, Paired F l1 l2 → l1[i]? = some x → ∃ y, l2[i]? = some y ∧ F x y
  | _, _, _, _, .nil, h => by simp at h
  | _, _, 0, _, .cons r _, h => by simp at h; subst h; exact ⟨_, rfl, r⟩
  | _, _, i + 1, _, .cons _ t, h => by
    obtain ⟨y, h1, h2⟩ := paired_get (i := i) t (by simpa using h)
    exact ⟨y, by simpa using h1, h2⟩
theorem paired_app {α β : Type} {F : α → β → Prop} : ∀ {l1 m1 : List α} {l2 m2 : List β}, Paired F l1 l2 → Paired F m1 m2 → Paired F (l1 ++ m1) (l2 ++ m2)
  | _, _, _, _, .nil, s => s
  | _, _, _, _, .cons r t, s => .cons r (paired_app t s)
theorem paired_take {α β : Type} {F : α → β → Prop} : ∀ {l1 : List α} {l2 : List β} (n : Nat), Paired F l1 l2 → Paired F (l1.take n) (l2.take n)
  | _, _, 0, _ => .nil
  | _, _, _ + 1, .nil => .nil
  | _, _, n + 1, .cons r t => .cons r (paired_take n t)
theorem paired_drop {α β : Type} {F : α → β → Prop} : ∀ {l1 : List α} {l2 : List β} (n : Nat), Paired F l1 l2 → Paired F (l1.drop n) (l2.drop n)
  | _, _, 0, r => r
  | _, _, _ + 1, .nil => .nil
  | _, _, n + 1, .cons _ t => paired_drop n t
theorem paired_set {α β : Type} {F : α → β → Prop} {x : α} {y : β} (r : F x y) : ∀ {l1 : List α} {l2 : List β} (i : Nat), Paired F l1 l2 → Paired F (l1.set i x) (l2.set i y)
  | _, _, _, .nil => .nil
  | _, _, 0, .cons _ t => .cons r t
  | _, _, i + 1, .cons q t => .cons q (paired_set r i t)
theorem paired_erase {α β : Type} {F : α → β → Prop} : ∀ {l1 : List α} {l2 : List β} (i : Nat), Paired F l1 l2 → Paired F (l1.eraseIdx i) (l2.eraseIdx i)
  | _, _, _, .nil => .nil
  | _, _, 0, .cons _ t => t
  | _, _, i + 1, .cons q t => .cons q (paired_erase i t)
end
/-! ### a label made pure -/
def toD : RV → M D
  | .d x => M.ret x
  | .r l => fun W => match W[l]? with
    | some (.fz x) => some (.ok x, W)
    | some (.lst xs) => match pureL xs with
      | some ds => some (.ok (.lst ds), W.set l (.fz (.lst ds)))
      | none => none
    | none => none
section
variable {G : Gh} {c : Cf}
theorem toD_ok {v : RV} {x : V} {Q : D → Wd → Prop} {E : DX → Wd → Prop} (w : WOk c) (r : RepRV c v x) (h : wpM (toD v) c.W Q E) : ∃ c1 d, c1.H = c.H ∧ Ext c c1 ∧ WOk c1 ∧ Rep c1 d x ∧ Q d c1.W := by
  cases v with
  | d y => exact ⟨c, y, rfl, Ext.refl c, w, r, h⟩
  | r l =>
    obtain ⟨rfl, hl⟩ := r
    cases e : c.W[l]? with
    | none => simp [wpM, toD, e] at h
    | some o =>
      have ob := w.obj l o e
      cases o with
      | fz y =>
        simp only [wpM, toD, e] at h
        exact ⟨c, y, rfl, Ext.refl c, w, ob, h⟩
      | lst xs =>
        cases e2 : pureL xs with
        | none => simp [wpM, toD, e, e2] at h
        | some ds =>
          simp only [wpM, toD, e, e2] at h
          obtain ⟨vs, h1, h2⟩ := ob
          have ex : Ext c (c.fz l (.lst ds)) := Ext.fz
          have rr : Rep (c.fz l (.lst ds)) (.lst ds) (.ref (c.ren l)) := ⟨c.ren l, vs, rfl, h1, w.fzAv e trivial, RepL.mono ex _ _ (pureL_rep e2 h2)⟩
          exact ⟨c.fz l (.lst ds), .lst ds, rfl, ex, w.fz e trivial rr, rr, h⟩
end
def toDs : List RV → M (List D)
  | [] => M.ret []
  | v :: r => (toD v).bind fun x => (toDs r).bind fun xs => M.ret (x :: xs)
section
variable {G : Gh} {c : Cf}
theorem toDs_ok : ∀ {rvs : List RV} {c : Cf} {vs : List V} {Q : List D → Wd → Prop} {E : DX → Wd → Prop}, WOk c → RepVs c rvs vs → wpM (toDs rvs) c.W Q E → ∃ c1 ds, c1.H = c.H ∧ Ext c c1 ∧ WOk c1 ∧ RepL c1 ds vs ∧ Q ds c1.W
  | [], c, _, _, _, w, .nil, h => ⟨c, [], rfl, Ext.refl c, w, rfl, h⟩
  | v :: rvs, c, _, _, _, w, .cons (b := x) (l₂ := vs) r t, h => by
    obtain ⟨c1, d, h1, e1, w1, r1, q1⟩ := toD_ok w r (wpM_bind.mp h)
    obtain ⟨c2, ds, h2, e2, w2, r2, q2⟩ := toDs_ok w1 (RepVs.mono e1 t) (wpM_bind.mp q1)
    exact ⟨c2, d :: ds, h2.trans h1, e1.trans e2, w2, ⟨x, vs, rfl, Rep.mono e2 _ _ r1, r2⟩, q2⟩
/-! ### a new list, pure or at a label -/
def newL (mk : Bool) (rvs : List RV) : M RV :=
  if mk then fun W => some (.ok (.r W.length), W ++ [.lst rvs]) else (toDs rvs).bind fun ds => M.ret (.d (.lst ds))
theorem newL_ok {mk : Bool} {rvs : List RV} {vs : List V} {Q : VK} {E : DX → Wd → Prop} (w : WOk c) (r : RepVs c rvs vs) (h : wpM (newL mk rvs) c.W (QV c Q) E) : ∀ p, c.H p = none → Q (.ref p) (upd c.H p (.lst vs)) := by
  intro p hp
  cases mk with
  | true =>
    have e : Ext c (c.new p (.lst vs) (.lst rvs)) := Ext.new hp
    refine h (.ref p) (c.new p (.lst vs) (.lst rvs)) rfl e (w.new hp ⟨vs, upd_same, RepVs.mono e r⟩) ⟨?_, ?_⟩
    · rw [ren_last]
    · show c.W.length < (c.W ++ [_]).length
      rw [List.length_append, List.length_singleton]; omega
  | false =>
    obtain ⟨c1, ds, h1, e1, w1, r1, q1⟩ := toDs_ok w r (wpM_bind.mp h)
    have hp1 : c1.H p = none := by rw [h1]; exact hp
    obtain ⟨e2, w2⟩ := w1.lay (o := .lst vs) hp1
    have := q1 (.ref p) (c1.lay p (.lst vs)) rfl (e1.trans e2) w2 ⟨p, vs, rfl, upd_same, w1.layAv hp1, RepL.mono e2 _ _ r1⟩
    rw [← h1]; exact this
/-- a new tuple -/
def newT (rvs : List RV) : M RV := (toDs rvs).bind fun ds => M.ret (.d (.tup ds))
theorem newT_ok {rvs : List RV} {vs : List V} {Q : VK} {E : DX → Wd → Prop} (w : WOk c) (r : RepVs c rvs vs) (h : wpM (newT rvs) c.W (QV c Q) E) : ∀ p, c.H p = none → Q (.ref p) (upd c.H p (.tup vs)) := by
  intro p hp
  obtain ⟨c1, ds, h1, e1, w1, r1, q1⟩ := toDs_ok w r (wpM_bind.mp h)
  have hp1 : c1.H p = none := by rw [h1]; exact hp
  obtain ⟨e2, w2⟩ := w1.lay (o := .tup vs) hp1
  have := q1 (.ref p) (c1.lay p (.tup vs)) rfl (e1.trans e2) w2 ⟨p, vs, rfl, upd_same, w1.layAv hp1, RepL.mono e2 _ _ r1⟩
  rw [← h1]; exact this
/-! ### looks -/
/-- the items of a list or a tuple; whether it is a tuple -/
def seqOf (W : Wd) : RV → Option (Bool × List RV)
  | .d (.lst xs) => some (false, xs.map .d)
  | .d (.tup xs) => some (true, xs.map .d)
  | .d _ => none
  | .r l => match W[l]? with
    | some (.lst xs) => some (false, xs)
    | some (.fz (.lst xs)) => some (false, xs.map .d)
    | some (.fz (.tup xs)) => some (true, xs.map .d)
    | _ => none
theorem seqOf_ok {v : RV} {x : V} {t : Bool} {xs : List RV} (w : WOk c) (r : RepRV c v x) (h : seqOf c.W v = some (t, xs)) : ∃ a vs, x = .ref a ∧ c.H a = some (if t then .tup vs else .lst vs) ∧ RepVs c xs vs := by
  have dat : ∀ (y : D) (x : V), Rep c y x → seqOf c.W (.d y) = some (t, xs) → ∃ a vs, x = .ref a ∧ c.H a = some (if t then .tup vs else .lst vs) ∧ RepVs c xs vs := fun y x r h => by
    cases y <;> simp [seqOf] at h
    case lst ys =>
      obtain ⟨rfl, rfl⟩ := h
      obtain ⟨a, vs, rfl, h1, _, h2⟩ := r
      exact ⟨a, vs, rfl, h1, repL_vs h2⟩
    case tup ys =>
      obtain ⟨rfl, rfl⟩ := h
      obtain ⟨a, vs, rfl, h1, _, h2⟩ := r
      exact ⟨a, vs, rfl, h1, repL_vs h2⟩
  cases v with
  | d y => exact dat y x r h
  | r l =>
    obtain ⟨rfl, hl⟩ := r
    simp only [seqOf] at h
    cases e : c.W[l]? with
    | none => rw [e] at h; simp at h
    | some o =>
      rw [e] at h
      have ob := w.obj l o e
      cases o with
      | lst ys =>
        simp at h
        obtain ⟨rfl, rfl⟩ := h
        obtain ⟨vs, h1, h2⟩ := ob
        exact ⟨_, vs, rfl, h1, h2⟩
      | fz y =>
        refine dat y _ ob ?_
        cases y <;> simp at h <;> simp [seqOf, h]
/-- data that may be looked at, labels read through -/
def peek (W : Wd) : RV → Option D
  | .d x => some x
  | .r l => match W[l]? with
    | some (.lst xs) => (pureL xs).map .lst
    | some (.fz x) => some x
    | none => none
def toPy : D → Option PyData
  | .non => some .none
  | .bl b => some (.bool b)
  | .int i => some (.int i)
  | .str s => some (.str s)
  | .lst xs => (toPyL xs).map .list
  | .tup xs => (toPyL xs).map .tuple
  | _ => none
where
  toPyL : List D → Option (List PyData)
  | [] => some []
  | x :: xs => match toPy x, toPyL xs with
    | some a, some b => some (a :: b)
    | _, _ => none
mutual
theorem toPy_ok : ∀ (x : D) (v : V) (p : PyData), Rep c x v → toPy x = some p → Dp G.K c.H v p
  | .non, v, p, r, h => by cases r; simp [toPy] at h; subst h; exact .non
  | .bl b, v, p, r, h => by cases r; simp [toPy] at h; subst h; exact .bl b
  | .int i, v, p, r, h => by cases r; simp [toPy] at h; subst h; exact .int i
  | .str s, v, p, r, h => by cases r; simp [toPy] at h; subst h; exact .str s
  | .lst xs, v, p, r, h => by
    obtain ⟨a, vs, rfl, h1, _, h2⟩ := r
    simp only [toPy, Option.map_eq_some_iff] at h
    obtain ⟨ps, e, rfl⟩ := h
    exact .lst (SqL.of h1) (toPyL_ok xs vs ps h2 e)
  | .tup xs, v, p, r, h => by
    obtain ⟨a, vs, rfl, h1, _, h2⟩ := r
    simp only [toPy, Option.map_eq_some_iff] at h
    obtain ⟨ps, e, rfl⟩ := h
    exact .tup (SqT.of h1) (toPyL_ok xs vs ps h2 e)
  | .ty _, _, _, _, h => by simp [toPy] at h
  | .frz _, _, _, _, h => by simp [toPy] at h
  | .dK _, _, _, _, h => by simp [toPy] at h
  | .dT _, _, _, _, h => by simp [toPy] at h
theorem toPyL_ok : ∀ (xs : List D) (vs : List V) (ps : List PyData), RepL c xs vs → toPy.toPyL xs = some ps → DpAll G.K c.H vs ps
  | [], _, ps, r, h => by cases r; simp [toPy.toPyL] at h; subst h; exact .nil
  | x :: xs, _, ps, r, h => by
    obtain ⟨v, r', rfl, h1, h2⟩ := r
    simp only [toPy.toPyL] at h
    cases e1 : toPy x with
    | none => rw [e1] at h; simp at h
    | some a =>
      cases e2 : toPy.toPyL xs with
      | none => rw [e1, e2] at h; simp at h
      | some b =>
        rw [e1, e2] at h
        simp at h
        subst h
        exact .cons (toPy_ok x v a h1 e1) (toPyL_ok xs r' b h2 e2)
end
theorem peek_ok {v : RV} {x : V} {d : D} {p : PyData} (w : WOk c) (r : RepRV c v x) (h : peek c.W v = some d) (hp : toPy d = some p) : Dp G.K c.H x p := by
  cases v with
  | d y =>
    simp [peek] at h
    subst h
    exact toPy_ok y x p r hp
  | r l =>
    obtain ⟨rfl, hl⟩ := r
    simp only [peek] at h
    cases e : c.W[l]? with
    | none => rw [e] at h; simp at h
    | some o =>
      rw [e] at h
      have ob := w.obj l o e
      cases o with
      | fz y => simp at h; subst h; exact toPy_ok y _ p ob hp
      | lst xs =>
        simp at h
        obtain ⟨ds, e2, rfl⟩ := h
        obtain ⟨vs, h1, h2⟩ := ob
        simp only [toPy, Option.map_eq_some_iff] at hp
        obtain ⟨ps, e, rfl⟩ := hp
        exact .lst (SqL.of h1) (toPyL_ok ds vs ps (pureL_rep e2 h2) e)
end
end DL
set_option Elab.async false
set_option linter.all false
set_option maxRecDepth 100000
set_option maxHeartbeats 4000000
/-! DL4: operators, comparisons, subscripts, slices, displays. -/
namespace DL
open PySem PySem.Spec PyProof.Rows L2
instance {i j : Int} : Decidable (CMulW i j) := inferInstanceAs (Decidable (_ < _))
instance {i j : Int} : Decidable (CDivW i j) := inferInstanceAs (Decidable (_ ∧ _))
instance {i j : Int} : Decidable (CPow i j) := inferInstanceAs (Decidable (_ ∧ _))
section
variable {G : Gh} {c : Cf}
/-! ### ints -/
def int2 (u v : RV) : Option (Int × Int) := match u, v with
  | .d (.int i), .d (.int j) => some (i, j)
  | _, _ => none
theorem int2_ok {u v : RV} {i j : Int} (h : int2 u v = some (i, j)) : u = .d (.int i) ∧ v = .d (.int j) := by
  cases u with
  | r l => simp [int2] at h
  | d x =>
    cases v with
    | r l => cases x <;> simp [int2] at h
    | d y => cases x <;> cases y <;> simp [int2] at h <;> exact ⟨by rw [h.1], by rw [h.2]⟩
def opI0 (g : Int → Int → D) (u v : RV) : M RV := (M.opt (int2 u v)).bind fun p => M.ret (.d (g p.1 p.2))
theorem opd_I0 {g : Int → Int → D} {gV : Int → Int → V} (hg : ∀ (c : Cf) i j, Rep c (g i j) (gV i j)) : OpD G (rI0 gV) (opI0 g) := by
  intro c x y u v Q w ru rv h
  obtain ⟨⟨i, j⟩, e, q⟩ := wpM_opt (wpM_bind.mp h)
  obtain ⟨rfl, rfl⟩ := int2_ok e
  exact ⟨i, j, ru, rv, QV.here (v := .d (g i j)) q w (hg c i j)⟩
def opIC (C : Int → Int → Prop) [∀ i j, Decidable (C i j)] (g : Int → Int → D) (u v : RV) : M RV := (M.opt (int2 u v)).bind fun p => (M.guard (C p.1 p.2)).bind fun _ => M.ret (.d (g p.1 p.2))
theorem opd_IC {C : Int → Int → Prop} [∀ i j, Decidable (C i j)] {g : Int → Int → D} {gV : Int → Int → V} (hg : ∀ (c : Cf) i j, Rep c (g i j) (gV i j)) : OpD G (rI C gV) (opIC C g) := by
  intro c x y u v Q w ru rv h
  obtain ⟨⟨i, j⟩, e, q⟩ := wpM_opt (wpM_bind.mp h)
  obtain ⟨rfl, rfl⟩ := int2_ok e
  obtain ⟨hc, q⟩ := wpM_guard (wpM_bind.mp q)
  exact ⟨i, j, ru, rv, hc, QV.here (v := .d (g i j)) q w (hg c i j)⟩
def isInt2 (u v : RV) : Bool := (int2 u v).isSome
/-! ### texts -/
def str2 (u v : RV) : Option (Str × Str) := match u, v with
  | .d (.str i), .d (.str j) => some (i, j)
  | _, _ => none
theorem str2_ok {u v : RV} {i j : Str} (h : str2 u v = some (i, j)) : u = .d (.str i) ∧ v = .d (.str j) := by
  cases u with
  | r l => simp [str2] at h
  | d x =>
    cases v with
    | r l => cases x <;> simp [str2] at h
    | d y => cases x <;> cases y <;> simp [str2] at h <;> exact ⟨by rw [h.1], by rw [h.2]⟩
def isStr2 (u v : RV) : Bool := (str2 u v).isSome
def opAddS (u v : RV) : M RV := (M.opt (str2 u v)).bind fun p => (M.guard (p.1.length + p.2.length ≤ sizeLine)).bind fun _ => M.ret (.d (.str (p.1 ++ p.2)))
theorem opd_addS : OpD G (fun x y H Q => ∃ i j, x = .str i ∧ y = .str j ∧ i.length + j.length ≤ sizeLine ∧ Q (.str (i ++ j)) H) opAddS := by
  intro c x y u v Q w ru rv h
  obtain ⟨⟨i, j⟩, e, q⟩ := wpM_opt (wpM_bind.mp h)
  obtain ⟨rfl, rfl⟩ := str2_ok e
  obtain ⟨hc, q⟩ := wpM_guard (wpM_bind.mp q)
  exact ⟨i, j, ru, rv, hc, QV.here (v := .d (.str (i ++ j))) q w rfl⟩
/-! ### lists, tuples -/
def opCat (mk : Bool) (u v : RV) : M RV := (M.look fun W => match seqOf W u, seqOf W v with | some (false, xs), some (false, ys) => some (xs, ys) | _, _ => none).bind fun p =>
  (M.guard (p.1.length + p.2.length ≤ sizeLine)).bind fun _ => newL mk (p.1 ++ p.2)
theorem paired_len {α β : Type} {F : α → β → Prop} {l1 : List α} {l2 : List β} (h : Paired F l1 l2) : l1.length = l2.length := Paired.length h
theorem opd_cat {mk : Bool} : OpD G rCat (opCat mk) := by
  intro c x y u v Q w ru rv h
  obtain ⟨⟨xs, ys⟩, e, q⟩ := wpM_look (wpM_bind.mp h)
  obtain ⟨hc, q⟩ := wpM_guard (wpM_bind.mp q)
  cases e1 : seqOf c.W u with
  | none => rw [e1] at e; simp at e
  | some p =>
    cases e2 : seqOf c.W v with
    | none => rw [e1, e2] at e; rcases p with ⟨_ | _, _⟩ <;> simp at e
    | some p2 =>
      rw [e1, e2] at e
      obtain ⟨b1, xs1⟩ := p
      obtain ⟨b2, ys1⟩ := p2
      cases b1 <;> cases b2 <;> simp at e
      obtain ⟨rfl, rfl⟩ := e
      obtain ⟨a, vs, rfl, h1, r1⟩ := seqOf_ok w ru e1
      obtain ⟨b, ws, rfl, h2, r2⟩ := seqOf_ok w rv e2
      refine ⟨a, b, vs, ws, rfl, rfl, h1, h2, ?_, newL_ok w (paired_app r1 r2) q⟩
      rw [← paired_len r1, ← paired_len r2]; exact hc
def opCatT (u v : RV) : M RV := (M.look fun W => match seqOf W u, seqOf W v with | some (true, xs), some (true, ys) => some (xs, ys) | _, _ => none).bind fun p =>
  (M.guard (p.1.length + p.2.length ≤ sizeLine ∧ p.1.isEmpty = false)).bind fun _ => if p.2.isEmpty then M.ret u else newT (p.1 ++ p.2)
theorem opd_catT : OpD G (rCatT G.K) opCatT := by
  intro c x y u v Q w ru rv h
  obtain ⟨⟨xs, ys⟩, e, q⟩ := wpM_look (wpM_bind.mp h)
  obtain ⟨⟨hc, hne⟩, q⟩ := wpM_guard (wpM_bind.mp q)
  cases e1 : seqOf c.W u with
  | none => rw [e1] at e; simp at e
  | some p =>
    cases e2 : seqOf c.W v with
    | none => rw [e1, e2] at e; rcases p with ⟨_ | _, _⟩ <;> simp at e
    | some p2 =>
      rw [e1, e2] at e
      obtain ⟨b1, xs1⟩ := p
      obtain ⟨b2, ys1⟩ := p2
      cases b1 <;> cases b2 <;> simp at e
      obtain ⟨rfl, rfl⟩ := e
      obtain ⟨a, vs, rfl, h1, r1⟩ := seqOf_ok w ru e1
      obtain ⟨b, ws, rfl, h2, r2⟩ := seqOf_ok w rv e2
      dsimp only at hc hne q
      refine ⟨a, b, vs, ws, rfl, rfl, SqT.of h1, SqT.of h2, ?_, ?_, ?_, ?_⟩
      · rintro rfl
        cases r1
        simp at hne
      · rw [← paired_len r1, ← paired_len r2]; exact hc
      · rintro rfl
        cases r2
        exact QV.here (v := u) q w ru
      · intro hy
        have : ys1.isEmpty = false := by
          cases r2 with
          | nil => exact absurd rfl hy
          | cons _ _ => rfl
        rw [this] at q
        exact newT_ok w (paired_app r1 r2) q
def opRep (mk : Bool) (u v : RV) : M RV := (M.look fun W => match seqOf W u, v with | some (false, xs), .d (.int k) => some (xs, k) | _, _ => none).bind fun p =>
  (M.guard (-(2 ^ 63) ≤ p.2 ∧ p.2 < 2 ^ 63 ∧ p.1.length * p.2.toNat ≤ sizeLine)).bind fun _ => newL mk (List.replicate p.2.toNat p.1).flatten
theorem paired_rep {α β : Type} {F : α → β → Prop} {l1 : List α} {l2 : List β} (h : Paired F l1 l2) : ∀ k : Nat, Paired F (List.replicate k l1).flatten (List.replicate k l2).flatten
  | 0 => .nil
  | k + 1 => by
    rw [List.replicate_succ, List.replicate_succ, List.flatten_cons, List.flatten_cons]
    exact paired_app h (paired_rep h k)
theorem opd_rep {mk : Bool} : OpD G rRep (opRep mk) := by
  intro c x y u v Q w ru rv h
  obtain ⟨⟨xs, k⟩, e, q⟩ := wpM_look (wpM_bind.mp h)
  obtain ⟨⟨hc1, hc2, hc3⟩, q⟩ := wpM_guard (wpM_bind.mp q)
  cases e1 : seqOf c.W u with
  | none => rw [e1] at e; simp at e
  | some p =>
    obtain ⟨b1, xs1⟩ := p
    rw [e1] at e
    cases b1 with
    | true => simp at e
    | false =>
      cases v with
      | r l => simp at e
      | d z =>
        cases z <;> simp at e
        obtain ⟨rfl, rfl⟩ := e
        obtain ⟨a, vs, rfl, h1, r1⟩ := seqOf_ok w ru e1
        refine ⟨a, _, vs, rfl, rv, h1, hc1, hc2, ?_, newL_ok w (paired_rep r1 _) q⟩
        rw [← paired_len r1]; exact hc3
/-! ### == and !=, is, in -/
def scalD : RV → RV → Option Bool
  | .d (.int i), .d (.int j) => some (decide (i = j))
  | .d (.str i), .d (.str j) => some (decide (i = j))
  | .d (.bl i), .d (.bl j) => some (decide (i = j))
  | _, _ => none
def isScal (u v : RV) : Bool := (scalD u v).isSome
theorem scalD_ok {u v : RV} {b : Bool} {x y : V} (h : scalD u v = some b) (ru : RepRV c u x) (rv : RepRV c v y) : scal x y = true ∧ decide (x = y) = b := by
  cases u with
  | r l => simp [scalD] at h
  | d a =>
    cases v with
    | r l => cases a <;> simp [scalD] at h
    | d d2 =>
      cases a <;> cases d2 <;> simp [scalD] at h <;> cases ru <;> cases rv <;> refine ⟨rfl, ?_⟩ <;> rw [← h] <;> simp
def opEqS (neg : Bool) (u v : RV) : M RV := (M.opt (scalD u v)).bind fun b => M.ret (.d (.bl (b != neg)))
theorem opd_eqS : OpD G rEq (opEqS false) := by
  intro c x y u v Q w ru rv h
  obtain ⟨b, e, q⟩ := wpM_opt (wpM_bind.mp h)
  obtain ⟨h1, h2⟩ := scalD_ok e ru rv
  exact ⟨h1, QV.here (v := .d (.bl (b != false))) q w (by show V.bl _ = V.bl _; rw [h2]; cases b <;> rfl)⟩
theorem opd_neS : OpD G rNe (opEqS true) := by
  intro c x y u v Q w ru rv h
  obtain ⟨b, e, q⟩ := wpM_opt (wpM_bind.mp h)
  obtain ⟨h1, h2⟩ := scalD_ok e ru rv
  exact ⟨h1, QV.here (v := .d (.bl (b != true))) q w (by show V.bl _ = V.bl _; rw [h2]; cases b <;> rfl)⟩
def eqvD (W : Wd) (u v : RV) : Option Bool := (peek W u).bind fun a => (peek W v).bind fun b => (toPy a).bind fun p => (toPy b).bind fun q => if SeqAt.shaped p = true ∧ SeqAt.shaped q = true then some (PyData.eqv p q) else none
theorem eqvD_ok {u v : RV} {b : Bool} {x y : V} (w : WOk c) (h : eqvD c.W u v = some b) (ru : RepRV c u x) (rv : RepRV c v y) : ∃ p q, Dp G.K c.H x p ∧ Dp G.K c.H y q ∧ SeqAt.shaped p = true ∧ SeqAt.shaped q = true ∧ PyData.eqv p q = b := by
  unfold eqvD at h
  simp only [Option.bind_eq_some_iff] at h
  obtain ⟨a, e1, a2, e2, p, e3, q, e4, e5⟩ := h
  split at e5
  · rename_i hs
    exact ⟨p, q, peek_ok w ru e1 e3, peek_ok w rv e2 e4, hs.1, hs.2, by simpa using e5⟩
  · cases e5
def opEqD (neg : Bool) (u v : RV) : M RV := (M.look fun W => eqvD W u v).bind fun b => M.ret (.d (.bl (b != neg)))
theorem opd_eqD : OpD G (rEqD G.K) (opEqD false) := by
  intro c x y u v Q w ru rv h
  obtain ⟨b, e, q⟩ := wpM_look (wpM_bind.mp h)
  obtain ⟨p, p2, d1, d2, s1, s2, e2⟩ := eqvD_ok w e ru rv
  exact ⟨p, p2, d1, d2, s1, s2, QV.here (v := .d (.bl (b != false))) q w (by show V.bl _ = V.bl _; rw [e2]; cases b <;> rfl)⟩
theorem opd_neD : OpD G (rNeD G.K) (opEqD true) := by
  intro c x y u v Q w ru rv h
  obtain ⟨b, e, q⟩ := wpM_look (wpM_bind.mp h)
  obtain ⟨p, p2, d1, d2, s1, s2, e2⟩ := eqvD_ok w e ru rv
  exact ⟨p, p2, d1, d2, s1, s2, QV.here (v := .d (.bl (b != true))) q w (by show V.bl _ = V.bl _; rw [e2]; cases b <;> rfl)⟩
def opEq (neg : Bool) (u v : RV) : M RV := if isScal u v then opEqS neg u v else opEqD neg u v
theorem opd_eq : OpD G (fun x y H Q => rEq x y H Q ∨ rEqD G.K x y H Q) (opEq false) := OpD.or isScal opd_eqS opd_eqD
theorem opd_ne : OpD G (fun x y H Q => rNe x y H Q ∨ rNeD G.K x y H Q) (opEq true) := OpD.or isScal opd_neS opd_neD
/-- is, is not: of two truths, or of None on the right -/
def opIs (neg : Bool) (u v : RV) : M RV := match u, v with
  | .d (.bl a), .d (.bl b) => M.ret (.d (.bl (decide (a = b) != neg)))
  | .d .non, .d .non => M.ret (.d (.bl (!neg)))
  | .r _, .d .non => M.ret (.d (.bl neg))
  | .d _, .d .non => M.ret (.d (.bl neg))
  | _, _ => M.fail
def isBl2 (u v : RV) : Bool := match u, v with | .d (.bl _), .d (.bl _) => true | _, _ => false
theorem opd_is : OpD G (fun x y H Q => rIsB x y H Q ∨ (y = .non ∧ Q (.bl (decide (x = .non))) H)) (opIs false) := by
  intro c x y u v Q w ru rv h
  cases v with
  | r l => cases u with
    | r _ => exact h.elim
    | d a => cases a <;> exact h.elim
  | d b =>
    cases u with
    | r l =>
      cases b <;> try exact h.elim
      obtain ⟨rfl, _⟩ := ru
      exact .inr ⟨rv, QV.here (v := .d (.bl false)) h w (by simp [RepRV, Rep])⟩
    | d a =>
      cases b <;> cases a <;> (try exact h.elim) <;> cases rv
      case d.d.bl.bl.refl b a => cases ru; exact .inl ⟨a, b, rfl, rfl, QV.here (v := .d (.bl (decide (a = b) != false))) h w (by show V.bl _ = V.bl _; cases decide (a = b) <;> rfl)⟩
      case d.d.non.non.refl => cases ru; exact .inr ⟨rfl, QV.here (v := .d (.bl true)) h w (by simp [RepRV, Rep])⟩
      all_goals
        refine .inr ⟨rfl, ?_⟩
        have hx : x ≠ .non := by
          intro z
          subst z
          simp [RepRV, Rep] at ru
        rw [decide_eq_false hx]
        exact QV.here (v := .d (.bl false)) h w rfl
theorem opd_isNot : OpD G (fun x y H Q => rNotB x y H Q ∨ (y = .non ∧ Q (.bl (!decide (x = .non))) H)) (opIs true) := by
  intro c x y u v Q w ru rv h
  cases v with
  | r l => cases u with
    | r _ => exact h.elim
    | d a => cases a <;> exact h.elim
  | d b =>
    cases u with
    | r l =>
      cases b <;> try exact h.elim
      obtain ⟨rfl, _⟩ := ru
      exact .inr ⟨rv, QV.here (v := .d (.bl true)) h w (by simp [RepRV, Rep])⟩
    | d a =>
      cases b <;> cases a <;> (try exact h.elim) <;> cases rv
      case d.d.bl.bl.refl b a => cases ru; exact .inl ⟨a, b, rfl, rfl, QV.here (v := .d (.bl (decide (a = b) != true))) h w (by show V.bl _ = V.bl _; cases decide (a = b) <;> rfl)⟩
      case d.d.non.non.refl => cases ru; exact .inr ⟨rfl, QV.here (v := .d (.bl false)) h w (by simp [RepRV, Rep])⟩
      all_goals
        refine .inr ⟨rfl, ?_⟩
        have hx : x ≠ .non := by
          intro z
          subst z
          simp [RepRV, Rep] at ru
        rw [decide_eq_false hx]
        exact QV.here (v := .d (.bl true)) h w rfl
end
end DL
set_option Elab.async false
set_option linter.all false
set_option maxRecDepth 100000
set_option maxHeartbeats 4000000
/-! DL5: in, subscripts, slices, displays, built-in functions and methods. -/
namespace DL
open PySem PySem.Spec PyProof.Rows L2
section
variable {G : Gh} {c : Cf}
/-! ### in -/
def flD : RV → Option V
  | .d .non => some .non
  | .d (.bl b) => some (.bl b)
  | .d (.int i) => some (.int i)
  | .d (.str s) => some (.str s)
  | _ => none
theorem flD_ok {u : RV} {x v : V} (h : flD u = some v) (r : RepRV c u x) : x = v ∧ flatV v = true := by
  cases u with
  | r l => simp [flD] at h
  | d a => cases a <;> simp [flD] at h <;> cases r <;> subst h <;> exact ⟨rfl, rfl⟩
def flL : List RV → Option (List V)
  | [] => some []
  | u :: r => match flD u, flL r with
    | some a, some b => some (a :: b)
    | _, _ => none
theorem flL_ok : ∀ {us : List RV} {xs vs : List V}, flL us = some vs → RepVs c us xs → xs = vs ∧ vs.all flatV = true
  | [], _, _, h, .nil => by simp [flL] at h; subst h; exact ⟨rfl, rfl⟩
  | u :: us, _, vs, h, .cons (b := x) (l₂ := xs) q t => by
    simp only [flL] at h
    cases e1 : flD u with
    | none => rw [e1] at h; simp at h
    | some a =>
      cases e2 : flL us with
      | none => rw [e1, e2] at h; simp at h
      | some b =>
        rw [e1, e2] at h
        simp at h
        subst h
        obtain ⟨rfl, h1⟩ := flD_ok e1 q
        obtain ⟨rfl, h2⟩ := flL_ok e2 t
        exact ⟨rfl, by simp [h1]; simpa using h2⟩
def opInL (neg : Bool) (u v : RV) : M RV := (M.look fun W => match flD u, seqOf W v with | some a, some (_, ys) => (flL ys).map fun b => inV a b | _, _ => none).bind fun b => M.ret (.d (.bl (b != neg)))
theorem opd_inL {neg : Bool} : OpD G (rIn G.K neg) (opInL neg) := by
  intro c x y u v Q w ru rv h
  obtain ⟨b, e, q⟩ := wpM_look (wpM_bind.mp h)
  cases e1 : flD u with
  | none => rw [e1] at e; simp at e
  | some a =>
    cases e2 : seqOf c.W v with
    | none => rw [e1, e2] at e; simp at e
    | some p =>
      obtain ⟨t, ys⟩ := p
      rw [e1, e2] at e
      simp at e
      obtain ⟨bs, e3, e4⟩ := e
      obtain ⟨rfl, f1⟩ := flD_ok e1 ru
      obtain ⟨p, vs, rfl, h1, r1⟩ := seqOf_ok w rv e2
      obtain ⟨rfl, f2⟩ := flL_ok e3 r1
      refine ⟨p, vs, rfl, ?_, f1, f2, ?_⟩
      · cases t with
        | true => exact .inr (SqT.of h1)
        | false => exact .inl (SqL.of h1)
      · subst e4
        refine QV.here (v := .d (.bl (inV x vs != neg))) q w ?_
        show V.bl _ = V.bl _
        cases neg <;> cases inV x vs <;> rfl
/-- a text in a text -/
def strIn (i j : Str) : Bool := !(Builtin.Str.occurrences j i 0 j.length 1).isEmpty
def opInS (neg : Bool) (u v : RV) : M RV := (M.opt (str2 u v)).bind fun p => M.ret (.d (.bl (strIn p.1 p.2 != neg)))
theorem opd_inS : OpD G (fun x y H Q => ∃ i j, x = .str i ∧ y = .str j ∧ Q (.bl (!(Builtin.Str.occurrences j i 0 j.length 1).isEmpty)) H) (opInS false) := by
  intro c x y u v Q w ru rv h
  obtain ⟨⟨i, j⟩, e, q⟩ := wpM_opt (wpM_bind.mp h)
  obtain ⟨rfl, rfl⟩ := str2_ok e
  exact ⟨i, j, ru, rv, QV.here (v := .d (.bl (strIn i j != false))) q w (by show V.bl _ = V.bl _; unfold strIn; simp)⟩
theorem opd_notInS : OpD G (fun x y H Q => ∃ i j, x = .str i ∧ y = .str j ∧ Q (.bl (!(!(Builtin.Str.occurrences j i 0 j.length 1).isEmpty))) H) (opInS true) := by
  intro c x y u v Q w ru rv h
  obtain ⟨⟨i, j⟩, e, q⟩ := wpM_opt (wpM_bind.mp h)
  obtain ⟨rfl, rfl⟩ := str2_ok e
  exact ⟨i, j, ru, rv, QV.here (v := .d (.bl (strIn i j != true))) q w (by show V.bl _ = V.bl _; unfold strIn; simp)⟩
def opIn (neg : Bool) (u v : RV) : M RV := if isStr2 u v then opInS neg u v else opInL neg u v
/-! ### subscripts -/
def isStrI (u v : RV) : Bool := match u, v with | .d (.str _), .d (.int _) => true | _, _ => false
def opIxS (u v : RV) : M RV := match u, v with
  | .d (.str z), .d (.int i) => (M.guard (z.length ≤ sizeLine)).bind fun _ => (M.opt (atI z.cps.toList i)).bind fun ch => M.ret (.d (.str ⟨#[ch]⟩))
  | _, _ => M.fail
def opIxL (u v : RV) : M RV := match v with
  | .d (.int i) => M.look fun W => (seqOf W u).bind fun p => atI p.2 i
  | _ => M.fail
def opIx (u v : RV) : M RV := if isStrI u v then opIxS u v else opIxL u v
theorem atI_paired {α β : Type} {F : α → β → Prop} {xs : List α} {ys : List β} {i : Int} {x : α} (r : Paired F xs ys) (h : atI xs i = some x) : ∃ y, atI ys i = some y ∧ F x y := by
  unfold atI at h ⊢
  rw [← paired_len r]
  cases e : ixN xs.length i with
  | none => rw [e] at h; simp at h
  | some j =>
    rw [e] at h
    exact paired_get r h
theorem opd_ix : OpD G (fun x y H Q => rIxS x y H Q ∨ rIxL G.K x y H Q ∨ rIxT G.K x y H Q) opIx := by
  refine OpD.or isStrI ?_ ?_
  · intro c x y u v Q w ru rv h
    cases u with
    | r l => exact h.elim
    | d a =>
      cases v with
      | r l => cases a <;> exact h.elim
      | d b =>
        cases a <;> (try exact h.elim) <;> cases b <;> try exact h.elim
        case str.int z i =>
          obtain ⟨hz, h⟩ := wpM_guard (wpM_bind.mp h)
          obtain ⟨ch, e, h⟩ := wpM_opt (wpM_bind.mp h)
          exact ⟨z, i, ch, ru, rv, hz, e, QV.here (v := .d (.str ⟨#[ch]⟩)) h w rfl⟩
  · intro c x y u v Q w ru rv h
    cases v with
    | r l => exact h.elim
    | d b =>
      cases b <;> try exact h.elim
      case int i =>
        obtain ⟨v, e, q⟩ := wpM_look h
        simp only [Option.bind_eq_some_iff] at e
        obtain ⟨⟨t, xs⟩, e1, e2⟩ := e
        obtain ⟨p, vs, rfl, h1, r1⟩ := seqOf_ok w ru e1
        obtain ⟨z, h2, r2⟩ := atI_paired r1 e2
        cases t with
        | true => exact .inr ⟨p, vs, i, z, rfl, rv, SqT.of h1, h2, QV.here q w r2⟩
        | false => exact .inl ⟨p, vs, i, z, rfl, rv, SqL.of h1, h2, QV.here q w r2⟩
/-! ### slices -/
def cutL {α : Type} (xs : List α) (lo hi : Option Int) : List α := (xs.drop (HT.sIx xs.length 0 lo)).take (HT.sIx xs.length xs.length hi - HT.sIx xs.length 0 lo)
theorem cut_paired {α : Type} {F : α → V → Prop} {xs : List α} {ys : List V} {lo hi : Option Int} (r : Paired F xs ys) : Paired F (cutL xs lo hi) (cutV ys lo hi) := by
  unfold cutL cutV
  rw [← paired_len r]
  exact paired_take _ (paired_drop _ r)
def opSl (mk : Bool) (u : RV) (lo hi : Option Int) : M RV := match u with
  | .d (.str z) => (M.guard (z.length ≤ sizeLine)).bind fun _ => M.ret (.d (.str (cutS z lo hi)))
  | u => (M.look fun W => seqOf W u).bind fun p => if p.1 then (M.guard (¬ (HT.sIx p.2.length 0 lo = 0 ∧ HT.sIx p.2.length p.2.length hi = p.2.length))).bind fun _ => newT (cutL p.2 lo hi) else newL mk (cutL p.2 lo hi)
abbrev rSl (K : PySem.W.Frag) : V → Option Int → Option Int → Hp → VK → Prop := fun x lo hi H Q => rSlS x lo hi H Q ∨ rSlL K x lo hi H Q ∨ rSlT K x lo hi H Q
theorem opd_sl {mk : Bool} {c : Cf} {x : V} {u : RV} {lo hi : Option Int} {Q : VK} (w : WOk c) (ru : RepRV c u x) (h : wpM (opSl mk u lo hi) c.W (QV c Q) (QE G c)) : rSl G.K x lo hi c.H Q := by
  have seq : ∀ u x, RepRV c u x → wpM ((M.look fun W => seqOf W u).bind fun p => if p.1 then (M.guard (¬ (HT.sIx p.2.length 0 lo = 0 ∧ HT.sIx p.2.length p.2.length hi = p.2.length))).bind fun _ => newT (cutL p.2 lo hi) else newL mk (cutL p.2 lo hi)) c.W (QV c Q) (QE G c) → rSl G.K x lo hi c.H Q := fun u x ru h => by
    obtain ⟨⟨t, xs⟩, e1, q⟩ := wpM_look (wpM_bind.mp h)
    obtain ⟨p, vs, rfl, h1, r1⟩ := seqOf_ok w ru e1
    cases t with
    | true =>
      obtain ⟨hg, q⟩ := wpM_guard (wpM_bind.mp q)
      refine .inr (.inr ⟨p, vs, rfl, SqT.of h1, ?_, newT_ok w (cut_paired r1) q⟩)
      rw [← paired_len r1]; exact hg
    | false => exact .inr (.inl ⟨p, vs, rfl, SqL.of h1, newL_ok w (cut_paired r1) q⟩)
  cases u with
  | r l => exact seq _ _ ru h
  | d a =>
    cases a
    case str z =>
      obtain ⟨hz, h⟩ := wpM_guard (wpM_bind.mp h)
      exact .inl ⟨z, ru, hz, QV.here (v := .d (.str (cutS z lo hi))) h w rfl⟩
    all_goals exact seq _ _ ru h
end
section
variable {ι : Type} {𝒳 : ι → Cx} {G : Gh} {e a b : Expr} {Fa Fb : Env → M RV} {pos : Pos}
def isTup2 (u v : RV) : Bool := match u with | .d (.tup _) => true | _ => false
def opAdd (mk : Bool) (u v : RV) : M RV := if isInt2 u v then opI0 (fun i j => .int (i + j)) u v else if isStr2 u v then opAddS u v else if isTup2 u v then opCatT u v else opCat mk u v
def opSub : RV → RV → M RV := opI0 fun i j => .int (i - j)
def opMul (mk : Bool) (u v : RV) : M RV := if isInt2 u v then opIC CMulW (fun i j => .int (i * j)) u v else opRep mk u v
def opMod : RV → RV → M RV := opIC (fun _ j => 0 < j) fun i j => .int (i % j)
def opDiv : RV → RV → M RV := opIC CDivW fun i j => .int (i / j)
def opPow : RV → RV → M RV := opIC CPow fun i j => .int (i ^ j.toNat)
theorem de_add (mk : Bool := false) (hK : ∀ i, (𝒳 i).K = G.K) (ha : DE 𝒳 G a Fa) (hb : DE 𝒳 G b Fb) : DE 𝒳 G (.BinOp a .Add b pos) (ev2 (opAdd mk) Fa Fb) :=
  de_bin (r := fun x y H Q => _ ∨ _ ∨ _ ∨ _) (fun i => op_add.or (op_add_str.or ((by have := op_catT (X := 𝒳 i); rw [hK i] at this; exact this : OpR (𝒳 i) (binaryOp .Add) (rCatT G.K)).or op_cat)))
    (OpD.or isInt2 (opd_I0 fun _ _ _ => rfl) (OpD.or isStr2 opd_addS (OpD.or isTup2 opd_catT opd_cat))) ha hb
theorem de_sub (ha : DE 𝒳 G a Fa) (hb : DE 𝒳 G b Fb) : DE 𝒳 G (.BinOp a .Sub b pos) (ev2 opSub Fa Fb) := de_bin (fun _ => op_sub) (opd_I0 fun _ _ _ => rfl) ha hb
theorem de_mul (mk : Bool := false) (ha : DE 𝒳 G a Fa) (hb : DE 𝒳 G b Fb) : DE 𝒳 G (.BinOp a .Mult b pos) (ev2 (opMul mk) Fa Fb) :=
  de_bin (r := fun x y H Q => _ ∨ _) (fun i => op_mulW.or op_rep) (OpD.or isInt2 (opd_IC fun _ _ _ => rfl) opd_rep) ha hb
theorem de_mod (ha : DE 𝒳 G a Fa) (hb : DE 𝒳 G b Fb) : DE 𝒳 G (.BinOp a .Mod b pos) (ev2 opMod Fa Fb) := de_bin (fun _ => op_mod) (opd_IC fun _ _ _ => rfl) ha hb
theorem de_fdiv (ha : DE 𝒳 G a Fa) (hb : DE 𝒳 G b Fb) : DE 𝒳 G (.BinOp a .FloorDiv b pos) (ev2 opDiv Fa Fb) := de_bin (fun _ => op_fdivW) (opd_IC fun _ _ _ => rfl) ha hb
theorem de_pow (ha : DE 𝒳 G a Fa) (hb : DE 𝒳 G b Fb) : DE 𝒳 G (.BinOp a .Pow b pos) (ev2 opPow Fa Fb) := de_bin (fun _ => op_pow) (opd_IC fun _ _ _ => rfl) ha hb
def opLt := opI0 fun i j => D.bl (decide (i < j))
def opLe := opI0 fun i j => D.bl (decide (i ≤ j))
def opGt := opI0 fun i j => D.bl (decide (j < i))
def opGe := opI0 fun i j => D.bl (decide (j ≤ i))
theorem opd_lt : OpD G (rI0 fun i j => .bl (decide (i < j))) opLt := opd_I0 fun _ _ _ => rfl
theorem opd_le : OpD G (rI0 fun i j => .bl (decide (i ≤ j))) opLe := opd_I0 fun _ _ _ => rfl
theorem opd_gt : OpD G (rI0 fun i j => .bl (decide (j < i))) opGt := opd_I0 fun _ _ _ => rfl
theorem opd_ge : OpD G (rI0 fun i j => .bl (decide (j ≤ i))) opGe := opd_I0 fun _ _ _ => rfl
theorem or_eq (hK : ∀ i, (𝒳 i).K = G.K) {k : Nat} (hr : ∀ i, Room k (𝒳 i).A) (i : ι) : OpR (𝒳 i) (compareOp .Eq) (fun x y H Q => rEq x y H Q ∨ rEqD G.K x y H Q) := by
  have := op_eqD (X := 𝒳 i) (hr i).units
  rw [hK i] at this
  exact op_eq.or this
theorem or_ne (hK : ∀ i, (𝒳 i).K = G.K) {k : Nat} (hr : ∀ i, Room k (𝒳 i).A) (i : ι) : OpR (𝒳 i) (compareOp .NotEq) (fun x y H Q => rNe x y H Q ∨ rNeD G.K x y H Q) := by
  have := op_neD (X := 𝒳 i) (hr i).units
  rw [hK i] at this
  exact op_ne.or this
theorem or_is (i : ι) : OpR (𝒳 i) (compareOp .Is) (fun x y H Q => rIsB x y H Q ∨ (y = .non ∧ Q (.bl (decide (x = .non))) H)) := op_isBl.or op_isN
theorem or_isNot (i : ι) : OpR (𝒳 i) (compareOp .IsNot) (fun x y H Q => rNotB x y H Q ∨ (y = .non ∧ Q (.bl (!decide (x = .non))) H)) := op_notBl.or op_notN
theorem or_in (hK : ∀ i, (𝒳 i).K = G.K) (i : ι) : OpR (𝒳 i) (compareOp .In) (fun x y H Q => (∃ i j, x = .str i ∧ y = .str j ∧ Q (.bl (!(Builtin.Str.occurrences j i 0 j.length 1).isEmpty)) H) ∨ rIn G.K false x y H Q) := by
  have := op_in_seq (X := 𝒳 i)
  rw [hK i] at this
  exact op_in_str.or this
theorem or_notIn (hK : ∀ i, (𝒳 i).K = G.K) (i : ι) : OpR (𝒳 i) (compareOp .NotIn) (fun x y H Q => (∃ i j, x = .str i ∧ y = .str j ∧ Q (.bl (!(!(Builtin.Str.occurrences j i 0 j.length 1).isEmpty))) H) ∨ rIn G.K true x y H Q) := by
  have := op_notIn_seq (X := 𝒳 i)
  rw [hK i] at this
  exact op_notIn_str.or this
theorem opd_in : OpD G (fun x y H Q => (∃ i j, x = .str i ∧ y = .str j ∧ Q (.bl (!(Builtin.Str.occurrences j i 0 j.length 1).isEmpty)) H) ∨ rIn G.K false x y H Q) (opIn false) := OpD.or isStr2 opd_inS opd_inL
theorem opd_notIn : OpD G (fun x y H Q => (∃ i j, x = .str i ∧ y = .str j ∧ Q (.bl (!(!(Builtin.Str.occurrences j i 0 j.length 1).isEmpty))) H) ∨ rIn G.K true x y H Q) (opIn true) := OpD.or isStr2 opd_notInS opd_inL
/-- a < b < c of ints -/
def evChain (f g : Int → Int → Bool) (Fa Fb Fc : Env → M RV) (δ : Env) : M RV := (Fa δ).bind fun u => (Fb δ).bind fun v => (M.opt (int2 u v)).bind fun p => if f p.1 p.2 then (Fc δ).bind fun z => (M.opt (int2 v z)).bind fun q => M.ret (.d (.bl (g q.1 q.2))) else M.ret (.d (.bl false))
theorem rd_chain {ta tb tc : TE} {Fc : Env → M RV} {f g : Int → Int → Bool} (ra : RdE G ta Fa) (rb : RdE G tb Fb) (rc : RdE G tc Fc) : RdE G (tChain (rI0 fun i j => .bl (f i j)) (rI0 fun i j => .bl (g i j)) ta tb tc) (evChain f g Fa Fb Fc) := by
  intro c σ δ Q s w h
  refine ra c σ δ _ s w (wpM_mono (wpM_bind.mp h) (fun u W1 h1 x1 c1 hw e1 w1 r1 => ?_) fun _ _ q => q)
  subst hw
  refine rb c1 σ δ _ (s.mono e1) w1 (wpM_mono (wpM_bind.mp h1) (fun v W2 h2 x2 c2 hw e2 w2 r2 => ?_) fun _ _ q => q.mono e1)
  subst hw
  obtain ⟨⟨i, j⟩, e, q⟩ := wpM_opt (wpM_bind.mp h2)
  obtain ⟨rfl, rfl⟩ := int2_ok e
  refine ⟨i, j, r1.mono e2, r2, f i j, rfl, ?_⟩
  dsimp only at q
  cases hf : f i j with
  | false =>
    rw [hf] at q
    exact QV.here (v := .d (.bl false)) ((QV.mono e1 q).mono e2) w2 rfl
  | true =>
    rw [hf] at q
    refine rc c2 σ δ _ ((s.mono e1).mono e2) w2 (wpM_mono (wpM_bind.mp q) (fun z W3 h3 x3 c3 hw e3 w3 r3 => ?_) fun _ _ q => (q.mono e1).mono e2)
    subst hw
    obtain ⟨⟨i2, j2⟩, e4, q4⟩ := wpM_opt (wpM_bind.mp h3)
    obtain ⟨h5, rfl⟩ := int2_ok e4
    injection h5 with h5
    injection h5 with h5
    subst h5
    exact ⟨j, j2, r2.mono e3, r3, QV.here (v := .d (.bl (g j j2))) (((QV.mono e1 q4).mono e2).mono e3) w3 rfl⟩
end
end DL
set_option Elab.async false
set_option linter.all false
set_option maxRecDepth 100000
set_option maxHeartbeats 4000000
/-! DL6: displays, subscripts, slices, built-in functions, methods. -/
namespace DL
open PySem PySem.Spec PyProof.Rows L2
section
variable {ι : Type} {𝒳 : ι → Cx} {G : Gh} {e a b cc : Expr} {Fa Fb Fc : Env → M RV} {pos : Pos} {es : List Expr} {R : Env → M (List RV)}
theorem de_chain {op op' : CmpOp} {f g : Int → Int → Bool} (hp : ∀ i, OpR (𝒳 i) (compareOp op) (rI0 fun i j => .bl (f i j))) (hq : ∀ i, OpR (𝒳 i) (compareOp op') (rI0 fun i j => .bl (g i j))) (ha : DE 𝒳 G a Fa) (hb : DE 𝒳 G b Fb) (hc : DE 𝒳 G cc Fc)
    (hm : lastMarks [op, op'] [b, cc] = false := by with_unfolding_all rfl) : DE 𝒳 G (.Compare a [op, op'] [b, cc] pos) (evChain f g Fa Fb Fc) := by
  obtain ⟨ta, pa, ra⟩ := ha
  obtain ⟨tb, pb, rb⟩ := hb
  obtain ⟨tc, pc, rc⟩ := hc
  exact ⟨_, fun i => pe_chain (hp i) (hq i) (pa i) (pb i) (pc i) hm, rd_chain ra rb rc⟩
theorem dt_chain {op op' : CmpOp} {f g : Int → Int → Bool} (hp : ∀ i, OpR (𝒳 i) (compareOp op) (rI0 fun i j => .bl (f i j))) (hq : ∀ i, OpR (𝒳 i) (compareOp op') (rI0 fun i j => .bl (g i j))) (ha : DE 𝒳 G a Fa) (hb : DE 𝒳 G b Fb) (hc : DE 𝒳 G cc Fc)
    (hm : lastMarks [op, op'] [b, cc] = false := by with_unfolding_all rfl) : DT 𝒳 G (.Compare a [op, op'] [b, cc] pos) (evB (evChain f g Fa Fb Fc)) := by
  obtain ⟨ta, pa, ra⟩ := ha
  obtain ⟨tb, pb, rb⟩ := hb
  obtain ⟨tc, pc, rc⟩ := hc
  exact ⟨_, fun i => pt_chain (hp i) (hq i) (pa i) (pb i) (pc i) hm, (rd_chain ra rb rc).test⟩
/-! ### displays -/
def evLst (mk : Bool) (R : Env → M (List RV)) (δ : Env) : M RV := (R δ).bind fun vs => (M.guard (vs.length ≤ sizeLine)).bind fun _ => newL mk vs
def evTup (R : Env → M (List RV)) (δ : Env) : M RV := (R δ).bind fun vs => (M.guard (vs.length ≤ sizeLine)).bind fun _ => newT vs
theorem de_lst (mk : Bool := false) (h : DA 𝒳 G es R) : DE 𝒳 G (.List es pos) (evLst mk R) := by
  obtain ⟨t, p, r⟩ := h
  refine ⟨_, fun i => pe_lst (p i), fun c σ δ Q s w hq => ?_⟩
  refine r c σ δ _ s w (wpM_mono (wpM_bind.mp hq) (fun vs W1 h1 xs c1 hw e1 w1 r1 => ?_) fun _ _ q => q)
  subst hw
  obtain ⟨hz, q⟩ := wpM_guard (wpM_bind.mp h1)
  exact ⟨by rw [← paired_len r1]; exact hz, newL_ok (E := QE G c1) w1 r1 (wpM_mono q (fun _ _ q => q.mono e1) fun _ _ q => q.mono e1)⟩
theorem de_tup {x1} (h : DA 𝒳 G es R) : DE 𝒳 G (.Tuple es x1 pos) (evTup R) := by
  obtain ⟨t, p, r⟩ := h
  refine ⟨_, fun i => pe_tup (p i), fun c σ δ Q s w hq => ?_⟩
  refine r c σ δ _ s w (wpM_mono (wpM_bind.mp hq) (fun vs W1 h1 xs c1 hw e1 w1 r1 => ?_) fun _ _ q => q)
  subst hw
  obtain ⟨hz, q⟩ := wpM_guard (wpM_bind.mp h1)
  exact ⟨by rw [← paired_len r1]; exact hz, newT_ok (E := QE G c1) w1 r1 (wpM_mono q (fun _ _ q => q.mono e1) fun _ _ q => q.mono e1)⟩
/-! ### subscripts, slices -/
theorem de_ix (hK : ∀ i, (𝒳 i).K = G.K) (ha : DE 𝒳 G a Fa) (hb : DE 𝒳 G b Fb) (hs : PlainIx b) : DE 𝒳 G (.Subscript a b pos) (ev2 opIx Fa Fb) := by
  obtain ⟨ta, pa, ra⟩ := ha
  obtain ⟨tb, pb, rb⟩ := hb
  refine ⟨tOp (fun x y H Q => rIxS x y H Q ∨ rIxL G.K x y H Q ∨ rIxT G.K x y H Q) ta tb, fun i => ?_, ra.two rb opd_ix⟩
  have := pe_ix (pos := pos) (ix_str.or (ix_list.or ix_tup)) (pa i) (pb i) hs
  rw [hK i] at this
  exact this
def RdO (G : Gh) (t : TO) (F : Env → M (Option Int)) : Prop := ∀ (c : Cf) (σ : L2.St) (δ : Env) (Q : Option Int → Hp → Prop), SOk σ δ c → WOk c → wpM (F δ) c.W (fun o W' => ∀ c', c'.W = W' → Ext c c' → WOk c' → Q o c'.H) (QE G c) → t σ c.H Q
def DO (𝒳 : ι → Cx) (G : Gh) (e : Option Expr) (F : Env → M (Option Int)) : Prop := ∃ t, (∀ i, PO (𝒳 i) e t) ∧ RdO G t F
theorem do_none : DO 𝒳 G none (fun _ => M.ret none) := ⟨_, fun _ => po_none, fun c σ δ Q s w h => h c rfl (Ext.refl c) w⟩
def asI : RV → M Int
  | .d (.int i) => M.ret i
  | _ => M.fail
theorem asI_ok {v : RV} {W : Wd} {Q : Int → Wd → Prop} {E : DX → Wd → Prop} (h : wpM (asI v) W Q E) : ∃ b, v = .d (.int b) ∧ Q b W := by
  cases v with
  | r l => exact h.elim
  | d x => cases x <;> first | exact ⟨_, rfl, h⟩ | exact h.elim
theorem do_some (h : DE 𝒳 G e Fa) : DO 𝒳 G (some e) (fun δ => (Fa δ).bind fun u => (asI u).bind fun i => M.ret (some i)) := by
  obtain ⟨t, p, r⟩ := h
  refine ⟨_, fun i => po_some (p i), fun c σ δ Q s w hq => ?_⟩
  refine r c σ δ _ s w (wpM_mono (wpM_bind.mp hq) (fun u W1 h1 x1 c1 hw e1 w1 r1 => ?_) fun _ _ q => q)
  obtain ⟨i, rfl, q⟩ := asI_ok (wpM_bind.mp h1)
  exact ⟨i, r1, q c1 hw e1 w1⟩
def evSl (mk : Bool) (Fa : Env → M RV) (L H : Env → M (Option Int)) (δ : Env) : M RV := (Fa δ).bind fun u => (L δ).bind fun lo => (H δ).bind fun hi => opSl mk u lo hi
theorem de_sl (mk : Bool := false) {lo hi : Option Expr} {L H : Env → M (Option Int)} {p2 : Pos} (hK : ∀ i, (𝒳 i).K = G.K) (ha : DE 𝒳 G a Fa) (hl : DO 𝒳 G lo L) (hh : DO 𝒳 G hi H) : DE 𝒳 G (.Subscript a (.Slice lo hi none p2) pos) (evSl mk Fa L H) := by
  obtain ⟨ta, pa, ra⟩ := ha
  obtain ⟨tl, pl, rl⟩ := hl
  obtain ⟨th, ph, rh⟩ := hh
  refine ⟨tSl (rSl G.K) ta tl th, fun i => ?_, fun c σ δ Q s w hq => ?_⟩
  · have := pe_slice (pos := pos) (p2 := p2) (sl_str.or (sl_list.or sl_tup)) (pa i) (pl i) (ph i)
    rw [hK i] at this
    exact this
  refine ra c σ δ _ s w (wpM_mono (wpM_bind.mp hq) (fun u W1 h1 x1 c1 hw e1 w1 r1 => ?_) fun _ _ q => q)
  subst hw
  refine rl c1 σ δ _ (s.mono e1) w1 (wpM_mono (wpM_bind.mp h1) (fun lo W2 h2 c2 hw e2 w2 => ?_) fun _ _ q => q.mono e1)
  subst hw
  refine rh c2 σ δ _ ((s.mono e1).mono e2) w2 (wpM_mono (wpM_bind.mp h2) (fun hi W3 h3 c3 hw e3 w3 => ?_) fun _ _ q => (q.mono e1).mono e2)
  subst hw
  exact opd_sl (mk := mk) w3 ((r1.mono e2).mono e3) (wpM_mono h3 (fun _ _ q => ((q.mono e1).mono e2).mono e3) fun _ _ q => ((q.mono e1).mono e2).mono e3)
/-! ### built-in functions -/
def CallD (G : Gh) (r : List V → Hp → VK → Prop) (f : List RV → M RV) : Prop := ∀ (c : Cf) (xs : List V) (us : List RV) (Q : VK), WOk c → RepVs c us xs → wpM (f us) c.W (QV c Q) (QE G c) → r xs c.H Q
def evCall (f : List RV → M RV) (R : Env → M (List RV)) (δ : Env) : M RV := (R δ).bind f
theorem RdA.call {ta : TA} {r : List V → Hp → VK → Prop} {f : List RV → M RV} (ha : RdA G ta R) (hr : CallD G r f) : RdE G (tCB r ta) (evCall f R) := by
  intro c σ δ Q s w h
  refine ha c σ δ _ s w (wpM_mono (wpM_bind.mp h) (fun us W1 h1 xs c1 hw e1 w1 r1 => ?_) fun _ _ q => q)
  subst hw
  exact hr c1 xs us Q w1 r1 (wpM_mono h1 (fun _ _ q => q.mono e1) fun _ _ q => q.mono e1)
theorem CallD.or {r r' : List V → Hp → VK → Prop} {f f' : List RV → M RV} (t : List RV → Bool) (h : CallD G r f) (h' : CallD G r' f') : CallD G (fun xs H Q => r xs H Q ∨ r' xs H Q) (fun us => if t us then f us else f' us) := by
  intro c xs us Q w ru hq
  dsimp only at hq
  cases e : t us with
  | true => rw [e] at hq; exact .inl (h c xs us Q w ru hq)
  | false => rw [e] at hq; exact .inr (h' c xs us Q w ru hq)
theorem de_callB {x : Str} {id : String} {r : List V → Hp → VK → Prop} {f : List RV → M RV} {p : Pos} (hc : ∀ i, CallR (𝒳 i) (.builtin id) r) (hr : CallD G r f) (hm : ∀ i, (𝒳 i).mg x = none) (ha : DA 𝒳 G (e :: es) R) (hg : ∀ i, Gl (𝒳 i) x := by intro _; rfl) (hv : bootBuiltins x = some (.builtin id) := by decide +kernel)
    (hn : x ≠ "__name__" := by decide) (hdb : (x == ("__debug__" : Str)) = false := by decide) (he : ∀ i, starEach (e :: es) (𝒳 i).env = (false, eval e (𝒳 i).env) :: starEach es (𝒳 i).env := by intro _; rfl) (hpl : ∀ i, (backTo pos (starEach es (𝒳 i).env)).any (·.1) = false := by intro _; rfl) :
    DE 𝒳 G (.Call (.Name x p) (e :: es) [] pos) (evCall f R) := by
  obtain ⟨t, pt, rt⟩ := ha
  exact ⟨_, fun i => pe_callB (hc i) (hg i) (hm i) hv (pt i) hn hdb (he i) (hpl i), rt.call hr⟩
theorem de_callTy {x : Str} {T : String} {r : List V → Hp → VK → Prop} {f : List RV → M RV} {p : Pos} (hc : ∀ i, CallR (𝒳 i) (.type T) r) (hr : CallD G r f) (hm : ∀ i, (𝒳 i).mg x = none) (ha : DA 𝒳 G (e :: es) R) (hg : ∀ i, Gl (𝒳 i) x := by intro _; rfl) (hv : bootBuiltins x = some (.type T) := by decide +kernel)
    (hn : x ≠ "__name__" := by decide) (hdb : (x == ("__debug__" : Str)) = false := by decide) (he : ∀ i, starEach (e :: es) (𝒳 i).env = (false, eval e (𝒳 i).env) :: starEach es (𝒳 i).env := by intro _; rfl) (hpl : ∀ i, (backTo pos (starEach es (𝒳 i).env)).any (·.1) = false := by intro _; rfl) :
    DE 𝒳 G (.Call (.Name x p) (e :: es) [] pos) (evCall f R) := by
  obtain ⟨t, pt, rt⟩ := ha
  exact ⟨_, fun i => pe_callTy (hc i) (hg i) (hm i) hv (pt i) hn hdb (he i) (hpl i), rt.call hr⟩
/-- a built-in type as a value -/
theorem de_ty (t : Ty) {x : Str} {pos : Pos} (hm : ∀ i, (𝒳 i).mg x = none) (hg : ∀ i, Gl (𝒳 i) x := by intro _; rfl) (hv : bootBuiltins x = some (.type t.nm) := by decide +kernel) (hn : x ≠ "__name__" := by decide) (hdb : (x == ("__debug__" : Str)) = false := by decide) :
    DE 𝒳 G (.Name x pos) (fun _ => M.ret (.d (.ty t))) :=
  ⟨_, fun i => pe_bltn (v := .ty t.nm) (hg i) (hm i) hv rfl hn hdb, fun c σ δ Q s w h => QV.here (v := .d (.ty t)) h w rfl⟩
end
section
variable {G : Gh} {c : Cf}
theorem vs1 {u : RV} {xs : List V} (r : RepVs c [u] xs) : ∃ x, xs = [x] ∧ RepRV c u x := by cases r with | cons h t => cases t; exact ⟨_, rfl, h⟩
theorem vs2 {u v : RV} {xs : List V} (r : RepVs c [u, v] xs) : ∃ x y, xs = [x, y] ∧ RepRV c u x ∧ RepRV c v y := by cases r with | cons h t => cases t with | cons h2 t => cases t; exact ⟨_, _, rfl, h, h2⟩
/-- len -/
def bLen : List RV → M RV
  | [.d (.str s)] => (M.guard (s.length ≤ sizeLine)).bind fun _ => M.ret (.d (.int s.length))
  | [.d (.dK kvs)] => M.ret (.d (.int kvs.length))
  | [u] => (M.look fun W => seqOf W u).bind fun p => M.ret (.d (.int p.2.length))
  | _ => M.fail
theorem repK_len : ∀ {ds : List (Key × D)} {vs : List (Key × V)}, RepK c ds vs → ds.length = vs.length
  | [], _, h => by cases h; rfl
  | (_, _) :: _, _, h => by
    obtain ⟨v, r, rfl, _, h2⟩ := h
    rw [List.length_cons, List.length_cons, repK_len h2]
theorem call_bLen {X : Cx} (hK : X.K = G.K) : CallR X (.builtin "len") (fun xs H Q => (∃ x n, xs = [x] ∧ LenV G.K x H n ∧ Q (.int n) H) ∨ ∃ a kvs, xs = [V.ref a] ∧ H a = some (.dK kvs) ∧ Q (.int kvs.length) H) := by
  have := call_len (X := X)
  rw [hK] at this
  exact this.or call_lenD
theorem cd_len : CallD G (fun xs H Q => (∃ x n, xs = [x] ∧ LenV G.K x H n ∧ Q (.int n) H) ∨ ∃ a kvs, xs = [V.ref a] ∧ H a = some (.dK kvs) ∧ Q (.int kvs.length) H) bLen := by
  intro c xs us Q w ru h
  have seq : ∀ u, RepVs c [u] xs → wpM ((M.look fun W => seqOf W u).bind fun p => M.ret (.d (.int p.2.length))) c.W (QV c Q) (QE G c) → (∃ x n, xs = [x] ∧ LenV G.K x c.H n ∧ Q (.int n) c.H) := fun u ru h => by
    obtain ⟨x, rfl, r⟩ := vs1 ru
    obtain ⟨⟨t, ys⟩, e, q⟩ := wpM_look (wpM_bind.mp h)
    obtain ⟨a, vs, rfl, h1, r1⟩ := seqOf_ok w r e
    refine ⟨_, vs.length, rfl, ?_, ?_⟩
    · cases t with
      | true => exact .inr ⟨vs, SqT.of h1, rfl⟩
      | false => exact .inl ⟨vs, SqL.of h1, rfl⟩
    · rw [← paired_len r1]
      exact QV.here (v := .d (.int ys.length)) q w rfl
  cases us with
  | nil => exact h.elim
  | cons u us =>
    cases us with
    | cons _ _ => cases u with
      | r _ => exact h.elim
      | d y => cases y <;> exact h.elim
    | nil =>
      cases u with
      | r l => exact .inl (seq _ ru h)
      | d y =>
        cases y
        case str s =>
          obtain ⟨x, rfl, r⟩ := vs1 ru
          cases r
          obtain ⟨hz, q⟩ := wpM_guard (wpM_bind.mp h)
          exact .inl ⟨_, s.length, rfl, ⟨hz, rfl⟩, QV.here (v := .d (.int s.length)) q w rfl⟩
        case dK kvs =>
          obtain ⟨x, rfl, r⟩ := vs1 ru
          obtain ⟨a, ws, rfl, h1, _, h2⟩ := r
          refine .inr ⟨a, ws, rfl, h1, ?_⟩
          rw [← repK_len h2]
          exact QV.here (v := .d (.int kvs.length)) h w rfl
        all_goals exact .inl (seq _ ru h)
/-- the kind of a value -/
def tyOf (W : Wd) : RV → Option Ty
  | .d .non => some .non
  | .d (.bl _) => some .bl
  | .d (.int _) => some .int
  | .d (.str _) => some .str
  | .d (.lst _) => some .lst
  | .d (.tup _) => some .tup
  | .d (.dK _) => some .dct
  | .d (.dT _) => some .dct
  | .d _ => none
  | .r l => match W[l]? with
    | some (.lst _) => some .lst
    | some (.fz (.lst _)) => some .lst
    | some (.fz (.tup _)) => some .tup
    | _ => none
theorem tyOf_ok {u : RV} {x : V} {t : Ty} (w : WOk c) (r : RepRV c u x) (h : tyOf c.W u = some t) : TyX G.K c.H x (.type t.nm) := by
  have seq : ∀ b xs, seqOf c.W u = some (b, xs) → TyX G.K c.H x (.type (if b then Ty.tup.nm else Ty.lst.nm)) := fun b xs e => by
    obtain ⟨a, vs, rfl, h1, _⟩ := seqOf_ok w r e
    cases b with
    | true => exact .base (.tup h1)
    | false => exact .base (.lst h1)
  cases u with
  | d y =>
    cases y <;> simp [tyOf] at h <;> subst h
    case non => cases r; exact .base .non
    case bl => cases r; exact .base (.bl _)
    case int => cases r; exact .base (.int _)
    case str => cases r; exact .base (.str _)
    case lst => exact seq false _ rfl
    case tup => exact seq true _ rfl
    case dK => obtain ⟨a, ws, rfl, h1, _⟩ := r; exact .base (.dK h1)
    case dT => obtain ⟨a, ws, rfl, h1, _⟩ := r; exact .base (.dT h1)
  | r l =>
    simp only [tyOf] at h
    cases e : c.W[l]? with
    | none => rw [e] at h; simp at h
    | some o =>
      rw [e] at h
      cases o with
      | lst xs => simp at h; subst h; exact seq false xs (by simp only [seqOf, e])
      | fz y =>
        cases y <;> simp at h <;> subst h
        case lst ys => exact seq false (ys.map RV.d) (by simp only [seqOf, e])
        case tup ys => exact seq true (ys.map RV.d) (by simp only [seqOf, e])
def Ty.sub (a b : Ty) : Bool := a == b || (a == .bl && b == .int)
theorem ty_sub {K : PySem.W.Frag} (a b : Ty) (h : b ≠ .non) : PySem.W.kitOne K (.type a.nm) (.type b.nm) = some (a.sub b) := by
  cases a <;> cases b <;> first | exact absurd rfl h | exact kit_ty (by decide +kernel)
def tysOf : D → Option (List Ty)
  | .ty t => if t = .non then none else some [t]
  | .tup xs => go xs
  | _ => none
where go : List D → Option (List Ty)
  | [] => some []
  | .ty t :: r => if t = .non then none else (go r).map (t :: ·)
  | _ => none
theorem tysGo_ok : ∀ {xs : List D} {ts : List Ty} {vs : List V}, tysOf.go xs = some ts → RepL c xs vs → vs = ts.map (fun t => V.ty t.nm) ∧ ∀ t ∈ ts, t ≠ .non
  | [], _, _, h, r => by simp [tysOf.go] at h; subst h; cases r; exact ⟨rfl, fun _ h => nomatch h⟩
  | x :: xs, ts, _, h, r => by
    obtain ⟨v, r', rfl, h1, h2⟩ := r
    cases x <;> simp [tysOf.go] at h
    case ty t =>
      obtain ⟨hn, ts', e, rfl⟩ := h
      obtain ⟨rfl, h3⟩ := tysGo_ok e h2
      cases h1
      exact ⟨rfl, fun z hz => by rcases List.mem_cons.mp hz with rfl | hz; exact hn; exact h3 z hz⟩
theorem clsAll : ∀ ts : List Ty, Paired ClsV (ts.map fun t => V.ty t.nm) (ts.map fun t => Value.type t.nm)
  | [] => .nil
  | t :: ts => .cons (.ty _) (clsAll ts)
theorem kitAll {K : PySem.W.Frag} (a : Ty) : ∀ ts : List Ty, (∀ t ∈ ts, t ≠ .non) → PySem.W.kitAny K (.type a.nm) (ts.map fun t => Value.type t.nm) = some (ts.any a.sub)
  | [], _ => rfl
  | t :: ts, h => by
    have h1 := ty_sub (K := K) a t (h t (List.mem_cons_self))
    refine kitAny_cons (b := a.sub t) h1 (fun e => ?_) (fun e => ?_)
    · rw [List.any_cons, e, Bool.false_or]; exact kitAll a ts fun z hz => h z (List.mem_cons_of_mem _ hz)
    · rw [List.any_cons, e, Bool.true_or]
def bIsi : List RV → M RV
  | [u, .d y] => (M.opt (tysOf y)).bind fun ts => (M.look fun W => tyOf W u).bind fun t => M.ret (.d (.bl (ts.any t.sub)))
  | _ => M.fail
theorem cd_isi : CallD G (fun xs H Q => rIsi G.K xs H Q ∨ rIsiT G.K xs H Q) bIsi := by
  intro c xs us Q w ru h
  match us, ru, h with
  | [u, .d y], ru, h =>
    obtain ⟨x, z, rfl, r1, r2⟩ := vs2 ru
    obtain ⟨ts, e, q⟩ := wpM_opt (wpM_bind.mp h)
    obtain ⟨t, e2, q⟩ := wpM_look (wpM_bind.mp q)
    have tx := tyOf_ok (G := G) w r1 e2
    cases y <;> simp [tysOf] at e
    case ty b =>
      obtain ⟨hn, rfl⟩ := e
      cases r2
      refine .inl ⟨x, _, _, _, t.sub b, rfl, .ty _, tx, ?_, ?_⟩
      · exact ty_sub t b hn
      · have := QV.here (v := .d (.bl ([b].any t.sub))) q w rfl
        simpa using this
    case tup ys =>
      obtain ⟨a, vs, rfl, h1, _, h2⟩ := r2
      obtain ⟨rfl, hn⟩ := tysGo_ok e h2
      exact .inr ⟨x, a, _, _, _, _, rfl, h1, clsAll ts, tx, kitAll t ts hn, QV.here (v := .d (.bl (ts.any t.sub))) q w rfl⟩
  | [], _, h => exact h.elim
  | [_], _, h => exact h.elim
  | [_, .r _], _, h => exact h.elim
  | _ :: .d _ :: _ :: _, _, h => exact h.elim
  | _ :: .r _ :: _ :: _, _, h => exact h.elim
end
end DL
set_option Elab.async false
set_option linter.all false
set_option maxRecDepth 100000
set_option maxHeartbeats 4000000
/-! DL7: more built-in functions, methods. -/
namespace DL
open PySem PySem.Spec PyProof.Rows L2
/-- list(a text) -/
theorem call_listS {X : Cx} (hc : X.calm = true) : CallR X (.type "list") (fun xs H Q => ∃ z : Str, xs = [.str z] ∧ z.cps.size ≤ sizeLine ∧ ∀ p, H p = none → Q (.ref p) (upd H p (.lst (z.cps.toList.map fun ch => V.str ⟨#[ch]⟩)))) := by
  intro pins s σ H xs us Q I r h
  obtain ⟨z, rfl, hz, q⟩ := h
  obtain ⟨u, rfl, t, rfl⟩ := vals1 r
  refine call_list_str (I.ok.hd hc) z t (fun h' tk acc' c' hk hS hacc => ?_) hz
  refine ⟨.ref s.heap.objs.size, upd H s.heap.objs.size (.lst (z.cps.toList.map fun ch => V.str ⟨#[ch]⟩)), I.laid hk (Nat.le_refl _) (show ObjOk X.prog X.w _ _ _ (.lst (z.cps.toList.map fun ch => V.str ⟨#[ch]⟩)) from ⟨?_, acc'.toList, c', ?_, ?_⟩), rfl, q _ (I.hok.fresh (Nat.le_refl _))⟩
  · rw [List.length_map, Array.length_toList]; exact hz
  · refine vals_of_at (by rw [List.length_map, Array.length_toList, Array.length_toList, hacc.1]) fun j x w h1 h2 => ?_
    obtain ⟨ch, u, hc1, rfl⟩ := hacc.2 j w (by rw [← Array.getElem?_toList]; exact h2)
    rw [List.getElem?_map, Array.getElem?_toList, hc1] at h1
    cases h1
    exact ⟨u, rfl⟩
  · rw [Array.toArray_toList]; exact hS
section
variable {G : Gh} {c : Cf}
def charsOf (z : Str) : List D := z.cps.toList.map fun ch => D.str ⟨#[ch]⟩
theorem chars_rep (z : List Nat) : RepVs c ((z.map fun ch => D.str ⟨#[ch]⟩).map RV.d) (z.map fun ch => V.str ⟨#[ch]⟩) := by
  induction z with
  | nil => exact .nil
  | cons a r ih => exact .cons rfl ih
def bList (mk : Bool) : List RV → M RV
  | [.d (.str z)] => (M.guard (z.cps.size ≤ sizeLine)).bind fun _ => newL mk ((charsOf z).map .d)
  | [.d (.frz xs)] => newL mk (xs.map .d)
  | [u] => (M.look fun W => seqOf W u).bind fun p => newL mk p.2
  | _ => M.fail
abbrev rList (K : PySem.W.Frag) : List V → Hp → VK → Prop := fun xs H Q => (∃ z : Str, xs = [.str z] ∧ z.cps.size ≤ sizeLine ∧ ∀ p, H p = none → Q (.ref p) (upd H p (.lst (z.cps.toList.map fun ch => V.str ⟨#[ch]⟩)))) ∨
  ∃ p ys, xs = [.ref p] ∧ (SqL K H p ys ∨ SqT K H p ys) ∧ ∀ l, H l = none → Q (.ref l) (upd H l (.lst ys))
theorem call_bList {X : Cx} (hc : X.calm = true) (hK : X.K = G.K) : CallR X (.type "list") (rList G.K) := by
  have := call_list_of (X := X)
  rw [hK] at this
  exact (call_listS hc).or this
theorem cd_list {mk : Bool} : CallD G (rList G.K) (bList mk) := by
  intro c xs us Q w ru h
  have seq : ∀ u, RepVs c [u] xs → wpM ((M.look fun W => seqOf W u).bind fun p => newL mk p.2) c.W (QV c Q) (QE G c) → (∃ p ys, xs = [.ref p] ∧ (SqL G.K c.H p ys ∨ SqT G.K c.H p ys) ∧ ∀ l, c.H l = none → Q (.ref l) (upd c.H l (.lst ys))) := fun u ru h => by
    obtain ⟨x, rfl, r⟩ := vs1 ru
    obtain ⟨⟨t, ys⟩, e, q⟩ := wpM_look (wpM_bind.mp h)
    obtain ⟨a, vs, rfl, h1, r1⟩ := seqOf_ok w r e
    refine ⟨a, vs, rfl, ?_, newL_ok w r1 q⟩
    cases t with
    | true => exact .inr (SqT.of h1)
    | false => exact .inl (SqL.of h1)
  match us, ru, h with
  | [], _, h => exact h.elim
  | [.r l], ru, h => exact .inr (seq _ ru h)
  | [.d y], ru, h =>
    cases y
    case str z =>
      obtain ⟨x, rfl, r⟩ := vs1 ru
      cases r
      obtain ⟨hz, q⟩ := wpM_guard (wpM_bind.mp h)
      exact .inl ⟨z, rfl, hz, newL_ok w (chars_rep z.cps.toList) q⟩
    case frz ys =>
      obtain ⟨x, rfl, r⟩ := vs1 ru
      obtain ⟨a, o, vs, rfl, h1, _, h2⟩ := r
      exact .inr ⟨a, vs, rfl, .inl (.inl (.inr ⟨o, h1⟩)), newL_ok w (repL_vs h2) h⟩
    all_goals exact .inr (seq _ ru h)
  | .r _ :: _ :: _, _, h => exact h.elim
  | .d y :: _ :: _, _, h => cases y <;> exact h.elim
/-- tuple(x) -/
def bTuple : List RV → M RV
  | [u] => (M.look fun W => seqOf W u).bind fun p => if p.1 then M.ret u else newT p.2
  | _ => M.fail
abbrev rTuple (K : PySem.W.Frag) : List V → Hp → VK → Prop := fun xs H Q => ∃ p ys, xs = [.ref p] ∧ ((SqL K H p ys ∧ ∀ l, H l = none → Q (.ref l) (upd H l (.tup ys))) ∨ (SqT K H p ys ∧ Q (.ref p) H))
theorem call_bTuple {X : Cx} (hK : X.K = G.K) : CallR X (.type "tuple") (rTuple G.K) := by
  have := call_tuple_of (X := X)
  rw [hK] at this
  exact this
theorem cd_tuple : CallD G (rTuple G.K) bTuple := by
  intro c xs us Q w ru h
  match us, ru, h with
  | [], _, h => exact h.elim
  | [u], ru, h =>
    obtain ⟨x, rfl, r⟩ := vs1 ru
    obtain ⟨⟨t, ys⟩, e, q⟩ := wpM_look (wpM_bind.mp h)
    obtain ⟨a, vs, rfl, h1, r1⟩ := seqOf_ok w r e
    cases t with
    | true => exact ⟨a, vs, rfl, .inr ⟨SqT.of h1, QV.here (v := u) q w r⟩⟩
    | false => exact ⟨a, vs, rfl, .inl ⟨SqL.of h1, newT_ok w r1 q⟩⟩
  | _ :: _ :: _, _, h => exact h.elim
/-- sum(a list of ints), all(a list of truths) -/
def intsL : List RV → Option (List Int)
  | [] => some []
  | .d (.int i) :: r => (intsL r).map (i :: ·)
  | _ => none
theorem intsL_ok : ∀ {us : List RV} {vs : List V} {ns : List Int}, intsL us = some ns → RepVs c us vs → vs = ns.map V.int
  | [], _, _, h, .nil => by simp [intsL] at h; subst h; rfl
  | u :: us, _, ns, h, .cons (b := x) (l₂ := xs) q t => by
    cases u with
    | r l => simp [intsL] at h
    | d y =>
      cases y <;> simp [intsL] at h
      case int i =>
        obtain ⟨ns', e, rfl⟩ := h
        cases q
        rw [intsL_ok e t]
        rfl
def blsL : List RV → Option (List Bool)
  | [] => some []
  | .d (.bl i) :: r => (blsL r).map (i :: ·)
  | _ => none
theorem blsL_ok : ∀ {us : List RV} {vs : List V} {ns : List Bool}, blsL us = some ns → RepVs c us vs → vs = ns.map V.bl
  | [], _, _, h, .nil => by simp [blsL] at h; subst h; rfl
  | u :: us, _, ns, h, .cons (b := x) (l₂ := xs) q t => by
    cases u with
    | r l => simp [blsL] at h
    | d y =>
      cases y <;> simp [blsL] at h
      case bl i =>
        obtain ⟨ns', e, rfl⟩ := h
        cases q
        rw [blsL_ok e t]
        rfl
def strsL : List RV → Option (List Str)
  | [] => some []
  | .d (.str i) :: r => (strsL r).map (i :: ·)
  | _ => none
theorem strsL_ok : ∀ {us : List RV} {vs : List V} {ns : List Str}, strsL us = some ns → RepVs c us vs → vs = ns.map V.str
  | [], _, _, h, .nil => by simp [strsL] at h; subst h; rfl
  | u :: us, _, ns, h, .cons (b := x) (l₂ := xs) q t => by
    cases u with
    | r l => simp [strsL] at h
    | d y =>
      cases y <;> simp [strsL] at h
      case str i =>
        obtain ⟨ns', e, rfl⟩ := h
        cases q
        rw [strsL_ok e t]
        rfl
def bSum : List RV → M RV
  | [u] => (M.look fun W => (seqOf W u).bind fun p => if p.1 then none else intsL p.2).bind fun ns => M.ret (.d (.int ns.sum))
  | _ => M.fail
theorem call_bSum {X : Cx} (hc : X.calm = true) (hK : X.K = G.K) : CallR X (.builtin "sum") (rSum G.K) := by
  have := cr_sum hc
  rw [hK] at this
  exact this
theorem cd_sum : CallD G (rSum G.K) bSum := by
  intro c xs us Q w ru h
  match us, ru, h with
  | [], _, h => exact h.elim
  | [u], ru, h =>
    obtain ⟨x, rfl, r⟩ := vs1 ru
    obtain ⟨ns, e, q⟩ := wpM_look (wpM_bind.mp h)
    simp only [Option.bind_eq_some_iff] at e
    obtain ⟨⟨t, ys⟩, e1, e2⟩ := e
    obtain ⟨a, vs, rfl, h1, r1⟩ := seqOf_ok w r e1
    cases t with
    | true => simp at e2
    | false =>
      simp at e2
      rw [intsL_ok e2 r1] at h1
      exact ⟨a, ns, rfl, SqL.of h1, QV.here (v := .d (.int ns.sum)) q w rfl⟩
  | _ :: _ :: _, _, h => exact h.elim
def bAll : List RV → M RV
  | [u] => (M.look fun W => (seqOf W u).bind fun p => if p.1 then none else blsL p.2).bind fun ns => M.ret (.d (.bl (ns.all id)))
  | _ => M.fail
theorem call_bAll {X : Cx} (hc : X.calm = true) (hK : X.K = G.K) : CallR X (.builtin "all") (rAll G.K) := by
  have := cr_all hc
  rw [hK] at this
  exact this
theorem cd_all : CallD G (rAll G.K) bAll := by
  intro c xs us Q w ru h
  match us, ru, h with
  | [], _, h => exact h.elim
  | [u], ru, h =>
    obtain ⟨x, rfl, r⟩ := vs1 ru
    obtain ⟨ns, e, q⟩ := wpM_look (wpM_bind.mp h)
    simp only [Option.bind_eq_some_iff] at e
    obtain ⟨⟨t, ys⟩, e1, e2⟩ := e
    obtain ⟨a, vs, rfl, h1, r1⟩ := seqOf_ok w r e1
    cases t with
    | true => simp at e2
    | false =>
      simp at e2
      rw [blsL_ok e2 r1] at h1
      exact ⟨a, ns, rfl, SqL.of h1, QV.here (v := .d (.bl (ns.all id))) q w rfl⟩
  | _ :: _ :: _, _, h => exact h.elim
/-- ord(one sign); int(an int, a truth) -/
def bOrd : List RV → M RV
  | [.d (.str x)] => (M.guard (x.length = 1)).bind fun _ => M.ret (.d (.int (x.cps.getD 0 0 : Nat)))
  | _ => M.fail
theorem cd_ord : CallD G (fun xs H Q => ∃ x, xs = [.str x] ∧ x.length = 1 ∧ Q (.int (x.cps.getD 0 0 : Nat)) H) bOrd := by
  intro c xs us Q w ru h
  match us, ru, h with
  | [], _, h => exact h.elim
  | [.r _], _, h => exact h.elim
  | [.d y], ru, h =>
    cases y <;> try exact h.elim
    case str z =>
      obtain ⟨x, rfl, r⟩ := vs1 ru
      cases r
      obtain ⟨hz, q⟩ := wpM_guard (wpM_bind.mp h)
      exact ⟨z, rfl, hz, QV.here (v := .d (.int (z.cps.getD 0 0 : Nat))) q w rfl⟩
  | .r _ :: _ :: _, _, h => exact h.elim
  | .d y :: _ :: _, _, h => cases y <;> exact h.elim
def bInt : List RV → M RV
  | [.d (.int i)] => M.ret (.d (.int i))
  | [.d (.bl k)] => M.ret (.d (.int (if k then 1 else 0)))
  | _ => M.fail
theorem cd_int : CallD G (fun xs H Q => (∃ i, xs = [.int i] ∧ Q (.int i) H) ∨ ∃ k, xs = [.bl k] ∧ Q (.int (if k then 1 else 0)) H) bInt := by
  intro c xs us Q w ru h
  match us, ru, h with
  | [], _, h => exact h.elim
  | [.r _], _, h => exact h.elim
  | [.d y], ru, h =>
    cases y <;> try exact h.elim
    case int i =>
      obtain ⟨x, rfl, r⟩ := vs1 ru
      cases r
      exact .inl ⟨i, rfl, QV.here (v := .d (.int i)) h w rfl⟩
    case bl k =>
      obtain ⟨x, rfl, r⟩ := vs1 ru
      cases r
      exact .inr ⟨k, rfl, QV.here (v := .d (.int (if k then 1 else 0))) h w rfl⟩
  | .r _ :: _ :: _, _, h => exact h.elim
  | .d y :: _ :: _, _, h => cases y <;> exact h.elim
/-! ### methods of lists that may change -/
def MthD (G : Gh) (r : V → List V → Hp → VK → Prop) (f : RV → List RV → M RV) : Prop := ∀ (c : Cf) (x : V) (u : RV) (xs : List V) (us : List RV) (Q : VK), WOk c → RepRV c u x → RepVs c us xs → wpM (f u us) c.W (QV c Q) (QE G c) → r x xs c.H Q
/-- the items at a label that may change -/
def lstAt (W : Wd) : RV → Option (Nat × List RV)
  | .r l => match W[l]? with
    | some (.lst xs) => some (l, xs)
    | _ => none
  | _ => none
theorem lstAt_ok {u : RV} {x : V} {l : Nat} {xs : List RV} (w : WOk c) (r : RepRV c u x) (h : lstAt c.W u = some (l, xs)) : x = .ref (c.ren l) ∧ c.W[l]? = some (.lst xs) ∧ ∃ vs, c.H (c.ren l) = some (.lst vs) ∧ RepVs c xs vs := by
  cases u with
  | d y => simp [lstAt] at h
  | r k =>
    obtain ⟨rfl, hl⟩ := r
    simp only [lstAt] at h
    cases e : c.W[k]? with
    | none => rw [e] at h; simp at h
    | some o =>
      rw [e] at h
      cases o with
      | fz y => simp at h
      | lst ys =>
        simp at h
        obtain ⟨rfl, rfl⟩ := h
        obtain ⟨vs, h1, h2⟩ := w.obj k _ e
        exact ⟨rfl, e, vs, h1, h2⟩
def setAt (l : Nat) (m : MO) : M Unit := fun W => some (.ok (), W.set l m)
theorem put_ok {l : Nat} {xs ys : List RV} {vs : List V} {v : RV} {x : V} {Q : VK} {E : DX → Wd → Prop} (w : WOk c) (e : c.W[l]? = some (.lst xs)) (r : RepVs c ys vs) (rv : RepRV c v x) (h : wpM ((setAt l (.lst ys)).bind fun _ => M.ret v) c.W (QV c Q) E) : Q x (upd c.H (c.ren l) (.lst vs)) := by
  have ex : Ext c (c.put l (.lst vs) (.lst ys)) := Ext.put e trivial
  exact h x (c.put l (.lst vs) (.lst ys)) rfl ex (w.put e trivial ⟨vs, upd_same, RepVs.mono ex r⟩) (rv.mono ex)
def mAppend (u : RV) : List RV → M RV
  | [v] => (M.look fun W => lstAt W u).bind fun p => (M.guard (p.2.length < sizeLine)).bind fun _ => (setAt p.1 (.lst (p.2 ++ [v]))).bind fun _ => M.ret (.d .non)
  | _ => M.fail
theorem md_append : MthD G rAppend mAppend := by
  intro c x u xs us Q w r rs h
  match us, rs, h with
  | [], _, h => exact h.elim
  | [v], rs, h =>
    obtain ⟨y, rfl, ry⟩ := vs1 rs
    obtain ⟨⟨l, ys⟩, e, q⟩ := wpM_look (wpM_bind.mp h)
    obtain ⟨rfl, e2, vs, h1, r1⟩ := lstAt_ok w r e
    obtain ⟨hz, q⟩ := wpM_guard (wpM_bind.mp q)
    exact ⟨_, vs, y, rfl, rfl, h1, by rw [← paired_len r1]; exact hz, put_ok w e2 (paired_app r1 (.cons ry .nil)) (v := .d .non) rfl q⟩
  | _ :: _ :: _, _, h => exact h.elim
def mPop (u : RV) : List RV → M RV
  | [.d (.int i)] => (M.look fun W => (lstAt W u).bind fun p => (seqIndex? i p.2.length).bind fun k => (p.2[k]?).map fun y => (p, k, y)).bind fun z => (M.guard (-(2 ^ 63) ≤ i ∧ i < 2 ^ 63)).bind fun _ => (setAt z.1.1 (.lst (z.1.2.eraseIdx z.2.1))).bind fun _ => M.ret z.2.2
  | _ => M.fail
theorem md_pop : MthD G rPopAt mPop := by
  intro c x u xs us Q w r rs h
  match us, rs, h with
  | [], _, h => exact h.elim
  | [.r _], _, h => exact h.elim
  | [.d v], rs, h =>
    cases v <;> try exact h.elim
    case int i =>
      obtain ⟨y, rfl, ry⟩ := vs1 rs
      cases ry
      obtain ⟨⟨⟨l, ys⟩, k, z⟩, e, q⟩ := wpM_look (wpM_bind.mp h)
      simp only [Option.bind_eq_some_iff, Option.map_eq_some_iff] at e
      obtain ⟨⟨l', ys'⟩, e1, k', e2, z', e3, e4⟩ := e
      injection e4 with e5 e6
      injection e6 with e7 e8
      injection e5 with e9 e10
      subst e9 e10 e7 e8
      obtain ⟨rfl, e5, vs, h1, r1⟩ := lstAt_ok w r e1
      obtain ⟨⟨hi1, hi2⟩, q⟩ := wpM_guard (wpM_bind.mp q)
      obtain ⟨zv, h2, r2⟩ := paired_get r1 e3
      exact ⟨_, vs, i, k', zv, rfl, rfl, h1, hi1, hi2, by rw [← paired_len r1]; exact e2, h2, put_ok w e5 (paired_erase k' r1) r2 q⟩
  | .r _ :: _ :: _, _, h => exact h.elim
  | .d v :: _ :: _, _, h => cases v <;> exact h.elim
end
section
variable {ι : Type} {𝒳 : ι → Cx} {G : Gh} {e o : Expr} {Fa Fb : Env → M RV} {es : List Expr} {R : Env → M (List RV)}
/-- o.m(..) of a list -/
def evMth (f : RV → List RV → M RV) (Fo : Env → M RV) (R : Env → M (List RV)) (δ : Env) : M RV := (Fo δ).bind fun u => (M.look fun W => (seqOf W u).bind fun p => if p.1 then none else some ()).bind fun _ => (R δ).bind fun us => f u us
theorem de_mthL {id : String} {name : Str} {apos cpos : Pos} {r : V → List V → Hp → VK → Prop} {f : RV → List RV → M RV} (hK : ∀ i, (𝒳 i).K = G.K) (slot : Slot "list" name id) (hty : typeOf (.builtin id) = pure (.type "method_descriptor")) (hm : ∀ i, MtR (𝒳 i) id r) (hd : MthD G r f) (ho : DE 𝒳 G o Fa) (ha : DA 𝒳 G (e :: es) R)
    (hbase : ∀ i, attributeBase o name (𝒳 i).env (eval o (𝒳 i).env) = eval o (𝒳 i).env := by intro _; rfl)
    (hfew : ∀ i, ((backTo cpos (starEach (e :: es) (𝒳 i).env)).all (fun x => !x.1) && (backToKw cpos (keywordEach [] (𝒳 i).env)).all (fun x => x.1.isSome)
      && decide ((e :: es).length + ([] : List Keyword).length + (if ([] : List Keyword).isEmpty then 0 else 1) < 30)) = true := by intro _; rfl)
    (hline : (apos.endLine == cpos.line) = true := by rfl) (hs : ∀ i, starEach (e :: es) (𝒳 i).env = (false, eval e (𝒳 i).env) :: starEach es (𝒳 i).env := by intro _; rfl) (hplain : ∀ i, (backTo cpos (starEach es (𝒳 i).env)).any (·.1) = false := by intro _; rfl) :
    DE 𝒳 G (.Call (.Attribute o name apos) (e :: es) [] cpos) (evMth f Fa R) := by
  obtain ⟨to, po, ro⟩ := ho
  obtain ⟨ta, pa, ra⟩ := ha
  refine ⟨tBM G.K "list" r to ta, fun i => ?_, fun c σ δ Q s w h => ?_⟩
  · have := pe_bm PySem.F.plainAttrs_list slot hty (hm i) (po i) (pa i) (hbase i) (hfew i) hline (hs i) (hplain i)
    rw [hK i] at this
    exact this
  refine ro c σ δ _ s w (wpM_mono (wpM_bind.mp h) (fun u W1 h1 x1 c1 hw e1 w1 r1 => ?_) fun _ _ q => q)
  subst hw
  obtain ⟨_, e, q⟩ := wpM_look (wpM_bind.mp h1)
  simp only [Option.bind_eq_some_iff] at e
  obtain ⟨⟨t, xs⟩, e2, e3⟩ := e
  obtain ⟨a, vs, rfl, h3, _⟩ := seqOf_ok w1 r1 e2
  cases t with
  | true => simp at e3
  | false =>
    refine ⟨.inl ⟨rfl, vs, SqL.of h3⟩, ?_⟩
    refine ra c1 σ δ _ (s.mono e1) w1 (wpM_mono (wpM_bind.mp q) (fun us W2 h4 ys c2 hw e4 w2 r2 => ?_) fun _ _ q => q.mono e1)
    subst hw
    exact hd c2 _ u ys us Q w2 (r1.mono e4) r2 (wpM_mono h4 (fun _ _ q => (q.mono e1).mono e4) fun _ _ q => (q.mono e1).mono e4)
/-! ### methods of texts -/
def evMth1 (f : Str → RV → M RV) (Fo Fa : Env → M RV) (δ : Env) : M RV := (Fo δ).bind fun u => (M.opt (match u with | .d (.str s) => some s | _ => none)).bind fun s => (Fa δ).bind fun v => f s v
def Mth1D (G : Gh) (r : V → List V → Hp → VK → Prop) (f : Str → RV → M RV) : Prop := ∀ (c : Cf) (s : Str) (x : V) (u : RV) (Q : VK), WOk c → RepRV c u x → wpM (f s u) c.W (QV c Q) (QE G c) → r (.str s) [x] c.H Q
theorem de_mthS {id : String} {name : Str} {apos pos : Pos} {r : V → List V → Hp → VK → Prop} {f : Str → RV → M RV} (slot : Slot "str" name id) (ty : typeOf (.builtin id) = pure (.type "method_descriptor")) (hm : ∀ i, MtR (𝒳 i) id r) (hd : Mth1D G r f) (ho : DE 𝒳 G o Fa) (ha : DE 𝒳 G e Fb)
    (hs : ∀ i, starEach [e] (𝒳 i).env = [(false, eval e (𝒳 i).env)] := by intro _; rfl) (hbase : ∀ i, attributeBase o name (𝒳 i).env (eval o (𝒳 i).env) = eval o (𝒳 i).env := by intro _; rfl) (hline : (apos.endLine == pos.line) = true := by rfl) :
    DE 𝒳 G (.Call (.Attribute o name apos) [e] [] pos) (evMth1 f Fa Fb) := by
  obtain ⟨to, po, ro⟩ := ho
  obtain ⟨ta, pa, ra⟩ := ha
  refine ⟨_, fun i => pe_m1 slot ty (hm i) (po i) (pa i) (hs i) (hbase i) hline, fun c σ δ Q s w h => ?_⟩
  refine ro c σ δ _ s w (wpM_mono (wpM_bind.mp h) (fun u W1 h1 x1 c1 hw e1 w1 r1 => ?_) fun _ _ q => q)
  subst hw
  obtain ⟨z, e, q⟩ := wpM_opt (wpM_bind.mp h1)
  have eu : u = .d (.str z) := by
    cases u with
    | r l => simp at e
    | d y => cases y <;> simp at e; rw [e]
  subst eu
  cases r1
  refine ⟨⟨z, rfl⟩, ?_⟩
  refine ra c1 σ δ _ (s.mono e1) w1 (wpM_mono (wpM_bind.mp q) (fun v W2 h2 x2 c2 hw e2 w2 r2 => ?_) fun _ _ q => q.mono e1)
  subst hw
  exact hd c2 z x2 v Q w2 r2 (wpM_mono h2 (fun _ _ q => (q.mono e1).mono e2) fun _ _ q => (q.mono e1).mono e2)
def mJoin (s : Str) (u : RV) : M RV := (M.look fun W => (seqOf W u).bind fun p => strsL p.2).bind fun ys => (M.guard ((ys.map (·.length)).sum + ys.length * s.length ≤ 16777216)).bind fun _ => M.ret (.d (.str (Txt.join s ys)))
abbrev rJoin (K : PySem.W.Frag) : V → List V → Hp → VK → Prop := fun x xs H Q => ∃ a p, ∃ ys : List Str, x = .str a ∧ xs = [.ref p] ∧ (SqL K H p (ys.map V.str) ∨ SqT K H p (ys.map V.str)) ∧ (ys.map (·.length)).sum + ys.length * a.length ≤ 16777216 ∧ Q (.str (Txt.join a ys)) H
theorem mt_bJoin {X : Cx} (hK : X.K = G.K) : MtR X "str.join" (rJoin G.K) := by
  have := mt_join (X := X)
  rw [hK] at this
  exact this
theorem md_join : Mth1D G (rJoin G.K) mJoin := by
  intro c s x u Q w r h
  obtain ⟨ys, e, q⟩ := wpM_look (wpM_bind.mp h)
  simp only [Option.bind_eq_some_iff] at e
  obtain ⟨⟨t, xs⟩, e1, e2⟩ := e
  obtain ⟨a, vs, rfl, h1, r1⟩ := seqOf_ok w r e1
  obtain ⟨hz, q⟩ := wpM_guard (wpM_bind.mp q)
  have ev := strsL_ok e2 r1
  subst ev
  refine ⟨s, a, ys, rfl, rfl, ?_, hz, QV.here (v := .d (.str (Txt.join s ys))) q w rfl⟩
  cases t with
  | true => exact .inr (SqT.of h1)
  | false => exact .inl (SqL.of h1)
def mCount (s : Str) (u : RV) : M RV := match u with
  | .d (.str b) => M.ret (.d (.int (Txt.count s b)))
  | _ => M.fail
theorem md_count : Mth1D G (fun x xs H Q => ∃ a b, x = .str a ∧ xs = [.str b] ∧ Q (.int (Txt.count a b)) H) mCount := by
  intro c s x u Q w r h
  cases u with
  | r l => exact h.elim
  | d y =>
    cases y <;> try exact h.elim
    case str b =>
      cases r
      exact ⟨s, b, rfl, rfl, QV.here (v := .d (.int (Txt.count s b))) h w rfl⟩
end
end DL
set_option Elab.async false
set_option linter.all false
set_option maxRecDepth 100000
set_option maxHeartbeats 4000000
/-! DL8: targets, statements, while. -/
namespace DL
open PySem PySem.Spec PyProof.Rows L2
/-- how a statement ends -/
inductive Fl where
  | nx | rt (v : RV) | bk | ct
def QS (c : Cf) (D : Ends) : Fl × Env → Wd → Prop := fun p W' => match p.1 with
  | .nx => ∀ σ' c', c'.W = W' → Ext c c' → WOk c' → SOk σ' p.2 c' → D.nx σ' c'.H
  | .bk => ∀ σ' c', c'.W = W' → Ext c c' → WOk c' → SOk σ' p.2 c' → D.bk σ' c'.H
  | .ct => ∀ σ' c', c'.W = W' → Ext c c' → WOk c' → SOk σ' p.2 c' → D.ct σ' c'.H
  | .rt v => ∀ x c', c'.W = W' → Ext c c' → WOk c' → RepRV c' v x → D.rt x c'.H
theorem QS.mono {c c1 : Cf} {D : Ends} {p : Fl × Env} {W : Wd} (e : Ext c c1) (h : QS c D p W) : QS c1 D p W := by
  obtain ⟨f, δ⟩ := p
  cases f
  case nx => exact fun σ' c' hw e' w s => h σ' c' hw (e.trans e') w s
  case bk => exact fun σ' c' hw e' w s => h σ' c' hw (e.trans e') w s
  case ct => exact fun σ' c' hw e' w s => h σ' c' hw (e.trans e') w s
  case rt v => exact fun x c' hw e' w r => h x c' hw (e.trans e') w r
def RdS (G : Gh) (t : TS) (F : Env → M (Fl × Env)) : Prop := ∀ (c : Cf) (σ : L2.St) (δ : Env) (D : Ends), SOk σ δ c → WOk c → wpM (F δ) c.W (QS c D) (QE G c) → t D σ c.H
/-- a target: it sets slots of vs alone -/
def RdG (G : Gh) (g : TG) (vs : List Nat) (F : RV → Env → M Env) : Prop := ∀ (c : Cf) (v : V) (u : RV) (σ : L2.St) (δ : Env) (Q : L2.St → Hp → Prop), SOk σ δ c → WOk c → RepRV c u v →
  wpM (F u δ) c.W (fun δ' W' => ∀ σ' c', c'.W = W' → Ext c c' → WOk c' → SOk σ' δ' c' → σ'.length = σ.length → (∀ k, k ∉ vs → σ'[k]? = σ[k]?) → Q σ' c'.H) (QE G c) → g v σ c.H Q
def RdGs (G : Gh) (g : TGs) (vs : List Nat) (F : List RV → Env → M Env) : Prop := ∀ (c : Cf) (xs : List V) (us : List RV) (σ : L2.St) (δ : Env) (Q : L2.St → Hp → Prop), SOk σ δ c → WOk c → RepVs c us xs →
  wpM (F us δ) c.W (fun δ' W' => ∀ σ' c', c'.W = W' → Ext c c' → WOk c' → SOk σ' δ' c' → σ'.length = σ.length → (∀ k, k ∉ vs → σ'[k]? = σ[k]?) → Q σ' c'.H) (QE G c) → g xs σ c.H Q
section
variable {ι : Type} {𝒳 : ι → Cx} {G : Gh} {e a b tg : Expr} {Fe Fa Fb : Env → M RV} {pos : Pos} {es : List Expr} {R : Env → M (List RV)} {vs : List Nat} {Tc : Env → M Bool} {st : Stmt} {sts ss1 ss2 : List Stmt} {S1 S2 : Env → M (Fl × Env)}
def DS (𝒳 : ι → Cx) (G : Gh) (st : Stmt) (F : Env → M (Fl × Env)) : Prop := ∃ t, (∀ i, PS (𝒳 i) st t) ∧ RdS G t F
def DSs (𝒳 : ι → Cx) (G : Gh) (st : List Stmt) (F : Env → M (Fl × Env)) : Prop := ∃ t, (∀ i, PSs (𝒳 i) st t) ∧ RdS G t F
def DG (𝒳 : ι → Cx) (G : Gh) (tg : Expr) (vs : List Nat) (F : RV → Env → M Env) : Prop := ∃ g, (∀ i, PG (𝒳 i) tg g) ∧ RdG G g vs F
def DGs (𝒳 : ι → Cx) (G : Gh) (ts : List Expr) (vs : List Nat) (F : List RV → Env → M Env) : Prop := ∃ g, (∀ i, PGs (𝒳 i) ts g) ∧ RdGs G g vs F
theorem DS.never : DS 𝒳 G st (fun _ => M.fail) := ⟨tNever, fun _ => ps_never, fun _ _ _ _ _ _ h => h.elim⟩
/-! ### targets -/
def gtName (i : Nat) (u : RV) (δ : Env) : M Env := M.ret (δ.set i (some u))
theorem dg_name (i : Nat) {x : Str} (hN : ∀ k, (𝒳 k).N.Nodup) (hi : ∀ k, (𝒳 k).N[i]? = some x := by intro _; rfl) (hx : ∀ k, Loc (𝒳 k).env.scope x := by intro _; first | exact Or.inl rfl | exact Or.inr rfl)
    (hf : ∀ k, (𝒳 k).fn x = true ∨ (𝒳 k).env.scope.names.lookup x = some .local := by intro _; first | exact .inl rfl | exact .inr rfl) : DG 𝒳 G (.Name x pos) [i] (gtName i) := by
  refine ⟨gName i, fun k => pg_name (hN k) (hi k) (hx k) (hf k), fun c v u σ δ Q s w r h => ?_⟩
  refine h (σ.set i (some v)) c rfl (Ext.refl c) w (s.set i r) (by rw [List.length_set]) fun k hk => ?_
  rw [List.getElem?_set_ne (fun z => hk (by rw [z]; exact List.mem_singleton_self k))]
def gtNil (us : List RV) (δ : Env) : M Env := match us with | [] => M.ret δ | _ => M.fail
def gtCons (F : RV → Env → M Env) (R : List RV → Env → M Env) (us : List RV) (δ : Env) : M Env := match us with | [] => M.fail | u :: us => (F u δ).bind fun δ' => R us δ'
theorem dgs_nil : DGs 𝒳 G [] [] gtNil := by
  refine ⟨_, fun _ => pgs_nil, fun c xs us σ δ Q s w r h => ?_⟩
  cases r with
  | nil => exact ⟨rfl, h σ c rfl (Ext.refl c) w s rfl fun _ _ => rfl⟩
  | cons _ _ => exact h.elim
theorem dgs_cons {vs2 : List Nat} {F : RV → Env → M Env} {Fr : List RV → Env → M Env} (h1 : DG 𝒳 G e vs F) (h2 : DGs 𝒳 G es vs2 Fr) (hs : ∀ i, (assignEach (e :: es) (𝒳 i).env).map (·.2) = assign e (𝒳 i).env :: (assignEach es (𝒳 i).env).map (·.2) := by intro _; rfl) : DGs 𝒳 G (e :: es) (vs ++ vs2) (gtCons F Fr) := by
  obtain ⟨g, pg, rg⟩ := h1
  obtain ⟨g2, pg2, rg2⟩ := h2
  refine ⟨_, fun i => pgs_cons (pg i) (pg2 i) (hs i), fun c xs us σ δ Q s w r h => ?_⟩
  cases r with
  | nil => exact h.elim
  | cons r1 r2 =>
    refine ⟨_, _, rfl, rg c _ _ σ δ _ s w r1 (wpM_mono (wpM_bind.mp h) (fun δ' W1 h1 σ' c1 hw e1 w1 s1 l1 k1 => ?_) fun _ _ q => q)⟩
    subst hw
    refine rg2 c1 _ _ σ' δ' Q s1 w1 (RepVs.mono e1 r2) (wpM_mono h1 (fun δ2 W2 h2 σ2 c2 hw e2 w2 s2 l2 k2 => ?_) fun _ _ q => q.mono e1)
    exact h2 σ2 c2 hw (e1.trans e2) w2 s2 (l2.trans l1) fun k hk => by
      rw [k2 k (fun z => hk (List.mem_append_right _ z)), k1 k (fun z => hk (List.mem_append_left _ z))]
theorem PG.or {X : Cx} {t t' : TG} (h : PG X tg t) (h' : PG X tg t') : PG X tg (fun v σ H Q => t v σ H Q ∨ t' v σ H Q) :=
  ⟨fun pins s σ H v u Q I r hw => hw.elim (h.run pins s σ H v u Q I r) (h'.run pins s σ H v u Q I r)⟩
def gtUnp (n : Nat) (F : List RV → Env → M Env) (u : RV) (δ : Env) : M Env := (M.look fun W => seqOf W u).bind fun p => (M.guard (p.2.length = n)).bind fun _ => F p.2 δ
theorem dg_tup {k n : Nat} {F : List RV → Env → M Env} (hK : ∀ i, (𝒳 i).K = G.K) (hc : ∀ i, (𝒳 i).calm = true) (h : DGs 𝒳 G es vs F) (hn : ∀ i, (assignEach es (𝒳 i).env).length = n := by intro _; rfl) (hst : ∀ i, (assignEach es (𝒳 i).env).findIdx? (·.1) = none := by intro _; rfl) :
    DG 𝒳 G (.Tuple es k pos) vs (gtUnp n F) := by
  obtain ⟨g, pg, rg⟩ := h
  refine ⟨fun v σ H Q => gTup G.K n g v σ H Q ∨ gUnl G.K n g v σ H Q, fun i => ?_, fun c v u σ δ Q s w r h => ?_⟩
  · have h1 := pg_tup (pos := pos) (k := k) (hc i) (pg i) (hn i) (hst i)
    have h2 := pg_unl (pos := pos) (k := k) (hc i) (pg i) (hn i) (hst i)
    rw [hK i] at h1 h2
    exact PG.or h1 h2
  · obtain ⟨⟨t, xs⟩, e, q⟩ := wpM_look (wpM_bind.mp h)
    obtain ⟨hl, q⟩ := wpM_guard (wpM_bind.mp q)
    obtain ⟨a, ws, rfl, h1, r1⟩ := seqOf_ok w r e
    have hl2 : ws.length = n := by rw [← paired_len r1]; exact hl
    have fin := rg c ws xs σ δ Q s w r1 q
    cases t with
    | true => exact .inl ⟨a, ws, rfl, SqT.of h1, hl2, fin⟩
    | false => exact .inr ⟨a, ws, rfl, SqL.of h1, hl2, fin⟩
def gtSub (Fo Fi : Env → M RV) (u : RV) (δ : Env) : M Env := (Fo δ).bind fun o => (Fi δ).bind fun i => (asI i).bind fun k => (M.look fun W => (lstAt W o).bind fun p => (ixN p.2.length k).map fun j => (p, j)).bind fun z => (setAt z.1.1 (.lst (z.1.2.set z.2 u))).bind fun _ => M.ret δ
theorem dg_sub (ha : DE 𝒳 G a Fa) (hb : DE 𝒳 G b Fb) (hv : ∀ i, ∀ v, assign (.Subscript a b pos) (𝒳 i).env v = (do
      let ov ← holding [v] (eval a (𝒳 i).env)
      let iv ← holding [v, ov] (eval b (𝒳 i).env)
      standAt pos
      holding [v, ov, iv] (setItem ov iv v)
      release [v, ov, iv] []) := by intro _ _; rfl) : DG 𝒳 G (.Subscript a b pos) [] (gtSub Fa Fb) := by
  obtain ⟨ta, pa, ra⟩ := ha
  obtain ⟨tb, pb, rb⟩ := hb
  refine ⟨_, fun i => pg_sub (pa i) (pb i) set_list (hv i), fun c v u σ δ Q s w r h => ?_⟩
  refine ra c σ δ _ s w (wpM_mono (wpM_bind.mp h) (fun o W1 h1 x1 c1 hw e1 w1 r1 => ?_) fun _ _ q => q)
  subst hw
  refine rb c1 σ δ _ (s.mono e1) w1 (wpM_mono (wpM_bind.mp h1) (fun i W2 h2 x2 c2 hw e2 w2 r2 => ?_) fun _ _ q => q.mono e1)
  subst hw
  obtain ⟨k, rfl, q⟩ := asI_ok (wpM_bind.mp h2)
  obtain ⟨⟨⟨l, ys⟩, j⟩, e3, q⟩ := wpM_look (wpM_bind.mp q)
  simp only [Option.bind_eq_some_iff, Option.map_eq_some_iff] at e3
  obtain ⟨⟨l', ys'⟩, e4, j', e5, e6⟩ := e3
  injection e6 with e7 e8
  injection e7 with e9 e10
  subst e9 e10 e8
  obtain ⟨rfl, e7, ws, h3, r3⟩ := lstAt_ok w2 (r1.mono e2) e4
  cases r2
  refine ⟨_, ws, k, j', rfl, rfl, h3, by rw [← paired_len r3]; exact e5, ?_⟩
  have ex : Ext c2 (c2.put l' (.lst (ws.set j' v)) (.lst (ys'.set j' u))) := Ext.put e7 trivial
  exact q σ (c2.put l' (.lst (ws.set j' v)) (.lst (ys'.set j' u))) rfl ((e1.trans e2).trans ex) (w2.put e7 trivial ⟨_, upd_same, RepVs.mono ex (paired_set ((r.mono e1).mono e2) j' r3)⟩) (((s.mono e1).mono e2).mono ex) rfl fun _ _ => rfl
/-! ### statements -/
def evNext (δ : Env) : M (Fl × Env) := M.ret (.nx, δ)
def evSeq (S1 S2 : Env → M (Fl × Env)) (δ : Env) : M (Fl × Env) := (S1 δ).bind fun p => match p.1 with | .nx => S2 p.2 | f => M.ret (f, p.2)
theorem RdS.seq {t u : TS} (h1 : RdS G t S1) (h2 : RdS G u S2) : RdS G (tSeq t u) (evSeq S1 S2) := by
  intro c σ δ D s w h
  refine h1 c σ δ _ s w (wpM_mono (wpM_bind.mp h) (fun p W1 q => ?_) fun _ _ q => q)
  obtain ⟨f, δ1⟩ := p
  cases f with
  | nx =>
    intro σ' c' hw e1 w1 s1
    subst hw
    exact h2 c' σ' δ1 D s1 w1 (wpM_mono q (fun _ _ q => q.mono e1) fun _ _ q => q.mono e1)
  | rt v => exact q
  | bk => exact q
  | ct => exact q
theorem dss_nil : DSs 𝒳 G [] evNext := ⟨_, fun _ => pss_nil, fun c σ δ D s w h => h σ c rfl (Ext.refl c) w s⟩
theorem dss_cons (h1 : DS 𝒳 G st S1) (h2 : DSs 𝒳 G sts S2) : DSs 𝒳 G (st :: sts) (evSeq S1 S2) := by
  obtain ⟨t, pt, rt⟩ := h1
  obtain ⟨u, pu, ru⟩ := h2
  exact ⟨_, fun i => pss_cons (pt i) (pu i), rt.seq ru⟩
theorem dss_one (h1 : DS 𝒳 G st S1) : DSs 𝒳 G [st] S1 := let ⟨t, pt, rt⟩ := h1; ⟨_, fun i => pss_one (pt i), rt⟩
theorem ds_pass : DS 𝒳 G (.Pass pos) evNext := ⟨_, fun _ => ps_pass, fun c σ δ D s w h => h σ c rfl (Ext.refl c) w s⟩
theorem ds_break : DS 𝒳 G (.Break pos) (fun δ => M.ret (.bk, δ)) := ⟨_, fun _ => ps_break, fun c σ δ D s w h => h σ c rfl (Ext.refl c) w s⟩
theorem ds_cont : DS 𝒳 G (.Continue pos) (fun δ => M.ret (.ct, δ)) := ⟨_, fun _ => ps_continue, fun c σ δ D s w h => h σ c rfl (Ext.refl c) w s⟩
def evDrop (F : Env → M RV) (δ : Env) : M (Fl × Env) := (F δ).bind fun _ => M.ret (.nx, δ)
theorem ds_expr (h : DE 𝒳 G e Fe) (hs : ∀ i, swapsWith e none pos.line (𝒳 i).env = pure false := by intro _; rfl) : DS 𝒳 G (.Expr e pos) (evDrop Fe) := by
  obtain ⟨t, p, r⟩ := h
  refine ⟨_, fun i => ps_expr (p i) (hs i), fun c σ δ D s w h => ?_⟩
  refine r c σ δ _ s w (wpM_mono (wpM_bind.mp h) (fun u W1 h1 x1 c1 hw e1 w1 r1 => ?_) fun _ _ q => q)
  exact h1 σ c1 hw e1 w1 (s.mono e1)
def evRet (F : Env → M RV) (δ : Env) : M (Fl × Env) := (F δ).bind fun v => M.ret (.rt v, δ)
theorem ds_ret (h : DE 𝒳 G e Fe) : DS 𝒳 G (.Return (some e) pos) (evRet Fe) := by
  obtain ⟨t, p, r⟩ := h
  refine ⟨_, fun i => ps_ret (p i), fun c σ δ D s w h => ?_⟩
  exact r c σ δ _ s w (wpM_mono (wpM_bind.mp h) (fun u W1 h1 x1 c1 hw e1 w1 r1 => h1 x1 c1 hw e1 w1 r1) fun _ _ q => q)
theorem ds_retN : DS 𝒳 G (.Return none pos) (fun δ => M.ret (.rt (.d .non), δ)) := ⟨_, fun _ => ps_retN, fun c σ δ D s w h => h .non c rfl (Ext.refl c) w rfl⟩
def evAsg (F : Env → M RV) (T : RV → Env → M Env) (δ : Env) : M (Fl × Env) := (F δ).bind fun v => (T v δ).bind fun δ' => M.ret (.nx, δ')
theorem RdE.asg {te : TE} {g : TG} {T : RV → Env → M Env} (re : RdE G te Fe) (rg : RdG G g vs T) : RdS G (tAsg te g) (evAsg Fe T) := by
  intro c σ δ D s w h
  refine re c σ δ _ s w (wpM_mono (wpM_bind.mp h) (fun u W1 h1 x1 c1 hw e1 w1 r1 => ?_) fun _ _ q => q)
  subst hw
  exact rg c1 x1 u σ δ _ (s.mono e1) w1 r1 (wpM_mono (wpM_bind.mp h1) (fun δ' W2 h2 σ' c2 hw e2 w2 s2 _ _ => h2 σ' c2 hw (e1.trans e2) w2 s2) fun _ _ q => q.mono e1)
theorem ds_asg {T : RV → Env → M Env} (he : DE 𝒳 G e Fe) (hg : DG 𝒳 G tg vs T) (hs : ∀ i, swapsWithSole [tg] e pos.line (𝒳 i).env = pure false := by intro _; rfl) (hw : ∀ i, swappedStores [tg] e (𝒳 i).env = pure none := by intro _; rfl)
    (h1 : ∀ i, (assignEach [tg] (𝒳 i).env).map (·.2) = [assign tg (𝒳 i).env] := by intro _; rfl) : DS 𝒳 G (.Assign [tg] e pos) (evAsg Fe T) := by
  obtain ⟨t, p, r⟩ := he
  obtain ⟨g, pg, rg⟩ := hg
  exact ⟨_, fun i => ps_asg (p i) (pg i) (hs i) (hw i) (h1 i), r.asg rg⟩
/-- a, b = x, y with names: stored from the right -/
def evPar (i j : Nat) (R : Env → M (List RV)) (δ : Env) : M (Fl × Env) := (R δ).bind fun us => match us with | [u, v] => M.ret (.nx, (δ.set i (some u)).set j (some v)) | _ => M.fail
theorem ds_par (i j : Nat) {x y : Str} {px py pt : Pos} {kt k2 pt2} (hc : ∀ k, (𝒳 k).calm = true) (hN : ∀ k, (𝒳 k).N.Nodup) (ha : DA 𝒳 G [a, b] R) (hi : ∀ k, (𝒳 k).N[i]? = some x := by intro _; rfl) (hj : ∀ k, (𝒳 k).N[j]? = some y := by intro _; rfl) (hij : i ≠ j := by decide)
    (hx : ∀ k, (𝒳 k).env.scope.names.lookup x = some .local := by intro _; rfl) (hy : ∀ k, (𝒳 k).env.scope.names.lookup y = some .local := by intro _; rfl)
    (hw : ∀ k, swappedStores [.Tuple [.Name x px, .Name y py] kt pt] (.Tuple [a, b] k2 pt2) (𝒳 k).env = pure (some [x, y]) := by intro _; rfl)
    (hs : ∀ k, swapsWithSole [.Tuple [.Name x px, .Name y py] kt pt] (.Tuple [a, b] k2 pt2) pos.line (𝒳 k).env = pure false := by intro _; rfl) : DS 𝒳 G (.Assign [.Tuple [.Name x px, .Name y py] kt pt] (.Tuple [a, b] k2 pt2) pos) (evPar i j R) := by
  obtain ⟨t, p, r⟩ := ha
  refine ⟨_, fun k => ps_par (hc k) (hN k) (hi k) (hj k) hij (hx k) (hy k) (p k) (hw k) (hs k), fun c σ δ D s w h => ?_⟩
  refine r c σ δ _ s w (wpM_mono (wpM_bind.mp h) (fun us W1 h1 xs c1 hw e1 w1 r1 => ?_) fun _ _ q => q)
  match us, r1, h1 with
  | [], _, h => exact h.elim
  | [_], _, h => exact h.elim
  | [u, v], r1, h =>
    obtain ⟨x1, x2, rfl, q1, q2⟩ := vs2 r1
    exact ⟨x1, x2, rfl, h _ c1 hw e1 w1 (((s.mono e1).set i q1).set j q2)⟩
  | _ :: _ :: _ :: _, _, h => exact h.elim
def evPar3 (i j l : Nat) (R : Env → M (List RV)) (δ : Env) : M (Fl × Env) := (R δ).bind fun us => match us with | [u, v, z] => M.ret (.nx, ((δ.set i (some u)).set j (some v)).set l (some z)) | _ => M.fail
theorem vs3 {c : Cf} {u v z : RV} {xs : List V} (r : RepVs c [u, v, z] xs) : ∃ x y t, xs = [x, y, t] ∧ RepRV c u x ∧ RepRV c v y ∧ RepRV c z t := by cases r with | cons h t => cases t with | cons h2 t => cases t with | cons h3 t => cases t; exact ⟨_, _, _, rfl, h, h2, h3⟩
theorem ds_par3 (i j l : Nat) {d : Expr} {x y z : Str} {px py pz pt : Pos} {kt k2 pt2} (hc : ∀ k, (𝒳 k).calm = true) (hN : ∀ k, (𝒳 k).N.Nodup) (ha : DA 𝒳 G [a, b, d] R) (hi : ∀ k, (𝒳 k).N[i]? = some x := by intro _; rfl) (hj : ∀ k, (𝒳 k).N[j]? = some y := by intro _; rfl) (hl : ∀ k, (𝒳 k).N[l]? = some z := by intro _; rfl)
    (hij : i ≠ j := by decide) (hil : i ≠ l := by decide) (hjl : j ≠ l := by decide)
    (hx : ∀ k, (𝒳 k).env.scope.names.lookup x = some .local := by intro _; rfl) (hy : ∀ k, (𝒳 k).env.scope.names.lookup y = some .local := by intro _; rfl) (hz : ∀ k, (𝒳 k).env.scope.names.lookup z = some .local := by intro _; rfl)
    (hw : ∀ k, swappedStores [.Tuple [.Name x px, .Name y py, .Name z pz] kt pt] (.Tuple [a, b, d] k2 pt2) (𝒳 k).env = pure (some [x, y, z]) := by intro _; rfl)
    (hs : ∀ k, swapsWithSole [.Tuple [.Name x px, .Name y py, .Name z pz] kt pt] (.Tuple [a, b, d] k2 pt2) pos.line (𝒳 k).env = pure false := by intro _; rfl) : DS 𝒳 G (.Assign [.Tuple [.Name x px, .Name y py, .Name z pz] kt pt] (.Tuple [a, b, d] k2 pt2) pos) (evPar3 i j l R) := by
  obtain ⟨t, p, r⟩ := ha
  refine ⟨_, fun k => ps_par3 (hc k) (hN k) (hi k) (hj k) (hl k) hij hil hjl (hx k) (hy k) (hz k) (p k) (hw k) (hs k), fun c σ δ D s w h => ?_⟩
  refine r c σ δ _ s w (wpM_mono (wpM_bind.mp h) (fun us W1 h1 xs c1 hw e1 w1 r1 => ?_) fun _ _ q => q)
  match us, r1, h1 with
  | [], _, h => exact h.elim
  | [_], _, h => exact h.elim
  | [_, _], _, h => exact h.elim
  | [u, v, z], r1, h =>
    obtain ⟨x1, x2, x3, rfl, q1, q2, q3⟩ := vs3 r1
    exact ⟨x1, x2, x3, rfl, h _ c1 hw e1 w1 ((((s.mono e1).set i q1).set j q2).set l q3)⟩
  | _ :: _ :: _ :: _ :: _, _, h => exact h.elim
/-- name op= e, ints -/
def evAug (i : Nat) (g : Int → Int → Int) (F : Env → M RV) (δ : Env) : M (Fl × Env) := (evVar i δ).bind fun u => (F δ).bind fun v => (M.opt (int2 u v)).bind fun p => M.ret (.nx, δ.set i (some (.d (.int (g p.1 p.2)))))
theorem ds_aug (i : Nat) {x : Str} {op : Operator} {g : Int → Int → Int} {pos' : Pos} (hN : ∀ k, (𝒳 k).N.Nodup) (hp : ∀ k, PIp (𝒳 k) op (ipI g)) (he : DE 𝒳 G e Fe) (hi : ∀ k, (𝒳 k).N[i]? = some x := by intro _; rfl) (hx : ∀ k, Loc (𝒳 k).env.scope x := by intro _; first | exact Or.inl rfl | exact Or.inr rfl)
    (hf : ∀ k, (𝒳 k).fn x = true ∨ (𝒳 k).env.scope.names.lookup x = some .local := by intro _; first | exact .inl rfl | exact .inr rfl) : DS 𝒳 G (.AugAssign (.Name x pos') op e pos) (evAug i g Fe) := by
  obtain ⟨t, p, r⟩ := he
  refine ⟨_, fun k => ps_aug (hN k) (hi k) (hx k) (p k) (hp k) (hf k), fun c σ δ D s w h => ?_⟩
  obtain ⟨u, e1, q⟩ := wpM_opt (wpM_bind.mp h)
  have e2 : δ[i]? = some (some u) := by
    cases z : δ[i]? with
    | none => rw [z] at e1; simp at e1
    | some y => rw [z] at e1; simp at e1; rw [e1]
  obtain ⟨v, h1, h2⟩ := s.get i u e2
  refine ⟨v, h1, r c σ δ _ s w (wpM_mono (wpM_bind.mp q) (fun u2 W1 q1 x1 c1 hw e3 w1 r1 => ?_) fun _ _ q => q)⟩
  obtain ⟨⟨m, n⟩, e4, q2⟩ := wpM_opt (wpM_bind.mp q1)
  obtain ⟨rfl, rfl⟩ := int2_ok e4
  exact ⟨m, n, h2, r1, q2 _ c1 hw e3 w1 ((s.mono e3).set (rv := .d (.int (g m n))) i rfl)⟩
def evIfS (T : Env → M Bool) (S1 S2 : Env → M (Fl × Env)) (δ : Env) : M (Fl × Env) := (T δ).bind fun b => if b then S1 δ else S2 δ
theorem ds_if {c : Expr} (hc : DT 𝒳 G c Tc) (h1 : DSs 𝒳 G ss1 S1) (h2 : DSs 𝒳 G ss2 S2) : DS 𝒳 G (.If c ss1 ss2 pos) (evIfS Tc S1 S2) := by
  obtain ⟨tc, pc, rc⟩ := hc
  obtain ⟨t, pt, rt⟩ := h1
  obtain ⟨u, pu, ru⟩ := h2
  refine ⟨_, fun i => ps_if (pc i) (pt i) (pu i), fun c σ δ D s w h => ?_⟩
  refine rc c σ δ _ s w (wpM_mono (wpM_bind.mp h) (fun k W1 h1 c1 hw e1 w1 => ?_) fun _ _ q => q)
  subst hw
  cases k with
  | true => exact rt c1 σ δ D (s.mono e1) w1 (wpM_mono h1 (fun _ _ q => q.mono e1) fun _ _ q => q.mono e1)
  | false => exact ru c1 σ δ D (s.mono e1) w1 (wpM_mono h1 (fun _ _ q => q.mono e1) fun _ _ q => q.mono e1)
/-! ### while, by fuel -/
def evWhile (T : Env → M Bool) (B : Env → M (Fl × Env)) : Nat → Env → M (Fl × Env)
  | 0, _ => M.fail
  | n + 1, δ => (T δ).bind fun b => if b then (B δ).bind fun p => match p.1 with
    | .nx => evWhile T B n p.2
    | .ct => evWhile T B n p.2
    | .bk => M.ret (.nx, p.2)
    | .rt v => M.ret (.rt v, p.2)
    else M.ret (.nx, δ)
theorem ds_while (n : Nat) {c : Expr} {body : List Stmt} {B : Env → M (Fl × Env)} (hp : ∀ i, PassesOwn (model (𝒳 i).prog (𝒳 i).w) (𝒳 i).A (𝒳 i).env (𝒳 i).xe) (hc : DT 𝒳 G c Tc) (hb : DSs 𝒳 G body B) : DS 𝒳 G (.While c body [] pos) (evWhile Tc B n) := by
  obtain ⟨tc, pc, rc⟩ := hc
  obtain ⟨t, pt, rt⟩ := hb
  refine ⟨_, fun i => ps_while (hp i) (pc i) (pt i), fun c σ δ D s w h => ?_⟩
  refine ⟨fun m σ H => ∃ c2 δ2, c2.H = H ∧ Ext c c2 ∧ WOk c2 ∧ SOk σ δ2 c2 ∧ wpM (evWhile Tc B m δ2) c2.W (QS c2 D) (QE G c2), ⟨n, c, δ, rfl, Ext.refl c, w, s, h⟩, ?_⟩
  rintro m σ H ⟨c2, δ2, rfl, e2, w2, s2, h2⟩
  cases m with
  | zero => exact h2.elim
  | succ m =>
    refine rc c2 σ δ2 _ s2 w2 (wpM_mono (wpM_bind.mp h2) (fun k W1 h1 c1 hw e1 w1 => ?_) fun _ _ q => q)
    subst hw
    cases k with
    | false => exact h1 σ c1 rfl e1 w1 (s2.mono e1)
    | true =>
      show (if true = true then _ else _)
      rw [if_pos rfl]
      refine ⟨fun σ' H' => ∃ c3 δ3, c3.H = H' ∧ Ext c c3 ∧ WOk c3 ∧ SOk σ' δ3 c3 ∧ wpM (evWhile Tc B m δ3) c3.W (QS c3 D) (QE G c3), fun σ' H' z => ⟨m, Nat.lt_succ_self m, z⟩, ?_⟩
      refine rt c1 σ δ2 _ (s2.mono e1) w1 (wpM_mono (wpM_bind.mp h1) (fun p W3 h3 => ?_) fun _ _ q => q.mono e1)
      obtain ⟨f, δ3⟩ := p
      cases f with
      | nx =>
        intro σ' c3 hw e3 w3 s3
        subst hw
        exact ⟨c3, δ3, rfl, (e2.trans e1).trans e3, w3, s3, wpM_mono h3 (fun _ _ q => (q.mono e1).mono e3) fun _ _ q => (q.mono e1).mono e3⟩
      | ct =>
        intro σ' c3 hw e3 w3 s3
        subst hw
        exact ⟨c3, δ3, rfl, (e2.trans e1).trans e3, w3, s3, wpM_mono h3 (fun _ _ q => (q.mono e1).mono e3) fun _ _ q => (q.mono e1).mono e3⟩
      | bk => exact fun σ' c3 hw e3 w3 s3 => h3 σ' c3 hw (e1.trans e3) w3 s3
      | rt v => exact fun x c3 hw e3 w3 r3 => h3 x c3 hw (e1.trans e3) w3 r3
end
end DL
set_option Elab.async false
set_option linter.all false
set_option maxRecDepth 100000
set_option maxHeartbeats 4000000
/-! DL9: enumerate of a text, of a tuple (over the library's own rules of iterators). -/
namespace DL
open PySem PySem.Spec PyProof.Rows L2
/-- the text's signs, each in a new pair -/
def IteS (x : Str) : It := ⟨fun i _ => i < x.cps.size, fun i H v H' => ∃ T ch, v = .ref T ∧ H T = none ∧ H' = upd H T (.tup [.int (i : Nat), .str ⟨#[ch]⟩]) ∧ x.cps[i]? = some ch, fun i _ => x.cps.size ≤ i⟩
theorem turn_enumS {P : Program} {w : PySem.World} {K : PySem.W.Frag} {elts : List Expr} {kk : Nat} {tpos : Pos} (x : Str) (t : Tok) (e it : Addr) :
    Turn P w K (.Tuple elts kk tpos) (IteS x) [e, it] e (fun i h => i ≤ x.cps.size ∧ (∃ old, IsEnum h e it ((i : Nat) : Int) old) ∧ h.IsStrIter it (strIterType x) x t i ∧ e ≠ it) where
  mem := by simp
  obj := fun i h st b hb => by
    obtain ⟨_, ⟨old, he⟩, ⟨o, ho, hc, hd⟩, _⟩ := st
    have e' : b = e ∨ b = it := by simpa using hb
    rcases e' with z | z
    · rw [z]; exact ⟨_, he, fun v q => nomatch q⟩
    · rw [z]; exact ⟨o, ho, fun v q => by rw [hd] at q; cases q⟩
  keep := fun i h h' st k => let ⟨hle, ⟨old, he⟩, ⟨o, ho, r⟩, hne⟩ := st; ⟨hle, ⟨old, k e (by simp) _ he⟩, ⟨o, k it (by simp) o ho, r⟩, hne⟩
  item := by
    intro X hP hw hK hc i pins s σ H E I hf st hg
    subst hP hw hK
    obtain ⟨_, ⟨old, he⟩, hit, hne⟩ := st
    have hel : e < s.heap.objs.size := Heap.lt_size he
    have hil : it < s.heap.objs.size := by obtain ⟨_, q, _⟩ := hit; exact Heap.lt_size q
    have Dr := Draws.text (prog := X.prog) (w := X.w) (A := X.A.in1) (show X.A.in1.handled = none from I.ok.hd hc) it x t
    refine wpAny_pyNext_enum_itemD (St := fun i h => h.IsStrIter it (strIterType x) x t i) Dr he hit hg hne (by simpa using hne) fun u h' tk hP ho hit' hT hsz hk => ?_
    obtain ⟨ch, tu, hx, rfl⟩ := hP
    refine ⟨_, rfl, wpAny_letOwnedTupleGo_enum (s := { s with heap := h', toks := tk + 1 }) ho fun h'' he' sb => ?_⟩
    have hT2 : h''.get? s.heap.objs.size = some { cls := .type "tuple", data := .seq #[.int i tk, .str ⟨#[ch]⟩ tu] } := (sb.2 _ (Nat.ne_of_gt hel)).trans hT
    have new : ObjOk X.prog X.w (upd H s.heap.objs.size (.tup [.int (i : Nat), .str ⟨#[ch]⟩])) h'' s.heap.objs.size (.tup [.int (i : Nat), .str ⟨#[ch]⟩]) :=
      ⟨by show 2 ≤ sizeLine; decide, [.int i tk, .str ⟨#[ch]⟩ tu], .cons ⟨_, rfl⟩ (.cons ⟨_, rfl⟩ .nil), ⟨_, hT2, rfl, _, rfl⟩⟩
    have I1 : Inv X pins σ (upd H s.heap.objs.size (.tup [.int (i : Nat), .str ⟨#[ch]⟩])) { s with heap := h'', toks := tk + 1 } :=
      I.turnedNew (ch := [e, it]) (fun b ob hb q => (sb.2 b (fun z => hb (by simp [z]))).trans (hk b ob (fun z => hb (by simp [z])) (fun z => hb (by simp [z])) q)) hf (Nat.le_refl _) new
    refine ⟨.ref s.heap.objs.size, _, I1, rfl, ⟨_, ch, rfl, I.hok.fresh (Nat.le_refl _), rfl, hx⟩, ⟨by have : i < x.cps.size := hg; omega, ⟨.str ⟨#[ch]⟩ tu, ?_⟩, (let ⟨o, q, r⟩ := hit'; ⟨o, (sb.2 it (Ne.symm hne)).trans q, r⟩), hne⟩, fun b hb => ?_⟩
    · have e1 : ((i + 1 : Nat) : Int) = (i : Int) + 1 := by omega
      rw [e1]; exact he'
    · have hb' : b < s.heap.objs.size := by
        have e' : b = e ∨ b = it := by simpa using hb
        rcases e' with z | z
        · rw [z]; exact hel
        · rw [z]; exact hil
      rw [upd_ne (Nat.ne_of_lt hb')]
      exact (hf b hb).1
  done := by
    intro X hP hw hK hc i pins s σ H E I hf st hg
    subst hP hw hK
    obtain ⟨hle, ⟨old, he⟩, hit, hne⟩ := st
    have e1 : i = x.cps.size := Nat.le_antisymm hle hg
    subst e1
    obtain ⟨f0, f1, f2, f3, f4, f5⟩ := hf it (by simp)
    have Dr := Draws.text (prog := X.prog) (w := X.w) (A := X.A.in1) (show X.A.in1.handled = none from I.ok.hd hc) it x t
    exact wpAny_pyNext_enum_endD (St := fun i h => h.IsStrIter it (strIterType x) x t i) Dr he hit fun h' eb => ⟨rfl, I.turned (t' := s.toks) (fun b o hb q => eb b o hb q) f0 f1 f3 f4 f5⟩
  self := fun A i s Q E st h => let ⟨_, ⟨_, he⟩, _⟩ := st; wpAny_pyIter_enum he h
def iEnumS (ta : TA) : TI := fun σ H R => ta σ H fun vs H1 => ∃ x, vs = [.str x] ∧ R (IteS x) H1
theorem pi_enumS {X : Cx} {e : Expr} {ta : TA} {p pos tpos : Pos} {elts : List Expr} {kk : Nat} (hg : Gl X "enumerate") (hm : X.mg "enumerate" = none) (ha : PA X [e] ta) (hs : starEach [e] X.env = [(false, eval e X.env)] := by rfl) :
    PI X (.Tuple elts kk tpos) (.Call (.Name "enumerate" p) [e] [] pos) (iEnumS ta) := by
  refine ⟨fun pins s σ H R I h => ?_⟩
  refine Call_ (ld_blt I hg hm boot_enumerate (PyProof.Rows.callWith_type1 (thn (ha.run pos pins s σ H _ I h) fun us s1 ⟨vs, H1, I1, r1, q1⟩ => ?_) hs rfl))
  obtain ⟨x, ex, q⟩ := q1
  subst ex
  cases r1 with
  | cons r rr =>
    cases rr
    obtain ⟨t, rfl⟩ := r
    refine call_enumerate_str fun h' he hit hsz hk => wpAny_pyIter_enum he ?_
    have I2 : Inv X pins σ H1 { s1 with heap := h' } := I1.kept (t' := s1.toks) hk
    refine ⟨s1.heap.objs.size + 1, [s1.heap.objs.size + 1, s1.heap.objs.size], _, _, H1, rfl, I2, turn_enumS x t (s1.heap.objs.size + 1) s1.heap.objs.size, ⟨Nat.zero_le _, ⟨.none, he⟩, hit, Nat.succ_ne_self _⟩, fun b hb => ?_, q⟩
    have e' : b = s1.heap.objs.size + 1 ∨ b = s1.heap.objs.size := by simpa using hb
    have hle : s1.heap.objs.size ≤ b := by
      rcases e' with z | z
      · rw [z]; exact Nat.le_add_right _ _
      · rw [z]; exact Nat.le_refl _
    exact I1.fpOk hle (I1.hok.fresh hle)
end DL
set_option Elab.async false
set_option linter.all false
set_option maxRecDepth 100000
set_option maxHeartbeats 4000000
/-! DL10: what a for walks; for; comprehensions. -/
namespace DL
open PySem PySem.Spec PyProof.Rows L2 RZ
/-- the turns of J over the data ds, from c on -/
def Src (c : Cf) (J : It) (ds : List D) : Prop := ∃ (Gd : Hp → Prop) (Y : Nat → Hp → V → Hp → Prop), Walk J ds.length Gd Y ∧ (∀ c2, Wk c c2 → Gd c2.H) ∧
  ∀ (i : Nat) (x : V) (H2 : Hp) (c2 : Cf) (d : D), ds[i]? = some d → Wk c c2 → WOk c2 → Y i c2.H x H2 → ∃ c3, c3.H = H2 ∧ c3.W = c2.W ∧ Ext c2 c3 ∧ WOk c3 ∧ Rep c3 d x
theorem src_list {c : Cf} {K : PySem.W.Frag} {a : Addr} {xs : List D} (r : Rep c (.lst xs) (.ref a)) : Src c (Itl K a) xs := by
  obtain ⟨a', vs, e, h, n, r⟩ := r
  cases e
  refine ⟨_, _, by rw [repL_len r]; exact walk_list (xs := vs), fun c2 k => SqL.of (k.at h n), fun i x H2 c2 d hd k w y => ?_⟩
  obtain ⟨rfl, hx⟩ := y
  obtain ⟨v, hv, rv⟩ := repL_get r hd
  rw [hv] at hx
  cases hx
  exact ⟨c2, rfl, rfl, Ext.refl c2, w, Rep.monoW k _ _ rv⟩
theorem src_tup {c : Cf} {K : PySem.W.Frag} {a : Addr} {xs : List D} (r : Rep c (.tup xs) (.ref a)) : Src c (Itt K a) xs := by
  obtain ⟨a', vs, e, h, n, r⟩ := r
  cases e
  refine ⟨_, _, by rw [repL_len r]; exact walk_tup (xs := vs), fun c2 k => SqT.of (k.at h n), fun i x H2 c2 d hd k w y => ?_⟩
  obtain ⟨rfl, hx⟩ := y
  obtain ⟨v, hv, rv⟩ := repL_get r hd
  rw [hv] at hx
  cases hx
  exact ⟨c2, rfl, rfl, Ext.refl c2, w, Rep.monoW k _ _ rv⟩
theorem src_str {c : Cf} {z : Str} : Src c (Its z) (charsOf z) := by
  refine ⟨_, _, by unfold charsOf; rw [List.length_map, Array.length_toList]; exact walk_str (z := z), fun c2 k => trivial, fun i x H2 c2 d hd k w y => ?_⟩
  obtain ⟨rfl, ch, hx, rfl⟩ := y
  refine ⟨c2, rfl, rfl, Ext.refl c2, w, ?_⟩
  unfold charsOf at hd
  rw [List.getElem?_map, Array.getElem?_toList, hx] at hd
  cases hd
  rfl
/-- lo, lo + 1, .. -/
def intsFrom (lo : Int) (n : Nat) : List D := (List.range n).map fun i => D.int (lo + (i : Nat))
theorem src_range {c : Cf} {lo : Int} {n : Nat} : Src c (Itr lo n) (intsFrom lo n) := by
  refine ⟨_, _, by unfold intsFrom; rw [List.length_map, List.length_range]; exact walk_range, fun c2 k => trivial, fun i x H2 c2 d hd k w y => ?_⟩
  obtain ⟨rfl, rfl⟩ := y
  refine ⟨c2, rfl, rfl, Ext.refl c2, w, ?_⟩
  unfold intsFrom at hd
  rw [List.getElem?_map] at hd
  cases e : (List.range n)[i]? with
  | none => rw [e] at hd; simp at hd
  | some j =>
    rw [e] at hd
    have hj := List.getElem?_eq_some_iff.mp e
    obtain ⟨h1, h2⟩ := hj
    rw [List.getElem_range] at h2
    subst h2
    cases hd
    rfl
theorem lay_pair {c2 : Cf} {T : Addr} {x y : V} {a b : D} (w : WOk c2) (hT : c2.H T = none) (ra : Rep c2 a x) (rb : Rep c2 b y) : ∃ c3, c3.H = upd c2.H T (.tup [x, y]) ∧ c3.W = c2.W ∧ Ext c2 c3 ∧ WOk c3 ∧ Rep c3 (.tup [a, b]) (.ref T) := by
  obtain ⟨e, w3⟩ := w.lay (o := .tup [x, y]) hT
  exact ⟨c2.lay T (.tup [x, y]), rfl, rfl, e, w3, T, [x, y], rfl, upd_same, w.layAv hT, x, [y], rfl, Rep.mono e _ _ ra, y, [], rfl, Rep.mono e _ _ rb, rfl⟩
def enumD (xs : List D) : List D := xs.zipIdx.map fun p => D.tup [.int (p.2 : Nat), p.1]
theorem enumD_get {xs : List D} {i : Nat} {d : D} (h : (enumD xs)[i]? = some d) : ∃ x, xs[i]? = some x ∧ d = .tup [.int (i : Nat), x] := by
  unfold enumD at h
  rw [List.getElem?_map, List.getElem?_zipIdx] at h
  cases e : xs[i]? with
  | none => rw [e] at h; simp at h
  | some x => rw [e] at h; simp at h; exact ⟨x, rfl, h.symm⟩
theorem enumD_len {xs : List D} : (enumD xs).length = xs.length := by unfold enumD; rw [List.length_map, List.length_zipIdx]
theorem src_enum {c : Cf} {K : PySem.W.Frag} {a : Addr} {xs : List D} (r : Rep c (.lst xs) (.ref a)) : Src c (Ite K a) (enumD xs) := by
  obtain ⟨a', vs, e, h, n, r⟩ := r
  cases e
  refine ⟨_, _, by rw [enumD_len, repL_len r]; exact walk_enum (xs := vs), fun c2 k => SqL.of (k.at h n), fun i x H2 c2 d hd k w y => ?_⟩
  obtain ⟨T, p, q, rfl, hT, rfl, e1, e2⟩ := y
  dsimp only at e1 e2
  obtain ⟨x, hx, rfl⟩ := enumD_get hd
  obtain ⟨v, hv, rv⟩ := repL_get r hx
  rw [hv] at e2
  cases e2
  cases e1
  exact lay_pair w hT rfl (Rep.monoW k _ _ rv)
theorem walk_enumS {z : Str} : Walk (IteS z) z.cps.size (fun _ => True) (YPair (fun i => some (.int (i : Nat))) (fun i => z.cps[i]?.map fun ch => V.str ⟨#[ch]⟩)) := by
  refine ⟨fun _ _ hi _ => hi, fun _ _ => Nat.le_refl _, fun i H v H' _ _ y => ?_⟩
  obtain ⟨T, ch, h1, h2, h3, h4⟩ := y
  exact ⟨T, .int (i : Nat), .str ⟨#[ch]⟩, h1, h2, h3, rfl, by dsimp only; rw [h4]; rfl⟩
theorem src_enumS {c : Cf} {z : Str} : Src c (IteS z) (enumD (charsOf z)) := by
  refine ⟨_, _, by rw [enumD_len]; unfold charsOf; rw [List.length_map, Array.length_toList]; exact walk_enumS (z := z), fun c2 k => trivial, fun i x H2 c2 d hd k w y => ?_⟩
  obtain ⟨T, p, q, rfl, hT, rfl, e1, e2⟩ := y
  dsimp only at e1 e2
  obtain ⟨x, hx, rfl⟩ := enumD_get hd
  unfold charsOf at hx
  rw [List.getElem?_map, Array.getElem?_toList] at hx
  cases e : z.cps[i]? with
  | none => rw [e] at hx; simp at hx
  | some ch =>
    rw [e] at hx e2
    cases hx
    cases e2
    cases e1
    exact lay_pair w hT rfl rfl
def zipD (xs ys : List D) : List D := (xs.zip ys).map fun p => D.tup [p.1, p.2]
theorem zipD_get {xs ys : List D} {i : Nat} {d : D} (h : (zipD xs ys)[i]? = some d) : ∃ x y, xs[i]? = some x ∧ ys[i]? = some y ∧ d = .tup [x, y] := by
  unfold zipD at h
  rw [List.getElem?_map] at h
  cases e : (xs.zip ys)[i]? with
  | none => rw [e] at h; simp at h
  | some p =>
    rw [e] at h
    obtain ⟨h1, h2⟩ := List.getElem?_zip_eq_some.mp e
    simp at h
    exact ⟨p.1, p.2, h1, h2, h.symm⟩
theorem zipD_len {xs ys : List D} : (zipD xs ys).length = min xs.length ys.length := by unfold zipD; rw [List.length_map, List.length_zip]
theorem src_zip {c : Cf} {K : PySem.W.Frag} {a b : Addr} {xs ys : List D} (r : Rep c (.lst xs) (.ref a)) (r2 : Rep c (.lst ys) (.ref b)) : Src c (Itz K a b) (zipD xs ys) := by
  obtain ⟨a', vs, e, h, n, r⟩ := r
  cases e
  obtain ⟨b', ws, e, h2, n2, r2⟩ := r2
  cases e
  refine ⟨_, _, walk_zip (xs := vs) (ys := ws) (by rw [zipD_len, repL_len r, repL_len r2]), fun c2 k => ⟨SqL.of (k.at h n), SqL.of (k.at h2 n2)⟩, fun i x H2 c2 d hd k w y => ?_⟩
  obtain ⟨T, p, q, rfl, hT, rfl, e1, e2⟩ := y
  dsimp only at e1 e2
  obtain ⟨x, y, hx, hy, rfl⟩ := zipD_get hd
  obtain ⟨v, hv, rv⟩ := repL_get r hx
  obtain ⟨v2, hv2, rv2⟩ := repL_get r2 hy
  rw [hv] at e1
  rw [hv2] at e2
  cases e1
  cases e2
  exact lay_pair w hT (Rep.monoW k _ _ rv) (Rep.monoW k _ _ rv2)
theorem walk_zipT {K : PySem.W.Frag} {a b : Addr} {xs ys : List V} {n : Nat} (hn : n = min xs.length ys.length) : Walk (ItzT K a b) n (fun H => SqT K H a xs ∧ SqT K H b ys) (YPair (fun i => xs[i]?) (fun i => ys[i]?)) := by
  subst hn
  refine ⟨fun i _ hi q => ?_, fun _ q => ⟨xs, ys, q.1, q.2, by omega⟩, fun i H v H' _ q y => ?_⟩
  · have h1 : i < xs.length := by omega
    have h2 : i < ys.length := by omega
    exact ⟨xs, ys, xs[i], ys[i], q.1, q.2, by simp [h1], by simp [h2]⟩
  · obtain ⟨T, x, z, h1, h2, h3, h4, h5⟩ := y
    exact ⟨T, x, z, h1, h2, h3, h4 xs q.1, h5 ys q.2⟩
theorem src_zipT {c : Cf} {K : PySem.W.Frag} {a b : Addr} {xs ys : List D} (r : Rep c (.tup xs) (.ref a)) (r2 : Rep c (.tup ys) (.ref b)) : Src c (ItzT K a b) (zipD xs ys) := by
  obtain ⟨a', vs, e, h, n, r⟩ := r
  cases e
  obtain ⟨b', ws, e, h2, n2, r2⟩ := r2
  cases e
  refine ⟨_, _, walk_zipT (xs := vs) (ys := ws) (by rw [zipD_len, repL_len r, repL_len r2]), fun c2 k => ⟨SqT.of (k.at h n), SqT.of (k.at h2 n2)⟩, fun i x H2 c2 d hd k w y => ?_⟩
  obtain ⟨T, p, q, rfl, hT, rfl, e1, e2⟩ := y
  dsimp only at e1 e2
  obtain ⟨x, y, hx, hy, rfl⟩ := zipD_get hd
  obtain ⟨v, hv, rv⟩ := repL_get r hx
  obtain ⟨v2, hv2, rv2⟩ := repL_get r2 hy
  rw [hv] at e1
  rw [hv2] at e2
  cases e1
  cases e2
  exact lay_pair w hT (Rep.monoW k _ _ rv) (Rep.monoW k _ _ rv2)
/-! ### what is walked -/
def RdI (G : Gh) (wi : TI) (S : Env → M (List D)) : Prop := ∀ (c : Cf) (σ : L2.St) (δ : Env) (R : It → Hp → Prop), SOk σ δ c → WOk c → wpM (S δ) c.W (fun ds W' => ∀ J c', c'.W = W' → Ext c c' → WOk c' → Src c' J ds → R J c'.H) (QE G c) → wi σ c.H R
section
variable {ι : Type} {𝒳 : ι → Cx} {G : Gh} {e a b tg : Expr} {Fe Fa Fb : Env → M RV} {pos : Pos} {R : Env → M (List RV)}
def DI (𝒳 : ι → Cx) (G : Gh) (tg e : Expr) (S : Env → M (List D)) : Prop := ∃ wi, (∀ i, PI (𝒳 i) tg e wi) ∧ RdI G wi S
theorem PI.or {X : Cx} {w1 w2 : TI} (h1 : PI X tg e w1) (h2 : PI X tg e w2) : PI X tg e (fun σ H R => w1 σ H R ∨ w2 σ H R) := ⟨fun pins s σ H R I h => h.elim (h1.run pins s σ H R I) (h2.run pins s σ H R I)⟩
def itemsOf : D → M (List D)
  | .lst xs => M.ret xs
  | .tup xs => M.ret xs
  | .str z => M.ret (charsOf z)
  | _ => M.fail
def evIter (Fe : Env → M RV) (δ : Env) : M (List D) := (Fe δ).bind fun u => (toD u).bind itemsOf
theorem wpM_val {α : Type} {m : M α} {W W' : Wd} {a : α} {Q : α → Wd → Prop} {E : DX → Wd → Prop} (e : m W = some (.ok a, W')) : wpM m W Q E ↔ Q a W' := by unfold wpM; rw [e]
theorem toD_noerr {u : RV} {W W' : Wd} {x : DX} : toD u W ≠ some (.error x, W') := by
  intro h
  cases u with
  | d y => cases h
  | r l =>
    simp only [toD] at h
    split at h
    · cases h
    · split at h <;> cases h
    · cases h
theorem di_any (hK : ∀ i, (𝒳 i).K = G.K) (h : DE 𝒳 G e Fe) : DI 𝒳 G tg e (evIter Fe) := by
  obtain ⟨t, p, r⟩ := h
  refine ⟨fun σ H R => iList G.K t σ H R ∨ iTup G.K t σ H R ∨ iStr t σ H R, fun i => ?_, fun c σ δ R s w h => ?_⟩
  · have h1 := pi_list (tg := tg) (p i)
    have h2 := pi_tup (tg := tg) (p i)
    rw [hK i] at h1 h2
    exact PI.or h1 (PI.or h2 (pi_str (p i)))
  have hb := wpM_bind.mp h
  cases hF : Fe δ c.W with
  | none => unfold wpM at hb; rw [hF] at hb; exact hb.elim
  | some q =>
    obtain ⟨z, W1⟩ := q
    cases z with
    | error x =>
      refine .inl (r c σ δ _ s w ?_)
      unfold wpM at hb ⊢
      rw [hF] at hb ⊢
      exact hb
    | ok u =>
      rw [wpM_val hF] at hb
      have hb2 := wpM_bind.mp hb
      cases hT : toD u W1 with
      | none => unfold wpM at hb2; rw [hT] at hb2; exact hb2.elim
      | some q2 =>
        obtain ⟨z2, W2⟩ := q2
        cases z2 with
        | error x => exact absurd hT toD_noerr
        | ok d =>
          rw [wpM_val hT] at hb2
          have go : ∀ (Q : VK), (∀ x c2, c2.W = W2 → Ext c c2 → WOk c2 → Rep c2 d x → Q x c2.H) → t σ c.H Q := fun Q hq => by
            refine r c σ δ Q s w ((wpM_val hF).mpr fun x c1 hw e1 w1 r1 => ?_)
            subst hw
            obtain ⟨c2, d2, h1, e2, w2, r2, h3⟩ := toD_ok (Q := fun d' W' => d' = d ∧ W' = W2) (E := fun _ _ => False) w1 r1 ((wpM_val hT).mpr ⟨rfl, rfl⟩)
            obtain ⟨rfl, h4⟩ := h3
            rw [← h1]
            exact hq x c2 h4 (e1.trans e2) w2 r2
          cases d <;> try exact hb2.elim
          case lst xs =>
            refine .inl (go _ fun x c2 hw e2 w2 r2 => ?_)
            have r2' := r2
            obtain ⟨a, vs, rfl, h1, _⟩ := r2'
            exact ⟨a, rfl, ⟨vs, SqL.of h1⟩, hb2 _ c2 hw e2 w2 (src_list r2)⟩
          case tup xs =>
            refine .inr (.inl (go _ fun x c2 hw e2 w2 r2 => ?_))
            have r2' := r2
            obtain ⟨a, vs, rfl, h1, _⟩ := r2'
            exact ⟨a, rfl, ⟨vs, SqT.of h1⟩, hb2 _ c2 hw e2 w2 (src_tup r2)⟩
          case str z =>
            refine .inr (.inr (go _ fun x c2 hw e2 w2 r2 => ?_))
            cases r2
            exact ⟨z, rfl, hb2 _ c2 hw e2 w2 src_str⟩
/-- range(n), range(a, b) -/
def evRange1 (R : Env → M (List RV)) (δ : Env) : M (List D) := (R δ).bind fun us => (M.opt (intsL us)).bind fun ns => match ns with
  | [j] => (M.guard (-(2 ^ 62) ≤ j ∧ j < 2 ^ 62)).bind fun _ => M.ret (intsFrom 0 j.toNat)
  | _ => M.fail
def evRange2 (R : Env → M (List RV)) (δ : Env) : M (List D) := (R δ).bind fun us => (M.opt (intsL us)).bind fun ns => match ns with
  | [i, j] => (M.guard (-(2 ^ 62) ≤ i ∧ i < 2 ^ 62 ∧ -(2 ^ 62) ≤ j ∧ j < 2 ^ 62)).bind fun _ => M.ret (intsFrom i (j - i).toNat)
  | _ => M.fail
theorem di_range1 {p : Pos} (hm : ∀ i, (𝒳 i).mg "range" = none) (ha : DA 𝒳 G [a] R) (hg : ∀ i, Gl (𝒳 i) "range" := by intro _; rfl) (hs : ∀ i, starEach [a] (𝒳 i).env = [(false, eval a (𝒳 i).env)] := by intro _; rfl) : DI 𝒳 G tg (.Call (.Name "range" p) [a] [] pos) (evRange1 R) := by
  obtain ⟨t, pt, rt⟩ := ha
  refine ⟨iRng1 t, fun i => pi_range1 (hg i) (hm i) (pt i) (hs i), fun c σ δ R' s w h => ?_⟩
  refine rt c σ δ _ s w (wpM_mono (wpM_bind.mp h) (fun us W1 h1 xs c1 hw e1 w1 r1 => ?_) fun _ _ q => q)
  obtain ⟨ns, e2, q⟩ := wpM_opt (wpM_bind.mp h1)
  match ns, e2, q with
  | [j], e2, q =>
    obtain ⟨⟨g1, g2⟩, q⟩ := wpM_guard (wpM_bind.mp q)
    have := intsL_ok e2 r1
    subst this
    exact ⟨j, rfl, g1, g2, q _ c1 hw e1 w1 src_range⟩
  | [], _, q => exact q.elim
  | _ :: _ :: _, _, q => exact q.elim
theorem di_range2 {p : Pos} (hm : ∀ i, (𝒳 i).mg "range" = none) (ha : DA 𝒳 G [a, b] R) (hg : ∀ i, Gl (𝒳 i) "range" := by intro _; rfl) (hs : ∀ i, starEach [a, b] (𝒳 i).env = [(false, eval a (𝒳 i).env), (false, eval b (𝒳 i).env)] := by intro _; rfl) (hs2 : ∀ i, starEach [b] (𝒳 i).env = [(false, eval b (𝒳 i).env)] := by intro _; rfl) :
    DI 𝒳 G tg (.Call (.Name "range" p) [a, b] [] pos) (evRange2 R) := by
  obtain ⟨t, pt, rt⟩ := ha
  refine ⟨iRng2 t, fun i => pi_range2 (hg i) (hm i) (pt i) (hs i) (hs2 i), fun c σ δ R' s w h => ?_⟩
  refine rt c σ δ _ s w (wpM_mono (wpM_bind.mp h) (fun us W1 h1 xs c1 hw e1 w1 r1 => ?_) fun _ _ q => q)
  obtain ⟨ns, e2, q⟩ := wpM_opt (wpM_bind.mp h1)
  match ns, e2, q with
  | [i, j], e2, q =>
    obtain ⟨g1, q⟩ := wpM_guard (wpM_bind.mp q)
    have := intsL_ok e2 r1
    subst this
    exact ⟨i, j, rfl, g1, q _ c1 hw e1 w1 src_range⟩
  | [], _, q => exact q.elim
  | [_], _, q => exact q.elim
  | _ :: _ :: _ :: _, _, q => exact q.elim
/-- enumerate(a list, a text) -/
def itemsE : D → M (List D)
  | .lst xs => M.ret (enumD xs)
  | .str z => M.ret (enumD (charsOf z))
  | _ => M.fail
def evEnum (R : Env → M (List RV)) (δ : Env) : M (List D) := (R δ).bind fun us => match us with
  | [u] => (toD u).bind itemsE
  | _ => M.fail
/-- an argument list of one thing that is then made pure: what comes is known ahead -/
theorem args1 {t : TA} {c : Cf} {σ : L2.St} {δ : Env} {F : D → M (List D)} {Q0 : List D → Wd → Prop} (r : RdA G t R) (s : SOk σ δ c) (w : WOk c) (h : wpM ((R δ).bind fun us => match us with | [u] => (toD u).bind F | _ => M.fail) c.W Q0 (QE G c)) :
    (∀ Q, t σ c.H Q) ∨ ∃ d W2, wpM (F d) W2 Q0 (QE G c) ∧ ∀ (Q : List V → Hp → Prop), (∀ x c2, c2.W = W2 → Ext c c2 → WOk c2 → Rep c2 d x → Q [x] c2.H) → t σ c.H Q := by
  have hb := wpM_bind.mp h
  cases hF : R δ c.W with
  | none => unfold wpM at hb; rw [hF] at hb; exact hb.elim
  | some q =>
    obtain ⟨z, W1⟩ := q
    cases z with
    | error x =>
      refine .inl fun Q => r c σ δ Q s w ?_
      unfold wpM at hb ⊢
      rw [hF] at hb ⊢
      exact hb
    | ok us =>
      rw [wpM_val hF] at hb
      match us, hF, hb with
      | [], _, hb => exact hb.elim
      | [u], hF, hb =>
        have hb2 := wpM_bind.mp hb
        cases hT : toD u W1 with
        | none => unfold wpM at hb2; rw [hT] at hb2; exact hb2.elim
        | some q2 =>
          obtain ⟨z2, W2⟩ := q2
          cases z2 with
          | error x => exact absurd hT toD_noerr
          | ok d =>
            rw [wpM_val hT] at hb2
            refine .inr ⟨d, W2, hb2, fun Q hq => ?_⟩
            refine r c σ δ Q s w ((wpM_val hF).mpr fun xs c1 hw e1 w1 r1 => ?_)
            subst hw
            obtain ⟨x, rfl, r1'⟩ := vs1 r1
            obtain ⟨c2, d2, h1, e2, w2, r2, h3⟩ := toD_ok (Q := fun d' W' => d' = d ∧ W' = W2) (E := fun _ _ => False) w1 r1' ((wpM_val hT).mpr ⟨rfl, rfl⟩)
            obtain ⟨rfl, h4⟩ := h3
            rw [← h1]
            exact hq x c2 h4 (e1.trans e2) w2 r2
      | _ :: _ :: _, _, hb => exact hb.elim
theorem di_enum {p tpos : Pos} {elts : List Expr} {kk : Nat} (hK : ∀ i, (𝒳 i).K = G.K) (hm : ∀ i, (𝒳 i).mg "enumerate" = none) (ha : DA 𝒳 G [a] R) (hg : ∀ i, Gl (𝒳 i) "enumerate" := by intro _; rfl) (hs : ∀ i, starEach [a] (𝒳 i).env = [(false, eval a (𝒳 i).env)] := by intro _; rfl) :
    DI 𝒳 G (.Tuple elts kk tpos) (.Call (.Name "enumerate" p) [a] [] pos) (evEnum R) := by
  obtain ⟨t, pt, rt⟩ := ha
  refine ⟨fun σ H R => iEnum G.K t σ H R ∨ iEnumS t σ H R, fun i => ?_, fun c σ δ R' s w h => ?_⟩
  · have h1 := pi_enum (tpos := tpos) (elts := elts) (kk := kk) (p := p) (pos := pos) (hg i) (hm i) (pt i) (hs i)
    rw [hK i] at h1
    exact PI.or h1 (pi_enumS (hg i) (hm i) (pt i) (hs i))
  rcases args1 rt s w h with h1 | ⟨d, W2, h1, go⟩
  · exact .inl (h1 _)
  · cases d <;> try exact h1.elim
    case lst xs =>
      refine .inl (go _ fun x c2 hw e2 w2 r2 => ?_)
      have r2' := r2
      obtain ⟨a, vs, rfl, h2, _⟩ := r2'
      exact ⟨a, vs, rfl, SqL.of h2, h1 _ c2 hw e2 w2 (src_enum r2)⟩
    case str z =>
      refine .inr (go _ fun x c2 hw e2 w2 r2 => ?_)
      cases r2
      exact ⟨z, rfl, h1 _ c2 hw e2 w2 src_enumS⟩
/-- zip of two lists, of two tuples -/
def itemsZ : D → D → M (List D)
  | .lst xs, .lst ys => M.ret (zipD xs ys)
  | .tup xs, .tup ys => M.ret (zipD xs ys)
  | _, _ => M.fail
def evZip (R : Env → M (List RV)) (δ : Env) : M (List D) := (R δ).bind fun us => match us with
  | [u, v] => (toD u).bind fun x => (toD v).bind fun y => itemsZ x y
  | _ => M.fail
theorem args2 {t : TA} {c : Cf} {σ : L2.St} {δ : Env} {F : D → D → M (List D)} {Q0 : List D → Wd → Prop} (r : RdA G t R) (s : SOk σ δ c) (w : WOk c) (h : wpM ((R δ).bind fun us => match us with | [u, v] => (toD u).bind fun x => (toD v).bind fun y => F x y | _ => M.fail) c.W Q0 (QE G c)) :
    (∀ Q, t σ c.H Q) ∨ ∃ d d' W2, wpM (F d d') W2 Q0 (QE G c) ∧ ∀ (Q : List V → Hp → Prop), (∀ x y c2, c2.W = W2 → Ext c c2 → WOk c2 → Rep c2 d x → Rep c2 d' y → Q [x, y] c2.H) → t σ c.H Q := by
  have hb := wpM_bind.mp h
  cases hF : R δ c.W with
  | none => unfold wpM at hb; rw [hF] at hb; exact hb.elim
  | some q =>
    obtain ⟨z, W1⟩ := q
    cases z with
    | error x =>
      refine .inl fun Q => r c σ δ Q s w ?_
      unfold wpM at hb ⊢
      rw [hF] at hb ⊢
      exact hb
    | ok us =>
      rw [wpM_val hF] at hb
      match us, hF, hb with
      | [], _, hb => exact hb.elim
      | [_], _, hb => exact hb.elim
      | [u, v], hF, hb =>
        have hb2 := wpM_bind.mp hb
        cases hT : toD u W1 with
        | none => unfold wpM at hb2; rw [hT] at hb2; exact hb2.elim
        | some q2 =>
          obtain ⟨z2, W2⟩ := q2
          cases z2 with
          | error x => exact absurd hT toD_noerr
          | ok d =>
            rw [wpM_val hT] at hb2
            have hb3 := wpM_bind.mp hb2
            cases hT2 : toD v W2 with
            | none => unfold wpM at hb3; rw [hT2] at hb3; exact hb3.elim
            | some q3 =>
              obtain ⟨z3, W3⟩ := q3
              cases z3 with
              | error x => exact absurd hT2 toD_noerr
              | ok d' =>
                rw [wpM_val hT2] at hb3
                refine .inr ⟨d, d', W3, hb3, fun Q hq => ?_⟩
                refine r c σ δ Q s w ((wpM_val hF).mpr fun xs c1 hw e1 w1 r1 => ?_)
                subst hw
                obtain ⟨x, y, rfl, r1', r2⟩ := vs2 r1
                obtain ⟨c2, d2, h1, e2, w2, r3, h3⟩ := toD_ok (Q := fun d' W' => d' = d ∧ W' = W2) (E := fun _ _ => False) w1 r1' ((wpM_val hT).mpr ⟨rfl, rfl⟩)
                obtain ⟨rfl, h4⟩ := h3
                subst h4
                obtain ⟨c3, d3, h5, e3, w3, r4, h6⟩ := toD_ok (Q := fun d0 W' => d0 = d' ∧ W' = W3) (E := fun _ _ => False) w2 (r2.mono e2) ((wpM_val hT2).mpr ⟨rfl, rfl⟩)
                obtain ⟨rfl, h7⟩ := h6
                rw [← h1, ← h5]
                exact hq x y c3 h7 ((e1.trans e2).trans e3) w3 (Rep.mono e3 _ _ r3) r4
      | _ :: _ :: _ :: _, _, hb => exact hb.elim
theorem di_zip {p tpos : Pos} {elts : List Expr} {kk : Nat} (hK : ∀ i, (𝒳 i).K = G.K) (hm : ∀ i, (𝒳 i).mg "zip" = none) (ha : DA 𝒳 G [a, b] R) (hg : ∀ i, Gl (𝒳 i) "zip" := by intro _; rfl)
    (hs : ∀ i, starEach [a, b] (𝒳 i).env = (false, eval a (𝒳 i).env) :: starEach [b] (𝒳 i).env := by intro _; rfl) (hpl : ∀ i, (backTo pos (starEach [b] (𝒳 i).env)).any (·.1) = false := by intro _; rfl) :
    DI 𝒳 G (.Tuple elts kk tpos) (.Call (.Name "zip" p) [a, b] [] pos) (evZip R) := by
  obtain ⟨t, pt, rt⟩ := ha
  refine ⟨iZipA G.K t, fun i => ?_, fun c σ δ R' s w h => ?_⟩
  · have h1 := pi_zipA (tpos := tpos) (elts := elts) (kk := kk) (p := p) (pos := pos) (hg i) (hm i) (pt i) (hs i) (hpl i)
    rw [hK i] at h1
    exact h1
  rcases args2 rt s w h with h1 | ⟨d, d', W2, h1, go⟩
  · exact h1 _
  · cases d <;> (try exact h1.elim) <;> cases d' <;> try exact h1.elim
    case lst.lst xs ys =>
      refine go _ fun x y c2 hw e2 w2 r2 r3 => ?_
      have r2' := r2
      have r3' := r3
      obtain ⟨a, vs, rfl, h2, _⟩ := r2'
      obtain ⟨b, ws, rfl, h3, _⟩ := r3'
      exact ⟨a, b, vs, ws, rfl, .inl ⟨SqL.of h2, SqL.of h3, h1 _ c2 hw e2 w2 (src_zip r2 r3)⟩⟩
    case tup.tup xs ys =>
      refine go _ fun x y c2 hw e2 w2 r2 r3 => ?_
      have r2' := r2
      have r3' := r3
      obtain ⟨a, vs, rfl, h2, _⟩ := r2'
      obtain ⟨b, ws, rfl, h3, _⟩ := r3'
      exact ⟨a, b, vs, ws, rfl, .inr ⟨SqT.of h2, SqT.of h3, h1 _ c2 hw e2 w2 (src_zipT r2 r3)⟩⟩
/-! ### for -/
def goFor (T : RV → Env → M Env) (B : Env → M (Fl × Env)) : List D → Env → M (Fl × Env)
  | [], δ => M.ret (.nx, δ)
  | d :: ds, δ => (T (.d d) δ).bind fun δ1 => (B δ1).bind fun p => match p.1 with
    | .nx => goFor T B ds p.2
    | .ct => goFor T B ds p.2
    | .bk => M.ret (.nx, p.2)
    | .rt v => M.ret (.rt v, p.2)
def evFor (S : Env → M (List D)) (T : RV → Env → M Env) (B : Env → M (Fl × Env)) (δ : Env) : M (Fl × Env) := (S δ).bind fun ds => goFor T B ds δ
theorem ds_for {vs : List Nat} {S : Env → M (List D)} {T : RV → Env → M Env} {B : Env → M (Fl × Env)} {body : List Stmt} (hp : ∀ i, PassesOwn (model (𝒳 i).prog (𝒳 i).w) (𝒳 i).A (𝒳 i).env (𝒳 i).xe) (hc : ∀ i, (𝒳 i).calm = true) (hi : DI 𝒳 G tg e S) (hg : DG 𝒳 G tg vs T) (hb : DSs 𝒳 G body B)
    (hs : ∀ i, ∀ x, foldedSetIterable e (𝒳 i).env x = pure x := by intro _ _; rfl) : DS 𝒳 G (.For tg e body [] pos) (evFor S T B) := by
  obtain ⟨wi, pi, ri⟩ := hi
  obtain ⟨g, pg, rg⟩ := hg
  obtain ⟨t, pt, rt⟩ := hb
  refine ⟨_, fun i => ps_for (hp i) (hc i) (pi i) (pg i) (pt i) (hs i), fun c σ δ D s w h => ?_⟩
  refine ri c σ δ _ s w (wpM_mono (wpM_bind.mp h) (fun ds W1 h1 J c1 hw e1 w1 src => ?_) fun _ _ q => q)
  subst hw
  obtain ⟨Gd, Y, wk, hG, hY⟩ := src
  refine for_it wk (fun i σ H => ∃ c2 δ2, c2.H = H ∧ Ext c1 c2 ∧ WOk c2 ∧ SOk σ δ2 c2 ∧ wpM (goFor T B (ds.drop i) δ2) c2.W (QS c2 D) (QE G c2)) ⟨c1, δ, rfl, Ext.refl c1, w1, s.mono e1, wpM_mono h1 (fun _ _ q => q.mono e1) fun _ _ q => q.mono e1⟩ ?_ ?_ ?_
  · rintro i σ H _ ⟨c2, δ2, rfl, e2, w2, s2, _⟩
    exact hG c2 e2.wk
  · rintro i x σ H H' hi ⟨c2, δ2, rfl, e2, w2, s2, h2⟩ y
    rw [List.drop_eq_getElem_cons hi] at h2
    obtain ⟨c3, rfl, hw3, e3, w3, r3⟩ := hY i x H' c2 _ (List.getElem?_eq_getElem hi) e2.wk w2 y
    rw [← hw3] at h2
    refine rg c3 x (.d ds[i]) σ δ2 _ (s2.mono e3) w3 (show RepRV c3 (.d _) x from r3) (wpM_mono (wpM_bind.mp h2) (fun δ4 W4 h4 σ4 c4 hw e4 w4 s4 _ _ => ?_) fun _ _ q => q.mono e3)
    subst hw
    refine rt c4 σ4 δ4 _ s4 w4 (wpM_mono (wpM_bind.mp h4) (fun p W5 h5 => ?_) fun _ _ q => (q.mono e3).mono e4)
    obtain ⟨f, δ5⟩ := p
    cases f with
    | nx =>
      intro σ5 c5 hw e5 w5 s5
      subst hw
      exact ⟨c5, δ5, rfl, ((e2.trans e3).trans e4).trans e5, w5, s5, wpM_mono h5 (fun _ _ q => ((q.mono e3).mono e4).mono e5) fun _ _ q => ((q.mono e3).mono e4).mono e5⟩
    | ct =>
      intro σ5 c5 hw e5 w5 s5
      subst hw
      exact ⟨c5, δ5, rfl, ((e2.trans e3).trans e4).trans e5, w5, s5, wpM_mono h5 (fun _ _ q => ((q.mono e3).mono e4).mono e5) fun _ _ q => ((q.mono e3).mono e4).mono e5⟩
    | bk => exact fun σ5 c5 hw e5 w5 s5 => h5 σ5 c5 hw ((e3.trans e4).trans e5) w5 s5
    | rt v => exact fun x c5 hw e5 w5 r5 => h5 x c5 hw ((e3.trans e4).trans e5) w5 r5
  · rintro σ H ⟨c2, δ2, rfl, e2, w2, s2, h2⟩
    rw [List.drop_length] at h2
    exact h2 σ c2 rfl (Ext.refl c2) w2 s2
end
end DL
set_option Elab.async false
set_option linter.all false
set_option maxRecDepth 100000
set_option maxHeartbeats 4000000
/-! DL11: comprehensions. -/
namespace DL
open PySem PySem.Spec PyProof.Rows L2 RZ
theorem Wk.refl (c : Cf) : Wk c c := (Ext.refl c).wk
theorem Wk.trans {c c1 c2 : Cf} (a : Wk c c1) (b : Wk c1 c2) : Wk c c2 :=
  ⟨fun x o h n => b.keep x o (a.keep x o h n).1 (a.keep x o h n).2, fun l h => (b.ren l (Nat.lt_of_lt_of_le h a.len)).trans (a.ren l h), Nat.le_trans a.len b.len⟩
/-- the new list stands in the heap, not to be touched -/
abbrev Cf.plus (c : Cf) (p : Addr) (o : HO) : Cf := ⟨upd c.H p o, c.ren, c.W, fun a => c.Ao a ∨ a = p⟩
abbrev Cf.minus (c : Cf) (p : Addr) (A : Addr → Prop) : Cf := ⟨fun b => if b = p then none else c.H b, c.ren, c.W, A⟩
section
variable {c c' : Cf} {p : Addr} {o : HO}
theorem Cf.live_plus {b : Addr} : (c.plus p o).live b ↔ c.live b := Iff.rfl
theorem Wk.plus (w : WOk c) (h : c.H p = none) : Wk c (c.plus p o) := by
  refine ⟨fun b u hb n => ⟨lay_keep h b u hb, fun z => ?_⟩, fun _ _ => rfl, Nat.le_refl _⟩
  rcases z with (z | z) | z
  · exact n (.inl z)
  · subst z; rw [h] at hb; cases hb
  · exact n (.inr z)
theorem WOk.plus (w : WOk c) (h : c.H p = none) : WOk (c.plus p o) := by
  refine ⟨fun l u hl => (w.obj l u hl).monoW (Wk.plus w h) fun _ ho q => lay_keep h _ _ q, w.inj, fun l u hl m z => ?_, fun a z => ?_⟩
  · rcases z with z | z
    · exact w.out l u hl m z
    · obtain ⟨ho, q⟩ := (w.obj l u hl).at m
      have z' : c.ren l = p := z
      rw [z', h] at q; cases q
  · rcases z with z | z
    · obtain ⟨u, hu⟩ := w.ao a z
      exact ⟨u, lay_keep h _ _ hu⟩
    · subst z; exact ⟨o, upd_same⟩
theorem SOk.monoW {σ : L2.St} {δ : Env} (s : SOk σ δ c) (e : Wk c c') : SOk σ δ c' :=
  ⟨s.len, fun i rv h => let ⟨v, h1, h2⟩ := s.get i rv h; ⟨v, h1, h2.monoW e⟩⟩
theorem plus_at (w : WOk c) (h : c.H p = none) (e : Ext (c.plus p o) c') : c'.H p = some o := by
  refine e.keep p o upd_same fun z => ?_
  obtain ⟨l, u, hl, m, q⟩ := z
  obtain ⟨ho, q2⟩ := (w.obj l u hl).at m
  have q' : c.ren l = p := q
  rw [q', h] at q2; cases q2
theorem minus_wk (e : Ext (c.plus p o) c') (w' : WOk c') : Wk c' (c'.minus p c.Ao) := by
  have hp : c'.Ao p := by rw [e.ao]; exact .inr rfl
  refine ⟨fun b u hb n => ⟨?_, fun z => ?_⟩, fun _ _ => rfl, Nat.le_refl _⟩
  · show (if b = p then none else c'.H b) = _
    rw [if_neg (fun (z : b = p) => n (.inl (by rw [z]; exact hp)))]; exact hb
  · rcases z with z | z
    · exact n (.inl (by rw [e.ao]; exact .inl z))
    · exact n (.inr z)
theorem minus_ext (w : WOk c) (h : c.H p = none) (e : Ext (c.plus p o) c') : Ext c (c'.minus p c.Ao) := by
  refine ⟨fun b u hb n => ?_, fun b u hb n => e.dead b u (lay_keep h b u hb) n, fun l hl => e.ren l hl, e.len, rfl⟩
  show (if b = p then none else c'.H b) = _
  rw [if_neg (ne_of_none hb h)]
  exact e.keep b u (lay_keep h b u hb) n
theorem minus_ok (w : WOk c) (h : c.H p = none) (e : Ext (c.plus p o) c') (w' : WOk c') : WOk (c'.minus p c.Ao) := by
  have hp : c'.Ao p := by rw [e.ao]; exact .inr rfl
  have ha : ∀ a, c.Ao a → c'.Ao a := fun a z => by rw [e.ao]; exact .inl z
  refine ⟨fun l u hl => (w'.obj l u hl).monoW (minus_wk e w') fun m ho q => ?_, w'.inj, fun l u hl m z => w'.out l u hl m (ha _ z), fun a z => ?_⟩
  · show (if c'.ren l = p then none else c'.H (c'.ren l)) = _
    rw [if_neg (fun (z : c'.ren l = p) => w'.out l u hl m (by rw [z]; exact hp))]; exact q
  · obtain ⟨u, hu⟩ := w'.ao a (ha a z)
    refine ⟨u, ?_⟩
    show (if a = p then none else c'.H a) = _
    rw [if_neg (fun q => ?_)]
    · exact hu
    · obtain ⟨x, hx⟩ := w.ao a z
      rw [q, h] at hx; cases hx
theorem minus_upd (h : c'.H p = some o) {A : Addr → Prop} {o' : HO} : upd c'.H p o' = upd (c'.minus p A).H p o' := by
  funext b
  by_cases q : b = p
  · subst q; rw [upd_same, upd_same]
  · rw [upd_ne q, upd_ne q]
    show _ = (if b = p then none else c'.H b)
    rw [if_neg q]
theorem minus_upd' (h : c'.H p = some o) {A : Addr → Prop} : c'.H = upd (c'.minus p A).H p o := by
  funext b
  by_cases q : b = p
  · subst q; rw [upd_same, h]
  · rw [upd_ne q]
    show _ = (if b = p then none else c'.H b)
    rw [if_neg q]
theorem minus_none {A : Addr → Prop} : (c'.minus p A).H p = none := by show (if p = p then none else _) = none; rw [if_pos rfl]
end
/-! ### the block's own slots -/
def wipeD (δ : Env) : List Nat → Env
  | [] => δ
  | v :: vs => (wipeD δ vs).set v none
theorem wipeD_len (δ : Env) : ∀ vs : List Nat, (wipeD δ vs).length = δ.length
  | [] => rfl
  | v :: vs => by unfold wipeD; rw [List.length_set, wipeD_len δ vs]
theorem wipeD_some {δ : Env} {i : Nat} {x : RV} : ∀ {vs : List Nat}, (wipeD δ vs)[i]? = some (some x) → δ[i]? = some (some x) ∧ i ∉ vs
  | [], h => ⟨h, by simp⟩
  | v :: vs, h => by
    unfold wipeD at h
    by_cases hi : v = i
    · subst hi
      by_cases hv : v < (wipeD δ vs).length
      · rw [List.getElem?_set_self hv] at h; cases h
      · rw [List.getElem?_eq_none (by simpa using hv)] at h; cases h
    · rw [List.getElem?_set_ne hi] at h
      obtain ⟨h1, h2⟩ := wipeD_some h
      exact ⟨h1, by simp only [List.mem_cons, not_or]; exact ⟨fun e => hi e.symm, h2⟩⟩
theorem wipe_out {σ : L2.St} {i : Nat} : ∀ {vs : List Nat}, i ∉ vs → (wipe σ vs)[i]? = σ[i]?
  | [], _ => rfl
  | v :: vs, h => by
    unfold wipe
    simp only [List.mem_cons, not_or] at h
    rw [List.getElem?_set_ne (fun e => h.1 e.symm)]
    exact wipe_out h.2
theorem wipe_in {σ : L2.St} {i : Nat} : ∀ {vs : List Nat}, i ∈ vs → i < σ.length → (wipe σ vs)[i]? = some none
  | v :: vs, h, hl => by
    unfold wipe
    by_cases e : v = i
    · subst e; rw [List.getElem?_set_self (by rw [wipe_length]; exact hl)]
    · rw [List.getElem?_set_ne e]
      exact wipe_in (by simp only [List.mem_cons] at h; exact h.resolve_left fun z => e z.symm) hl
theorem wipe_eq {σ σ' : L2.St} {vs : List Nat} (hl : σ'.length = σ.length) (h : ∀ k, k ∉ vs → σ'[k]? = σ[k]?) : wipe σ' vs = wipe σ vs := by
  apply List.ext_getElem?
  intro k
  by_cases q : k ∈ vs
  · by_cases lt : k < σ.length
    · rw [wipe_in q lt, wipe_in q (by rw [hl]; exact lt)]
    · rw [List.getElem?_eq_none (by rw [wipe_length, hl]; omega), List.getElem?_eq_none (by rw [wipe_length]; omega)]
  · rw [wipe_out q, wipe_out q, h k q]
theorem SOk.wipe {σ : L2.St} {δ : Env} {c : Cf} (s : SOk σ δ c) (vs : List Nat) : SOk (wipe σ vs) (wipeD δ vs) c := by
  refine ⟨by rw [wipe_length, wipeD_len, s.len], fun i rv h => ?_⟩
  obtain ⟨h1, h2⟩ := wipeD_some h
  obtain ⟨v, h3, h4⟩ := s.get i rv h1
  exact ⟨v, by rw [wipe_out h2]; exact h3, h4⟩
/-! ### no exceptions within -/
def noEr {α : Type} (m : M α) : M α := fun W => match m W with
  | some (.error _, _) => none
  | r => r
theorem wpM_noEr {α : Type} {m : M α} {W : Wd} {Q : α → Wd → Prop} {E E' : DX → Wd → Prop} (h : wpM (noEr m) W Q E) : wpM m W Q E' := by
  unfold wpM noEr at *
  cases e : m W with
  | none => rw [e] at h; exact h.elim
  | some p =>
    obtain ⟨r, W'⟩ := p
    rw [e] at h
    cases r with
    | ok a => exact h
    | error x => exact h.elim
def Gh.calm (G : Gh) : Gh := { G with Ex := fun _ _ _ => False }
theorem QE.calm {G : Gh} {c : Cf} {e : DX} {W : Wd} (h : QE G.calm c e W) : QE G c e W := fun C d c' hw e' w r => (h C d c' hw e' w r).elim
abbrev BX := Shared × Hp × Addr × List (Str × Addr) × List Addr
abbrev blkF {ι : Type} (𝒳 : ι → Cx) (scope : Scope) : ι × BX → Cx := fun q => (𝒳 q.1).blk q.2.1 q.2.2.1 scope (compEnvC scope q.2.2.2.2.1 q.2.2.2.1 (𝒳 q.1).env) q.2.2.2.2.2
section
variable {ι : Type} {𝒳 : ι → Cx} {G : Gh} {elt tg iter : Expr} {ifs : List Expr} {scope : Scope} {own : List (Str × Nat)} {pos spos : Pos} {S : Env → M (List D)} {T : RV → Env → M Env} {C : Env → M Bool} {E : Env → M RV} {vs : List Nat}
def DTs (𝒳 : ι → Cx) (G : Gh) (ifs : List Expr) (C : Env → M Bool) : Prop := ∃ t, (∀ i, PTs (𝒳 i) ifs t) ∧ RdT G t C
theorem dts_nil : DTs 𝒳 G [] (fun _ => M.ret true) := ⟨_, fun _ => pts_nil, fun c σ δ Q s w h => h c rfl (Ext.refl c) w⟩
theorem dts_one {e : Expr} (h : DT 𝒳 G e C) : DTs 𝒳 G [e] C := let ⟨_, p, r⟩ := h; ⟨_, fun i => pts_one (p i), r⟩
def goLc (mk : Bool) (T : RV → Env → M Env) (C : Env → M Bool) (E : Env → M RV) (δ : Env) : List D → List RV → M RV
  | [], acc => newL mk acc
  | d :: ds, acc => (T (.d d) δ).bind fun δ1 => (C δ1).bind fun b => if b then (E δ1).bind fun v => (M.guard (acc.length < sizeLine)).bind fun _ => goLc mk T C E δ ds (acc ++ [v]) else goLc mk T C E δ ds acc
def evLc (mk : Bool) (own : List Nat) (S : Env → M (List D)) (T : RV → Env → M Env) (C : Env → M Bool) (E : Env → M RV) (δ : Env) : M RV := (S δ).bind fun ds => noEr (goLc mk T C E (wipeD δ own) ds [])
theorem rd_lc {mk : Bool} {wi : TI} {g : TG} {tt : TT} {te : TE} (own : List Nat) (hi : RdI G wi S) (hg : RdG G.calm g vs T) (ht : RdT G.calm tt C) (he : RdE G.calm te E) (hsub : ∀ k, k ∈ vs → k ∈ own) :
    RdE G (tLc wi g tt te own) (evLc mk own S T C E) := by
  intro c σ δ Q s w h
  refine hi c σ δ _ s w (wpM_mono (wpM_bind.mp h) (fun ds W1 h1 J c1 hw e1 w1 src => ?_) fun _ _ q => q)
  subst hw
  have h1 := wpM_noEr (E' := fun _ _ => False) h1
  intro D hD
  obtain ⟨Gd, Y, wk, hG, hY⟩ := src
  refine lc_it wk (fun i H => ∃ c2 us acc, H = upd c2.H D (.lst acc) ∧ c2.H D = none ∧ Ext c1 c2 ∧ WOk c2 ∧ RepVs c2 us acc ∧ wpM (goLc mk T C E (wipeD δ own) (ds.drop i) us) c2.W (QV c2 Q) (fun _ _ => False)) ?_ ?_ ?_ ?_
  · exact ⟨c1, [], [], rfl, hD, Ext.refl c1, w1, .nil, wpM_mono h1 (fun _ _ q => q.mono e1) fun _ _ q => q.elim⟩
  · rintro i H _ ⟨c2, us, acc, rfl, hd, e2, w2, r2, _⟩
    exact hG (c2.plus D (.lst acc)) (e2.wk.trans (Wk.plus w2 hd))
  · rintro i x H H' hi ⟨c2, us, acc, rfl, hd, e2, w2, r2, h2⟩ y
    rw [List.drop_eq_getElem_cons hi] at h2
    have wp : WOk (c2.plus D (.lst acc)) := w2.plus hd
    obtain ⟨c3, rfl, hw3, e3, w3, r3⟩ := hY i x H' (c2.plus D (.lst acc)) _ (List.getElem?_eq_getElem hi) (e2.wk.trans (Wk.plus w2 hd)) wp y
    have hw3' : c2.W = c3.W := hw3.symm
    rw [hw3'] at h2
    have s3 : SOk (wipe σ own) (wipeD δ own) c3 := ((((s.mono e1).mono e2).monoW (Wk.plus w2 hd)).mono e3).wipe own
    refine hg c3 x (.d ds[i]) _ _ _ s3 w3 (show RepRV c3 (.d _) x from r3) (wpM_mono (wpM_bind.mp h2) (fun δ4 W4 h4 σ4 c4 hw e4 w4 s4 l4 k4 => ?_) fun _ _ q => q.elim)
    subst hw
    refine ⟨?_, ?_⟩
    · rw [wipe_eq l4 fun k hk => k4 k fun z => hk (hsub k z)]
      exact wipe_eq (wipe_length _ _) fun k hk => wipe_out hk
    refine ht c4 σ4 δ4 _ s4 w4 (wpM_mono (wpM_bind.mp h4) (fun b W5 h5 c5 hw e5 w5 => ?_) fun _ _ q => q.elim)
    subst hw
    have e35 := (e3.trans e4).trans e5
    cases b with
    | false =>
      show (if false = true then _ else _)
      rw [if_neg (by decide)]
      refine ⟨c5.minus D c2.Ao, us, acc, minus_upd' (plus_at w2 hd e35), minus_none, e2.trans (minus_ext w2 hd e35), minus_ok w2 hd e35 w5, RepVs.mono (minus_ext w2 hd e35) r2, wpM_mono h5 (fun _ _ q => QV.mono (minus_ext w2 hd e35) q) fun _ _ q => q.elim⟩
    | true =>
      show (if true = true then _ else _)
      rw [if_pos rfl]
      refine he c5 σ4 δ4 _ (s4.mono e5) w5 (wpM_mono (wpM_bind.mp h5) (fun u W6 h6 y6 c6 hw e6 w6 r6 => ?_) fun _ _ q => q.elim)
      subst hw
      have e36 := e35.trans e6
      obtain ⟨hz, h7⟩ := wpM_guard (wpM_bind.mp h6)
      have hz' : acc.length < sizeLine := by rw [← paired_len r2]; exact hz
      refine ⟨acc, plus_at w2 hd e36, hz', c6.minus D c2.Ao, us ++ [u], acc ++ [y6], minus_upd (plus_at w2 hd e36), minus_none, e2.trans (minus_ext w2 hd e36), minus_ok w2 hd e36 w6, ?_, wpM_mono h7 (fun _ _ q => QV.mono (minus_ext w2 hd e36) q) fun _ _ q => q.elim⟩
      exact paired_app (RepVs.mono (minus_ext w2 hd e36) r2) (.cons (r6.monoW (minus_wk e36 w6)) .nil)
  · rintro H ⟨c2, us, acc, rfl, hd, e2, w2, r2, h2⟩
    rw [List.drop_length] at h2
    exact newL_ok w2 r2 h2 D hd
theorem de_lc (mk : Bool) (N : List Str) (sc : Scope) (own : List (Str × Nat)) (ok : BlkOk N sc scope own) (hsub : ∀ k, k ∈ vs → k ∈ own.map (·.2)) (hc : ∀ i, (𝒳 i).calm = true) (hN : ∀ i, (𝒳 i).N.Nodup)
    (hi : DI 𝒳 G tg iter S) (hg : DG (blkF 𝒳 scope) G.calm tg vs T) (ht : DTs (blkF 𝒳 scope) G.calm ifs C) (he : DE (blkF 𝒳 scope) G.calm elt E)
    (eN : ∀ i, (𝒳 i).N = N := by intro _; rfl) (es : ∀ i, (𝒳 i).env.scope = sc := by intro _; rfl) (hs : ∀ i, ∀ x, foldedSetIterable iter (𝒳 i).env x = pure x := by intro _ _; rfl) : DE 𝒳 G (.ListComp elt [⟨tg, iter, ifs, 0⟩] scope pos) (evLc mk (own.map (·.2)) S T C E) := by
  obtain ⟨wi, pi, ri⟩ := hi
  obtain ⟨g, pg, rg⟩ := hg
  obtain ⟨tt, pt, rt⟩ := ht
  obtain ⟨te, pe, re⟩ := he
  exact ⟨_, fun i => pe_lc (hc i) (hN i) (pi i) (by rw [eN i, es i]; exact ok) (fun s H C cl fp => pg (i, s, H, C, cl, fp)) (fun s H C cl fp => pt (i, s, H, C, cl, fp)) (fun s H C cl fp => pe (i, s, H, C, cl, fp)) (hs i), rd_lc _ ri rg rt re hsub⟩
/-- name = [..] -/
theorem ds_setLc (mk : Bool) (N : List Str) (sc : Scope) (own : List (Str × Nat)) (i : Nat) {y : Str} {py : Pos} (ok : BlkOk N sc scope own) (hsub : ∀ k, k ∈ vs → k ∈ own.map (·.2)) (hc : ∀ i, (𝒳 i).calm = true) (hN : ∀ i, (𝒳 i).N.Nodup)
    (hi : DI 𝒳 G tg iter S) (hg : DG (blkF 𝒳 scope) G.calm tg vs T) (ht : DTs (blkF 𝒳 scope) G.calm ifs C) (he : DE (blkF 𝒳 scope) G.calm elt E)
    (hy : N[i]? = some y) (hyl : sc.names.lookup y = some .local) (hsw : ∀ i, swapsWith (.ListComp elt [⟨tg, iter, ifs, 0⟩] scope pos) (some (.Name y py)) spos.line (𝒳 i).env = pure true)
    (eN : ∀ i, (𝒳 i).N = N := by intro _; rfl) (es : ∀ i, (𝒳 i).env.scope = sc := by intro _; rfl) (hs : ∀ i, ∀ x, foldedSetIterable iter (𝒳 i).env x = pure x := by intro _ _; rfl) :
    DS 𝒳 G (.Assign [.Name y py] (.ListComp elt [⟨tg, iter, ifs, 0⟩] scope pos) spos) (evAsg (evLc mk (own.map (·.2)) S T C E) (gtName i)) := by
  obtain ⟨wi, pi, ri⟩ := hi
  obtain ⟨g, pg, rg⟩ := hg
  obtain ⟨tt, pt, rt⟩ := ht
  obtain ⟨te, pe, re⟩ := he
  refine ⟨_, fun k => ps_setLc (hc k) (hN k) (by rw [eN k]; exact hy) (by rw [es k]; exact hyl) (hsw k) (pi k) (by rw [eN k, es k]; exact ok) (fun s H C cl fp => pg (k, s, H, C, cl, fp)) (fun s H C cl fp => pt (k, s, H, C, cl, fp)) (fun s H C cl fp => pe (k, s, H, C, cl, fp)) (hs k), ?_⟩
  refine RdE.asg (vs := [i]) (rd_lc _ ri rg rt re hsub) ?_
  intro c v u σ δ Q s w r h
  refine h (σ.set i (some v)) c rfl (Ext.refl c) w (s.set i r) (by rw [List.length_set]) fun k hk => ?_
  rw [List.getElem?_set_ne (fun z => hk (by rw [z]; exact List.mem_singleton_self k))]
end
end DL
set_option Elab.async false
set_option linter.all false
set_option maxRecDepth 100000
set_option maxHeartbeats 4000000
/-! DL12: defs and calls. -/
namespace DL
open PySem PySem.Spec PyProof.Rows L2 RZ
def startD (n : Nat) (rvs : List RV) : Env := rvs.map some ++ List.replicate (n - rvs.length) none
theorem start_ok {N : List Str} {vs : List V} {rvs : List RV} {c : Cf} (r : RepVs c rvs vs) : SOk (L2.start N vs) (startD N.length rvs) c := by
  have hl := paired_len r
  refine ⟨by unfold L2.start startD; simp [hl], fun i rv h => ?_⟩
  unfold startD at h
  unfold L2.start
  by_cases q : i < rvs.length
  · rw [List.getElem?_append_left (by rw [List.length_map]; exact q), List.getElem?_map] at h
    have h2 : rvs[i]? = some rv := by
      cases e : rvs[i]? with
      | none => rw [e] at h; simp at h
      | some z => rw [e] at h; simp at h; rw [h]
    obtain ⟨v, h3, h4⟩ := paired_get r h2
    refine ⟨v, ?_, h4⟩
    rw [List.getElem?_append_left (by rw [List.length_map, ← hl]; exact q), List.getElem?_map, h3]
    rfl
  · rw [List.getElem?_append_right (by rw [List.length_map]; omega), List.getElem?_replicate] at h
    split at h <;> cases h
def fnD (n : Nat) (F : Env → M (Fl × Env)) (rvs : List RV) : M RV := (F (startD n rvs)).bind fun p => match p.1 with
  | .rt v => M.ret v
  | .nx => M.ret (.d .non)
  | _ => M.fail
def spW (K : PySem.W.Frag) (cv : Str → Value) (n : Nat) (Fn : List RV → M RV) : Sp := fun vs H Q E => ∃ c rvs, c.H = H ∧ WOk c ∧ RepVs c rvs vs ∧ rvs.length = n ∧ wpM (Fn rvs) c.W (QV c Q) (QE ⟨K, E, cv⟩ c)
section
variable {P : Program} {w : World} {K : PySem.W.Frag} {mg : Str → Option Value} {base : Heap} {cv : Str → Value}
theorem rd_body {G : Gh} {t : TS} {Fb : Env → M (Fl × Env)} {N : List Str} {vs : List V} {rvs : List RV} {c : Cf} {Q : VK} (rt : RdS G t Fb) (w : WOk c) (r : RepVs c rvs vs) (h : wpM (fnD N.length Fb rvs) c.W (QV c Q) (QE G c)) :
    t { nx := fun _ H' => Q .non H', rt := Q } (L2.start N vs) c.H := by
  refine rt c _ (startD N.length rvs) _ (start_ok r) w (wpM_mono (wpM_bind.mp h) (fun p W1 q => ?_) fun _ _ q => q)
  obtain ⟨f, δ'⟩ := p
  cases f with
  | nx => exact fun σ' c' hw e' w' _ => q .non c' hw e' w' rfl
  | rt v => exact fun x c' hw e' w' r' => q x c' hw e' w' r'
  | bk => exact q.elim
  | ct => exact q.elim
/-- a def from its body's derivation -/
theorem okD {x qual : Str} {st : Stmt} {f : Addr} {fd : FuncData} {N ps : List Str} {k : Nat} {Fb : Env → M (Fl × Env)} (F : Fun K x qual st f fd) (S : FnScope N ps (defScope st))
    (hb : ∀ (cdv : Value) (A : Around) (outer : List PySem.Env) (s : Shared) (H : Hp) (E : XK), Room k (A.deeper (envOfC qual (defScope st) s.heap.objs.size f cdv)) →
      DSs (fun _ : Unit => cxOf (L2.CX P w) P w K mg base N qual (defScope st) f cdv A outer s H E) ⟨K, E, cv⟩ (defBody st) Fb) :
    FnOk P w K mg base (L2.CX P w) (k + 1) f fd ps (spW K cv ps.length (fnD N.length Fb)) := by
  refine F.okX S (fun vs H Q E h => ?_) (fun cdv A outer s H vs Q E hr h => ?_)
  · obtain ⟨c, rvs, _, _, r, hl, _⟩ := h
    rw [← hl, paired_len r]
  · obtain ⟨c, rvs, rfl, wk, r, hl, h⟩ := h
    obtain ⟨t, pt, rt⟩ := hb cdv A outer s c.H E hr
    exact ⟨t, pt (), rd_body rt wk r h⟩
theorem ok0 {f : Addr} {fd : FuncData} {ps : List Str} : FnOk P w K mg base (L2.CX P w) 0 f fd ps (spW K cv ps.length fun _ => M.fail) :=
  ⟨fun vs H Q E h => by obtain ⟨c, rvs, _, _, r, hl, _⟩ := h; rw [← hl, paired_len r], fun A outer s H args us vs Q E hr he hb hv hs => by obtain ⟨c, rvs, _, _, _, _, h⟩ := hs; exact h.elim⟩
/-- a def of the module, that may be called by its name -/
structure CalD (P : Program) (w : World) (K : PySem.W.Frag) (mg : Str → Option Value) (base : Heap) (cv : Str → Value) (k : Nat) (x : Str) (n : Nat) (Fn : List RV → M RV) : Prop where
  ex : ∃ (f : Addr) (fd : FuncData) (ps : List Str), ps.length = n ∧ FnOk P w K mg base (L2.CX P w) k f fd ps (spW K cv n Fn) ∧ mg x = some (.ref f) ∧ PySem.W.keepIn K (.ref f) = true ∧ Binds K fd ps []
theorem CalD.mono {j k : Nat} {x : Str} {n : Nat} {Fn : List RV → M RV} (c : CalD P w K mg base cv j x n Fn) (h : j ≤ k) : CalD P w K mg base cv k x n Fn :=
  let ⟨f, fd, ps, e, F, q⟩ := c.ex; ⟨f, fd, ps, e, F.mono h, q⟩
end
section
variable {ι : Type} {𝒳 : ι → Cx} {G : Gh} {e : Expr} {es : List Expr} {x : Str} {p pos : Pos} {R : Env → M (List RV)} {Fn : List RV → M RV} {k j n : Nat}
def evCallF (n : Nat) (Fn : List RV → M RV) (R : Env → M (List RV)) (δ : Env) : M RV := (R δ).bind fun us => (M.guard (us.length = n)).bind fun _ => Fn us
theorem rd_callF {t : TA} {K : PySem.W.Frag} (hK : K = G.K) (rt : RdA G t R) : RdE G (tCall (spW K G.cv n Fn) [] G.Ex t) (evCallF n Fn R) := by
  subst hK
  intro c σ δ Q s w h
  refine rt c σ δ _ s w (wpM_mono (wpM_bind.mp h) (fun us W1 h1 xs c1 hw e1 w1 r1 => ?_) fun _ _ q => q)
  subst hw
  obtain ⟨hl, q⟩ := wpM_guard (wpM_bind.mp h1)
  exact ⟨c1, us, rfl, w1, by rw [List.append_nil]; exact r1, hl, wpM_mono q (fun _ _ q => q.mono e1) fun _ _ q => q.mono e1⟩
theorem de_call (hF : ∀ i, CalD (𝒳 i).prog (𝒳 i).w (𝒳 i).K (𝒳 i).mg (𝒳 i).base G.cv j x n Fn) (hr : ∀ i, Room k (𝒳 i).A) (hx : ∀ i, Passes (L2.CX (𝒳 i).prog (𝒳 i).w) (𝒳 i) G.Ex) (hK : ∀ i, (𝒳 i).K = G.K) (ha : DA 𝒳 G (e :: es) R)
    (hjk : j ≤ k := by omega) (hg : ∀ i, Gl (𝒳 i) x := by intro _; rfl) (hdb : (x == ("__debug__" : Str)) = false := by decide) (he : ∀ i, starEach (e :: es) (𝒳 i).env = (false, eval e (𝒳 i).env) :: starEach es (𝒳 i).env := by intro _; rfl) (hpl : ∀ i, (backTo pos (starEach es (𝒳 i).env)).any (·.1) = false := by intro _; rfl) :
    DE 𝒳 G (.Call (.Name x p) (e :: es) [] pos) (evCallF n Fn R) := by
  obtain ⟨t, pt, rt⟩ := ha
  refine ⟨_, fun i => ?_, rd_callF rfl rt⟩
  obtain ⟨f, fd, ps, hn, F, hm, hk, hb⟩ := (hF i).ex
  rw [hK i] at F hb hk
  have F' : FnOk (𝒳 i).prog (𝒳 i).w (𝒳 i).K (𝒳 i).mg (𝒳 i).base (L2.CX (𝒳 i).prog (𝒳 i).w) j f fd ps (spW G.K G.cv n Fn) := by rw [hK i]; exact F
  exact pe_call (F'.mono hjk) (hr i) (hg i) hm (by rw [hK i]; exact hk) (by rw [hK i]; exact hb) .nil (hx i) (pt i) hdb (he i) (hpl i)
theorem de_call0 (hF : ∀ i, CalD (𝒳 i).prog (𝒳 i).w (𝒳 i).K (𝒳 i).mg (𝒳 i).base G.cv j x n Fn) (hr : ∀ i, Room k (𝒳 i).A) (hx : ∀ i, Passes (L2.CX (𝒳 i).prog (𝒳 i).w) (𝒳 i) G.Ex) (hK : ∀ i, (𝒳 i).K = G.K)
    (hjk : j ≤ k := by omega) (hg : ∀ i, Gl (𝒳 i) x := by intro _; rfl) (hdb : (x == ("__debug__" : Str)) = false := by decide) :
    DE 𝒳 G (.Call (.Name x p) [] [] pos) (evCallF n Fn evNil) := by
  refine ⟨_, fun i => ?_, rd_callF (t := tNil) rfl fun c σ δ Q s w h => h [] c rfl (Ext.refl c) w .nil⟩
  obtain ⟨f, fd, ps, hn, F, hm, hk, hb⟩ := (hF i).ex
  rw [hK i] at F hb hk
  have F' : FnOk (𝒳 i).prog (𝒳 i).w (𝒳 i).K (𝒳 i).mg (𝒳 i).base (L2.CX (𝒳 i).prog (𝒳 i).w) j f fd ps (spW G.K G.cv n Fn) := by rw [hK i]; exact F
  exact pe_call0 (F'.mono hjk) (hr i) (hg i) hm (by rw [hK i]; exact hk) (by rw [hK i]; exact hb) .nil (hx i) hdb
end
end DL
set_option Elab.async false
set_option linter.all false
set_option maxRecDepth 100000
set_option maxHeartbeats 4000000
/-! DL13: short words for printed terms; the law's own def. -/
namespace DL
open PySem PySem.Spec PyProof.Rows L2 RZ
abbrev cI (n : Int) (_ : Env) : M RV := M.ret (.d (.int n))
abbrev cS (z : Str) (_ : Env) : M RV := M.ret (.d (.str z))
abbrev cB (b : Bool) (_ : Env) : M RV := M.ret (.d (.bl b))
abbrev cN (_ : Env) : M RV := M.ret (.d .non)
abbrev cT (t : Ty) (_ : Env) : M RV := M.ret (.d (.ty t))
abbrev evNever (_ : Env) : M RV := M.fail
abbrev evYes (_ : Env) : M Bool := M.ret true
abbrev oN (_ : Env) : M (Option Int) := M.ret none
abbrev oS (F : Env → M RV) (δ : Env) : M (Option Int) := (F δ).bind fun u => (asI u).bind fun i => M.ret (some i)
def evFrz (F : Env → M RV) (δ : Env) : M RV := (F δ).bind fun u => (toD u).bind fun d => M.ret (.d d)
section
variable {ι : Type} {𝒳 : ι → Cx} {G : Gh} {e : Expr} {Fe : Env → M RV} {pos : Pos}
theorem de_frz (h : DE 𝒳 G e Fe) : DE 𝒳 G e (evFrz Fe) := by
  obtain ⟨t, p, r⟩ := h
  refine ⟨t, p, fun c σ δ Q s w h => ?_⟩
  refine r c σ δ _ s w (wpM_mono (wpM_bind.mp h) (fun u W1 h1 x c1 hw e1 w1 r1 => ?_) fun _ _ q => q)
  subst hw
  obtain ⟨c2, d, h2, e2, w2, r2, q⟩ := toD_ok w1 r1 (wpM_bind.mp h1)
  rw [← h2]
  exact q x c2 rfl (e1.trans e2) w2 r2
/-- - an int -/
def evNeg (F : Env → M RV) (δ : Env) : M RV := (F δ).bind fun u => (asI u).bind fun i => M.ret (.d (.int (-i)))
end
theorem sub_by {own : List (Str × Nat)} {vs : List Nat} (h : vs.all (fun k => (own.map (·.2)).contains k) = true) : ∀ k, k ∈ vs → k ∈ own.map (·.2) := fun k hk => by
  have := List.all_eq_true.mp h k hk
  simpa using this
section
variable {P : Program} {w : World} {K : PySem.W.Frag} {mg : Str → Option Value} {base : Heap} {cv : Str → Value}
/-- what stands behind the top of a def -/
structure TopD (K : PySem.W.Frag) (mg : Str → Option Value) (x : Str) (st : Stmt) (ps : List Str) : Prop where
  ex : ∃ (f : Addr) (fd : FuncData), Fun K x x st f fd ∧ mg x = some (.ref f) ∧ Binds K fd ps []
theorem TopD.cal {x : Str} {st : Stmt} {N ps : List Str} {k : Nat} {Fb : Env → M (Fl × Env)} (t : TopD K mg x st ps) (S : FnScope N ps (defScope st))
    (hb : ∀ (f : Addr) (cdv : Value) (A : Around) (outer : List PySem.Env) (s : Shared) (H : Hp) (E : XK), Room k (A.deeper (envOfC x (defScope st) s.heap.objs.size f cdv)) →
      DSs (fun _ : Unit => cxOf (L2.CX P w) P w K mg base N x (defScope st) f cdv A outer s H E) ⟨K, E, cv⟩ (defBody st) Fb) :
    CalD P w K mg base cv (k + 1) x ps.length (fnD N.length Fb) := by
  obtain ⟨f, fd, F, hm, hb'⟩ := t.ex
  exact ⟨f, fd, ps, rfl, okD F S (hb f), hm, F.kp, hb'⟩
theorem TopD.zero {x : Str} {st : Stmt} {ps : List Str} (t : TopD K mg x st ps) : CalD P w K mg base cv 0 x ps.length (fun _ => M.fail) := by
  obtain ⟨f, fd, F, hm, hb'⟩ := t.ex
  exact ⟨f, fd, ps, rfl, ok0, hm, F.kp, hb'⟩
/-! ### the script -/
def intL (ns : List Int) : List RV := ns.map fun i => .d (.int i)
theorem intL_rep {c : Cf} (ns : List Int) : RepVs c (intL ns) (ns.map V.int) := by
  unfold intL
  induction ns with
  | nil => exact .nil
  | cons i r ih => exact .cons rfl ih
/-- the stream, as the law starts it: its cells, then itself -/
def startW (ns : List Int) : Wd := [.lst (intL ns), .lst [.r 0, .d (.int 0), .d (.int 0), .d (.int 43)]]
def spStart (K : PySem.W.Frag) : Sp := fun vs H Q _ => ∃ (a : Addr) (ns : List Int), vs = [.ref a] ∧ SqL K H a (ns.map V.int) ∧ ∀ c, c.W = startW ns → WOk c → Q (.ref (c.ren 1)) c.H
theorem start_law {H : Hp} {p q : Addr} {ns : List Int} (hp : H p = none) (hq : upd H p (.lst (ns.map V.int)) q = none) :
    ∃ c : Cf, c.H = upd (upd H p (.lst (ns.map V.int))) q (.lst [.ref p, .int 0, .int 0, .int 43]) ∧ c.W = startW ns ∧ WOk c ∧ c.ren 1 = q := by
  let c0 : Cf := ⟨H, fun _ => p, [], fun _ => False⟩
  have w0 : WOk c0 := ⟨fun l o h => by simp [c0] at h, fun l l' o o' h => by simp [c0] at h, fun l o h => by simp [c0] at h, fun a h => h.elim⟩
  let c1 : Cf := c0.new p (.lst (ns.map V.int)) (.lst (intL ns))
  have w1 : WOk c1 := w0.new hp ⟨_, upd_same, intL_rep ns⟩
  have r0 : c1.ren 0 = p := ren_last (c := c0)
  have w2 : WOk (c1.new q (.lst [.ref p, .int 0, .int 0, .int 43]) (.lst [.r 0, .d (.int 0), .d (.int 0), .d (.int 43)])) := by
    refine w1.new hq ⟨_, upd_same, .cons ?_ (.cons rfl (.cons rfl (.cons rfl .nil)))⟩
    refine ⟨?_, by simp [c1, c0]⟩
    rw [ren_new (by simp [c1, c0]), r0]
  exact ⟨_, rfl, rfl, w2, ren_last (c := c1)⟩
abbrev rOf (K : PySem.W.Frag) : List V → Hp → VK → Prop := fun xs H Q => ∃ p ys, xs = [.ref p] ∧ (SqL K H p ys ∨ SqT K H p ys) ∧ ∀ l, H l = none → Q (.ref l) (upd H l (.lst ys))
/-- _law_start's reading: return [list(script), 0, 0, 43] -/
theorem rd_start {vs : List V} {H : Hp} {Q : VK} {E : XK} (h : spStart K vs H Q E) :
    tRet (tLst (tCons (tCB (rOf K) (tCons (tVar 0) tNil)) (tCons (tC (.int 0)) (tCons (tC (.int 0)) (tCons (tC (.int 43)) tNil))))) { nx := fun _ H' => Q .non H', rt := Q } (L2.start ["script"] vs) H := by
  obtain ⟨a, ns, rfl, hS, q⟩ := h
  refine ⟨.ref a, rfl, a, _, rfl, .inl hS, fun p hp => ⟨by show 4 ≤ sizeLine; decide, fun r hr => ?_⟩⟩
  obtain ⟨c, h1, h2, h3, h4⟩ := start_law hp hr
  have := q c h2 h3
  rw [h4, h1] at this
  exact this
def spLawD (K : PySem.W.Frag) : Sp := fun vs H Q _ => ∃ (a : Addr) (ns : List Int), vs = [.ref a] ∧ SqL K H a (ns.map V.int) ∧ ns.length ≤ 63 ∧ ∀ H', Q (.bl true) H'
def lawEnv (n : Nat) : Env := none :: some (.r 1) :: List.replicate (n - 2) none
theorem lawEnv_ok {n : Nat} {c : Cf} {vs : List V} {N : List Str} (hn : N.length = n) (h2 : 2 ≤ n) (h1 : vs.length = 1) (hw : 2 ≤ c.W.length) : SOk ((L2.start N vs).set 1 (some (.ref (c.ren 1)))) (lawEnv n) c := by
  refine ⟨by unfold L2.start lawEnv; simp [hn, h1]; omega, fun i rv h => ?_⟩
  match i, h with
  | 0, h => simp [lawEnv] at h
  | 1, h =>
    simp [lawEnv] at h
    subst h
    refine ⟨.ref (c.ren 1), ?_, rfl, by omega⟩
    rw [List.getElem?_set_self]
    unfold L2.start
    simp [h1]; omega
  | i + 2, h =>
    simp only [lawEnv, List.getElem?_cons_succ, List.getElem?_replicate] at h
    split at h <;> cases h
theorem okLaw {st first : Stmt} {rest : List Stmt} {f : Addr} {fd : FuncData} {N : List Str} {k n : Nat} {Fb : Env → M (Fl × Env)} (F : Fun K "law" "law" st f fd) (S : FnScope N ["script"] (defScope st)) (hst : defBody st = first :: rest) (hn : N.length = n) (h2 : 2 ≤ n)
    (h1 : ∀ (cdv : Value) (A : Around) (outer : List PySem.Env) (s : Shared) (H : Hp) (E : XK), Room k (A.deeper (envOfC "law" (defScope st) s.heap.objs.size f cdv)) →
      PS (cxOf (L2.CX P w) P w K mg base N "law" (defScope st) f cdv A outer s H E) first (tAsg (tCall (spStart K) [] E (tCons (tVar 0) tNil)) (gName 1)))
    (hb : ∀ (cdv : Value) (A : Around) (outer : List PySem.Env) (s : Shared) (H : Hp) (E : XK), Room k (A.deeper (envOfC "law" (defScope st) s.heap.objs.size f cdv)) →
      DSs (fun _ : Unit => cxOf (L2.CX P w) P w K mg base N "law" (defScope st) f cdv A outer s H E) ⟨K, E, cv⟩ rest Fb)
    (math : ∀ ns : List Int, ns.length ≤ 63 → wpM (Fb (lawEnv n)) (startW ns) (fun p _ => p.1 = .rt (.d (.bl true))) (fun _ _ => False)) :
    FnOk P w K mg base (L2.CX P w) (k + 1) f fd ["script"] (spLawD K) := by
  refine F.okX S (fun vs H Q E h => ?_) (fun cdv A outer s H vs Q E hr h => ?_)
  · obtain ⟨a, ns, rfl, _⟩ := h
    rfl
  · obtain ⟨a, ns, rfl, hS, hl, q⟩ := h
    obtain ⟨t, pt, rt⟩ := hb cdv A outer s H E hr
    rw [hst]
    refine ⟨_, pss_cons (h1 cdv A outer s H E hr) (pt ()), ?_⟩
    refine ⟨.ref a, by unfold L2.start; rfl, a, ns, rfl, hS, fun c hw w => ?_⟩
    refine rt c _ (lawEnv n) _ (lawEnv_ok hn h2 rfl (by rw [hw]; exact Nat.le_refl 2)) w ?_
    rw [hw]
    refine wpM_mono (math ns hl) (fun p W' hp => ?_) fun _ _ z => z.elim
    obtain ⟨f', δ'⟩ := p
    cases hp
    intro x c' _ _ _ r
    cases r
    exact q _
end
end DL
set_option Elab.async false
set_option linter.all false
set_option maxRecDepth 100000
set_option maxHeartbeats 4000000
/-! DL14: readings evaluated, step by step (named continuations, so that simp sees the head alone). -/
namespace DL
open PySem PySem.Spec PyProof.Rows L2 RZ
section
variable {α β : Type} {W : Wd} {E : DX → Wd → Prop} {δ : Env}
def kB (f : α → M β) (Q : β → Wd → Prop) (E : DX → Wd → Prop) (a : α) (W : Wd) : Prop := wpM (f a) W Q E
@[simp] theorem kB_ap {f : α → M β} {Q : β → Wd → Prop} {a : α} : kB f Q E a W = wpM (f a) W Q E := (rfl)
theorem w_bind {m : M α} {f : α → M β} {Q : β → Wd → Prop} : wpM (m.bind f) W Q E = wpM m W (kB f Q E) E := propext wpM_bind
@[simp] theorem w_ret {a : α} {Q : α → Wd → Prop} : wpM (M.ret a) W Q E = Q a W := (rfl)
@[simp] theorem w_opt {a : α} {Q : α → Wd → Prop} : wpM (M.opt (some a)) W Q E = Q a W := (rfl)
@[simp] theorem w_guard {p : Prop} [Decidable p] {Q : Unit → Wd → Prop} : wpM (M.guard p) W Q E = (p ∧ Q () W) := by
  unfold wpM M.guard
  by_cases h : p <;> simp [h]
@[simp] theorem w_set {l : Nat} {m : MO} {Q : Unit → Wd → Prop} : wpM (setAt l m) W Q E = Q () (W.set l m) := (rfl)
def lookK (o : Option α) (Q : α → Wd → Prop) (W : Wd) : Prop := match o with | some a => Q a W | none => False
@[simp] theorem lookK_some {a : α} {Q : α → Wd → Prop} : lookK (some a) Q W = Q a W := (rfl)
theorem w_look {f : Wd → Option α} {Q : α → Wd → Prop} : wpM (M.look f) W Q E = lookK (f W) Q W := by
  unfold wpM M.look lookK
  cases f W <;> rfl
@[simp] theorem w_ite {c : Prop} [Decidable c] {a b : M α} {Q : α → Wd → Prop} : wpM (if c then a else b) W Q E = if c then wpM a W Q E else wpM b W Q E := by split <;> rfl
end
section
variable {W : Wd} {E : DX → Wd → Prop} {δ : Env} {Q : RV → Wd → Prop} {QS' : Fl × Env → Wd → Prop} {QB' : Bool → Wd → Prop} {QL : List RV → Wd → Prop} {QG : Env → Wd → Prop} {Fa Fb F : Env → M RV} {R : Env → M (List RV)} {S1 S2 : Env → M (Fl × Env)} {Ta Tb : Env → M Bool}
/-! statements -/
def seqF (S2 : Env → M (Fl × Env)) (p : Fl × Env) : M (Fl × Env) := match p.1 with | .nx => S2 p.2 | f => M.ret (f, p.2)
@[simp] theorem w_seq : wpM (evSeq S1 S2 δ) W QS' E = wpM (S1 δ) W (kB (seqF S2) QS' E) E := propext wpM_bind
@[simp] theorem seqF_nx : seqF S2 (.nx, δ) = S2 δ := (rfl)
@[simp] theorem seqF_rt {v : RV} : seqF S2 (.rt v, δ) = M.ret (.rt v, δ) := (rfl)
@[simp] theorem seqF_bk : seqF S2 (.bk, δ) = M.ret (.bk, δ) := (rfl)
@[simp] theorem seqF_ct : seqF S2 (.ct, δ) = M.ret (.ct, δ) := (rfl)
@[simp] theorem w_next : wpM (evNext δ) W QS' E = QS' (.nx, δ) W := (rfl)
def retF (δ : Env) (v : RV) : M (Fl × Env) := M.ret (.rt v, δ)
@[simp] theorem w_evRet : wpM (evRet F δ) W QS' E = wpM (F δ) W (kB (retF δ) QS' E) E := propext wpM_bind
@[simp] theorem retF_ap {v : RV} : retF δ v = M.ret (.rt v, δ) := (rfl)
def dropF (δ : Env) (_ : RV) : M (Fl × Env) := M.ret (.nx, δ)
@[simp] theorem w_drop : wpM (evDrop F δ) W QS' E = wpM (F δ) W (kB (dropF δ) QS' E) E := propext wpM_bind
@[simp] theorem dropF_ap {v : RV} : dropF δ v = M.ret (.nx, δ) := (rfl)
def nxF (δ' : Env) : M (Fl × Env) := M.ret (.nx, δ')
@[simp] theorem nxF_ap : nxF δ = M.ret (.nx, δ) := (rfl)
def asgF (T : RV → Env → M Env) (δ : Env) (v : RV) : M (Fl × Env) := (T v δ).bind nxF
@[simp] theorem w_asg {T : RV → Env → M Env} : wpM (evAsg F T δ) W QS' E = wpM (F δ) W (kB (asgF T δ) QS' E) E := propext wpM_bind
@[simp] theorem w_asgF {T : RV → Env → M Env} {v : RV} : wpM (asgF T δ v) W QS' E = wpM (T v δ) W (kB nxF QS' E) E := propext wpM_bind
@[simp] theorem w_gtName {i : Nat} {v : RV} : wpM (gtName i v δ) W QG E = QG (δ.set i (some v)) W := (rfl)
def par2F (i j : Nat) (δ : Env) (us : List RV) : M (Fl × Env) := match us with | [u, v] => M.ret (.nx, (δ.set i (some u)).set j (some v)) | _ => M.fail
@[simp] theorem w_par {i j : Nat} : wpM (evPar i j R δ) W QS' E = wpM (R δ) W (kB (par2F i j δ) QS' E) E := propext wpM_bind
@[simp] theorem par2F_ap {i j : Nat} {u v : RV} : par2F i j δ [u, v] = M.ret (.nx, (δ.set i (some u)).set j (some v)) := (rfl)
def par3F (i j l : Nat) (δ : Env) (us : List RV) : M (Fl × Env) := match us with | [u, v, z] => M.ret (.nx, ((δ.set i (some u)).set j (some v)).set l (some z)) | _ => M.fail
@[simp] theorem w_par3 {i j l : Nat} : wpM (evPar3 i j l R δ) W QS' E = wpM (R δ) W (kB (par3F i j l δ) QS' E) E := propext wpM_bind
@[simp] theorem par3F_ap {i j l : Nat} {u v z : RV} : par3F i j l δ [u, v, z] = M.ret (.nx, ((δ.set i (some u)).set j (some v)).set l (some z)) := (rfl)
def ifSF (S1 S2 : Env → M (Fl × Env)) (δ : Env) (b : Bool) : M (Fl × Env) := if b then S1 δ else S2 δ
@[simp] theorem w_ifS : wpM (evIfS Ta S1 S2 δ) W QS' E = wpM (Ta δ) W (kB (ifSF S1 S2 δ) QS' E) E := propext wpM_bind
@[simp] theorem ifSF_t : ifSF S1 S2 δ true = S1 δ := (rfl)
@[simp] theorem ifSF_f : ifSF S1 S2 δ false = S2 δ := (rfl)
/-! targets -/
def unpF (n : Nat) (Fr : List RV → Env → M Env) (δ : Env) (p : Bool × List RV) : M Env := (M.guard (p.2.length = n)).bind fun _ => Fr p.2 δ
@[simp] theorem w_unp {n : Nat} {Fr : List RV → Env → M Env} {u : RV} : wpM (gtUnp n Fr u δ) W QG E = lookK (seqOf W u) (kB (unpF n Fr δ) QG E) W := by
  unfold gtUnp
  rw [w_bind, w_look]; rfl
@[simp] theorem w_unpF {n : Nat} {Fr : List RV → Env → M Env} {t : Bool} {us : List RV} : wpM (unpF n Fr δ (t, us)) W QG E = (us.length = n ∧ wpM (Fr us δ) W QG E) := by
  unfold unpF
  rw [w_bind, w_guard]; rfl
def gtConsF (Rr : List RV → Env → M Env) (us : List RV) (δ : Env) : M Env := Rr us δ
@[simp] theorem gtConsF_ap {Rr : List RV → Env → M Env} {us : List RV} : gtConsF Rr us δ = Rr us δ := (rfl)
@[simp] theorem w_gtCons {Fg : RV → Env → M Env} {Rr : List RV → Env → M Env} {u : RV} {us : List RV} : wpM (gtCons Fg Rr (u :: us) δ) W QG E = wpM (Fg u δ) W (kB (gtConsF Rr us) QG E) E := propext wpM_bind
@[simp] theorem w_gtNil : wpM (gtNil [] δ) W QG E = QG δ W := (rfl)
def subA (Fi : Env → M RV) (u : RV) (δ : Env) (o : RV) : M Env := (Fi δ).bind fun i => (asI i).bind fun k => (M.look fun W => (lstAt W o).bind fun p => (ixN p.2.length k).map fun j => (p, j)).bind fun z => (setAt z.1.1 (.lst (z.1.2.set z.2 u))).bind fun _ => M.ret δ
@[simp] theorem w_gtSub {u : RV} : wpM (gtSub Fa Fb u δ) W QG E = wpM (Fa δ) W (kB (subA Fb u δ) QG E) E := propext wpM_bind
def subB (u : RV) (δ : Env) (o : RV) (i : RV) : M Env := (asI i).bind fun k => (M.look fun W => (lstAt W o).bind fun p => (ixN p.2.length k).map fun j => (p, j)).bind fun z => (setAt z.1.1 (.lst (z.1.2.set z.2 u))).bind fun _ => M.ret δ
@[simp] theorem w_subA {u o : RV} : wpM (subA Fb u δ o) W QG E = wpM (Fb δ) W (kB (subB u δ o) QG E) E := propext wpM_bind
def subK (u : RV) (l : Nat) (xs : List RV) (o : Option Nat) (δ : Env) (QG : Env → Wd → Prop) (W : Wd) : Prop := match o with | some j => QG δ (W.set l (.lst (xs.set j u))) | none => False
@[simp] theorem subK_some {u : RV} {l j : Nat} {xs : List RV} : subK u l xs (some j) δ QG W = QG δ (W.set l (.lst (xs.set j u))) := (rfl)
def subK0 (u : RV) (k : Int) (o : Option (Nat × List RV)) (δ : Env) (QG : Env → Wd → Prop) (W : Wd) : Prop := match o with | some (l, xs) => subK u l xs (ixN xs.length k) δ QG W | none => False
@[simp] theorem subK0_some {u : RV} {k : Int} {l : Nat} {xs : List RV} : subK0 u k (some (l, xs)) δ QG W = subK u l xs (ixN xs.length k) δ QG W := (rfl)
@[simp] theorem w_subB {u o : RV} {k : Int} : wpM (subB u δ o (.d (.int k))) W QG E = subK0 u k (lstAt W o) δ QG W := by
  unfold subB subK0
  show wpM ((M.look _).bind _) W QG E = _
  rw [w_bind, w_look]
  cases lstAt W o with
  | none => rfl
  | some p =>
    obtain ⟨l, xs⟩ := p
    unfold subK
    dsimp only [Option.bind]
    cases ixN xs.length k <;> rfl
/-! expressions -/
@[simp] theorem w_var {i : Nat} : wpM (evVar i δ) W Q E = wpM (M.opt (δ[i]?.join)) W Q E := (rfl)
def ev2a (op : RV → RV → M RV) (Fb : Env → M RV) (δ : Env) (u : RV) : M RV := (Fb δ).bind (op u)
@[simp] theorem w_ev2 {op : RV → RV → M RV} : wpM (ev2 op Fa Fb δ) W Q E = wpM (Fa δ) W (kB (ev2a op Fb δ) Q E) E := propext wpM_bind
@[simp] theorem w_ev2a {op : RV → RV → M RV} {u : RV} : wpM (ev2a op Fb δ u) W Q E = wpM (Fb δ) W (kB (op u) Q E) E := propext wpM_bind
@[simp] theorem w_evB : wpM (evB F δ) W QB' E = wpM (F δ) W (kB asB QB' E) E := propext wpM_bind
@[simp] theorem asB_bl {b : Bool} : asB (.d (.bl b)) = M.ret b := (rfl)
@[simp] theorem asI_int {b : Int} : asI (.d (.int b)) = M.ret b := (rfl)
def andF (Fb : Env → M RV) (δ : Env) (u : RV) : M RV := (asB u).bind fun c => if c then Fb δ else M.ret (.d (.bl false))
@[simp] theorem w_and : wpM (evAnd Fa Fb δ) W Q E = wpM (Fa δ) W (kB (andF Fb δ) Q E) E := propext wpM_bind
@[simp] theorem andF_t : andF Fb δ (.d (.bl true)) = Fb δ := (rfl)
@[simp] theorem andF_f : andF Fb δ (.d (.bl false)) = M.ret (.d (.bl false)) := (rfl)
def orF (Fb : Env → M RV) (δ : Env) (u : RV) : M RV := (asB u).bind fun c => if c then M.ret (.d (.bl true)) else Fb δ
@[simp] theorem w_or : wpM (evOr Fa Fb δ) W Q E = wpM (Fa δ) W (kB (orF Fb δ) Q E) E := propext wpM_bind
@[simp] theorem orF_t : orF Fb δ (.d (.bl true)) = M.ret (.d (.bl true)) := (rfl)
@[simp] theorem orF_f : orF Fb δ (.d (.bl false)) = Fb δ := (rfl)
def notF (u : RV) : M RV := (asB u).bind fun c => M.ret (.d (.bl !c))
@[simp] theorem w_not : wpM (evNot Fa δ) W Q E = wpM (Fa δ) W (kB notF Q E) E := propext wpM_bind
@[simp] theorem notF_ap {b : Bool} : notF (.d (.bl b)) = M.ret (.d (.bl !b)) := (rfl)
def andTF (Tb : Env → M Bool) (δ : Env) (c : Bool) : M Bool := if c then Tb δ else M.ret false
@[simp] theorem w_andT : wpM (evAndT Ta Tb δ) W QB' E = wpM (Ta δ) W (kB (andTF Tb δ) QB' E) E := propext wpM_bind
@[simp] theorem andTF_t : andTF Tb δ true = Tb δ := (rfl)
@[simp] theorem andTF_f : andTF Tb δ false = M.ret false := (rfl)
def orTF (Tb : Env → M Bool) (δ : Env) (c : Bool) : M Bool := if c then M.ret true else Tb δ
@[simp] theorem w_orT : wpM (evOrT Ta Tb δ) W QB' E = wpM (Ta δ) W (kB (orTF Tb δ) QB' E) E := propext wpM_bind
@[simp] theorem orTF_t : orTF Tb δ true = M.ret true := (rfl)
@[simp] theorem orTF_f : orTF Tb δ false = Tb δ := (rfl)
def notTF (c : Bool) : M Bool := M.ret !c
@[simp] theorem w_notT : wpM (evNotT Ta δ) W QB' E = wpM (Ta δ) W (kB notTF QB' E) E := propext wpM_bind
@[simp] theorem notTF_ap {b : Bool} : notTF b = M.ret (!b) := (rfl)
def ifEF (Fa Fb : Env → M RV) (δ : Env) (c : Bool) : M RV := if c then Fa δ else Fb δ
@[simp] theorem w_if : wpM (evIf Ta Fa Fb δ) W Q E = wpM (Ta δ) W (kB (ifEF Fa Fb δ) Q E) E := propext wpM_bind
@[simp] theorem ifEF_t : ifEF Fa Fb δ true = Fa δ := (rfl)
@[simp] theorem ifEF_f : ifEF Fa Fb δ false = Fb δ := (rfl)
@[simp] theorem w_nil : wpM (evNil δ) W QL E = QL [] W := (rfl)
def consA (R : Env → M (List RV)) (δ : Env) (v : RV) : M (List RV) := (R δ).bind fun vs => M.ret (v :: vs)
def consB (v : RV) (vs : List RV) : M (List RV) := M.ret (v :: vs)
@[simp] theorem w_cons : wpM (evCons F R δ) W QL E = wpM (F δ) W (kB (consA R δ) QL E) E := propext wpM_bind
@[simp] theorem w_consA {v : RV} : wpM (consA R δ v) W QL E = wpM (R δ) W (kB (consB v) QL E) E := propext wpM_bind
@[simp] theorem consB_ap {v : RV} {vs : List RV} : consB v vs = M.ret (v :: vs) := (rfl)
@[simp] theorem w_call {f : List RV → M RV} : wpM (evCall f R δ) W Q E = wpM (R δ) W (kB f Q E) E := propext wpM_bind
def callA (n : Nat) (Fn : List RV → M RV) (us : List RV) : M RV := (M.guard (us.length = n)).bind fun _ => Fn us
@[simp] theorem w_callF {n : Nat} {Fn : List RV → M RV} : wpM (evCallF n Fn R δ) W Q E = wpM (R δ) W (kB (callA n Fn) Q E) E := propext wpM_bind
@[simp] theorem w_callA {n : Nat} {Fn : List RV → M RV} {us : List RV} : wpM (callA n Fn us) W Q E = (us.length = n ∧ wpM (Fn us) W Q E) := by
  unfold callA
  rw [w_bind, w_guard]; rfl
def lstF (mk : Bool) (vs : List RV) : M RV := (M.guard (vs.length ≤ sizeLine)).bind fun _ => newL mk vs
@[simp] theorem w_lst {mk : Bool} : wpM (evLst mk R δ) W Q E = wpM (R δ) W (kB (lstF mk) Q E) E := propext wpM_bind
@[simp] theorem w_lstF {mk : Bool} {vs : List RV} : wpM (lstF mk vs) W Q E = (vs.length ≤ sizeLine ∧ wpM (newL mk vs) W Q E) := by
  unfold lstF
  rw [w_bind, w_guard]; rfl
def tupF (vs : List RV) : M RV := (M.guard (vs.length ≤ sizeLine)).bind fun _ => newT vs
@[simp] theorem w_tup : wpM (evTup R δ) W Q E = wpM (R δ) W (kB tupF Q E) E := propext wpM_bind
@[simp] theorem w_tupF {vs : List RV} : wpM (tupF vs) W Q E = (vs.length ≤ sizeLine ∧ wpM (newT vs) W Q E) := by
  unfold tupF
  rw [w_bind, w_guard]; rfl
@[simp] theorem w_newL_t {vs : List RV} : wpM (newL true vs) W Q E = Q (.r W.length) (W ++ [.lst vs]) := (rfl)
theorem toDs_d : ∀ {ds : List D} {W : Wd}, toDs (ds.map RV.d) W = some (.ok ds, W)
  | [], _ => rfl
  | d :: ds, W => by
    show (toDs (ds.map RV.d)).bind _ W = _
    unfold M.bind
    rw [toDs_d]; rfl
@[simp] theorem w_newL_f {ds : List D} : wpM (newL false (ds.map RV.d)) W Q E = Q (.d (.lst ds)) W := by
  show wpM ((toDs _).bind _) W Q E = _
  rw [w_bind]
  unfold wpM
  rw [toDs_d]; rfl
@[simp] theorem w_newT {ds : List D} : wpM (newT (ds.map RV.d)) W Q E = Q (.d (.tup ds)) W := by
  show wpM ((toDs _).bind _) W Q E = _
  rw [w_bind]
  unfold wpM
  rw [toDs_d]; rfl
/-! display of pure things, by how many -/
@[simp] theorem w_newL_0 : wpM (newL false []) W Q E = Q (.d (.lst [])) W := w_newL_f (ds := [])
@[simp] theorem w_newL_1 {a : D} : wpM (newL false [.d a]) W Q E = Q (.d (.lst [a])) W := w_newL_f (ds := [a])
@[simp] theorem w_newL_2 {a b : D} : wpM (newL false [.d a, .d b]) W Q E = Q (.d (.lst [a, b])) W := w_newL_f (ds := [a, b])
@[simp] theorem w_newL_3 {a b c : D} : wpM (newL false [.d a, .d b, .d c]) W Q E = Q (.d (.lst [a, b, c])) W := w_newL_f (ds := [a, b, c])
@[simp] theorem w_newL_4 {a b c d : D} : wpM (newL false [.d a, .d b, .d c, .d d]) W Q E = Q (.d (.lst [a, b, c, d])) W := w_newL_f (ds := [a, b, c, d])
@[simp] theorem w_newL_5 {a b c d e : D} : wpM (newL false [.d a, .d b, .d c, .d d, .d e]) W Q E = Q (.d (.lst [a, b, c, d, e])) W := w_newL_f (ds := [a, b, c, d, e])
@[simp] theorem w_newL_6 {a b c d e f : D} : wpM (newL false [.d a, .d b, .d c, .d d, .d e, .d f]) W Q E = Q (.d (.lst [a, b, c, d, e, f])) W := w_newL_f (ds := [a, b, c, d, e, f])
@[simp] theorem w_newL_8 {a b c d e f g h : D} : wpM (newL false [.d a, .d b, .d c, .d d, .d e, .d f, .d g, .d h]) W Q E = Q (.d (.lst [a, b, c, d, e, f, g, h])) W := w_newL_f (ds := [a, b, c, d, e, f, g, h])
@[simp] theorem w_newT_0 : wpM (newT []) W Q E = Q (.d (.tup [])) W := w_newT (ds := [])
@[simp] theorem w_newT_1 {a : D} : wpM (newT [.d a]) W Q E = Q (.d (.tup [a])) W := w_newT (ds := [a])
@[simp] theorem w_newT_2 {a b : D} : wpM (newT [.d a, .d b]) W Q E = Q (.d (.tup [a, b])) W := w_newT (ds := [a, b])
@[simp] theorem w_newT_3 {a b c : D} : wpM (newT [.d a, .d b, .d c]) W Q E = Q (.d (.tup [a, b, c])) W := w_newT (ds := [a, b, c])
@[simp] theorem w_newT_4 {a b c d : D} : wpM (newT [.d a, .d b, .d c, .d d]) W Q E = Q (.d (.tup [a, b, c, d])) W := w_newT (ds := [a, b, c, d])
@[simp] theorem w_newT_5 {a b c d e : D} : wpM (newT [.d a, .d b, .d c, .d d, .d e]) W Q E = Q (.d (.tup [a, b, c, d, e])) W := w_newT (ds := [a, b, c, d, e])
/-! operators -/
@[simp] theorem opAdd_i {mk : Bool} {i j : Int} : opAdd mk (.d (.int i)) (.d (.int j)) = M.ret (.d (.int (i + j))) := (rfl)
@[simp] theorem opSub_i {i j : Int} : opSub (.d (.int i)) (.d (.int j)) = M.ret (.d (.int (i - j))) := (rfl)
@[simp] theorem w_opMul {mk : Bool} {i j : Int} : wpM (opMul mk (.d (.int i)) (.d (.int j))) W Q E = (CMulW i j ∧ Q (.d (.int (i * j))) W) := by
  show wpM ((M.guard _).bind _) W Q E = _
  rw [w_bind, w_guard]; rfl
@[simp] theorem w_opMod {i j : Int} : wpM (opMod (.d (.int i)) (.d (.int j))) W Q E = (0 < j ∧ Q (.d (.int (i % j))) W) := by
  show wpM ((M.guard _).bind _) W Q E = _
  rw [w_bind, w_guard]; rfl
@[simp] theorem w_opDiv {i j : Int} : wpM (opDiv (.d (.int i)) (.d (.int j))) W Q E = (CDivW i j ∧ Q (.d (.int (i / j))) W) := by
  show wpM ((M.guard _).bind _) W Q E = _
  rw [w_bind, w_guard]; rfl
@[simp] theorem w_opPow {i j : Int} : wpM (opPow (.d (.int i)) (.d (.int j))) W Q E = (CPow i j ∧ Q (.d (.int (i ^ j.toNat))) W) := by
  show wpM ((M.guard _).bind _) W Q E = _
  rw [w_bind, w_guard]; rfl
@[simp] theorem opLt_i {i j : Int} : opLt (.d (.int i)) (.d (.int j)) = M.ret (.d (.bl (decide (i < j)))) := (rfl)
@[simp] theorem opLe_i {i j : Int} : opLe (.d (.int i)) (.d (.int j)) = M.ret (.d (.bl (decide (i ≤ j)))) := (rfl)
@[simp] theorem opGt_i {i j : Int} : opGt (.d (.int i)) (.d (.int j)) = M.ret (.d (.bl (decide (j < i)))) := (rfl)
@[simp] theorem opGe_i {i j : Int} : opGe (.d (.int i)) (.d (.int j)) = M.ret (.d (.bl (decide (j ≤ i)))) := (rfl)
@[simp] theorem opEq_i {n : Bool} {i j : Int} : opEq n (.d (.int i)) (.d (.int j)) = M.ret (.d (.bl (decide (i = j) != n))) := (rfl)
@[simp] theorem opEq_s {n : Bool} {i j : Str} : opEq n (.d (.str i)) (.d (.str j)) = M.ret (.d (.bl (decide (i = j) != n))) := (rfl)
@[simp] theorem opEq_b {n : Bool} {i j : Bool} : opEq n (.d (.bl i)) (.d (.bl j)) = M.ret (.d (.bl (decide (i = j) != n))) := (rfl)
@[simp] theorem opIs_b {n : Bool} {i j : Bool} : opIs n (.d (.bl i)) (.d (.bl j)) = M.ret (.d (.bl (decide (i = j) != n))) := (rfl)
@[simp] theorem opIn_s {n : Bool} {i j : Str} : opIn n (.d (.str i)) (.d (.str j)) = M.ret (.d (.bl (strIn i j != n))) := (rfl)
@[simp] theorem w_opAddS {mk : Bool} {i j : Str} : wpM (opAdd mk (.d (.str i)) (.d (.str j))) W Q E = (i.length + j.length ≤ sizeLine ∧ Q (.d (.str (i ++ j))) W) := by
  show wpM ((M.guard _).bind _) W Q E = _
  rw [w_bind, w_guard]; rfl
/-! worlds -/
def seqM : Option MO → Option (Bool × List RV)
  | some (.lst xs) => some (false, xs)
  | some (.fz (.lst xs)) => some (false, xs.map .d)
  | some (.fz (.tup xs)) => some (true, xs.map .d)
  | _ => none
@[simp] theorem seqOf_r {l : Nat} : seqOf W (.r l) = seqM (W[l]?) := (rfl)
@[simp] theorem seqOf_l {xs : List D} : seqOf W (.d (.lst xs)) = some (false, xs.map .d) := (rfl)
@[simp] theorem seqOf_t {xs : List D} : seqOf W (.d (.tup xs)) = some (true, xs.map .d) := (rfl)
@[simp] theorem seqM_l {xs : List RV} : seqM (some (.lst xs)) = some (false, xs) := (rfl)
@[simp] theorem seqM_fl {xs : List D} : seqM (some (.fz (.lst xs))) = some (false, xs.map .d) := (rfl)
@[simp] theorem seqM_ft {xs : List D} : seqM (some (.fz (.tup xs))) = some (true, xs.map .d) := (rfl)
def lstM (l : Nat) : Option MO → Option (Nat × List RV)
  | some (.lst xs) => some (l, xs)
  | _ => none
@[simp] theorem lstAt_r {l : Nat} : lstAt W (.r l) = lstM l (W[l]?) := (rfl)
@[simp] theorem lstM_l {l : Nat} {xs : List RV} : lstM l (some (.lst xs)) = some (l, xs) := (rfl)
def ixK (i : Int) (o : Option (Bool × List RV)) : Option RV := match o with | some p => atI p.2 i | none => none
@[simp] theorem ixK_some {i : Int} {t : Bool} {xs : List RV} : ixK i (some (t, xs)) = atI xs i := (rfl)
theorem w_opIxL {u : RV} {i : Int} : wpM (opIxL u (.d (.int i))) W Q E = lookK (ixK i (seqOf W u)) Q W := by
  unfold opIxL
  rw [w_look]
  unfold ixK
  cases seqOf W u <;> rfl
@[simp] theorem w_opIx_r {l : Nat} {i : Int} : wpM (opIx (.r l) (.d (.int i))) W Q E = lookK (ixK i (seqOf W (.r l))) Q W := w_opIxL
@[simp] theorem w_opIx_l {xs : List D} {i : Int} : wpM (opIx (.d (.lst xs)) (.d (.int i))) W Q E = lookK (ixK i (seqOf W (.d (.lst xs)))) Q W := w_opIxL
@[simp] theorem w_opIx_t {xs : List D} {i : Int} : wpM (opIx (.d (.tup xs)) (.d (.int i))) W Q E = lookK (ixK i (seqOf W (.d (.tup xs)))) Q W := w_opIxL
@[simp] theorem atI_0 {α : Type} {a : α} {l : List α} : atI (a :: l) 0 = some a := by simp [atI, ixN]
@[simp] theorem atI_1 {α : Type} {a b : α} {l : List α} : atI (a :: b :: l) 1 = some b := by
  unfold atI ixN
  rw [if_pos (by decide), if_pos (by simp; omega)]; rfl
@[simp] theorem atI_2 {α : Type} {a b c : α} {l : List α} : atI (a :: b :: c :: l) 2 = some c := by
  unfold atI ixN
  rw [if_pos (by decide), if_pos (by simp; omega)]; rfl
@[simp] theorem atI_3 {α : Type} {a b c d : α} {l : List α} : atI (a :: b :: c :: d :: l) 3 = some d := by
  unfold atI ixN
  rw [if_pos (by decide), if_pos (by simp; omega)]; rfl
@[simp] theorem ixN_4_1 : ixN 4 1 = some 1 := (rfl)
@[simp] theorem ixN_4_2 : ixN 4 2 = some 2 := (rfl)
@[simp] theorem ixN_4_3 : ixN 4 3 = some 3 := (rfl)
@[simp] theorem ixN_3_0 : ixN 3 0 = some 0 := (rfl)
@[simp] theorem ixN_3_1 : ixN 3 1 = some 1 := (rfl)
@[simp] theorem ixN_3_2 : ixN 3 2 = some 2 := (rfl)
/-! built-in functions -/
@[simp] theorem bInt_i {i : Int} : bInt [.d (.int i)] = M.ret (.d (.int i)) := (rfl)
@[simp] theorem w_bLen_s {z : Str} : wpM (bLen [.d (.str z)]) W Q E = (z.length ≤ sizeLine ∧ Q (.d (.int z.length)) W) := by
  show wpM ((M.guard _).bind _) W Q E = _
  rw [w_bind, w_guard]; rfl
def lenF (p : Bool × List RV) : M RV := M.ret (.d (.int p.2.length))
@[simp] theorem lenF_ap {t : Bool} {xs : List RV} : lenF (t, xs) = M.ret (.d (.int xs.length)) := (rfl)
@[simp] theorem w_bLen_r {l : Nat} : wpM (bLen [.r l]) W Q E = lookK (seqOf W (.r l)) (kB lenF Q E) W := by
  show wpM ((M.look _).bind _) W Q E = _
  rw [w_bind, w_look]; rfl
@[simp] theorem w_bLen_l {xs : List D} : wpM (bLen [.d (.lst xs)]) W Q E = Q (.d (.int xs.length)) W := by
  unfold bLen
  dsimp only
  rw [w_bind, w_look]
  show Q (.d (.int ((xs.map RV.d).length : Nat))) W = _
  rw [List.length_map]
@[simp] theorem w_bLen_t {xs : List D} : wpM (bLen [.d (.tup xs)]) W Q E = Q (.d (.int xs.length)) W := by
  unfold bLen
  dsimp only
  rw [w_bind, w_look]
  show Q (.d (.int ((xs.map RV.d).length : Nat))) W = _
  rw [List.length_map]
@[simp] theorem w_bOrd {z : Str} : wpM (bOrd [.d (.str z)]) W Q E = (z.length = 1 ∧ Q (.d (.int (z.cps.getD 0 0 : Nat))) W) := by
  show wpM ((M.guard _).bind _) W Q E = _
  rw [w_bind, w_guard]; rfl
def isiK (ts : List Ty) (t : Option Ty) (Q : RV → Wd → Prop) (W : Wd) : Prop := match t with | some t => Q (.d (.bl (ts.any t.sub))) W | none => False
@[simp] theorem isiK_some {ts : List Ty} {t : Ty} : isiK ts (some t) Q W = Q (.d (.bl (ts.any t.sub))) W := (rfl)
def isiT (o : Option (List Ty)) (t : Option Ty) (Q : RV → Wd → Prop) (W : Wd) : Prop := match o with | some ts => isiK ts t Q W | none => False
@[simp] theorem isiT_some {ts : List Ty} {t : Option Ty} : isiT (some ts) t Q W = isiK ts t Q W := (rfl)
@[simp] theorem w_bIsi {u : RV} {y : D} : wpM (bIsi [u, .d y]) W Q E = isiT (tysOf y) (tyOf W u) Q W := by
  show wpM ((M.opt _).bind _) W Q E = _
  rw [w_bind]
  cases tysOf y with
  | none => rfl
  | some ts =>
    show wpM ((M.look _).bind _) W Q E = _
    rw [w_bind, w_look]
    show lookK (tyOf W u) _ W = isiK ts (tyOf W u) Q W
    cases tyOf W u <;> rfl
@[simp] theorem tysOf_1 {t : Ty} (h : t ≠ .non) : tysOf (.ty t) = some [t] := by
  show (if t = .non then none else some [t]) = _
  rw [if_neg h]
/-! methods -/
def mthA (f : RV → List RV → M RV) (R : Env → M (List RV)) (δ : Env) (u : RV) : M RV := (M.look fun W => (seqOf W u).bind fun p => if p.1 then none else some ()).bind fun _ => (R δ).bind fun us => f u us
@[simp] theorem w_mth {f : RV → List RV → M RV} : wpM (evMth f F R δ) W Q E = wpM (F δ) W (kB (mthA f R δ) Q E) E := propext wpM_bind
def mthK (f : RV → List RV → M RV) (R : Env → M (List RV)) (δ : Env) (u : RV) (o : Option (Bool × List RV)) (Q : RV → Wd → Prop) (E : DX → Wd → Prop) (W : Wd) : Prop := match o with
  | some (false, _) => wpM (R δ) W (kB (f u) Q E) E
  | _ => False
@[simp] theorem mthK_l {f : RV → List RV → M RV} {u : RV} {xs : List RV} : mthK f R δ u (some (false, xs)) Q E W = wpM (R δ) W (kB (f u) Q E) E := (rfl)
@[simp] theorem w_mthA {f : RV → List RV → M RV} {u : RV} : wpM (mthA f R δ u) W Q E = mthK f R δ u (seqOf W u) Q E W := by
  unfold mthA mthK
  rw [w_bind, w_look]
  cases seqOf W u with
  | none => rfl
  | some p =>
    obtain ⟨t, xs⟩ := p
    cases t with
    | true => rfl
    | false =>
      show wpM ((R δ).bind _) W Q E = _
      rw [w_bind]
def popK (i : Int) (o : Option (Nat × List RV)) (Q : RV → Wd → Prop) (W : Wd) : Prop := match o with
  | some (l, xs) => match seqIndex? i xs.length with
    | some k => match xs[k]? with
      | some y => (-(2 ^ 63) ≤ i ∧ i < 2 ^ 63) ∧ Q y (W.set l (.lst (xs.eraseIdx k)))
      | none => False
    | none => False
  | none => False
@[simp] theorem w_mPop {u : RV} {i : Int} : wpM (mPop u [.d (.int i)]) W Q E = popK i (lstAt W u) Q W := by
  unfold mPop popK
  rw [w_bind, w_look]
  cases lstAt W u with
  | none => rfl
  | some p =>
    obtain ⟨l, xs⟩ := p
    dsimp only [Option.bind]
    cases seqIndex? i xs.length with
    | none => rfl
    | some k =>
      dsimp only
      cases xs[k]? with
      | none => rfl
      | some y =>
        simp only [Option.map, lookK_some, kB_ap]
        rw [w_bind, w_guard]
        rfl
theorem popK_at {i : Int} {l k : Nat} {xs : List RV} {y : RV} (h1 : 0 ≤ i) (h2 : i.toNat = k) (h3 : xs[k]? = some y) (h4 : i < 2 ^ 63) : popK i (some (l, xs)) Q W = Q y (W.set l (.lst (xs.eraseIdx k))) := by
  have lt : k < xs.length := (List.getElem?_eq_some_iff.mp h3).1
  have e : seqIndex? i xs.length = some k := by
    unfold seqIndex?
    have h5 : ¬ i < 0 := by omega
    have h6 : i < (xs.length : Int) := by omega
    simp only [if_neg h5]
    simp [h1, h6, h2]
  unfold popK
  dsimp only
  rw [e]
  dsimp only
  rw [h3]
  dsimp only
  exact propext ⟨fun h => h.2, fun h => ⟨⟨by omega, h4⟩, h⟩⟩
def appK (v : RV) (o : Option (Nat × List RV)) (Q : RV → Wd → Prop) (W : Wd) : Prop := match o with
  | some (l, xs) => xs.length < sizeLine ∧ Q (.d .non) (W.set l (.lst (xs ++ [v])))
  | none => False
@[simp] theorem appK_some {v : RV} {l : Nat} {xs : List RV} : appK v (some (l, xs)) Q W = (xs.length < sizeLine ∧ Q (.d .non) (W.set l (.lst (xs ++ [v])))) := (rfl)
@[simp] theorem w_mAppend {u v : RV} : wpM (mAppend u [v]) W Q E = appK v (lstAt W u) Q W := by
  unfold mAppend appK
  rw [w_bind, w_look]
  cases lstAt W u with
  | none => rfl
  | some p =>
    obtain ⟨l, xs⟩ := p
    simp only [lookK_some, kB_ap]
    rw [w_bind, w_guard]
    rfl
/-! defs -/
def kFn (Q : RV → Wd → Prop) (p : Fl × Env) (W : Wd) : Prop := match p.1 with
  | .rt v => Q v W
  | .nx => Q (.d .non) W
  | _ => False
theorem w_fnD {n : Nat} {Fm : Env → M (Fl × Env)} {rvs : List RV} : wpM (fnD n Fm rvs) W Q E = wpM (Fm (startD n rvs)) W (kFn Q) E := by
  unfold fnD
  rw [w_bind]
  congr 1
  funext p W'
  obtain ⟨f, δ'⟩ := p
  cases f <;> rfl
@[simp] theorem kFn_rt {v : RV} : kFn Q (.rt v, δ) W = Q v W := (rfl)
@[simp] theorem kFn_nx : kFn Q (.nx, δ) W = Q (.d .non) W := (rfl)
end
end DL
set_option Elab.async false
set_option linter.all false
set_option maxRecDepth 100000
set_option maxHeartbeats 4000000
/-! DL15: loops evaluated. -/
namespace DL
open PySem PySem.Spec PyProof.Rows L2 RZ
section
variable {W : Wd} {E : DX → Wd → Prop} {δ : Env} {Q : RV → Wd → Prop} {QS' : Fl × Env → Wd → Prop} {QB' : Bool → Wd → Prop} {QL : List RV → Wd → Prop} {QG : Env → Wd → Prop} {QD : List D → Wd → Prop} {Fa Fb F : Env → M RV} {R : Env → M (List RV)} {B : Env → M (Fl × Env)} {Ta : Env → M Bool} {T : RV → Env → M Env} {S : Env → M (List D)}
theorem wpM_and {α : Type} {m : M α} {Q Q' : α → Wd → Prop} (h : wpM m W Q E) (h' : ∀ a W', Q a W' → Q' a W') : wpM m W Q' E := wpM_mono h h' fun _ _ e => e
/-! while -/
def whG (T : Env → M Bool) (B : Env → M (Fl × Env)) (n : Nat) (p : Fl × Env) : M (Fl × Env) := match p.1 with
  | .nx => evWhile T B n p.2
  | .ct => evWhile T B n p.2
  | .bk => M.ret (.nx, p.2)
  | .rt v => M.ret (.rt v, p.2)
@[simp] theorem whG_nx {n : Nat} : whG Ta B n (.nx, δ) = evWhile Ta B n δ := (rfl)
@[simp] theorem whG_ct {n : Nat} : whG Ta B n (.ct, δ) = evWhile Ta B n δ := (rfl)
@[simp] theorem whG_bk {n : Nat} : whG Ta B n (.bk, δ) = M.ret (.nx, δ) := (rfl)
@[simp] theorem whG_rt {n : Nat} {v : RV} : whG Ta B n (.rt v, δ) = M.ret (.rt v, δ) := (rfl)
def whF (T : Env → M Bool) (B : Env → M (Fl × Env)) (n : Nat) (δ : Env) (b : Bool) : M (Fl × Env) := if b then (B δ).bind (whG T B n) else M.ret (.nx, δ)
@[simp] theorem w_whF_t {n : Nat} : wpM (whF Ta B n δ true) W QS' E = wpM (B δ) W (kB (whG Ta B n) QS' E) E := propext wpM_bind
@[simp] theorem w_whF_f {n : Nat} : wpM (whF Ta B n δ false) W QS' E = QS' (.nx, δ) W := (rfl)
theorem w_while {n : Nat} : wpM (evWhile Ta B (n + 1) δ) W QS' E = wpM (Ta δ) W (kB (whF Ta B n δ) QS' E) E := by
  rw [evWhile, w_bind]
  congr 1
/-! for -/
def forF (T : RV → Env → M Env) (B : Env → M (Fl × Env)) (δ : Env) (ds : List D) : M (Fl × Env) := goFor T B ds δ
@[simp] theorem w_for : wpM (evFor S T B δ) W QS' E = wpM (S δ) W (kB (forF T B δ) QS' E) E := propext wpM_bind
def forG (T : RV → Env → M Env) (B : Env → M (Fl × Env)) (ds : List D) (p : Fl × Env) : M (Fl × Env) := match p.1 with
  | .nx => goFor T B ds p.2
  | .ct => goFor T B ds p.2
  | .bk => M.ret (.nx, p.2)
  | .rt v => M.ret (.rt v, p.2)
@[simp] theorem forG_nx {ds : List D} : forG T B ds (.nx, δ) = goFor T B ds δ := (rfl)
@[simp] theorem forG_ct {ds : List D} : forG T B ds (.ct, δ) = goFor T B ds δ := (rfl)
@[simp] theorem forG_bk {ds : List D} : forG T B ds (.bk, δ) = M.ret (.nx, δ) := (rfl)
@[simp] theorem forG_rt {ds : List D} {v : RV} : forG T B ds (.rt v, δ) = M.ret (.rt v, δ) := (rfl)
def forH (T : RV → Env → M Env) (B : Env → M (Fl × Env)) (ds : List D) (δ : Env) : M (Fl × Env) := (B δ).bind (forG T B ds)
@[simp] theorem w_forH {ds : List D} : wpM (forH T B ds δ) W QS' E = wpM (B δ) W (kB (forG T B ds) QS' E) E := propext wpM_bind
theorem w_goFor {d : D} {ds : List D} : wpM (goFor T B (d :: ds) δ) W QS' E = wpM (T (.d d) δ) W (kB (forH T B ds) QS' E) E := by
  rw [goFor, w_bind]
  rfl
theorem w_goFor0 : wpM (goFor T B [] δ) W QS' E = QS' (.nx, δ) W := rfl
/-- a for without break, by an invariant -/
theorem goFor_inv (P : Nat → Env → Wd → Prop) (ds0 : List D) (step : ∀ i d δ W, ds0[i]? = some d → P i δ W → wpM (T (.d d) δ) W (kB (fun δ1 => B δ1) (fun p W' => (p.1 = .nx ∨ p.1 = .ct) ∧ P (i + 1) p.2 W') E) E) :
    ∀ (ds : List D) (i : Nat) (δ : Env) (W : Wd), ds = ds0.drop i → i ≤ ds0.length → P i δ W → wpM (goFor T B ds δ) W (fun p W' => p.1 = .nx ∧ P ds0.length p.2 W') E
  | [], i, δ, W, e, hi, h => by
    have : i = ds0.length := by
      have := congrArg List.length e
      rw [List.length_nil, List.length_drop] at this
      omega
    subst this
    exact ⟨rfl, h⟩
  | d :: ds, i, δ, W, e, hi, h => by
    have hlt : i < ds0.length := by
      have := congrArg List.length e
      rw [List.length_cons, List.length_drop] at this
      omega
    rw [List.drop_eq_getElem_cons hlt] at e
    injection e with e1 e2
    rw [w_goFor]
    refine wpM_mono (step i d δ W (by rw [List.getElem?_eq_getElem hlt, e1]) h) (fun δ1 W1 h1 => ?_) fun _ _ e => e
    rw [kB_ap, w_forH]
    refine wpM_mono h1 (fun p W2 h2 => ?_) fun _ _ e => e
    obtain ⟨f, δ2⟩ := p
    obtain ⟨hf, h2⟩ := h2
    rcases hf with hf | hf
    · obtain rfl : f = .nx := hf
      exact goFor_inv P ds0 step ds (i + 1) δ2 W2 e2 hlt h2
    · obtain rfl : f = .ct := hf
      exact goFor_inv P ds0 step ds (i + 1) δ2 W2 e2 hlt h2
/-! what is walked -/
def iterA (u : RV) : M (List D) := (toD u).bind itemsOf
@[simp] theorem w_iter : wpM (evIter F δ) W QD E = wpM (F δ) W (kB iterA QD E) E := propext wpM_bind
@[simp] theorem iterA_l {xs : List D} : iterA (.d (.lst xs)) = M.ret xs := (rfl)
@[simp] theorem iterA_t {xs : List D} : iterA (.d (.tup xs)) = M.ret xs := (rfl)
@[simp] theorem iterA_s {z : Str} : iterA (.d (.str z)) = M.ret (charsOf z) := (rfl)
def rng1 (us : List RV) : M (List D) := (M.opt (intsL us)).bind fun ns => match ns with
  | [j] => (M.guard (-(2 ^ 62) ≤ j ∧ j < 2 ^ 62)).bind fun _ => M.ret (intsFrom 0 j.toNat)
  | _ => M.fail
@[simp] theorem w_range1 : wpM (evRange1 R δ) W QD E = wpM (R δ) W (kB rng1 QD E) E := propext wpM_bind
theorem w_rng1 {j : Int} : wpM (rng1 [.d (.int j)]) W QD E = ((-(2 ^ 62) ≤ j ∧ j < 2 ^ 62) ∧ QD (intsFrom 0 j.toNat) W) := by
  show wpM ((M.guard _).bind _) W QD E = _
  rw [w_bind, w_guard]; rfl
@[simp] theorem w_rng1n {k : Nat} : wpM (rng1 [.d (.int (k : Nat))]) W QD E = (k < 2 ^ 62 ∧ QD (intsFrom 0 k) W) := by
  rw [w_rng1]
  refine propext ⟨fun h => ⟨?_, ?_⟩, fun h => ⟨⟨?_, ?_⟩, ?_⟩⟩
  · have := h.1.2; omega
  · have := h.2; rwa [Int.toNat_natCast] at this
  · omega
  · have := h.1; omega
  · rw [Int.toNat_natCast]; exact h.2
@[simp] theorem w_rng1l {k : Nat} : wpM (rng1 [.d (.int (@OfNat.ofNat Int k instOfNat))]) W QD E = (k < 2 ^ 62 ∧ QD (intsFrom 0 k) W) := w_rng1n (k := k)
def rng2 (us : List RV) : M (List D) := (M.opt (intsL us)).bind fun ns => match ns with
  | [i, j] => (M.guard (-(2 ^ 62) ≤ i ∧ i < 2 ^ 62 ∧ -(2 ^ 62) ≤ j ∧ j < 2 ^ 62)).bind fun _ => M.ret (intsFrom i (j - i).toNat)
  | _ => M.fail
@[simp] theorem w_range2 : wpM (evRange2 R δ) W QD E = wpM (R δ) W (kB rng2 QD E) E := propext wpM_bind
@[simp] theorem w_rng2 {i j : Int} : wpM (rng2 [.d (.int i), .d (.int j)]) W QD E = ((-(2 ^ 62) ≤ i ∧ i < 2 ^ 62 ∧ -(2 ^ 62) ≤ j ∧ j < 2 ^ 62) ∧ QD (intsFrom i (j - i).toNat) W) := by
  show wpM ((M.guard _).bind _) W QD E = _
  rw [w_bind, w_guard]; rfl
def enumA (us : List RV) : M (List D) := match us with
  | [u] => (toD u).bind itemsE
  | _ => M.fail
@[simp] theorem w_enum : wpM (evEnum R δ) W QD E = wpM (R δ) W (kB enumA QD E) E := by
  unfold evEnum
  rw [w_bind]
  congr 2
@[simp] theorem enumA_l {xs : List D} : enumA [.d (.lst xs)] = M.ret (enumD xs) := (rfl)
@[simp] theorem enumA_s {z : Str} : enumA [.d (.str z)] = M.ret (enumD (charsOf z)) := (rfl)
def zipA (us : List RV) : M (List D) := match us with
  | [u, v] => (toD u).bind fun x => (toD v).bind fun y => itemsZ x y
  | _ => M.fail
@[simp] theorem w_zip : wpM (evZip R δ) W QD E = wpM (R δ) W (kB zipA QD E) E := by
  unfold evZip
  rw [w_bind]
  congr 2
@[simp] theorem zipA_l {xs ys : List D} : zipA [.d (.lst xs), .d (.lst ys)] = M.ret (zipD xs ys) := (rfl)
@[simp] theorem zipA_t {xs ys : List D} : zipA [.d (.tup xs), .d (.tup ys)] = M.ret (zipD xs ys) := (rfl)
/-! toD, freezing -/
@[simp] theorem w_toD_d {x : D} {QX : D → Wd → Prop} : wpM (toD (.d x)) W QX E = QX x W := (rfl)
def frzM (l : Nat) (o : Option MO) (QX : D → Wd → Prop) (W : Wd) : Prop := match o with
  | some (.fz x) => QX x W
  | some (.lst xs) => match pureL xs with
    | some ds => QX (.lst ds) (W.set l (.fz (.lst ds)))
    | none => False
  | none => False
@[simp] theorem w_toD_r {l : Nat} {QX : D → Wd → Prop} : wpM (toD (.r l)) W QX E = frzM l (W[l]?) QX W := by
  unfold wpM toD frzM
  dsimp only
  cases W[l]? with
  | none => rfl
  | some o =>
    cases o with
    | fz x => rfl
    | lst xs => dsimp only; cases pureL xs <;> rfl
theorem pureL_map : ∀ {ds : List D}, pureL (ds.map RV.d) = some ds
  | [] => rfl
  | d :: ds => by
    show (pureL (ds.map RV.d)).map (d :: ·) = _
    rw [pureL_map]; rfl
@[simp] theorem frzM_l {l : Nat} {ds : List D} {QX : D → Wd → Prop} : frzM l (some (.lst (ds.map RV.d))) QX W = QX (.lst ds) (W.set l (.fz (.lst ds))) := by
  unfold frzM
  dsimp only
  rw [pureL_map]
@[simp] theorem frzM_f {l : Nat} {x : D} {QX : D → Wd → Prop} : frzM l (some (.fz x)) QX W = QX x W := (rfl)
def frzA (u : RV) : M RV := (toD u).bind fun d => M.ret (.d d)
def frzB (d : D) : M RV := M.ret (.d d)
@[simp] theorem frzB_ap {d : D} : frzB d = M.ret (.d d) := (rfl)
@[simp] theorem w_frz : wpM (evFrz F δ) W Q E = wpM (F δ) W (kB frzA Q E) E := propext wpM_bind
@[simp] theorem w_frzA {u : RV} : wpM (frzA u) W Q E = wpM (toD u) W (kB frzB Q E) E := propext wpM_bind
@[simp] theorem w_iterA_r {l : Nat} : wpM (iterA (.r l)) W QD E = frzM l (W[l]?) (kB itemsOf QD E) W := by
  show wpM ((toD _).bind _) W QD E = _
  rw [w_bind, w_toD_r]
@[simp] theorem itemsOf_l {xs : List D} : itemsOf (.lst xs) = M.ret xs := (rfl)
@[simp] theorem itemsOf_t {xs : List D} : itemsOf (.tup xs) = M.ret xs := (rfl)
/-! comprehensions -/
theorem w_noEr {α : Type} {m : M α} {QX : α → Wd → Prop} (h : wpM m W QX (fun _ _ => False)) : wpM (noEr m) W QX E := by
  unfold wpM at h
  unfold wpM noEr
  cases e : m W with
  | none => rw [e] at h; exact h.elim
  | some p =>
    obtain ⟨r, W'⟩ := p
    rw [e] at h
    cases r with
    | ok a => exact h
    | error x => exact h.elim
def lcF (mk : Bool) (T : RV → Env → M Env) (C : Env → M Bool) (Ee : Env → M RV) (δ : Env) (ds : List D) : M RV := noEr (goLc mk T C Ee δ ds [])
@[simp] theorem w_lc {mk : Bool} {own : List Nat} : wpM (evLc mk own S T Ta F δ) W Q E = wpM (S δ) W (kB (lcF mk T Ta F (wipeD δ own)) Q E) E := propext wpM_bind
def lcC (mk : Bool) (T : RV → Env → M Env) (C : Env → M Bool) (Ee : Env → M RV) (δ : Env) (ds : List D) (acc : List RV) (δ1 : Env) : M RV := (C δ1).bind fun b => if b then (Ee δ1).bind fun v => (M.guard (acc.length < sizeLine)).bind fun _ => goLc mk T C Ee δ ds (acc ++ [v]) else goLc mk T C Ee δ ds acc
def lcI (mk : Bool) (T : RV → Env → M Env) (C : Env → M Bool) (Ee : Env → M RV) (δ : Env) (ds : List D) (acc : List RV) (δ1 : Env) (b : Bool) : M RV := if b then (Ee δ1).bind fun v => (M.guard (acc.length < sizeLine)).bind fun _ => goLc mk T C Ee δ ds (acc ++ [v]) else goLc mk T C Ee δ ds acc
def lcV (mk : Bool) (T : RV → Env → M Env) (C : Env → M Bool) (Ee : Env → M RV) (δ : Env) (ds : List D) (acc : List RV) (v : RV) : M RV := (M.guard (acc.length < sizeLine)).bind fun _ => goLc mk T C Ee δ ds (acc ++ [v])
theorem w_goLc {mk : Bool} {d : D} {ds : List D} {acc : List RV} : wpM (goLc mk T Ta F δ (d :: ds) acc) W Q E = wpM (T (.d d) δ) W (kB (lcC mk T Ta F δ ds acc) Q E) E := by
  rw [goLc, w_bind]
  rfl
theorem w_goLc0 {mk : Bool} {acc : List RV} : wpM (goLc mk T Ta F δ [] acc) W Q E = wpM (newL mk acc) W Q E := rfl
@[simp] theorem w_lcC {mk : Bool} {ds : List D} {acc : List RV} {δ1 : Env} : wpM (lcC mk T Ta F δ ds acc δ1) W Q E = wpM (Ta δ1) W (kB (lcI mk T Ta F δ ds acc δ1) Q E) E := propext wpM_bind
@[simp] theorem w_lcI_f {mk : Bool} {ds : List D} {acc : List RV} {δ1 : Env} : wpM (lcI mk T Ta F δ ds acc δ1 false) W Q E = wpM (goLc mk T Ta F δ ds acc) W Q E := (rfl)
@[simp] theorem w_lcI_t {mk : Bool} {ds : List D} {acc : List RV} {δ1 : Env} : wpM (lcI mk T Ta F δ ds acc δ1 true) W Q E = wpM (F δ1) W (kB (lcV mk T Ta F δ ds acc) Q E) E := propext wpM_bind
@[simp] theorem w_lcV {mk : Bool} {ds : List D} {acc : List RV} {v : RV} : wpM (lcV mk T Ta F δ ds acc v) W Q E = (acc.length < sizeLine ∧ wpM (goLc mk T Ta F δ ds (acc ++ [v])) W Q E) := by
  unfold lcV
  rw [w_bind, w_guard]; rfl
/-- a comprehension by an invariant over what is gathered -/
theorem goLc_inv {mk : Bool} (P : Nat → List RV → Wd → Prop) (ds0 : List D) (hz : ds0.length < sizeLine)
    (step : ∀ i d acc W, ds0[i]? = some d → P i acc W → wpM (T (.d d) δ) W (fun δ1 W1 => wpM (Ta δ1) W1 (fun b W2 => if b then wpM (F δ1) W2 (fun v W3 => P (i + 1) (acc ++ [v]) W3) E else P (i + 1) acc W2) E) E) :
    ∀ (ds : List D) (i : Nat) (acc : List RV) (W : Wd), ds = ds0.drop i → i ≤ ds0.length → acc.length ≤ i → P i acc W → (∀ acc W, acc.length ≤ ds0.length → P ds0.length acc W → wpM (newL mk acc) W Q E) → wpM (goLc mk T Ta F δ ds acc) W Q E
  | [], i, acc, W, e, hi, hl, h, fin => by
    have : i = ds0.length := by
      have := congrArg List.length e
      rw [List.length_nil, List.length_drop] at this
      omega
    subst this
    exact fin acc W hl h
  | d :: ds, i, acc, W, e, hi, hl, h, fin => by
    have hlt : i < ds0.length := by
      have := congrArg List.length e
      rw [List.length_cons, List.length_drop] at this
      omega
    rw [List.drop_eq_getElem_cons hlt] at e
    injection e with e1 e2
    rw [w_goLc]
    refine wpM_mono (step i d acc W (by rw [List.getElem?_eq_getElem hlt, e1]) h) (fun δ1 W1 h1 => ?_) fun _ _ e => e
    rw [kB_ap, w_lcC]
    refine wpM_mono h1 (fun b W2 h2 => ?_) fun _ _ e => e
    cases b with
    | false => exact goLc_inv P ds0 hz step ds (i + 1) acc W2 e2 hlt (by omega) h2 fin
    | true =>
      rw [kB_ap, w_lcI_t]
      refine wpM_mono h2 (fun v W3 h3 => ?_) fun _ _ e => e
      rw [kB_ap, w_lcV]
      exact ⟨by omega, goLc_inv P ds0 hz step ds (i + 1) (acc ++ [v]) W3 e2 hlt (by rw [List.length_append, List.length_singleton]; omega) h3 fin⟩
/-- a comprehension of pure tests and items, the world left as it is -/
theorem goLc_fm {ds0 : List D} (c : D → Bool) (f : D → D) (hz : ds0.length < sizeLine)
    (step : ∀ d, d ∈ ds0 → wpM (T (.d d) δ) W (fun δ1 W1 => wpM (Ta δ1) W1 (fun b W2 => b = c d ∧ (b = true → wpM (F δ1) W2 (fun v W3 => v = .d (f d) ∧ W3 = W) E) ∧ (b = false → W2 = W)) E) E) (h : Q (.d (.lst ((ds0.filter c).map f))) W) :
    wpM (goLc false T Ta F δ ds0 []) W Q E := by
  refine goLc_inv (P := fun i acc W' => acc = ((((ds0.take i).filter c).map f).map RV.d) ∧ W' = W) ds0 hz (fun i d acc W' hd hp => ?_) ds0 0 [] W rfl (Nat.zero_le _) (Nat.le_refl _) ⟨by simp, rfl⟩ fun acc W' _ hp => ?_
  · obtain ⟨rfl, rfl⟩ := hp
    have hm := List.mem_of_getElem? hd
    refine wpM_and (step d hm) fun δ1 W1 h1 => wpM_and h1 fun b W2 h2 => ?_
    obtain ⟨rfl, h3, h4⟩ := h2
    rw [List.take_add_one, hd]
    cases e : c d with
    | true =>
      rw [if_pos rfl]
      refine wpM_and (h3 e) fun v W3 h5 => ?_
      obtain ⟨rfl, rfl⟩ := h5
      simp [List.filter_append, e]
    | false =>
      rw [if_neg (by decide)]
      rw [h4 e]
      simp [List.filter_append, e]
  · obtain ⟨rfl, rfl⟩ := hp
    rw [w_newL_f, List.take_length]
    exact h
end
end DL
set_option Elab.async false
set_option linter.all false
set_option maxRecDepth 100000
set_option maxHeartbeats 4000000
/-! DL16: slices, joins, list(), +, evaluated. -/
namespace DL
open PySem PySem.Spec PyProof.Rows L2 RZ
section
variable {W : Wd} {E : DX → Wd → Prop} {δ : Env} {Q : RV → Wd → Prop} {QO : Option Int → Wd → Prop} {Fa Fb F : Env → M RV} {R : Env → M (List RV)} {Lo Hi : Env → M (Option Int)}
def oSF (u : RV) : M (Option Int) := (asI u).bind fun i => M.ret (some i)
@[simp] theorem oSF_i {i : Int} : oSF (.d (.int i)) = M.ret (some i) := (rfl)
@[simp] theorem w_oS : wpM (oS F δ) W QO E = wpM (F δ) W (kB oSF QO E) E := propext wpM_bind
def slA (mk : Bool) (Lo Hi : Env → M (Option Int)) (δ : Env) (u : RV) : M RV := (Lo δ).bind fun lo => (Hi δ).bind fun hi => opSl mk u lo hi
def slB (mk : Bool) (Hi : Env → M (Option Int)) (δ : Env) (u : RV) (lo : Option Int) : M RV := (Hi δ).bind fun hi => opSl mk u lo hi
def slC (mk : Bool) (u : RV) (lo hi : Option Int) : M RV := opSl mk u lo hi
@[simp] theorem w_sl {mk : Bool} : wpM (evSl mk F Lo Hi δ) W Q E = wpM (F δ) W (kB (slA mk Lo Hi δ) Q E) E := propext wpM_bind
@[simp] theorem w_slA {mk : Bool} {u : RV} : wpM (slA mk Lo Hi δ u) W Q E = wpM (Lo δ) W (kB (slB mk Hi δ u) Q E) E := propext wpM_bind
@[simp] theorem w_slB {mk : Bool} {u : RV} {lo : Option Int} : wpM (slB mk Hi δ u lo) W Q E = wpM (Hi δ) W (kB (slC mk u lo) Q E) E := propext wpM_bind
@[simp] theorem w_slC_s {mk : Bool} {z : Str} {lo hi : Option Int} : wpM (slC mk (.d (.str z)) lo hi) W Q E = (z.length ≤ sizeLine ∧ Q (.d (.str (cutS z lo hi))) W) := by
  show wpM ((M.guard _).bind _) W Q E = _
  rw [w_bind, w_guard]; rfl
theorem cutL_map {α β : Type} (f : α → β) (xs : List α) (lo hi : Option Int) : cutL (xs.map f) lo hi = (cutL xs lo hi).map f := by
  unfold cutL
  rw [List.length_map, ← List.map_drop, ← List.map_take]
def slK (mk : Bool) (lo hi : Option Int) (p : Bool × List RV) : M RV := if p.1 then (M.guard (¬ (HT.sIx p.2.length 0 lo = 0 ∧ HT.sIx p.2.length p.2.length hi = p.2.length))).bind fun _ => newT (cutL p.2 lo hi) else newL mk (cutL p.2 lo hi)
@[simp] theorem slK_f {mk : Bool} {lo hi : Option Int} {xs : List RV} : slK mk lo hi (false, xs) = newL mk (cutL xs lo hi) := (rfl)
@[simp] theorem w_slC_r {mk : Bool} {l : Nat} {lo hi : Option Int} : wpM (slC mk (.r l) lo hi) W Q E = lookK (seqOf W (.r l)) (kB (slK mk lo hi) Q E) W := by
  show wpM ((M.look _).bind _) W Q E = _
  rw [w_bind, w_look]; rfl
@[simp] theorem w_slC_l {xs : List D} {lo hi : Option Int} : wpM (slC false (.d (.lst xs)) lo hi) W Q E = Q (.d (.lst (cutL xs lo hi))) W := by
  unfold slC opSl
  dsimp only
  rw [w_bind, w_look]
  show wpM (newL false (cutL (xs.map RV.d) lo hi)) W Q E = _
  rw [cutL_map, w_newL_f]
@[simp] theorem w_slC_lt {xs : List D} {lo hi : Option Int} : wpM (slC true (.d (.lst xs)) lo hi) W Q E = Q (.r W.length) (W ++ [.lst ((cutL xs lo hi).map RV.d)]) := by
  unfold slC opSl
  dsimp only
  rw [w_bind, w_look]
  show wpM (newL true (cutL (xs.map RV.d) lo hi)) W Q E = _
  rw [cutL_map]; rfl
/-! methods of texts -/
def mth1B (f : Str → RV → M RV) (s : Str) (v : RV) : M RV := f s v
@[simp] theorem mth1B_ap {f : Str → RV → M RV} {s : Str} {v : RV} : mth1B f s v = f s v := (rfl)
def mth1A (f : Str → RV → M RV) (Fa : Env → M RV) (δ : Env) (u : RV) : M RV := (M.opt (match u with | .d (.str s) => some s | _ => none)).bind fun s => (Fa δ).bind fun v => f s v
@[simp] theorem w_mth1 {f : Str → RV → M RV} : wpM (evMth1 f F Fa δ) W Q E = wpM (F δ) W (kB (mth1A f Fa δ) Q E) E := propext wpM_bind
@[simp] theorem w_mth1A {f : Str → RV → M RV} {s : Str} : wpM (mth1A f Fa δ (.d (.str s))) W Q E = wpM (Fa δ) W (kB (mth1B f s) Q E) E := by
  show wpM ((Fa δ).bind _) W Q E = _
  rw [w_bind]; rfl
theorem strsL_map : ∀ ys : List Str, strsL ((ys.map D.str).map RV.d) = some ys
  | [] => rfl
  | y :: ys => by
    show (strsL ((ys.map D.str).map RV.d)).map (y :: ·) = _
    rw [strsL_map]; rfl
def joinF (s : Str) (ys : List Str) : M RV := (M.guard ((ys.map (·.length)).sum + ys.length * s.length ≤ 16777216)).bind fun _ => M.ret (.d (.str (Txt.join s ys)))
@[simp] theorem w_joinF {s : Str} {ys : List Str} : wpM (joinF s ys) W Q E = ((ys.map (·.length)).sum + ys.length * s.length ≤ 16777216 ∧ Q (.d (.str (Txt.join s ys))) W) := by
  unfold joinF
  rw [w_bind, w_guard]; rfl
def joinK (o : Option (Bool × List RV)) : Option (List Str) := o.bind fun p => strsL p.2
@[simp] theorem joinK_some {t : Bool} {xs : List RV} : joinK (some (t, xs)) = strsL xs := (rfl)
@[simp] theorem w_mJoin {s : Str} {u : RV} : wpM (mJoin s u) W Q E = lookK (joinK (seqOf W u)) (kB (joinF s) Q E) W := by
  unfold mJoin
  rw [w_bind, w_look]; rfl
@[simp] theorem mCount_s {s b : Str} : mCount s (.d (.str b)) = M.ret (.d (.int (Txt.count s b))) := (rfl)
/-! list(), tuple() -/
@[simp] theorem w_bList_l {mk : Bool} {xs : List D} : wpM (bList mk [.d (.lst xs)]) W Q E = wpM (newL mk (xs.map RV.d)) W Q E := by
  unfold bList
  dsimp only
  rw [w_bind, w_look]; rfl
@[simp] theorem w_bList_t {mk : Bool} {xs : List D} : wpM (bList mk [.d (.tup xs)]) W Q E = wpM (newL mk (xs.map RV.d)) W Q E := by
  unfold bList
  dsimp only
  rw [w_bind, w_look]; rfl
@[simp] theorem w_bList_s {mk : Bool} {z : Str} : wpM (bList mk [.d (.str z)]) W Q E = (z.cps.size ≤ sizeLine ∧ wpM (newL mk ((charsOf z).map RV.d)) W Q E) := by
  show wpM ((M.guard _).bind _) W Q E = _
  rw [w_bind, w_guard]; rfl
def listF (mk : Bool) (p : Bool × List RV) : M RV := newL mk p.2
@[simp] theorem listF_ap {mk t : Bool} {xs : List RV} : listF mk (t, xs) = newL mk xs := (rfl)
@[simp] theorem w_bList_r {mk : Bool} {l : Nat} : wpM (bList mk [.r l]) W Q E = lookK (seqOf W (.r l)) (kB (listF mk) Q E) W := by
  show wpM ((M.look _).bind _) W Q E = _
  rw [w_bind, w_look]; rfl
theorem w_bTuple_l {xs : List D} : wpM (bTuple [.d (.lst xs)]) W Q E = Q (.d (.tup xs)) W := by
  unfold bTuple
  dsimp only
  rw [w_bind, w_look]
  show wpM (newT (xs.map RV.d)) W Q E = _
  rw [w_newT]
/-! + of lists -/
def catF (mk : Bool) (xs ys : List RV) : M RV := (M.guard (xs.length + ys.length ≤ sizeLine)).bind fun _ => newL mk (xs ++ ys)
@[simp] theorem w_catF {mk : Bool} {xs ys : List RV} : wpM (catF mk xs ys) W Q E = (xs.length + ys.length ≤ sizeLine ∧ wpM (newL mk (xs ++ ys)) W Q E) := by
  unfold catF
  rw [w_bind, w_guard]; rfl
def catK (mk : Bool) (ys : List RV) (o : Option (Bool × List RV)) (Q : RV → Wd → Prop) (E : DX → Wd → Prop) (W : Wd) : Prop := match o with
  | some (false, xs) => wpM (catF mk xs ys) W Q E
  | _ => False
@[simp] theorem catK_f {mk : Bool} {xs ys : List RV} : catK mk ys (some (false, xs)) Q E W = wpM (catF mk xs ys) W Q E := (rfl)
@[simp] theorem w_add_rl {mk : Bool} {l : Nat} {ys : List D} : wpM (opAdd mk (.r l) (.d (.lst ys))) W Q E = catK mk (ys.map RV.d) (seqOf W (.r l)) Q E W := by
  have e : opAdd mk (.r l) (.d (.lst ys)) = opCat mk (.r l) (.d (.lst ys)) := rfl
  rw [e]
  unfold opCat catK
  rw [w_bind, w_look]
  cases h : seqOf W (.r l) with
  | none => rfl
  | some p =>
    obtain ⟨t, xs⟩ := p
    cases t with
    | true => rfl
    | false => rfl
@[simp] theorem w_add_ll {mk : Bool} {xs ys : List D} : wpM (opAdd mk (.d (.lst xs)) (.d (.lst ys))) W Q E = wpM (catF mk (xs.map RV.d) (ys.map RV.d)) W Q E := by
  have e : opAdd mk (.d (.lst xs)) (.d (.lst ys)) = opCat mk (.d (.lst xs)) (.d (.lst ys)) := rfl
  rw [e]
  unfold opCat
  rw [w_bind, w_look]
  rfl
def sumK (o : Option (Bool × List RV)) : Option (List Int) := o.bind fun p => if p.1 then none else intsL p.2
@[simp] theorem sumK_some {xs : List RV} : sumK (some (false, xs)) = intsL xs := (rfl)
def sumF (ns : List Int) : M RV := M.ret (.d (.int ns.sum))
@[simp] theorem sumF_ap {ns : List Int} : sumF ns = M.ret (.d (.int ns.sum)) := (rfl)
@[simp] theorem w_bSum {u : RV} : wpM (bSum [u]) W Q E = lookK (sumK (seqOf W u)) (kB sumF Q E) W := by
  show wpM ((M.look _).bind _) W Q E = _
  rw [w_bind, w_look]; rfl
theorem intsL_map : ∀ ns : List Int, intsL ((ns.map D.int).map RV.d) = some ns
  | [] => rfl
  | y :: ys => by
    show (intsL ((ys.map D.int).map RV.d)).map (y :: ·) = _
    rw [intsL_map]; rfl
end
end DL
set_option Elab.async false
set_option linter.all false
set_option maxRecDepth 100000
set_option maxHeartbeats 4000000
/-! DZ: dict(zip(..)) over two iterators of any kind. -/
namespace DL
open PySem PySem.Spec PyProof.Rows L2 RZ
open PySem.W (KdxIt kdx_alive)
section
variable {prog : Program} {w : World} {A : Around} {E : Value → Shared → Prop} {s : Shared} {z TI TO i1 i2 T : Addr} {f : Bool} {oT : Obj} {fp1 fp2 : List Addr} {n1 n2 i : Nat} {P1 P2 : Nat → Value → Prop} {St1 St2 : Nat → Heap → Prop}
abbrev ZH (h : Heap) (z TI TO T : Addr) (f : Bool) : Prop := IsZipHeld h z TI TO T f
theorem dz_item {Q : Value → Shared → Prop} (S : ZipSep2 z TI TO i1 i2 fp1 fp2) (D1 : Draws prog w A i1 fp1 n1 P1 St1) (D2 : Draws prog w A i2 fp2 n2 P2 St2)
    (hz : ZH s.heap z TI TO T f) (hT : s.heap.get? T = some oT) (hTI : IsTupOf2 s.heap TI (.ref i1) (.ref i2)) (st1 : St1 i s.heap) (st2 : St2 i s.heap) (lt1 : i < n1) (lt2 : i < n2)
    (hQ : ∀ x1 x2 h' tk, P1 i x1 → P2 i x2 → ZH h' z TI TO T true → St1 (i + 1) h' → St2 (i + 1) h' → IsTupOf2 h' s.heap.objs.size x1 x2 →
      (∀ c o, c ≠ z → c ≠ i1 → c ≠ i2 → s.heap.get? c = some o → h'.get? c = some o) → Q (.ref s.heap.objs.size) { s with heap := h', toks := tk }) :
    wpAny (model prog w) A (Builtin.«zip.__next__» ⟨[.ref z], []⟩) (fun fin t => ∃ v, fin = .done (.ret v) ∧ Q v t) E s := by
  obtain ⟨hp, g, d, t0, os⟩ := s
  show wpAny _ A (field (.ref z) 2 >>= _) _ E ⟨hp, g, d, t0, os⟩
  refine wpAny_bind (wpAny_field (x := Value.bool false) hz rfl rfl ?_)
  show wpAny _ A (field (.ref z) 3 >>= _) _ E ⟨hp, g, d, t0, os⟩
  refine wpAny_bind (wpAny_field (x := Value.ref TI) hz rfl rfl (wpAny_bind (wpAny_seqItems hTI rfl ?_)))
  show wpAny _ A (Builtin.SmallTypes.ownedTupleIsFree (.ref z) >>= _) _ E ⟨hp, g, d, t0, os⟩
  refine wpAny_bind (wpAny_tupleHeld_zip hz hT fun a0 za sa => ?_)
  have ka : Heap.SameBut z hp a0 := sa
  simp only [Bool.false_eq_true, if_false, ← Array.forIn_toList, List.forIn_cons, List.forIn_nil]
  refine wpAny_bind (wpAny_bind (wpAny_bind (wpAny_holding ?_)))
  show wpAny _ A (Builtin.SmallTypes.nextOf (.ref i1) >>= _) _ E ⟨a0, g, d, t0, os⟩
  refine wpAny_bind (D1.item i _ _ _ lt1 (D1.over st1 ka S.zf1) fun x1 b0 t1 px1 sb1 kb => wpAny_pure (wpAny_pure ?_))
  have kb' : Heap.SameBut i1 a0 b0 := kb
  refine wpAny_bind (wpAny_bind (wpAny_holding ?_))
  show wpAny _ A (Builtin.SmallTypes.nextOf (.ref i2) >>= _) _ E ⟨b0, g, d, t1, os⟩
  refine wpAny_bind (D2.item i _ _ _ lt2 (D2.over (D2.over st2 ka S.zf2) kb' S.sep1_2) fun x2 c0 t2 px2 sc2 kc => wpAny_pure (wpAny_pure (wpAny_pure ?_)))
  have kc' : Heap.SameBut i2 b0 c0 := kc
  show wpAny _ A (newTuple [x1, x2] >>= fun v => ret v) _ E ⟨c0, g, d, t2, os⟩
  have hsz : c0.objs.size = hp.objs.size := by rw [kc'.1, kb'.1, ka.1]
  have up : ∀ c o, c ≠ z → c ≠ i1 → c ≠ i2 → hp.get? c = some o → c0.get? c = some o := fun c o m1 m2 m3 e => kc'.extBut _ _ m3 (kb'.extBut _ _ m2 (ka.extBut _ _ m1 e))
  have zc : ZH c0 z TI TO T true := kc'.extBut _ _ S.zi2 (kb'.extBut _ _ S.zi1 za)
  refine wpAny_bind (wpAny_newTuple (wpAny_pure ⟨_, rfl, ?_⟩))
  have q := hQ x1 x2 (c0.push { cls := .type "tuple", data := .seq #[x1, x2] }) t2 px1 px2 (Heap.get?_push_of_some _ zc)
    (D1.frame _ _ _ (D1.over sb1 kc' S.sep2_1) fun b _ o e => Heap.get?_push_of_some _ e) (D2.frame _ _ _ sc2 fun b _ o e => Heap.get?_push_of_some _ e)
    (by rw [← hsz]; exact Heap.get?_push_size _ rfl) fun c o m1 m2 m3 e => Heap.get?_push_of_some _ (up c o m1 m2 m3 e)
  show Q (.ref c0.objs.size) _
  rw [hsz]
  exact q
theorem dz_end {Q : Fin → Shared → Prop} (S : ZipSep2 z TI TO i1 i2 fp1 fp2) (D1 : Draws prog w A i1 fp1 n1 P1 St1) (D2 : Draws prog w A i2 fp2 n2 P2 St2)
    (hz : ZH s.heap z TI TO T f) (hT : s.heap.get? T = some oT) (hTI : IsTupOf2 s.heap TI (.ref i1) (.ref i2)) (st1 : St1 i s.heap) (st2 : St2 i s.heap) (le1 : i ≤ n1) (le2 : i ≤ n2) (hend : i = n1 ∨ i = n2)
    (hE : ∀ h' tk e, (∀ c o, c ≠ z → c ≠ i1 → c ≠ i2 → s.heap.get? c = some o → h'.get? c = some o) → (∃ o, h'.get? e = some o ∧ o.cls = .type "StopIteration") → E (.ref e) { s with heap := h', toks := tk }) :
    wpAny (model prog w) A (Builtin.«zip.__next__» ⟨[.ref z], []⟩) Q E s := by
  obtain ⟨hp, g, d, t0, os⟩ := s
  show wpAny _ A (field (.ref z) 2 >>= _) _ E ⟨hp, g, d, t0, os⟩
  refine wpAny_bind (wpAny_field (x := Value.bool false) hz rfl rfl ?_)
  show wpAny _ A (field (.ref z) 3 >>= _) _ E ⟨hp, g, d, t0, os⟩
  refine wpAny_bind (wpAny_field (x := Value.ref TI) hz rfl rfl (wpAny_bind (wpAny_seqItems hTI rfl ?_)))
  show wpAny _ A (Builtin.SmallTypes.ownedTupleIsFree (.ref z) >>= _) _ E ⟨hp, g, d, t0, os⟩
  refine wpAny_bind (wpAny_tupleHeld_zip hz hT fun a0 za sa => ?_)
  have ka : Heap.SameBut z hp a0 := sa
  simp only [Bool.false_eq_true, if_false, ← Array.forIn_toList, List.forIn_cons, List.forIn_nil]
  refine wpAny_bind (wpAny_bind (wpAny_bind (wpAny_holding ?_)))
  show wpAny _ A (Builtin.SmallTypes.nextOf (.ref i1) >>= _) _ E ⟨a0, g, d, t0, os⟩
  by_cases lt1 : i < n1
  · refine wpAny_bind (D1.item i _ _ _ lt1 (D1.over st1 ka S.zf1) fun x1 b0 t1 px1 sb1 kb => wpAny_pure (wpAny_pure ?_))
    have kb' : Heap.SameBut i1 a0 b0 := kb
    have hi : i = n2 := by omega
    refine wpAny_bind (wpAny_bind (wpAny_holding ?_))
    show wpAny _ A (Builtin.SmallTypes.nextOf (.ref i2) >>= _) _ E ⟨b0, g, d, t1, os⟩
    refine wpAny_bind (D2.done ⟨b0, g, d, t1, os⟩ _ _ (by rw [← hi]; exact D2.over (D2.over st2 ka S.zf2) kb' S.sep1_2) fun c0 e kc he => ?_)
    exact hE c0 t1 e (fun c o m1 m2 m3 x => kc c o m3 (kb'.extBut _ _ m2 (ka.extBut _ _ m1 x))) he
  · have hi : i = n1 := by omega
    refine wpAny_bind (D1.done ⟨a0, g, d, t0, os⟩ _ _ (by rw [← hi]; exact D1.over st1 ka S.zf1) fun c0 e kc he => ?_)
    exact hE c0 t0 e (fun c o m1 m2 m3 x => kc c o m2 (ka.extBut _ _ m1 x)) he
theorem dz_next {Q : Option Value → Shared → Prop} (S : ZipSep2 z TI TO i1 i2 fp1 fp2) (D1 : Draws prog w A.in1 i1 fp1 n1 P1 St1) (D2 : Draws prog w A.in1 i2 fp2 n2 P2 St2)
    (hz : ZH s.heap z TI TO T f) (hT : s.heap.get? T = some oT) (hTI : IsTupOf2 s.heap TI (.ref i1) (.ref i2)) (st1 : St1 i s.heap) (st2 : St2 i s.heap) (lt1 : i < n1) (lt2 : i < n2)
    (hQ : ∀ x1 x2 h' tk, P1 i x1 → P2 i x2 → ZH h' z TI TO T true → St1 (i + 1) h' → St2 (i + 1) h' → IsTupOf2 h' s.heap.objs.size x1 x2 →
      (∀ c o, c ≠ z → c ≠ i1 → c ≠ i2 → s.heap.get? c = some o → h'.get? c = some o) → Q (some (.ref s.heap.objs.size)) { s with heap := h', toks := tk }) :
    wpAny (model prog w) A (pyNext (.ref z)) Q E s := by
  have ty : s.TypeIs (.ref z) "zip" := ⟨_, hz, rfl⟩
  unfold pyNext
  refine wpAny_bind (wpAny_attempt (wpAny_callSpecial?_slot (name := PySem.Str.ofString "__next__") ty PySem.F.slot_zip_next ?_))
  refine wpAny_call_entry PySem.F.slot_zip_next ty PySem.F.entry_zip_next ?_ (PySem.F.args_zip_next_1 _)
  exact dz_item S D1 D2 hz hT hTI st1 st2 lt1 lt2 fun x1 x2 h' tk p1 p2 b1 b2 b3 b4 b5 => wpAny_pure (hQ x1 x2 h' tk p1 p2 b1 b2 b3 b4 b5)
theorem dz_done {Q : Option Value → Shared → Prop} (S : ZipSep2 z TI TO i1 i2 fp1 fp2) (D1 : Draws prog w A.in1 i1 fp1 n1 P1 St1) (D2 : Draws prog w A.in1 i2 fp2 n2 P2 St2)
    (hz : ZH s.heap z TI TO T f) (hT : s.heap.get? T = some oT) (hTI : IsTupOf2 s.heap TI (.ref i1) (.ref i2)) (st1 : St1 i s.heap) (st2 : St2 i s.heap) (le1 : i ≤ n1) (le2 : i ≤ n2) (hend : i = n1 ∨ i = n2)
    (hQ : ∀ h' tk, (∀ c o, c ≠ z → c ≠ i1 → c ≠ i2 → s.heap.get? c = some o → h'.get? c = some o) → Q none { s with heap := h', toks := tk }) : wpAny (model prog w) A (pyNext (.ref z)) Q E s := by
  have ty : s.TypeIs (.ref z) "zip" := ⟨_, hz, rfl⟩
  unfold pyNext
  refine wpAny_bind (wpAny_attempt (wpAny_callSpecial?_slot (name := PySem.Str.ofString "__next__") ty PySem.F.slot_zip_next ?_))
  refine wpAny_call_entry PySem.F.slot_zip_next ty PySem.F.entry_zip_next (dz_end S D1 D2 hz hT hTI st1 st2 le1 le2 hend fun h' tk e hk he => ?_) (PySem.F.args_zip_next_1 _)
  obtain ⟨o, ho, hc⟩ := he
  exact wpAny_bind (wpAny_isInstance (T := "StopIteration") (b := true) ⟨o, ho, hc⟩ isSubtype_stop (wpAny_pure (hQ _ _ hk)))
end
/-- what stands of a zip of a text and a list -/
structure TL (z TI TO i1 i2 l : Addr) (x : PySem.Str) (t : Tok) (its : Array Value) (h : Heap) : Prop where
  zip : IsZip h z TI TO .none
  ti : IsTupOf2 h TI (.ref i1) (.ref i2)
  to : ∃ a b, IsTupOf2 h TO a b
  s1 : h.IsStrIter i1 (strIterType x) x t 0
  s2 : h.IsListIter i2 l 0
  ls : h.IsList l its
theorem pairs_tl {prog : Program} {w : World} {z TI TO i1 i2 l : Addr} (S : ZipSep2 z TI TO i1 i2 [i1] [i2, l]) (hne : l ≠ i2) (hTl : TI ≠ l) (x : PySem.Str) (t : Tok) (its : Array Value) :
    PairArg prog w "zip" z [z, TI, TO, i1, i2, l] [z, TO, i1, i2] (min x.cps.size its.size) (fun i k v => (∃ c u, x.cps[i]? = some c ∧ k = .str ⟨#[c]⟩ u) ∧ its[i]? = some v) (TL z TI TO i1 i2 l x t its) where
  type := fun s ok => ⟨_, ok.zip, rfl⟩
  notDict := by decide
  keep := fun h h' ok hk => by
    obtain ⟨a, b, e⟩ := ok.to
    obtain ⟨o1, e1, r1⟩ := ok.s1
    exact ⟨hk _ _ ok.zip, hk _ _ ok.ti, ⟨a, b, hk _ _ e⟩, ⟨o1, hk _ _ e1, r1⟩, ok.s2.at fun o e => hk _ o e, ok.ls.at fun o e => hk _ o e⟩
  there := fun h ok b hb => by
    obtain ⟨a, c, e⟩ := ok.to
    obtain ⟨o1, e1, _⟩ := ok.s1
    obtain ⟨o2, e2, _⟩ := ok.s2
    obtain ⟨o3, e3, _⟩ := ok.ls
    simp only [List.mem_cons, List.not_mem_nil, or_false] at hb
    rcases hb with rfl | rfl | rfl | rfl | rfl | rfl
    · exact ⟨_, ok.zip⟩
    · exact ⟨_, ok.ti⟩
    · exact ⟨_, e⟩
    · exact ⟨_, e1⟩
    · exact ⟨_, e2⟩
    · exact ⟨_, e3⟩
  sub := fun b hb => by
    simp only [List.mem_cons, List.not_mem_nil, or_false] at hb ⊢
    rcases hb with h | h | h | h <;> simp [h]
  noKeys := fun A s Q E hA ok h => getAttrOr_miss_zip ok.zip rfl rfl rfl zip_no_keys (by decide +kernel) hA h
  iter := fun A s d Q E hA ok hd hdf hc => by
    obtain ⟨a, b, eTO⟩ := ok.to
    simp only [List.mem_cons, List.not_mem_nil, or_false, not_or] at hdf
    obtain ⟨dz, dTI, dTO, d1, d2, dl⟩ := hdf
    have D1 : ∀ A' : Around, A'.handled = none → Draws prog w A' i1 [i1] x.cps.size (fun i v => ∃ c u, x.cps[i]? = some c ∧ v = .str ⟨#[c]⟩ u) (fun i h => h.IsStrIter i1 (strIterType x) x t i) := fun A' h => Draws.text h i1 x t
    have D2 : ∀ A' : Around, A'.handled = none → Draws prog w A' i2 [i2, l] its.size (fun i v => its[i]? = some v) (fun i h => h.IsListIter i2 l i ∧ h.IsList l its) := fun A' h => Draws.list h i2 l hne its
    refine wpAny_pyIter_zip ok.zip (hc z [z, TO, i1, i2] (fun i h => IsTupOf2 h TI (.ref i1) (.ref i2) ∧ h.IsStrIter i1 (strIterType x) x t i ∧ (h.IsListIter i2 l i ∧ h.IsList l its) ∧
      ((IsZip h z TI TO .none ∧ ∃ a b, IsTupOf2 h TO a b) ∨ ∃ T f oT, ZH h z TI TO T f ∧ h.get? T = some oT ∧ T ≠ z ∧ T ≠ i1 ∧ T ≠ i2 ∧ T ≠ d)) s.heap s.toks ?_
      ⟨ok.ti, ok.s1, ⟨ok.s2, ok.ls⟩, .inl ⟨ok.zip, a, b, eTO⟩⟩ (fun _ _ e => e) fun b hb => .inl hb)
    exact {
      off := fun hm => by
        simp only [List.mem_cons, List.not_mem_nil, or_false] at hm
        rcases hm with e | e | e | e
        · exact dz e
        · exact dTO e
        · exact d1 e
        · exact d2 e
      frame := fun i h₁ h₂ st hk => by
        obtain ⟨q1, q2, ⟨q3, q4⟩, q5⟩ := st
        obtain ⟨o1, e1, r1⟩ := q2
        refine ⟨hk _ _ (Ne.symm dTI) q1, ⟨o1, hk _ _ (Ne.symm d1) e1, r1⟩, ⟨q3.at fun o e => hk _ o (Ne.symm d2) e, q4.at fun o e => hk _ o (Ne.symm dl) e⟩, ?_⟩
        rcases q5 with ⟨hz, a, b, e⟩ | ⟨T, f, oT, hz, hT, m1, m2, m3, m4⟩
        · exact .inl ⟨hk _ _ (Ne.symm dz) hz, a, b, hk _ _ (Ne.symm dTO) e⟩
        · exact .inr ⟨T, f, oT, hk _ _ (Ne.symm dz) hz, hk _ _ m4 hT, m1, m2, m3, m4⟩
      item := fun i s₁ Q₁ E₁ hi st hds hQ => by
        obtain ⟨q1, q2, q34, q5⟩ := st
        have l1 : i < x.cps.size := Nat.lt_of_lt_of_le hi (Nat.min_le_left ..)
        have l2 : i < its.size := Nat.lt_of_lt_of_le hi (Nat.min_le_right ..)
        have away : ∀ {c o}, s₁.heap.get? c = some o → s₁.heap.objs.size ≠ c := fun e => Nat.ne_of_gt (Heap.lt_size e)
        have w1 : s₁.heap.objs.size ≠ i1 := let ⟨_, e, _⟩ := q2; away e
        have w2 : s₁.heap.objs.size ≠ i2 := let ⟨_, e, _⟩ := q34.1; away e
        rcases q5 with ⟨hz, a, b, e⟩ | ⟨T, f, oT, hz, hT, m1, m2, m3, m4⟩
        · refine wpAny_pyNext_zipD2_item S (D1 _ hA) (D2 _ hA) hz q1 e q2 q34 l1 l2 fun x1 x2 h' tk p1 p2 b1 b2 c1 c2 b3 b4 b5 => ?_
          exact hQ s₁.heap.objs.size _ _ h' tk ⟨p1, p2⟩ (.inl ⟨_, b3, rfl, _, rfl⟩) ⟨b5 _ _ S.TIz S.TITO S.TIi1 S.TIi2 q1, c1, c2, .inr ⟨s₁.heap.objs.size, false, _, b1, b3, away hz, w1, w2, Nat.ne_of_gt hds⟩⟩
            fun c o hc e => b5 c o (fun q => hc (by simp [q])) (fun q => hc (by simp [q])) (fun q => hc (by simp [q])) (fun q => hc (by simp [q])) e
        · refine dz_next S (D1 _ hA) (D2 _ hA) hz hT q1 q2 q34 l1 l2 fun x1 x2 h' tk p1 p2 b1 c1 c2 b3 b5 => ?_
          exact hQ s₁.heap.objs.size _ _ h' tk ⟨p1, p2⟩ (.inl ⟨_, b3, rfl, _, rfl⟩) ⟨b5 _ _ S.TIz S.TIi1 S.TIi2 q1, c1, c2, .inr ⟨T, true, oT, b1, b5 _ _ m1 m2 m3 hT, m1, m2, m3, m4⟩⟩
            fun c o hc e => b5 c o (fun q => hc (by simp [q])) (fun q => hc (by simp [q])) (fun q => hc (by simp [q])) e
      done := fun s₁ Q₁ E₁ st hQ => by
        obtain ⟨q1, q2, q34, q5⟩ := st
        have hend : min x.cps.size its.size = x.cps.size ∨ min x.cps.size its.size = its.size := by omega
        rcases q5 with ⟨hz, a, b, e⟩ | ⟨T, f, oT, hz, hT, m1, m2, m3, m4⟩
        · exact wpAny_pyNext_zipD2_end S (D1 _ hA) (D2 _ hA) hz q1 e q2 q34 (Nat.min_le_left ..) (Nat.min_le_right ..) hend fun h' tk hk => hQ h' tk fun c o hc e => hk c o (fun q => hc (by simp [q])) (fun q => hc (by simp [q])) (fun q => hc (by simp [q])) (fun q => hc (by simp [q])) e
        · exact dz_done S (D1 _ hA) (D2 _ hA) hz hT q1 q2 q34 (Nat.min_le_left ..) (Nat.min_le_right ..) hend fun h' tk hk => hQ h' tk fun c o hc e => hk c o (fun q => hc (by simp [q])) (fun q => hc (by simp [q])) (fun q => hc (by simp [q])) e }
end DL
set_option Elab.async false
set_option linter.all false
set_option maxRecDepth 100000
set_option maxHeartbeats 4000000
/-! DL17: dict(zip(a text, a list)). -/
namespace DL
open PySem PySem.Spec PyProof.Rows L2 RZ
def dictZip (u v : RV) : M RV := match u, v with
  | .d (.str z), .d (.lst xs) => (M.guard (z.cps.toList.Nodup ∧ z.cps.size ≤ 1000 ∧ xs.length ≤ 1000)).bind fun _ => M.ret (.d (.dK ((z.cps.toList.zip xs).map fun p => ((Sum.inr (⟨#[p.1]⟩ : Str) : Key), p.2))))
  | _, _ => M.fail
def evDictZip (Fa Fb : Env → M RV) : Env → M RV := ev2 dictZip Fa Fb
@[simp] theorem w_dictZip {Fa Fb : Env → M RV} {δ : Env} {W : Wd} {Q : RV → Wd → Prop} {E : DX → Wd → Prop} : wpM (evDictZip Fa Fb δ) W Q E = wpM (ev2 dictZip Fa Fb δ) W Q E := (rfl)
@[simp] theorem w_dictZipB {z : Str} {xs : List D} {W : Wd} {Q : RV → Wd → Prop} {E : DX → Wd → Prop} : wpM (dictZip (.d (.str z)) (.d (.lst xs))) W Q E = ((z.cps.toList.Nodup ∧ z.cps.size ≤ 1000 ∧ xs.length ≤ 1000) ∧ Q (.d (.dK ((z.cps.toList.zip xs).map fun p => ((Sum.inr (⟨#[p.1]⟩ : Str) : Key), p.2)))) W) := by
  show wpM ((M.guard _).bind _) W Q E = _
  rw [w_bind, w_guard]; rfl
/-- the pairs of a text and a list -/
abbrev zkv {α : Type} (z : Str) (xs : List α) : List (Key × α) := (z.cps.toList.zip xs).map fun p => ((Sum.inr (⟨#[p.1]⟩ : Str) : Key), p.2)
def tDZ (K : PySem.W.Frag) (ta : TA) : TE := fun σ H Q => ta σ H fun vs H1 => ∃ (z : Str) (l : Addr) (xs : List V), vs = [.str z, .ref l] ∧ SqL K H1 l xs ∧ z.cps.size ≤ 1000 ∧ ∀ p, H1 p = none → Q (.ref p) (upd H1 p (.dK (mergeK [] (zkv z xs))))
theorem kv_zip {α : List Nat} : ∀ {l : List Nat} {xs : List V} {us : List Value}, Vals xs us → KV ((l.zip xs).map fun p => ((Sum.inr (⟨#[p.1]⟩ : Str) : Key), p.2)) ((l.zip us).map fun p => ((Sum.inr (⟨#[p.1]⟩ : Str) : Key), p.2))
  | [], _, _, _ => by simp; exact .nil
  | _ :: _, _, _, .nil => by simp; exact .nil
  | _ :: _, _, _, .cons r t => .cons ⟨rfl, r⟩ (kv_zip (α := α) t)
theorem nm1 {a b : Nat} (h : a ≠ b) : (show Addr from a) ∉ ([b] : List Addr) := fun m => h (List.mem_singleton.mp m)
theorem nm2 {a b c : Nat} (h : a ≠ b) (h2 : a ≠ c) : (show Addr from a) ∉ ([b, c] : List Addr) := fun m => by
  rcases List.mem_cons.mp m with e | e
  · exact h e
  · exact h2 (List.mem_singleton.mp e)
theorem ne_n {a b : Nat} (h : a ≠ b) : (show Addr from a) ≠ (show Addr from b) := h
theorem nlt1 {n l : Nat} (h : l < n) : (show Addr from l) ≠ (show Addr from (n + 1)) := ne_n (by omega)
theorem nlt2 {n l : Nat} (h : l < n) : (show Addr from (n + 2)) ≠ (show Addr from l) := ne_n (by omega)
theorem sep5 (n l : Nat) (h : l < n) : ZipSep2 (n + 4) (n + 2) (n + 3) n (n + 1) [n] [n + 1, l] :=
  ⟨ne_n (by omega), ne_n (by omega), ne_n (by omega), ne_n (by omega), List.mem_singleton_self n, nm1 (by omega), nm1 (by omega), ne_n (by omega), List.mem_cons_self, nm2 (by omega) (by omega), nm2 (by omega) (by omega), nm2 (by omega) (by omega), nm1 (by omega)⟩
theorem pe_dictZip {X : Cx} {a b : Expr} {ta : TA} {p1 p2 pos pos2 : Pos} (hcalm : X.calm = true) (hg : Gl X "dict") (hm : X.mg "dict" = none) (hgz : Gl X "zip") (hmz : X.mg "zip" = none) (ha : PA X [a, b] ta)
    (hs0 : starEach [.Call (.Name "zip" p2) [a, b] [] pos2] X.env = [(false, eval (.Call (.Name "zip" p2) [a, b] [] pos2) X.env)] := by rfl) (hpl0 : (backTo pos (starEach [] X.env)).any (·.1) = false := by rfl)
    (hs : starEach [a, b] X.env = (false, eval a X.env) :: starEach [b] X.env := by rfl) (hpl : (backTo pos2 (starEach [b] X.env)).any (·.1) = false := by rfl) :
    PE X (.Call (.Name "dict" p1) [.Call (.Name "zip" p2) [a, b] [] pos2] [] pos) (tDZ X.K ta) := by
  refine ⟨fun pins s σ H Q I h => ?_⟩
  refine Call_ (ld_blt I hg hm PyProof.Rows.boot_dict (PyProof.Rows.callWith_type1 ?_ hs0 hpl0))
  rw [hs0]
  show wpAny _ _ (spliced [(false, eval (.Call (.Name "zip" p2) [a, b] [] pos2) X.env)]) _ _ _
  refine Calls.spliced_cons ?_
  refine Call_ (ld_blt I hgz hmz PyProof.Rows.boot_zip (PyProof.Rows.callWith_type1 (thn (ha.run pos2 pins s σ H _ I h) fun us s1 ⟨vs, H1, I1, r1, q1⟩ => ?_) hs hpl))
  obtain ⟨z, l, xs, ex, hq, hz1, q⟩ := q1
  subst ex
  cases r1 with
  | cons r rr =>
    cases rr with
    | cons r' rr =>
      cases rr
      obtain ⟨t, rfl⟩ := r
      cases r'
      obtain ⟨its, rv, pl, hlen⟩ := I1.list hq
      have hlt := pl.lt
      refine zip_begins2 (begins_text z t) (begins_list l its.toArray) trivial pl.isList fun h' hz hTI hTO g1 g2 hsz hk => ?_
      refine Calls.spliced_nil ?_
      have S5 := sep5 s1.heap.objs.size l hlt
      have ok : TL (s1.heap.objs.size + 4) (s1.heap.objs.size + 2) (s1.heap.objs.size + 3) s1.heap.objs.size (s1.heap.objs.size + 1) l z t its.toArray h' :=
        ⟨hz, hTI, ⟨_, _, hTO⟩, ⟨_, g1, rfl, rfl⟩, ⟨_, g2, rfl, rfl⟩, pl.isList.at fun o e => hk _ o e⟩
      have nl := nlt1 hlt
      have nt := nlt2 hlt
      have hits : its.length = xs.length := rv.length.symm
      refine PySem.call_dict_pairs (knd := mixKind X.prog X.w) (kvs := zkv z its) (pairs_tl S5 nl nt z t its.toArray) (I1.ok.hd hcalm) ok ⟨?_, ?_⟩ ?_ fun h2 tk hd2 hk2 => ?_
      · simp [zkv]
      · rintro i key v ⟨⟨c, u, h1, rfl⟩, h2⟩
        refine ⟨Sum.inr ⟨#[c]⟩, ?_, keyIs_str _ u⟩
        have h3 : its[i]? = some v := by simpa using h2
        have h4 : z.cps.toList[i]? = some c := by simpa using h1
        unfold zkv
        rw [List.getElem?_map, (List.getElem?_zip_eq_some (z := (c, v))).mpr ⟨h4, h3⟩]
        rfl
      · have : sizeLine > 1000 := by decide
        have e : min z.cps.size its.toArray.size ≤ z.cps.size := Nat.min_le_left ..
        omega
      · have le : s1.heap.objs.size ≤ h'.objs.size := by rw [hsz]; exact Nat.le_add_right _ _
        have hm2 : (h'.objs.size == sysModules) = false := beq_eq_false_iff_ne.mpr (Nat.ne_of_gt (Nat.lt_of_lt_of_le I1.big le))
        have hlen2 : (mergeK [] (zkv z xs)).length ≤ sizeLine := by
          refine Nat.le_trans (length_mergeK (zkv z xs) []) ?_
          have h1 : sizeLine > 1000 := by decide
          have h2 : (zkv z xs).length ≤ z.cps.size := by simp [zkv]; exact Nat.min_le_left ..
          rw [List.length_nil]
          omega
        have k : ∀ b o, s1.heap.get? b = some o → h2.get? b = some o := fun b o e => hk2 b o (fun hm => by
          have lt := Heap.lt_size e
          simp only [List.mem_cons, List.not_mem_nil, or_false] at hm
          have lt' : b < s1.heap.objs.size := lt
          rcases hm with q | q | q | q <;> rw [q] at lt' <;> exact absurd lt' (Nat.not_lt.mpr (by first | exact Nat.le_add_right _ _ | exact Nat.le_refl _))) (hk b o e)
        exact ⟨.ref h'.objs.size, upd H1 h'.objs.size (.dK (mergeK [] (zkv z xs))), I1.laid (t' := tk) k le (show ObjOk X.prog X.w _ _ _ (.dK (mergeK [] (zkv z xs))) from ⟨hlen2, hm2, merged [] (zkv z its), KV.merge (kv_zip (α := []) rv) .nil, hd2⟩), rfl, q _ (I1.hok.fresh le)⟩
section
variable {ι : Type} {𝒳 : ι → Cx} {G : Gh} {a b : Expr} {Fa Fb : Env → M RV} {pos p1 p2 pos2 : Pos}
theorem rep_zip {c : Cf} : ∀ {l : List Nat} {xs : List D} {vs : List V}, RepL c xs vs → RepK c ((l.zip xs).map fun p => ((Sum.inr (⟨#[p.1]⟩ : Str) : Key), p.2)) ((l.zip vs).map fun p => ((Sum.inr (⟨#[p.1]⟩ : Str) : Key), p.2))
  | [], _, _, _ => rfl
  | _ :: _, [], _, r => by cases r; rfl
  | ch :: l, x :: xs, _, r => by
    obtain ⟨v, vs, rfl, h1, h2⟩ := r
    exact ⟨v, _, rfl, h1, rep_zip h2⟩
theorem merge_aux : ∀ (l : List Nat) (vs : List V) (acc : List (Key × V)), l.Nodup → (∀ q, q ∈ acc → ∀ c, c ∈ l → q.1 ≠ (Sum.inr (⟨#[c]⟩ : Str) : Key)) →
    mergeK acc ((l.zip vs).map fun p => ((Sum.inr (⟨#[p.1]⟩ : Str) : Key), p.2)) = acc ++ (l.zip vs).map fun p => ((Sum.inr (⟨#[p.1]⟩ : Str) : Key), p.2)
  | [], _, acc, _, _ => by simp [mergeK]
  | _ :: _, [], acc, _, _ => by simp [mergeK]
  | c :: l, v :: vs, acc, hn, ha => by
    have hn' := List.nodup_cons.mp hn
    have hp : putK acc (Sum.inr (⟨#[c]⟩ : Str) : Key) v = acc ++ [((Sum.inr (⟨#[c]⟩ : Str) : Key), v)] := by
      unfold putK
      rw [if_neg]
      intro h
      obtain ⟨q, hq, e⟩ := List.any_eq_true.mp h
      exact ha q hq c List.mem_cons_self (of_decide_eq_true e)
    have ih := merge_aux l vs (acc ++ [((Sum.inr (⟨#[c]⟩ : Str) : Key), v)]) hn'.2 fun q hq c' hc' => by
      rcases List.mem_append.mp hq with h | h
      · exact ha q h c' (List.mem_cons_of_mem _ hc')
      · rw [List.mem_singleton.mp h]
        intro e
        have e1 := Sum.inr.inj e
        injection e1 with e2
        injection e2 with e3
        injection e3 with e4
        exact hn'.1 (e4 ▸ hc')
    show mergeK (putK acc _ v) _ = _
    rw [hp]
    refine ih.trans ?_
    simp
theorem merge_zip {l : List Nat} {vs : List V} (h : l.Nodup) : mergeK [] ((l.zip vs).map fun p => ((Sum.inr (⟨#[p.1]⟩ : Str) : Key), p.2)) = (l.zip vs).map fun p => ((Sum.inr (⟨#[p.1]⟩ : Str) : Key), p.2) := by
  rw [merge_aux l vs [] h (fun _ hq => nomatch hq)]
  rfl
theorem de_dictZip (hc : ∀ i, (𝒳 i).calm = true) (hK : ∀ i, (𝒳 i).K = G.K) (hm : ∀ i, (𝒳 i).mg "dict" = none) (hz : ∀ i, (𝒳 i).mg "zip" = none) (ha : DE 𝒳 G a Fa) (hb : DE 𝒳 G b Fb) (hg : ∀ i, Gl (𝒳 i) "dict" := by intro _; rfl) (hgz : ∀ i, Gl (𝒳 i) "zip" := by intro _; rfl)
    (hs0 : ∀ i, starEach [.Call (.Name "zip" p2) [a, b] [] pos2] (𝒳 i).env = [(false, eval (.Call (.Name "zip" p2) [a, b] [] pos2) (𝒳 i).env)] := by intro _; rfl) (hpl0 : ∀ i, (backTo pos (starEach [] (𝒳 i).env)).any (·.1) = false := by intro _; rfl)
    (hs : ∀ i, starEach [a, b] (𝒳 i).env = (false, eval a (𝒳 i).env) :: starEach [b] (𝒳 i).env := by intro _; rfl) (hs1 : ∀ i, starEach [b] (𝒳 i).env = (false, eval b (𝒳 i).env) :: starEach [] (𝒳 i).env := by intro _; rfl) (hpl : ∀ i, (backTo pos2 (starEach [b] (𝒳 i).env)).any (·.1) = false := by intro _; rfl) :
    DE 𝒳 G (.Call (.Name "dict" p1) [.Call (.Name "zip" p2) [a, b] [] pos2] [] pos) (evDictZip Fa Fb) := by
  obtain ⟨ta, pa, ra⟩ := ha
  obtain ⟨tb, pb, rb⟩ := hb
  refine ⟨tDZ G.K (tCons ta (tCons tb tNil)), fun i => ?_, fun c σ δ Q s w h => ?_⟩
  · have := pe_dictZip (p1 := p1) (pos := pos) (hc i) (hg i) (hm i) (hgz i) (hz i) (pa_cons (pa i) (pa_cons (pb i) pa_nil (hs1 i)) (hs i)) (hs0 i) (hpl0 i) (hs i) (hpl i)
    rw [hK i] at this
    exact this
  refine ra c σ δ _ s w (wpM_mono (wpM_bind.mp h) (fun u W1 h1 x1 c1 hw e1 w1 r1 => ?_) fun _ _ q => q)
  subst hw
  refine rb c1 σ δ _ (s.mono e1) w1 (wpM_mono (wpM_bind.mp h1) (fun v W2 h2 x2 c2 hw e2 w2 r2 => ?_) fun _ _ q => q.mono e1)
  subst hw
  have r1' := r1.mono e2
  cases u with
  | r _ => exact h2.elim
  | d x =>
    cases x <;> try exact h2.elim
    case str z =>
      cases v with
      | r _ => exact h2.elim
      | d y =>
        cases y <;> try exact h2.elim
        case lst xs =>
          obtain ⟨⟨g1, g2, g3⟩, q⟩ := wpM_guard (wpM_bind.mp h2)
          obtain ⟨l, vs, rfl, h3, n3, r3⟩ := r2
          cases r1'
          refine ⟨z, l, vs, rfl, SqL.of h3, g2, fun p hp => ?_⟩
          have em := merge_zip (vs := vs) g1
          show Q (.ref p) (upd c2.H p (.dK (mergeK [] (zkv z vs))))
          rw [show mergeK [] (zkv z vs) = zkv z vs from em]
          obtain ⟨e, w3⟩ := w2.lay (o := .dK (zkv z vs)) hp
          refine q (.ref p) (c2.lay p (.dK (zkv z vs))) rfl ((e1.trans e2).trans e) w3 ?_
          exact ⟨p, zkv z vs, rfl, upd_same, w2.layAv hp, rep_zip (RepL.mono e _ _ r3)⟩
end
end DL
set_option Elab.async false
set_option linter.all false
set_option maxRecDepth 100000
/-! printed by gen.py: readings of the defs that all laws share -/
namespace SH
open PySem PySem.Spec PyProof.Rows L2 RZ DL
noncomputable section
def p__law_below_t1 (δ : DL.Env) : M Bool :=
  (evAndT (evB (ev2 (opEq false) (ev2 opIx (evVar 0) (cI 1)) (cI 0))) (evB (ev2 (opEq true) (ev2 opIx (evVar 0) (cI 0)) (evLst false evNil)))) δ
def p__law_below_b2 (δ : DL.Env) : M (Fl × DL.Env) :=
  (evSeq (evAsg (evMth mPop (ev2 opIx (evVar 0) (cI 0)) (evCons (cI 0) evNil)) (gtName 2))
    (evSeq (evAsg (ev2 opMod (evCall bInt (evCons (ev2 (opAdd false) (ev2 (opAdd false) (ev2 (opMul false) (ev2 opIx (evVar 0) (cI 3)) (cI 69031)) (evVar 2)) (cI 13)) evNil)) (cI 2147483647)) (gtSub (evVar 0) (cI 3)))
    (evAsg (evIf (evB (ev2 opGe (evVar 2) (ev2 opPow (cI 10) (cI 18)))) (evVar 2) (cI 0)) (gtSub (evVar 0) (cI 1))))) δ
def m__law_below (δ : DL.Env) : M (Fl × DL.Env) :=
  (evSeq (evAsg (ev2 (opAdd false) (ev2 opIx (evVar 0) (cI 2)) (cI 1)) (gtSub (evVar 0) (cI 2)))
    (evSeq (evWhile p__law_below_t1 p__law_below_b2 100)
    (evSeq (evIfS (evB (ev2 opGt (ev2 opIx (evVar 0) (cI 1)) (cI 0))) (evSeq (evAsg (ev2 opMod (evCall bInt (evCons (ev2 opIx (evVar 0) (cI 1)) evNil)) (evVar 1)) (gtName 3))
    (evSeq (evAsg (ev2 opDiv (ev2 opIx (evVar 0) (cI 1)) (evVar 1)) (gtSub (evVar 0) (cI 1)))
    (evRet (evVar 3)))) evNext)
    (evSeq (evAsg (ev2 opMod (evCall bInt (evCons (ev2 opPow (ev2 (opAdd false) (ev2 (opAdd false) (ev2 opIx (evVar 0) (cI 3)) (ev2 (opMul false) (cI 9049) (ev2 opIx (evVar 0) (cI 2)))) (cI 130073)) (cI 5)) evNil)) (cI 2147483629)) (gtName 4))
    (evRet (ev2 opMod (ev2 opMod (evCall bInt (evCons (ev2 opPow (ev2 (opAdd false) (ev2 (opAdd false) (ev2 (opMul false) (evVar 4) (cI 44089)) (ev2 (opMul false) (cI 60077) (ev2 opIx (evVar 0) (cI 2)))) (cI 47)) (cI 3)) evNil)) (cI 1000000007)) (evVar 1))))))) δ
@[irreducible] def f__law_below : List RV → M RV := fnD 5 m__law_below
def m__law_pick (δ : DL.Env) : M (Fl × DL.Env) :=
  (evRet (ev2 opIx (evVar 1) (evCallF 2 f__law_below (evCons (evVar 0) (evCons (evCall bLen (evCons (evVar 1) evNil)) evNil))))) δ
@[irreducible] def f__law_pick : List RV → M RV := fnD 2 m__law_pick
def p__law_same_e1 (rec : List RV → M RV) (δ : DL.Env) : M RV :=
  (evCallF 2 rec (evCons (evVar 2) (evCons (evVar 3) evNil))) δ
def m__law_same (rec : List RV → M RV) (δ : DL.Env) : M (Fl × DL.Env) :=
  (evSeq (evIfS (evB (evCall bIsi (evCons (evVar 1) (evCons (evTup (evCons (cT .lst) (evCons (cT .tup) evNil))) evNil)))) (evSeq (evIfS (evOrT (evB (ev2 (opEq true) (evCall bIsi (evCons (evVar 0) (evCons (cT .lst) evNil))) (evCall bIsi (evCons (evVar 1) (evCons (cT .lst) evNil))))) (evB (ev2 (opEq true) (evCall bIsi (evCons (evVar 0) (evCons (cT .tup) evNil))) (evCall bIsi (evCons (evVar 1) (evCons (cT .tup) evNil)))))) (evRet (cB false)) evNext)
    (evRet (evAnd (ev2 (opEq false) (evCall bLen (evCons (evVar 0) evNil)) (evCall bLen (evCons (evVar 1) evNil))) (evCall bAll (evCons (evLc false [2, 3] (evZip (evCons (evVar 0) (evCons (evVar 1) evNil))) (gtUnp 2 (gtCons (gtName 2) (gtCons (gtName 3) gtNil))) evYes (p__law_same_e1 rec)) evNil))))) evNext)
    (evSeq (evIfS (evB (evCall bIsi (evCons (evVar 1) (evCons (cT .dct) evNil)))) (evRet (evAnd (evCall bIsi (evCons (evVar 0) (evCons (cT .dct) evNil))) (evCallF 2 rec (evCons (evCall (bList false) (evCons evNever evNil)) (evCons (evCall (bList false) (evCons evNever evNil)) evNil))))) evNext)
    (evSeq (evIfS (evB (evCall bIsi (evCons (evVar 1) (evCons (cT .int) evNil)))) (evRet (evAnd (evCall bIsi (evCons (evVar 0) (evCons (cT .int) evNil))) (evAnd (ev2 (opEq false) (evCall bIsi (evCons (evVar 0) (evCons (cT .bl) evNil))) (evCall bIsi (evCons (evVar 1) (evCons (cT .bl) evNil)))) (ev2 (opEq false) (evVar 0) (evVar 1))))) evNext)
    (evSeq (evIfS (evB (ev2 (opIs false) (evVar 1) cN)) (evRet (ev2 (opIs false) (evVar 0) cN)) evNext)
    (evSeq (evIfS (evB (evCall bIsi (evCons (evVar 1) (evCons (cT .str) evNil)))) (evRet (evAnd (evCall bIsi (evCons (evVar 0) (evCons (cT .str) evNil))) (ev2 (opEq false) (evVar 0) (evVar 1)))) evNext)
    (evRet (evAnd (evNot (evCall bIsi (evCons (evVar 0) (evCons (evTup (evCons (cT .int) (evCons (cT .str) (evCons (cT .lst) (evCons (cT .tup) (evCons (cT .dct) evNil)))))) evNil)))) (ev2 (opEq false) (evVar 0) (evVar 1))))))))) δ
@[irreducible] def f__law_same (n : Nat) : List RV → M RV := Nat.rec (fun _ => M.fail) (fun _ r => fnD 4 (m__law_same r)) n
theorem f__law_same_0 : f__law_same 0 = fun _ => M.fail := by unfold f__law_same; rfl
theorem f__law_same_s (n : Nat) : f__law_same (n + 1) = fnD 4 (m__law_same (f__law_same n)) := by unfold f__law_same; rfl
end
end SH

set_option Elab.async false
set_option linter.all false
set_option maxRecDepth 100000
set_option maxHeartbeats 4000000
set_option exponentiation.threshold 2000
/-! SM: what the shared defs of the laws do: the stream. -/
namespace SH
open PySem PySem.Spec PyProof.Rows L2 RZ DL
theorem log2_lt {n k : Nat} (h : n < 2 ^ k) (hk : 0 < k) : n.log2 < k := by
  by_cases e : n = 0
  · subst e; simpa using hk
  · exact (Nat.log2_lt e).mpr h
theorem cmulw {i j : Int} (h1 : i.natAbs < 2 ^ 1000) (h2 : j.natAbs < 2 ^ 1000) : CMulW i j := by
  have a := log2_lt h1 (by decide)
  have b := log2_lt h2 (by decide)
  unfold CMulW; omega
theorem cdivw {i j : Int} (h1 : 0 < j) (h2 : j.natAbs < 2 ^ 1000) : CDivW i j := ⟨h1, by have := log2_lt h2 (by decide); omega⟩
theorem abs_lt {i : Int} {k : Nat} (h0 : 0 ≤ i) (h : i < 2 ^ k) : i.natAbs < 2 ^ k := by
  have : ((i.natAbs : Nat) : Int) = i := Int.natAbs_of_nonneg h0
  have h2 : ((i.natAbs : Nat) : Int) < ((2 ^ k : Nat) : Int) := by rw [this]; push_cast; exact h
  exact_mod_cast h2
/-- the stream -/
structure Strm where
  ns : List Int
  r : Int
  k : Int
  m : Int
def Strm.W (s : Strm) (J : Wd) : Wd := .lst (intL s.ns) :: .lst [.r 0, .d (.int s.r), .d (.int s.k), .d (.int s.m)] :: J
structure Strm.ok (s : Strm) (N : Nat) : Prop where
  len : s.ns.length ≤ 63
  r0 : 0 ≤ s.r
  k0 : 0 ≤ s.k
  kN : s.k ≤ N
  m0 : 0 ≤ s.m
  m1 : s.m < 2147483647
theorem Strm.ok.mono {s : Strm} {N M : Nat} (h : s.ok N) (l : N ≤ M) : s.ok M := ⟨h.len, h.r0, h.k0, by have := h.kN; omega, h.m0, h.m1⟩
@[simp] theorem intL_nil : intL [] = [] := (rfl)
@[simp] theorem intL_cons {c : Int} {ns : List Int} : intL (c :: ns) = .d (.int c) :: intL ns := (rfl)
@[simp] theorem popK_0 {l : Nat} {y : RV} {xs : List RV} {Q : RV → Wd → Prop} {W : Wd} : popK 0 (some (l, y :: xs)) Q W = Q y (W.set l (.lst xs)) := popK_at (k := 0) (by decide) rfl rfl (by decide)
theorem pureL_intL : ∀ ns : List Int, pureL (intL ns) = some (ns.map D.int)
  | [] => rfl
  | c :: ns => by
    show (pureL (intL ns)).map (D.int c :: ·) = _
    rw [pureL_intL]; rfl
theorem toPyL_ints : ∀ ns : List Int, toPy.toPyL (ns.map D.int) = some (ns.map PyData.int)
  | [] => rfl
  | c :: ns => by
    show (match toPy (D.int c), toPy.toPyL (ns.map D.int) with | some a, some b => some (a :: b) | _, _ => none) = _
    rw [toPyL_ints]; rfl
theorem eqD_nil {W : Wd} {l : Nat} {E : DX → Wd → Prop} {Q : RV → Wd → Prop} {ns : List Int} (h : W[l]? = some (.lst (intL ns))) : wpM (opEq true (.r l) (.d (.lst []))) W Q E = Q (.d (.bl (!ns.isEmpty))) W := by
  show wpM ((M.look _).bind _) W Q E = _
  rw [w_bind, w_look]
  have e : eqvD W (.r l) (.d (.lst [])) = some (ns.isEmpty) := by
    unfold eqvD
    have h1 : peek W (.r l) = some (.lst (ns.map D.int)) := by
      unfold peek
      simp only [h]
      rw [pureL_intL]; rfl
    have h2 : toPy (.lst (ns.map D.int)) = some (.list (ns.map PyData.int)) := by
      show (toPy.toPyL _).map _ = _
      rw [toPyL_ints]; rfl
    rw [h1]
    show ((toPy _).bind _) = _
    rw [h2]
    cases ns with
    | nil => rfl
    | cons c r =>
      show (if SeqAt.shaped (.list ((c :: r).map PyData.int)) = true ∧ _ then some (PyData.eqv (.list ((c :: r).map PyData.int)) (.list [])) else none) = _
      rw [if_pos ⟨PySem.W.ke_shaped_ints (c :: r), rfl⟩]
      rfl
  rw [e]
  show Q (.d (.bl (ns.isEmpty != true))) W = _
  cases ns <;> rfl
theorem while_below {many : RV} {J : Wd} : ∀ (n : Nat) (s : Strm) (x : Option RV) (N : Nat), s.ok N → s.ns.length < n →
    wpM (evWhile p__law_below_t1 p__law_below_b2 n [some (.r 1), some many, x, none, none]) (s.W J)
      (fun p W' => ∃ (x' : Option RV) (s' : Strm), p = (.nx, [some (.r 1), some many, x', none, none]) ∧ W' = s'.W J ∧ s'.ok N) (fun _ _ => False)
  | 0, _, _, _, _, h => absurd h (Nat.not_lt_zero _)
  | n + 1, s, x, N, ok, hn => by
    have ih := fun s x => while_below (many := many) (J := J) n s x N
    generalize hQ : (fun (p : Fl × DL.Env) (W' : Wd) => ∃ (x' : Option RV) (s' : Strm), p = (.nx, [some (.r 1), some many, x', none, none]) ∧ W' = s'.W J ∧ s'.ok N) = Q0 at ih ⊢
    rw [w_while]
    obtain ⟨ns, r, k, m⟩ := s
    unfold Strm.W
    have hx := ok.m0
    have hy := ok.m1
    dsimp only at hx hy
    simp [p__law_below_t1]
    by_cases hr : r = 0
    · subst hr
      simp
      rw [eqD_nil (ns := ns) rfl]
      cases ns with
      | nil =>
        simp
        rw [← hQ]
        exact ⟨x, ⟨[], 0, k, m⟩, rfl, rfl, ok⟩
      | cons c ns =>
        have hl := ok.len
        dsimp only at hl hn
        rw [List.length_cons] at hl hn
        simp [p__law_below_b2]
        refine ⟨cmulw (abs_lt hx (by omega)) (by decide), ⟨by decide, by decide, by decide⟩, ?_⟩
        by_cases hc : 1000000000000000000 ≤ c
        · simp [hc]
          exact ih ⟨ns, c, k, (m * 69031 + c + 13) % 2147483647⟩ _ ⟨by dsimp only; omega, by dsimp only; omega, ok.k0, ok.kN, by dsimp only; omega, by dsimp only; omega⟩ (by dsimp only; omega)
        · simp [hc]
          exact ih ⟨ns, 0, k, (m * 69031 + c + 13) % 2147483647⟩ _ ⟨by dsimp only; omega, by dsimp only; omega, ok.k0, ok.kN, by dsimp only; omega, by dsimp only; omega⟩ (by dsimp only; omega)
    · simp [hr]
      rw [← hQ]
      exact ⟨x, ⟨ns, r, k, m⟩, rfl, rfl, ok⟩
/-- _law_below -/
theorem below {E : DX → Wd → Prop} {J : Wd} {s : Strm} {N : Nat} {n : Int} (ok : s.ok N) (hN : N < 2 ^ 40) (h0 : 0 < n) (h1 : n < 2 ^ 200) (Q : RV → Wd → Prop)
    (h : ∀ (i : Int) (s' : Strm), 0 ≤ i → i < n → s'.ok (N + 1) → Q (.d (.int i)) (s'.W J)) : wpM (f__law_below [.r 1, .d (.int n)]) (s.W J) Q E := by
  unfold f__law_below
  rw [w_fnD]
  obtain ⟨ns, r, k, m⟩ := s
  unfold Strm.W
  have l := ok.len
  have a1 := ok.r0
  have a2 := ok.k0
  have a3 := ok.kN
  have a4 := ok.m0
  have a5 := ok.m1
  dsimp only at l a1 a2 a3 a4 a5
  simp [m__law_below, startD]
  have wh := while_below (many := .d (.int n)) (J := J) 100 ⟨ns, r, k + 1, m⟩ none (N + 1) ⟨l, a1, by dsimp only; omega, by dsimp only; push_cast; omega, a4, a5⟩ (by dsimp only; omega)
  refine wpM_mono wh (fun p W' hp => ?_) fun _ _ z => z.elim
  obtain ⟨x', ⟨ns', r', k', m'⟩, rfl, rfl, ok'⟩ := hp
  have b0 := ok'.len
  have b1 := ok'.r0
  have b2 := ok'.k0
  have b3 := ok'.kN
  have b4 := ok'.m0
  have b5 := ok'.m1
  dsimp only at b0 b1 b2 b3 b4 b5
  push_cast at b3
  have hn : CDivW r' n := cdivw h0 (abs_lt (Int.le_of_lt h0) (by omega))
  have q1 : 0 ≤ r' / n := Int.ediv_nonneg b1 (Int.le_of_lt h0)
  unfold Strm.W
  by_cases hr : 0 < r'
  · simp [hr]
    refine ⟨h0, hn, ?_⟩
    exact h _ ⟨ns', r' / n, k', m'⟩ (Int.emod_nonneg _ (by omega)) (Int.emod_lt_of_pos _ h0) ⟨b0, q1, b2, by dsimp only; push_cast; omega, b4, b5⟩
  · simp [hr]
    have c1 : CMulW 9049 k' := cmulw (by decide) (abs_lt b2 (by omega))
    have c2 : CPow (m' + 9049 * k' + 130073) 5 := ⟨by decide, by decide, by omega⟩
    have c3 : 0 ≤ (m' + 9049 * k' + 130073) ^ 5 % 2147483629 := Int.emod_nonneg _ (by decide)
    have c4 : (m' + 9049 * k' + 130073) ^ 5 % 2147483629 < 2147483629 := Int.emod_lt_of_pos _ (by decide)
    refine ⟨c1, c2, ?_⟩
    generalize (m' + 9049 * k' + 130073) ^ 5 % 2147483629 = t at c3 c4 ⊢
    refine ⟨cmulw (abs_lt c3 (by omega)) (by decide), cmulw (by decide) (abs_lt b2 (by omega)), ⟨by decide, by decide, by omega⟩, h0, ?_⟩
    exact h _ ⟨ns', r', k', m'⟩ (Int.emod_nonneg _ (by omega)) (Int.emod_lt_of_pos _ h0) ⟨b0, b1, b2, by dsimp only; push_cast; omega, b4, b5⟩
/-- _law_pick of a pure list -/
theorem pick {E : DX → Wd → Prop} {J : Wd} {s : Strm} {N : Nat} {xs : List D} (ok : s.ok N) (hN : N < 2 ^ 40) (h0 : 0 < xs.length) (h1 : xs.length ≤ sizeLine) (Q : RV → Wd → Prop)
    (h : ∀ (x : D) (s' : Strm), x ∈ xs → s'.ok (N + 1) → Q (.d x) (s'.W J)) : wpM (f__law_pick [.r 1, .d (.lst xs)]) (s.W J) Q E := by
  unfold f__law_pick
  rw [w_fnD]
  simp [m__law_pick, startD]
  have h2 : (xs.length : Int) < 2 ^ 200 := by
    have : sizeLine < 2 ^ 200 := by decide
    have h3 : xs.length < 2 ^ 200 := by omega
    exact_mod_cast h3
  refine below ok hN (by omega) h2 _ fun i s' hi0 hi1 ok' => ?_
  simp
  have lt : i.toNat < xs.length := by omega
  have e : atI (xs.map RV.d) i = some (.d xs[i.toNat]) := by
    unfold atI ixN
    rw [List.length_map, if_pos hi0, if_pos hi1]
    simp [lt]
  rw [e]
  exact h _ s' (List.getElem_mem lt) ok'
/-! isinstance -/
@[simp] theorem sub_non_non : Ty.sub .non .non = true := (rfl)
@[simp] theorem sub_non_bl : Ty.sub .non .bl = false := (rfl)
@[simp] theorem sub_non_int : Ty.sub .non .int = false := (rfl)
@[simp] theorem sub_non_str : Ty.sub .non .str = false := (rfl)
@[simp] theorem sub_non_lst : Ty.sub .non .lst = false := (rfl)
@[simp] theorem sub_non_tup : Ty.sub .non .tup = false := (rfl)
@[simp] theorem sub_non_dct : Ty.sub .non .dct = false := (rfl)
@[simp] theorem sub_bl_non : Ty.sub .bl .non = false := (rfl)
@[simp] theorem sub_bl_bl : Ty.sub .bl .bl = true := (rfl)
@[simp] theorem sub_bl_int : Ty.sub .bl .int = true := (rfl)
@[simp] theorem sub_bl_str : Ty.sub .bl .str = false := (rfl)
@[simp] theorem sub_bl_lst : Ty.sub .bl .lst = false := (rfl)
@[simp] theorem sub_bl_tup : Ty.sub .bl .tup = false := (rfl)
@[simp] theorem sub_bl_dct : Ty.sub .bl .dct = false := (rfl)
@[simp] theorem sub_int_non : Ty.sub .int .non = false := (rfl)
@[simp] theorem sub_int_bl : Ty.sub .int .bl = false := (rfl)
@[simp] theorem sub_int_int : Ty.sub .int .int = true := (rfl)
@[simp] theorem sub_int_str : Ty.sub .int .str = false := (rfl)
@[simp] theorem sub_int_lst : Ty.sub .int .lst = false := (rfl)
@[simp] theorem sub_int_tup : Ty.sub .int .tup = false := (rfl)
@[simp] theorem sub_int_dct : Ty.sub .int .dct = false := (rfl)
@[simp] theorem sub_str_non : Ty.sub .str .non = false := (rfl)
@[simp] theorem sub_str_bl : Ty.sub .str .bl = false := (rfl)
@[simp] theorem sub_str_int : Ty.sub .str .int = false := (rfl)
@[simp] theorem sub_str_str : Ty.sub .str .str = true := (rfl)
@[simp] theorem sub_str_lst : Ty.sub .str .lst = false := (rfl)
@[simp] theorem sub_str_tup : Ty.sub .str .tup = false := (rfl)
@[simp] theorem sub_str_dct : Ty.sub .str .dct = false := (rfl)
@[simp] theorem sub_lst_non : Ty.sub .lst .non = false := (rfl)
@[simp] theorem sub_lst_bl : Ty.sub .lst .bl = false := (rfl)
@[simp] theorem sub_lst_int : Ty.sub .lst .int = false := (rfl)
@[simp] theorem sub_lst_str : Ty.sub .lst .str = false := (rfl)
@[simp] theorem sub_lst_lst : Ty.sub .lst .lst = true := (rfl)
@[simp] theorem sub_lst_tup : Ty.sub .lst .tup = false := (rfl)
@[simp] theorem sub_lst_dct : Ty.sub .lst .dct = false := (rfl)
@[simp] theorem sub_tup_non : Ty.sub .tup .non = false := (rfl)
@[simp] theorem sub_tup_bl : Ty.sub .tup .bl = false := (rfl)
@[simp] theorem sub_tup_int : Ty.sub .tup .int = false := (rfl)
@[simp] theorem sub_tup_str : Ty.sub .tup .str = false := (rfl)
@[simp] theorem sub_tup_lst : Ty.sub .tup .lst = false := (rfl)
@[simp] theorem sub_tup_tup : Ty.sub .tup .tup = true := (rfl)
@[simp] theorem sub_tup_dct : Ty.sub .tup .dct = false := (rfl)
@[simp] theorem sub_dct_non : Ty.sub .dct .non = false := (rfl)
@[simp] theorem sub_dct_bl : Ty.sub .dct .bl = false := (rfl)
@[simp] theorem sub_dct_int : Ty.sub .dct .int = false := (rfl)
@[simp] theorem sub_dct_str : Ty.sub .dct .str = false := (rfl)
@[simp] theorem sub_dct_lst : Ty.sub .dct .lst = false := (rfl)
@[simp] theorem sub_dct_tup : Ty.sub .dct .tup = false := (rfl)
@[simp] theorem sub_dct_dct : Ty.sub .dct .dct = true := (rfl)
section
variable {W : Wd}
@[simp] theorem tyOf_non : tyOf W (.d .non) = some .non := (rfl)
@[simp] theorem tyOf_bl {b : Bool} : tyOf W (.d (.bl b)) = some .bl := (rfl)
@[simp] theorem tyOf_int {i : Int} : tyOf W (.d (.int i)) = some .int := (rfl)
@[simp] theorem tyOf_str {z : PySem.Str} : tyOf W (.d (.str z)) = some .str := (rfl)
@[simp] theorem tyOf_lst {xs : List D} : tyOf W (.d (.lst xs)) = some .lst := (rfl)
@[simp] theorem tyOf_tup {xs : List D} : tyOf W (.d (.tup xs)) = some .tup := (rfl)
@[simp] theorem tyOf_dK {xs : List (Key × D)} : tyOf W (.d (.dK xs)) = some .dct := (rfl)
@[simp] theorem tysOf_ty {t : Ty} : tysOf (.ty t) = if t = .non then none else some [t] := (rfl)
@[simp] theorem tysOf_tup {xs : List D} : tysOf (.tup xs) = tysOf.go xs := (rfl)
@[simp] theorem tysGo_nil : tysOf.go [] = some [] := (rfl)
@[simp] theorem tysGo_cons {t : Ty} {r : List D} : tysOf.go (.ty t :: r) = if t = .non then none else (tysOf.go r).map (t :: ·) := (rfl)
def allF (ns : List Bool) : M RV := M.ret (.d (.bl (ns.all id)))
def allK (o : Option (Bool × List RV)) : Option (List Bool) := o.bind fun p => if p.1 then none else blsL p.2
@[simp] theorem w_bAll {u : RV} {Q : RV → Wd → Prop} {E : DX → Wd → Prop} : wpM (bAll [u]) W Q E = lookK (allK (seqOf W u)) (kB allF Q E) W := by
  show wpM ((M.look _).bind _) W Q E = _
  rw [w_bind, w_look]; rfl
@[simp] theorem allK_some {xs : List RV} : allK (some (false, xs)) = blsL xs := (rfl)
@[simp] theorem allF_ap {ns : List Bool} : allF ns = M.ret (.d (.bl (ns.all id))) := (rfl)
theorem blsL_map {α : Type} (f : α → Bool) : ∀ xs : List α, blsL (xs.map fun x => .d (.bl (f x))) = some (xs.map f)
  | [] => rfl
  | x :: xs => by
    show (blsL (xs.map fun x => .d (.bl (f x)))).map (f x :: ·) = _
    rw [blsL_map f xs]; rfl
end
@[simp] theorem opIs_nn {n : Bool} : opIs n (.d .non) (.d .non) = M.ret (.d (.bl (!n))) := (rfl)
@[simp] theorem opIs_in {n : Bool} {i : Int} : opIs n (.d (.int i)) (.d .non) = M.ret (.d (.bl n)) := (rfl)
@[simp] theorem opIs_bn {n b : Bool} : opIs n (.d (.bl b)) (.d .non) = M.ret (.d (.bl n)) := (rfl)
@[simp] theorem opIs_sn {n : Bool} {z : PySem.Str} : opIs n (.d (.str z)) (.d .non) = M.ret (.d (.bl n)) := (rfl)
@[simp] theorem opIs_ln {n : Bool} {xs : List D} : opIs n (.d (.lst xs)) (.d .non) = M.ret (.d (.bl n)) := (rfl)
@[simp] theorem opIs_tn {n : Bool} {xs : List D} : opIs n (.d (.tup xs)) (.d .non) = M.ret (.d (.bl n)) := (rfl)
@[simp] theorem opIs_dn {n : Bool} {xs : List (Key × D)} : opIs n (.d (.dK xs)) (.d .non) = M.ret (.d (.bl n)) := (rfl)
@[simp] theorem opIs_rn {n : Bool} {l : Nat} : opIs n (.r l) (.d .non) = M.ret (.d (.bl n)) := (rfl)
/-! _law_same of a thing and itself -/
def sok : Nat → D → Bool
  | 0, _ => false
  | n + 1, .lst xs => decide (xs.length < sizeLine) && xs.all (sok n)
  | n + 1, .tup xs => decide (xs.length < sizeLine) && xs.all (sok n)
  | _ + 1, .int _ => true
  | _ + 1, .bl _ => true
  | _ + 1, .str _ => true
  | _ + 1, .non => true
  | _ + 1, _ => false
theorem zipD_same (xs : List D) : zipD xs xs = xs.map fun x => .tup [x, x] := by
  unfold zipD
  induction xs with
  | nil => rfl
  | cons x r ih => simp at ih ⊢; exact ih
theorem same_refl : ∀ (n : Nat) (x : D), sok n x = true → ∀ (W : Wd) (Q : RV → Wd → Prop) (E : DX → Wd → Prop), Q (.d (.bl true)) W → wpM (f__law_same n [.d x, .d x]) W Q E
  | 0, _, h, _, _, _, _ => by simp [sok] at h
  | n + 1, x, h, W, Q, E, hq => by
    rw [f__law_same_s, w_fnD]
    have ih := same_refl n
    have lc : ∀ (xs : List D) (δ : DL.Env) (Q : RV → Wd → Prop), xs.length < sizeLine → (∀ x, x ∈ xs → sok n x = true) → Q (.d (.lst ((zipD xs xs).map fun _ => .bl true))) W →
        wpM (lcF false (gtUnp 2 (gtCons (gtName 2) (gtCons (gtName 3) gtNil))) evYes (p__law_same_e1 (f__law_same n)) [some (RV.d (D.lst xs)), some (RV.d (D.lst xs)), none, none] (zipD xs xs)) W Q E := fun xs δ Q h1 h2 hq => by
      refine w_noEr (goLc_fm (c := fun _ => true) (f := fun _ => .bl true) (by rw [zipD_same, List.length_map]; exact h1) (fun d hd => ?_) ?_)
      · rw [zipD_same, List.mem_map] at hd
        obtain ⟨x, hx, rfl⟩ := hd
        simp [p__law_same_e1]
        exact ih x (h2 x hx) _ _ _ ⟨rfl, rfl⟩
      · rw [List.filter_eq_self.mpr fun _ _ => rfl]; exact hq
    have lt : ∀ (xs : List D) (δ : DL.Env) (Q : RV → Wd → Prop), xs.length < sizeLine → (∀ x, x ∈ xs → sok n x = true) → Q (.d (.lst ((zipD xs xs).map fun _ => .bl true))) W →
        wpM (lcF false (gtUnp 2 (gtCons (gtName 2) (gtCons (gtName 3) gtNil))) evYes (p__law_same_e1 (f__law_same n)) [some (RV.d (D.tup xs)), some (RV.d (D.tup xs)), none, none] (zipD xs xs)) W Q E := fun xs δ Q h1 h2 hq => by
      refine w_noEr (goLc_fm (c := fun _ => true) (f := fun _ => .bl true) (by rw [zipD_same, List.length_map]; exact h1) (fun d hd => ?_) ?_)
      · rw [zipD_same, List.mem_map] at hd
        obtain ⟨x, hx, rfl⟩ := hd
        simp [p__law_same_e1]
        exact ih x (h2 x hx) _ _ _ ⟨rfl, rfl⟩
      · rw [List.filter_eq_self.mpr fun _ _ => rfl]; exact hq
    have al : ∀ xs : List D, blsL (List.map RV.d ((zipD xs xs).map fun _ => D.bl true)) = some ((zipD xs xs).map fun _ => true) := fun xs => by
      rw [List.map_map]
      exact blsL_map (fun _ => true) _
    cases x with
    | lst xs =>
      simp [sok] at h
      simp [m__law_same, startD, wipeD]
      refine ⟨by decide, lc xs [] _ h.1 h.2 ?_⟩
      simp
      rw [show (List.map (RV.d ∘ fun x => D.bl true) (zipD xs xs)) = List.map RV.d ((zipD xs xs).map fun _ => D.bl true) from by rw [List.map_map], al]
      simp
      rw [List.all_eq_true.mpr fun _ _ => rfl]
      exact hq
    | tup xs =>
      simp [sok] at h
      simp [m__law_same, startD, wipeD]
      refine ⟨by decide, lt xs [] _ h.1 h.2 ?_⟩
      simp
      rw [show (List.map (RV.d ∘ fun x => D.bl true) (zipD xs xs)) = List.map RV.d ((zipD xs xs).map fun _ => D.bl true) from by rw [List.map_map], al]
      simp
      rw [List.all_eq_true.mpr fun _ _ => rfl]
      exact hq
    | int i => simp [m__law_same, startD]; exact ⟨by decide, hq⟩
    | bl b => simp [m__law_same, startD]; exact ⟨by decide, hq⟩
    | str z => simp [m__law_same, startD]; exact ⟨by decide, hq⟩
    | non => simp [m__law_same, startD]; exact ⟨by decide, hq⟩
    | ty _ => simp [sok] at h
    | frz _ => simp [sok] at h
    | dK _ => simp [sok] at h
    | dT _ => simp [sok] at h
end SH
set_option Elab.async false
set_option linter.all false
set_option maxRecDepth 100000
set_option maxHeartbeats 4000000
namespace K01
open PySem PySem.Spec PyProof.Rows L2 RZ DL SH
def topS (i : Nat) : Stmt := PySem.Challenge.pw_foldedsums_k01_signs_told_from_others.main.body.getD i (.Pass ⟨0, 0, 0, 0⟩)
abbrev s__law_below : Stmt := topS 6
abbrev s__law_bpool : Stmt := topS 9
abbrev s__law_bsome : Stmt := topS 10
abbrev s__law_good : Stmt := topS 11
abbrev s__law_pick : Stmt := topS 7
abbrev s__law_same : Stmt := topS 8
abbrev s__law_start : Stmt := topS 5
abbrev s_is_sign : Stmt := topS 1
abbrev s_is_lot : Stmt := topS 2
abbrev s_is_signs : Stmt := topS 3
abbrev s_law : Stmt := topS 12
structure Top (K : PySem.W.Frag) (mg : Str → Option Value) : Prop where
  z_all : mg "all" = none
  z_bool : mg "bool" = none
  z_dict : mg "dict" = none
  z_enumerate : mg "enumerate" = none
  z_int : mg "int" = none
  z_isinstance : mg "isinstance" = none
  z_len : mg "len" = none
  z_list : mg "list" = none
  z_ord : mg "ord" = none
  z_range : mg "range" = none
  z_str : mg "str" = none
  z_sum : mg "sum" = none
  z_tuple : mg "tuple" = none
  z_zip : mg "zip" = none
  d__law_below : TopD K mg "_law_below" s__law_below ["stream", "many"]
  d__law_bpool : TopD K mg "_law_bpool" s__law_bpool []
  d__law_bsome : TopD K mg "_law_bsome" s__law_bsome ["stream", "some", "many"]
  d__law_good : TopD K mg "_law_good" s__law_good ["stream", "sizes"]
  d__law_pick : TopD K mg "_law_pick" s__law_pick ["stream", "some"]
  d__law_same : TopD K mg "_law_same" s__law_same ["found", "due"]
  d__law_start : TopD K mg "_law_start" s__law_start ["script"]
  d_is_sign : TopD K mg "is_sign" s_is_sign ["thing"]
  d_is_lot : TopD K mg "is_lot" s_is_lot ["thing", "most"]
  d_is_signs : TopD K mg "is_signs" s_is_signs ["thing"]
noncomputable section
variable {P : Program} {w : World} {K : PySem.W.Frag} {mg : Str → Option Value} {base : Heap} {cv : Str → Value}
/-! ### _law_below -/
abbrev N__law_below : List Str := ["stream", "many", "cell", "digit", "mixed"]
theorem S__law_below : FnScope N__law_below ["stream", "many"] (defScope s__law_below) := ⟨rfl, rfl, rfl, by decide +kernel, rfl, by decide +kernel, by decide +kernel⟩
theorem c__law_below (T : Top K mg) : CalD P w K mg base cv 1 "_law_below" 2 f__law_below := by
  unfold f__law_below
  refine T.d__law_below.cal S__law_below fun f cdv A outer s H E hr => ?_
  have hx : Passes (L2.CX P w) (cxOf (L2.CX P w) P w K mg base N__law_below "_law_below" (defScope s__law_below) f cdv A outer s H E) E := passes_call (takes_of rfl rfl rfl rfl) (fun _ _ _ _ h => h)
  have hp : PassesOwn (model P w) (cxOf (L2.CX P w) P w K mg base N__law_below "_law_below" (defScope s__law_below) f cdv A outer s H E).A (cxOf (L2.CX P w) P w K mg base N__law_below "_law_below" (defScope s__law_below) f cdv A outer s H E).env (cxOf (L2.CX P w) P w K mg base N__law_below "_law_below" (defScope s__law_below) f cdv A outer s H E).xe := passes_of rfl
  exact (dss_cons (ds_asg (de_add (mk := false) (fun _ => rfl) (de_ix (fun _ => rfl) (de_var 0) de_int (fun _ _ => rfl)) de_int) (dg_sub (de_var 0) de_int))
    (dss_cons (ds_while 100 (fun _ => hp) (DW.t (dw_and (dt_cmp (or_eq (fun _ => rfl) (fun _ => hr)) opd_eq (de_ix (fun _ => rfl) (de_var 0) de_int (fun _ _ => rfl)) de_int rfl) (dw_and1 (dt_cmp (or_ne (fun _ => rfl) (fun _ => hr)) opd_ne (de_ix (fun _ => rfl) (de_var 0) de_int (fun _ _ => rfl)) (de_lst (mk := false) da_nil) rfl)))) (dss_cons (ds_asg (de_mthL (fun _ => rfl) PySem.F.slot_list_pop PySem.F.type_list_pop (fun _ => mt_popAt) md_pop (de_ix (fun _ => rfl) (de_var 0) de_int (fun _ _ => rfl)) (da_cons de_int da_nil)) (dg_name 2 (fun _ => S__law_below.nd)))
    (dss_cons (ds_asg (de_mod (de_callTy (fun _ => call_int1) cd_int (fun _ => T.z_int) (da_cons (de_add (mk := false) (fun _ => rfl) (de_add (mk := false) (fun _ => rfl) (de_mul (mk := false) (de_ix (fun _ => rfl) (de_var 0) de_int (fun _ _ => rfl)) de_int) (de_var 2)) de_int) da_nil)) de_int) (dg_sub (de_var 0) de_int))
    (dss_one (ds_asg (de_if (dt_cmp (fun _ => op_ge) opd_ge (de_var 2) (de_pow de_int de_int) rfl) (de_var 2) de_int) (dg_sub (de_var 0) de_int))))))
    (dss_cons (ds_if (dt_cmp (fun _ => op_gt) opd_gt (de_ix (fun _ => rfl) (de_var 0) de_int (fun _ _ => rfl)) de_int rfl) (dss_cons (ds_asg (de_mod (de_callTy (fun _ => call_int1) cd_int (fun _ => T.z_int) (da_cons (de_ix (fun _ => rfl) (de_var 0) de_int (fun _ _ => rfl)) da_nil)) (de_var 1)) (dg_name 3 (fun _ => S__law_below.nd)))
    (dss_cons (ds_asg (de_fdiv (de_ix (fun _ => rfl) (de_var 0) de_int (fun _ _ => rfl)) (de_var 1)) (dg_sub (de_var 0) de_int))
    (dss_one (ds_ret (de_var 3))))) dss_nil)
    (dss_cons (ds_asg (de_mod (de_callTy (fun _ => call_int1) cd_int (fun _ => T.z_int) (da_cons (de_pow (de_add (mk := false) (fun _ => rfl) (de_add (mk := false) (fun _ => rfl) (de_ix (fun _ => rfl) (de_var 0) de_int (fun _ _ => rfl)) (de_mul (mk := false) de_int (de_ix (fun _ => rfl) (de_var 0) de_int (fun _ _ => rfl)))) de_int) de_int) da_nil)) de_int) (dg_name 4 (fun _ => S__law_below.nd)))
    (dss_one (ds_ret (de_mod (de_mod (de_callTy (fun _ => call_int1) cd_int (fun _ => T.z_int) (da_cons (de_pow (de_add (mk := false) (fun _ => rfl) (de_add (mk := false) (fun _ => rfl) (de_mul (mk := false) (de_var 4) de_int) (de_mul (mk := false) de_int (de_ix (fun _ => rfl) (de_var 0) de_int (fun _ _ => rfl)))) de_int) de_int) da_nil)) de_int) (de_var 1))))))))
/-! ### _law_bpool -/
abbrev N__law_bpool : List Str := []
theorem S__law_bpool : FnScope N__law_bpool [] (defScope s__law_bpool) := ⟨rfl, rfl, rfl, by decide +kernel, rfl, by decide +kernel, by decide +kernel⟩
def m__law_bpool (δ : DL.Env) : M (Fl × DL.Env) :=
  (evRet (cS "!#$&'()*+,-./0123456789:;<=>?@ABCDEFGHIJKLMNOPQRSTUVWXYZ[\\]^_`abcdefghijklmnopqrstuvwxyz{|}~")) δ
@[irreducible] def f__law_bpool : List RV → M RV := fnD 0 m__law_bpool
theorem c__law_bpool (T : Top K mg) : CalD P w K mg base cv 1 "_law_bpool" 0 f__law_bpool := by
  unfold f__law_bpool
  refine T.d__law_bpool.cal S__law_bpool fun f cdv A outer s H E hr => ?_
  have hx : Passes (L2.CX P w) (cxOf (L2.CX P w) P w K mg base N__law_bpool "_law_bpool" (defScope s__law_bpool) f cdv A outer s H E) E := passes_call (takes_of rfl rfl rfl rfl) (fun _ _ _ _ h => h)
  have hp : PassesOwn (model P w) (cxOf (L2.CX P w) P w K mg base N__law_bpool "_law_bpool" (defScope s__law_bpool) f cdv A outer s H E).A (cxOf (L2.CX P w) P w K mg base N__law_bpool "_law_bpool" (defScope s__law_bpool) f cdv A outer s H E).env (cxOf (L2.CX P w) P w K mg base N__law_bpool "_law_bpool" (defScope s__law_bpool) f cdv A outer s H E).xe := passes_of rfl
  exact (dss_one (ds_ret de_str))
/-! ### _law_bsome -/
abbrev N__law_bsome : List Str := ["stream", "some", "many", "left", "turn"]
theorem S__law_bsome : FnScope N__law_bsome ["stream", "some", "many"] (defScope s__law_bsome) := ⟨rfl, rfl, rfl, by decide +kernel, rfl, by decide +kernel, by decide +kernel⟩
def p__law_bsome_e1 (δ : DL.Env) : M RV :=
  (evMth mPop (evVar 3) (evCons (evCallF 2 f__law_below (evCons (evVar 0) (evCons (evCall bLen (evCons (evVar 3) evNil)) evNil))) evNil)) δ
def m__law_bsome (δ : DL.Env) : M (Fl × DL.Env) :=
  (evSeq (evAsg (evCall (bList true) (evCons (evVar 1) evNil)) (gtName 3))
    (evRet (evLc false [4] (evRange1 (evCons (evVar 2) evNil)) (gtName 4) evYes p__law_bsome_e1))) δ
@[irreducible] def f__law_bsome : List RV → M RV := fnD 5 m__law_bsome
theorem c__law_bsome (T : Top K mg) : CalD P w K mg base cv 2 "_law_bsome" 3 f__law_bsome := by
  unfold f__law_bsome
  refine T.d__law_bsome.cal S__law_bsome fun f cdv A outer s H E hr => ?_
  have hx : Passes (L2.CX P w) (cxOf (L2.CX P w) P w K mg base N__law_bsome "_law_bsome" (defScope s__law_bsome) f cdv A outer s H E) E := passes_call (takes_of rfl rfl rfl rfl) (fun _ _ _ _ h => h)
  have hp : PassesOwn (model P w) (cxOf (L2.CX P w) P w K mg base N__law_bsome "_law_bsome" (defScope s__law_bsome) f cdv A outer s H E).A (cxOf (L2.CX P w) P w K mg base N__law_bsome "_law_bsome" (defScope s__law_bsome) f cdv A outer s H E).env (cxOf (L2.CX P w) P w K mg base N__law_bsome "_law_bsome" (defScope s__law_bsome) f cdv A outer s H E).xe := passes_of rfl
  exact (dss_cons (ds_asg (de_callTy (fun _ => call_bList rfl rfl) (cd_list (mk := true)) (fun _ => T.z_list) (da_cons (de_var 1) da_nil)) (dg_name 3 (fun _ => S__law_bsome.nd)))
    (dss_one (ds_ret (de_lc (mk := false) N__law_bsome (defScope s__law_bsome) [("turn", 4)] (blkOk_by (by decide +kernel)) (sub_by (by decide)) (fun _ => rfl) (fun _ => S__law_bsome.nd) (di_range1 (fun _ => T.z_range) (da_cons (de_var 2) da_nil)) (dg_name 4 (fun _ => S__law_bsome.nd)) dts_nil (de_mthL (fun _ => rfl) PySem.F.slot_list_pop PySem.F.type_list_pop (fun _ => mt_popAt) md_pop (de_var 3) (da_cons (de_call (fun _ => (c__law_below T)) (fun _ => hr) (fun _ => passL) (fun _ => rfl) (da_cons (de_var 0) (da_cons (de_callB (fun _ => call_bLen rfl) cd_len (fun _ => T.z_len) (da_cons (de_var 3) da_nil)) da_nil))) da_nil))))))
/-! ### _law_good -/
abbrev N__law_good : List Str := ["stream", "sizes", "some", "found", "size"]
theorem S__law_good : FnScope N__law_good ["stream", "sizes"] (defScope s__law_good) := ⟨rfl, rfl, rfl, by decide +kernel, rfl, by decide +kernel, by decide +kernel⟩
def p__law_good_b1 (δ : DL.Env) : M (Fl × DL.Env) :=
  (evSeq (evDrop (evMth mAppend (evVar 3) (evCons (evMth1 mJoin (cS "") (evSl false (evVar 2) oN (oS (evVar 4)))) evNil)))
    (evAsg (evSl false (evVar 2) (oS (evVar 4)) oN) (gtName 2))) δ
def m__law_good (δ : DL.Env) : M (Fl × DL.Env) :=
  (evSeq (evPar 2 3 (evCons (evCallF 3 f__law_bsome (evCons (evVar 0) (evCons (evCallF 0 f__law_bpool evNil) (evCons (evCall bSum (evCons (evVar 1) evNil)) evNil)))) (evCons (evLst true evNil) evNil)))
    (evSeq (evFor (evIter (evVar 1)) (gtName 4) p__law_good_b1)
    (evRet (evFrz (evVar 3))))) δ
@[irreducible] def f__law_good : List RV → M RV := fnD 5 m__law_good
theorem c__law_good (T : Top K mg) : CalD P w K mg base cv 3 "_law_good" 2 f__law_good := by
  unfold f__law_good
  refine T.d__law_good.cal S__law_good fun f cdv A outer s H E hr => ?_
  have hx : Passes (L2.CX P w) (cxOf (L2.CX P w) P w K mg base N__law_good "_law_good" (defScope s__law_good) f cdv A outer s H E) E := passes_call (takes_of rfl rfl rfl rfl) (fun _ _ _ _ h => h)
  have hp : PassesOwn (model P w) (cxOf (L2.CX P w) P w K mg base N__law_good "_law_good" (defScope s__law_good) f cdv A outer s H E).A (cxOf (L2.CX P w) P w K mg base N__law_good "_law_good" (defScope s__law_good) f cdv A outer s H E).env (cxOf (L2.CX P w) P w K mg base N__law_good "_law_good" (defScope s__law_good) f cdv A outer s H E).xe := passes_of rfl
  exact (dss_cons (ds_par 2 3 (fun _ => rfl) (fun _ => S__law_good.nd) (da_cons (de_call (fun _ => (c__law_bsome T)) (fun _ => hr) (fun _ => hx) (fun _ => rfl) (da_cons (de_var 0) (da_cons (de_call0 (fun _ => (c__law_bpool T)) (fun _ => hr) (fun _ => hx) (fun _ => rfl)) (da_cons (de_callB (fun _ => call_bSum rfl rfl) cd_sum (fun _ => T.z_sum) (da_cons (de_var 1) da_nil)) da_nil)))) (da_cons (de_lst (mk := true) da_nil) da_nil)))
    (dss_cons (ds_for (fun _ => hp) (fun _ => rfl) (di_any (fun _ => rfl) (de_var 1)) (dg_name 4 (fun _ => S__law_good.nd)) (dss_cons (ds_expr (de_mthL (fun _ => rfl) PySem.F.slot_list_append PySem.F.type_list_append (fun _ => mt_append) md_append (de_var 3) (da_cons (de_mthS PySem.F.slot_str_join PySem.F.type_str_join (fun _ => mt_bJoin rfl) md_join de_str (de_sl (mk := false) (fun _ => rfl) (de_var 2) do_none (do_some (de_var 4)))) da_nil)))
    (dss_one (ds_asg (de_sl (mk := false) (fun _ => rfl) (de_var 2) (do_some (de_var 4)) do_none) (dg_name 2 (fun _ => S__law_good.nd))))))
    (dss_one (ds_ret (de_frz (de_var 3))))))
/-! ### _law_pick -/
abbrev N__law_pick : List Str := ["stream", "some"]
theorem S__law_pick : FnScope N__law_pick ["stream", "some"] (defScope s__law_pick) := ⟨rfl, rfl, rfl, by decide +kernel, rfl, by decide +kernel, by decide +kernel⟩
theorem c__law_pick (T : Top K mg) : CalD P w K mg base cv 2 "_law_pick" 2 f__law_pick := by
  unfold f__law_pick
  refine T.d__law_pick.cal S__law_pick fun f cdv A outer s H E hr => ?_
  have hx : Passes (L2.CX P w) (cxOf (L2.CX P w) P w K mg base N__law_pick "_law_pick" (defScope s__law_pick) f cdv A outer s H E) E := passes_call (takes_of rfl rfl rfl rfl) (fun _ _ _ _ h => h)
  have hp : PassesOwn (model P w) (cxOf (L2.CX P w) P w K mg base N__law_pick "_law_pick" (defScope s__law_pick) f cdv A outer s H E).A (cxOf (L2.CX P w) P w K mg base N__law_pick "_law_pick" (defScope s__law_pick) f cdv A outer s H E).env (cxOf (L2.CX P w) P w K mg base N__law_pick "_law_pick" (defScope s__law_pick) f cdv A outer s H E).xe := passes_of rfl
  exact (dss_one (ds_ret (de_ix (fun _ => rfl) (de_var 1) (de_call (fun _ => (c__law_below T)) (fun _ => hr) (fun _ => hx) (fun _ => rfl) (da_cons (de_var 0) (da_cons (de_callB (fun _ => call_bLen rfl) cd_len (fun _ => T.z_len) (da_cons (de_var 1) da_nil)) da_nil))) (fun _ _ => rfl))))
/-! ### _law_same -/
abbrev N__law_same : List Str := ["found", "due", "x", "y"]
theorem S__law_same : FnScope N__law_same ["found", "due"] (defScope s__law_same) := ⟨rfl, rfl, rfl, by decide +kernel, rfl, by decide +kernel, by decide +kernel⟩
theorem c__law_same (T : Top K mg) (n : Nat) : CalD P w K mg base cv (n + 0) "_law_same" 2 (f__law_same n) := by
  induction n with
  | zero =>
    rw [f__law_same_0]
    exact T.d__law_same.zero.mono (Nat.zero_le _)
  | succ n rec =>
    rw [Nat.add_right_comm, f__law_same_s]
    refine T.d__law_same.cal S__law_same fun f cdv A outer s H E hr => ?_
    have hx : Passes (L2.CX P w) (cxOf (L2.CX P w) P w K mg base N__law_same "_law_same" (defScope s__law_same) f cdv A outer s H E) E := passes_call (takes_of rfl rfl rfl rfl) (fun _ _ _ _ h => h)
    have hp : PassesOwn (model P w) (cxOf (L2.CX P w) P w K mg base N__law_same "_law_same" (defScope s__law_same) f cdv A outer s H E).A (cxOf (L2.CX P w) P w K mg base N__law_same "_law_same" (defScope s__law_same) f cdv A outer s H E).env (cxOf (L2.CX P w) P w K mg base N__law_same "_law_same" (defScope s__law_same) f cdv A outer s H E).xe := passes_of rfl
    exact (dss_cons (ds_if (dt_val (de_callB (fun _ => CallR.or call_isi call_isiT) cd_isi (fun _ => T.z_isinstance) (da_cons (de_var 1) (da_cons (de_tup (da_cons (de_ty .lst (fun _ => T.z_list)) (da_cons (de_ty .tup (fun _ => T.z_tuple)) da_nil))) da_nil)))) (dss_cons (ds_if (DW.t (dw_or (dt_cmp (or_ne (fun _ => rfl) (fun _ => hr)) opd_ne (de_callB (fun _ => CallR.or call_isi call_isiT) cd_isi (fun _ => T.z_isinstance) (da_cons (de_var 0) (da_cons (de_ty .lst (fun _ => T.z_list)) da_nil))) (de_callB (fun _ => CallR.or call_isi call_isiT) cd_isi (fun _ => T.z_isinstance) (da_cons (de_var 1) (da_cons (de_ty .lst (fun _ => T.z_list)) da_nil))) rfl) (dw_or1 (dt_cmp (or_ne (fun _ => rfl) (fun _ => hr)) opd_ne (de_callB (fun _ => CallR.or call_isi call_isiT) cd_isi (fun _ => T.z_isinstance) (da_cons (de_var 0) (da_cons (de_ty .tup (fun _ => T.z_tuple)) da_nil))) (de_callB (fun _ => CallR.or call_isi call_isiT) cd_isi (fun _ => T.z_isinstance) (da_cons (de_var 1) (da_cons (de_ty .tup (fun _ => T.z_tuple)) da_nil))) rfl)))) (dss_one (ds_ret de_bl)) dss_nil)
    (dss_one (ds_ret (de_and (de_cmp (or_eq (fun _ => rfl) (fun _ => hr)) opd_eq (de_callB (fun _ => call_bLen rfl) cd_len (fun _ => T.z_len) (da_cons (de_var 0) da_nil)) (de_callB (fun _ => call_bLen rfl) cd_len (fun _ => T.z_len) (da_cons (de_var 1) da_nil)) rfl) (de_one (de_callB (fun _ => call_bAll rfl rfl) cd_all (fun _ => T.z_all) (da_cons (de_lc (mk := false) N__law_same (defScope s__law_same) [("x", 2), ("y", 3)] (blkOk_by (by decide +kernel)) (sub_by (by decide)) (fun _ => rfl) (fun _ => S__law_same.nd) (di_zip (fun _ => rfl) (fun _ => T.z_zip) (da_cons (de_var 0) (da_cons (de_var 1) da_nil))) (dg_tup (n := 2) (fun _ => rfl) (fun _ => rfl) (dgs_cons (dg_name 2 (fun _ => S__law_same.nd)) (dgs_cons (dg_name 3 (fun _ => S__law_same.nd)) dgs_nil))) dts_nil (de_call (fun _ => rec) (fun _ => hr) (fun _ => passL) (fun _ => rfl) (da_cons (de_var 2) (da_cons (de_var 3) da_nil)))) da_nil))))))) dss_nil)
    (dss_cons (ds_if (dt_val (de_callB (fun _ => CallR.or call_isi call_isiT) cd_isi (fun _ => T.z_isinstance) (da_cons (de_var 1) (da_cons (de_ty .dct (fun _ => T.z_dict)) da_nil)))) (dss_one (ds_ret (de_and (de_callB (fun _ => CallR.or call_isi call_isiT) cd_isi (fun _ => T.z_isinstance) (da_cons (de_var 0) (da_cons (de_ty .dct (fun _ => T.z_dict)) da_nil))) (de_one (de_call (fun _ => rec) (fun _ => hr) (fun _ => hx) (fun _ => rfl) (da_cons (de_callTy (fun _ => call_bList rfl rfl) (cd_list (mk := false)) (fun _ => T.z_list) (da_cons DE.never da_nil)) (da_cons (de_callTy (fun _ => call_bList rfl rfl) (cd_list (mk := false)) (fun _ => T.z_list) (da_cons DE.never da_nil)) da_nil))))))) dss_nil)
    (dss_cons (ds_if (dt_val (de_callB (fun _ => CallR.or call_isi call_isiT) cd_isi (fun _ => T.z_isinstance) (da_cons (de_var 1) (da_cons (de_ty .int (fun _ => T.z_int)) da_nil)))) (dss_one (ds_ret (de_and (de_callB (fun _ => CallR.or call_isi call_isiT) cd_isi (fun _ => T.z_isinstance) (da_cons (de_var 0) (da_cons (de_ty .int (fun _ => T.z_int)) da_nil))) (de_and (de_cmp (or_eq (fun _ => rfl) (fun _ => hr)) opd_eq (de_callB (fun _ => CallR.or call_isi call_isiT) cd_isi (fun _ => T.z_isinstance) (da_cons (de_var 0) (da_cons (de_ty .bl (fun _ => T.z_bool)) da_nil))) (de_callB (fun _ => CallR.or call_isi call_isiT) cd_isi (fun _ => T.z_isinstance) (da_cons (de_var 1) (da_cons (de_ty .bl (fun _ => T.z_bool)) da_nil))) rfl) (de_one (de_cmp (or_eq (fun _ => rfl) (fun _ => hr)) opd_eq (de_var 0) (de_var 1) rfl)))))) dss_nil)
    (dss_cons (ds_if (dt_cmp or_is opd_is (de_var 1) de_non rfl) (dss_one (ds_ret (de_cmp or_is opd_is (de_var 0) de_non rfl))) dss_nil)
    (dss_cons (ds_if (dt_val (de_callB (fun _ => CallR.or call_isi call_isiT) cd_isi (fun _ => T.z_isinstance) (da_cons (de_var 1) (da_cons (de_ty .str (fun _ => T.z_str)) da_nil)))) (dss_one (ds_ret (de_and (de_callB (fun _ => CallR.or call_isi call_isiT) cd_isi (fun _ => T.z_isinstance) (da_cons (de_var 0) (da_cons (de_ty .str (fun _ => T.z_str)) da_nil))) (de_one (de_cmp (or_eq (fun _ => rfl) (fun _ => hr)) opd_eq (de_var 0) (de_var 1) rfl))))) dss_nil)
    (dss_one (ds_ret (de_and (de_not (de_callB (fun _ => CallR.or call_isi call_isiT) cd_isi (fun _ => T.z_isinstance) (da_cons (de_var 0) (da_cons (de_tup (da_cons (de_ty .int (fun _ => T.z_int)) (da_cons (de_ty .str (fun _ => T.z_str)) (da_cons (de_ty .lst (fun _ => T.z_list)) (da_cons (de_ty .tup (fun _ => T.z_tuple)) (da_cons (de_ty .dct (fun _ => T.z_dict)) da_nil)))))) da_nil)))) (de_one (de_cmp (or_eq (fun _ => rfl) (fun _ => hr)) opd_eq (de_var 0) (de_var 1) rfl))))))))))
/-! ### is_sign -/
abbrev N_is_sign : List Str := ["thing"]
theorem S_is_sign : FnScope N_is_sign ["thing"] (defScope s_is_sign) := ⟨rfl, rfl, rfl, by decide +kernel, rfl, by decide +kernel, by decide +kernel⟩
def m_is_sign (δ : DL.Env) : M (Fl × DL.Env) :=
  (evRet (evAnd (evCall bIsi (evCons (evVar 0) (evCons (cT .str) evNil))) (evAnd (ev2 (opEq false) (evCall bLen (evCons (evVar 0) evNil)) (cI 1)) (evAnd (evChain (fun i j => decide (i ≤ j)) (fun i j => decide (i ≤ j)) (cI 33) (evCall bOrd (evCons (evVar 0) evNil)) (cI 126)) (ev2 (opIn true) (evCall bOrd (evCons (evVar 0) evNil)) (evTup (evCons (cI 34) (evCons (cI 37) evNil)))))))) δ
@[irreducible] def f_is_sign : List RV → M RV := fnD 1 m_is_sign
theorem c_is_sign (T : Top K mg) : CalD P w K mg base cv 1 "is_sign" 1 f_is_sign := by
  unfold f_is_sign
  refine T.d_is_sign.cal S_is_sign fun f cdv A outer s H E hr => ?_
  have hx : Passes (L2.CX P w) (cxOf (L2.CX P w) P w K mg base N_is_sign "is_sign" (defScope s_is_sign) f cdv A outer s H E) E := passes_call (takes_of rfl rfl rfl rfl) (fun _ _ _ _ h => h)
  have hp : PassesOwn (model P w) (cxOf (L2.CX P w) P w K mg base N_is_sign "is_sign" (defScope s_is_sign) f cdv A outer s H E).A (cxOf (L2.CX P w) P w K mg base N_is_sign "is_sign" (defScope s_is_sign) f cdv A outer s H E).env (cxOf (L2.CX P w) P w K mg base N_is_sign "is_sign" (defScope s_is_sign) f cdv A outer s H E).xe := passes_of rfl
  exact (dss_one (ds_ret (de_and (de_callB (fun _ => CallR.or call_isi call_isiT) cd_isi (fun _ => T.z_isinstance) (da_cons (de_var 0) (da_cons (de_ty .str (fun _ => T.z_str)) da_nil))) (de_and (de_cmp (or_eq (fun _ => rfl) (fun _ => hr)) opd_eq (de_callB (fun _ => call_bLen rfl) cd_len (fun _ => T.z_len) (da_cons (de_var 0) da_nil)) de_int rfl) (de_and (de_chain (fun _ => op_le) (fun _ => op_le) de_int (de_callB (fun _ => call_ord) cd_ord (fun _ => T.z_ord) (da_cons (de_var 0) da_nil)) de_int) (de_one (de_cmp (or_notIn (fun _ => rfl)) opd_notIn (de_callB (fun _ => call_ord) cd_ord (fun _ => T.z_ord) (da_cons (de_var 0) da_nil)) (de_tup (da_cons de_int (da_cons de_int da_nil))) rfl)))))))
/-! ### is_lot -/
abbrev N_is_lot : List Str := ["thing", "most", "at", "sign"]
theorem S_is_lot : FnScope N_is_lot ["thing", "most"] (defScope s_is_lot) := ⟨rfl, rfl, rfl, by decide +kernel, rfl, by decide +kernel, by decide +kernel⟩
def p_is_lot_e1 (δ : DL.Env) : M RV :=
  (cI 1) δ
def p_is_lot_q2 (δ : DL.Env) : M Bool :=
  (evOrT (evNotT (evB (evCallF 1 f_is_sign (evCons (evVar 3) evNil)))) (evB (ev2 (opIn false) (evVar 3) (evSl false (evVar 0) oN (oS (evVar 2)))))) δ
def m_is_lot (δ : DL.Env) : M (Fl × DL.Env) :=
  (evSeq (evIfS (evOrT (evNotT (evB (evCall bIsi (evCons (evVar 0) (evCons (cT .str) evNil))))) (evB (ev2 opGt (evCall bLen (evCons (evVar 0) evNil)) (evVar 1)))) (evRet (cB false)) evNext)
    (evRet (ev2 (opEq false) (evLc false [2, 3] (evEnum (evCons (evVar 0) evNil)) (gtUnp 2 (gtCons (gtName 2) (gtCons (gtName 3) gtNil))) p_is_lot_q2 p_is_lot_e1) (evLst false evNil)))) δ
@[irreducible] def f_is_lot : List RV → M RV := fnD 4 m_is_lot
theorem c_is_lot (T : Top K mg) : CalD P w K mg base cv 2 "is_lot" 2 f_is_lot := by
  unfold f_is_lot
  refine T.d_is_lot.cal S_is_lot fun f cdv A outer s H E hr => ?_
  have hx : Passes (L2.CX P w) (cxOf (L2.CX P w) P w K mg base N_is_lot "is_lot" (defScope s_is_lot) f cdv A outer s H E) E := passes_call (takes_of rfl rfl rfl rfl) (fun _ _ _ _ h => h)
  have hp : PassesOwn (model P w) (cxOf (L2.CX P w) P w K mg base N_is_lot "is_lot" (defScope s_is_lot) f cdv A outer s H E).A (cxOf (L2.CX P w) P w K mg base N_is_lot "is_lot" (defScope s_is_lot) f cdv A outer s H E).env (cxOf (L2.CX P w) P w K mg base N_is_lot "is_lot" (defScope s_is_lot) f cdv A outer s H E).xe := passes_of rfl
  exact (dss_cons (ds_if (DW.t (dw_or (dt_not (dt_val (de_callB (fun _ => CallR.or call_isi call_isiT) cd_isi (fun _ => T.z_isinstance) (da_cons (de_var 0) (da_cons (de_ty .str (fun _ => T.z_str)) da_nil))))) (dw_or1 (dt_cmp (fun _ => op_gt) opd_gt (de_callB (fun _ => call_bLen rfl) cd_len (fun _ => T.z_len) (da_cons (de_var 0) da_nil)) (de_var 1) rfl)))) (dss_one (ds_ret de_bl)) dss_nil)
    (dss_one (ds_ret (de_cmp (or_eq (fun _ => rfl) (fun _ => hr)) opd_eq (de_lc (mk := false) N_is_lot (defScope s_is_lot) [("at", 2), ("sign", 3)] (blkOk_by (by decide +kernel)) (sub_by (by decide)) (fun _ => rfl) (fun _ => S_is_lot.nd) (di_enum (fun _ => rfl) (fun _ => T.z_enumerate) (da_cons (de_var 0) da_nil)) (dg_tup (n := 2) (fun _ => rfl) (fun _ => rfl) (dgs_cons (dg_name 2 (fun _ => S_is_lot.nd)) (dgs_cons (dg_name 3 (fun _ => S_is_lot.nd)) dgs_nil))) (dts_one (DW.t (dw_or (dt_not (dt_val (de_call (fun _ => (c_is_sign T)) (fun _ => hr) (fun _ => passL) (fun _ => rfl) (da_cons (de_var 3) da_nil)))) (dw_or1 (dt_cmp (or_in (fun _ => rfl)) opd_in (de_var 3) (de_sl (mk := false) (fun _ => rfl) (de_var 0) do_none (do_some (de_var 2))) rfl))))) de_int) (de_lst (mk := false) da_nil) rfl))))
/-! ### is_signs -/
abbrev N_is_signs : List Str := ["thing", "plain", "opens", "closes"]
theorem S_is_signs : FnScope N_is_signs ["thing"] (defScope s_is_signs) := ⟨rfl, rfl, rfl, by decide +kernel, rfl, by decide +kernel, by decide +kernel⟩
def m_is_signs (δ : DL.Env) : M (Fl × DL.Env) :=
  (evSeq (evIfS (evOrT (evNotT (evB (evCall bIsi (evCons (evVar 0) (evCons (evTup (evCons (cT .lst) (evCons (cT .tup) evNil))) evNil))))) (evB (ev2 (opEq true) (evCall bLen (evCons (evVar 0) evNil)) (cI 3)))) (evRet (cB false)) evNext)
    (evSeq (evAsg (evVar 0) (gtUnp 3 (gtCons (gtName 1) (gtCons (gtName 2) (gtCons (gtName 3) gtNil)))))
    (evSeq (evIfS (evOrT (evNotT (evB (evCallF 2 f_is_lot (evCons (evVar 1) (evCons (cI 6) evNil))))) (evOrT (evNotT (evB (evCallF 2 f_is_lot (evCons (evVar 2) (evCons (cI 3) evNil))))) (evNotT (evB (evCallF 2 f_is_lot (evCons (evVar 3) (evCons (cI 3) evNil))))))) (evRet (cB false)) evNext)
    (evRet (evAnd (evCallF 2 f_is_lot (evCons (ev2 (opAdd false) (ev2 (opAdd false) (evVar 1) (evVar 2)) (evVar 3)) (evCons (cI 12) evNil))) (evAnd (ev2 (opEq false) (ev2 (opEq false) (evVar 2) (cS "")) (ev2 (opEq false) (evVar 3) (cS ""))) (ev2 (opEq true) (ev2 (opAdd false) (evVar 1) (evVar 2)) (cS "")))))))) δ
@[irreducible] def f_is_signs : List RV → M RV := fnD 4 m_is_signs
theorem c_is_signs (T : Top K mg) : CalD P w K mg base cv 3 "is_signs" 1 f_is_signs := by
  unfold f_is_signs
  refine T.d_is_signs.cal S_is_signs fun f cdv A outer s H E hr => ?_
  have hx : Passes (L2.CX P w) (cxOf (L2.CX P w) P w K mg base N_is_signs "is_signs" (defScope s_is_signs) f cdv A outer s H E) E := passes_call (takes_of rfl rfl rfl rfl) (fun _ _ _ _ h => h)
  have hp : PassesOwn (model P w) (cxOf (L2.CX P w) P w K mg base N_is_signs "is_signs" (defScope s_is_signs) f cdv A outer s H E).A (cxOf (L2.CX P w) P w K mg base N_is_signs "is_signs" (defScope s_is_signs) f cdv A outer s H E).env (cxOf (L2.CX P w) P w K mg base N_is_signs "is_signs" (defScope s_is_signs) f cdv A outer s H E).xe := passes_of rfl
  exact (dss_cons (ds_if (DW.t (dw_or (dt_not (dt_val (de_callB (fun _ => CallR.or call_isi call_isiT) cd_isi (fun _ => T.z_isinstance) (da_cons (de_var 0) (da_cons (de_tup (da_cons (de_ty .lst (fun _ => T.z_list)) (da_cons (de_ty .tup (fun _ => T.z_tuple)) da_nil))) da_nil))))) (dw_or1 (dt_cmp (or_ne (fun _ => rfl) (fun _ => hr)) opd_ne (de_callB (fun _ => call_bLen rfl) cd_len (fun _ => T.z_len) (da_cons (de_var 0) da_nil)) de_int rfl)))) (dss_one (ds_ret de_bl)) dss_nil)
    (dss_cons (ds_asg (de_var 0) (dg_tup (n := 3) (fun _ => rfl) (fun _ => rfl) (dgs_cons (dg_name 1 (fun _ => S_is_signs.nd)) (dgs_cons (dg_name 2 (fun _ => S_is_signs.nd)) (dgs_cons (dg_name 3 (fun _ => S_is_signs.nd)) dgs_nil)))))
    (dss_cons (ds_if (DW.t (dw_or (dt_not (dt_val (de_call (fun _ => (c_is_lot T)) (fun _ => hr) (fun _ => hx) (fun _ => rfl) (da_cons (de_var 1) (da_cons de_int da_nil))))) (dw_or (dt_not (dt_val (de_call (fun _ => (c_is_lot T)) (fun _ => hr) (fun _ => hx) (fun _ => rfl) (da_cons (de_var 2) (da_cons de_int da_nil))))) (dw_or1 (dt_not (dt_val (de_call (fun _ => (c_is_lot T)) (fun _ => hr) (fun _ => hx) (fun _ => rfl) (da_cons (de_var 3) (da_cons de_int da_nil))))))))) (dss_one (ds_ret de_bl)) dss_nil)
    (dss_one (ds_ret (de_and (de_call (fun _ => (c_is_lot T)) (fun _ => hr) (fun _ => hx) (fun _ => rfl) (da_cons (de_add (mk := false) (fun _ => rfl) (de_add (mk := false) (fun _ => rfl) (de_var 1) (de_var 2)) (de_var 3)) (da_cons de_int da_nil))) (de_and (de_cmp (or_eq (fun _ => rfl) (fun _ => hr)) opd_eq (de_cmp (or_eq (fun _ => rfl) (fun _ => hr)) opd_eq (de_var 2) de_str rfl) (de_cmp (or_eq (fun _ => rfl) (fun _ => hr)) opd_eq (de_var 3) de_str rfl) rfl) (de_one (de_cmp (or_ne (fun _ => rfl) (fun _ => hr)) opd_ne (de_add (mk := false) (fun _ => rfl) (de_var 1) (de_var 2)) de_str rfl)))))))))
/-! ### law -/
abbrev N_law : List Str := ["script", "stream", "turn", "plain", "opens", "closes", "sizes", "good", "wrong", "at", "some", "sign", "more", "thing"]
theorem S_law : FnScope N_law ["script"] (defScope s_law) := ⟨rfl, rfl, rfl, by decide +kernel, rfl, by decide +kernel, by decide +kernel⟩
theorem S_start : FnScope ["script"] ["script"] (defScope s__law_start) := ⟨rfl, rfl, rfl, by decide +kernel, rfl, by decide +kernel, by decide +kernel⟩
theorem ok_start (T : Top K mg) {f : Addr} {fd : FuncData} (F : Fun K "_law_start" "_law_start" s__law_start f fd) : FnOk P w K mg base (L2.CX P w) 1 f fd ["script"] (spStart K) := by
  refine F.okX S_start (fun vs H Q E h => ?_) (fun cdv A outer s H vs Q E hr h => ?_)
  · obtain ⟨a, ns, rfl, _⟩ := h
    rfl
  · exact ⟨_, pss_one (ps_ret (pe_lst (pa_cons (pe_callTy call_list_of (by rfl) T.z_list (by decide +kernel) (pa_cons (pv 0) pa_nil)) (pa_cons pe_int (pa_cons pe_int (pa_cons pe_int pa_nil)))))), rd_start h⟩
def p_law_e1 (δ : DL.Env) : M RV :=
  (evVar 13) δ
def p_law_q2 (δ : DL.Env) : M Bool :=
  (evB (ev2 (opIs true) (evCallF 1 f_is_signs (evCons (evVar 13) evNil)) (cB false))) δ
def p_law_s3 (δ : DL.Env) : M (Fl × DL.Env) :=
  (evSeq (evIfS (evB (ev2 (opEq true) (evLc false [13] (evIter (evVar 8)) (gtName 13) p_law_q2 p_law_e1) (evLst false evNil))) (evRet (cB false)) evNext)
    (evIfS (evOrT (evB (ev2 (opIs true) (evCallF 1 f_is_signs (evCons (evLst false (evCons (cS "!~") (evCons (cS "(") (evCons (cS ")") evNil)))) evNil)) (cB true))) (evOrT (evB (ev2 (opIs true) (evCallF 1 f_is_signs (evCons (evLst false (evCons (cS "") (evCons (cS "(<[") (evCons (cS ">])") evNil)))) evNil)) (cB true))) (evB (ev2 (opIs true) (evCallF 1 f_is_signs (evCons (evLst false (evCons (cS "a") (evCons (cS "") (evCons (cS "") evNil)))) evNil)) (cB true))))) (evRet (cB false)) evNext)) δ
def p_law_b4 (δ : DL.Env) : M (Fl × DL.Env) :=
  (evSeq (evAsg (evCall (bList true) (evCons (evVar 7) evNil)) (gtName 12))
    (evSeq (evAsg (evIf (evOrT (evB (ev2 (opIn false) (evVar 11) (evSl false (ev2 opIx (evVar 12) (evVar 9)) oN (oS (cI 2))))) (evB (ev2 (opIn true) (evVar 11) (ev2 opIx (evVar 12) (evVar 9))))) (ev2 (opAdd false) (evSl false (ev2 opIx (evVar 12) (evVar 9)) oN (oS (cI 2))) (evVar 11)) (ev2 (opAdd false) (ev2 (opAdd false) (evSl false (ev2 opIx (evVar 12) (evVar 9)) oN (oS (cI 2))) (evVar 11)) (evVar 11))) (gtSub (evVar 12) (evVar 9)))
    (evDrop (evMth mAppend (evVar 8) (evCons (evFrz (evIf (evB (ev2 opGt (evMth1 mCount (evMth1 mJoin (cS "") (evVar 12)) (evVar 11)) (cI 1))) (evVar 12) (evLst false (evCons (ev2 opIx (evVar 7) (cI 0)) (evCons (ev2 (opAdd false) (ev2 opIx (evVar 7) (cI 1)) (evVar 11)) (evCons (ev2 (opAdd false) (ev2 opIx (evVar 7) (cI 2)) (evVar 11)) evNil)))))) evNil))))) δ
def p_law_s5 (δ : DL.Env) : M (Fl × DL.Env) :=
  (evSeq (evFor (evRange1 (evCons (cI 3) evNil)) (gtName 9) p_law_b4)
    p_law_s3) δ
def p_law_s6 (δ : DL.Env) : M (Fl × DL.Env) :=
  (evSeq (evAsg (evCallF 2 f__law_pick (evCons (evVar 1) (evCons (evCall (bList false) (evCons (evMth1 mJoin (cS "") (evVar 7)) evNil)) evNil))) (gtName 11))
    p_law_s5) δ
def p_law_s7 (δ : DL.Env) : M (Fl × DL.Env) :=
  (evSeq (evAsg (ev2 (opAdd true) (evVar 8) (evLst false (evCons (evFrz (evVar 10)) (evCons (evLst false (evCons (ev2 opIx (evVar 7) (cI 0)) (evCons (ev2 opIx (evVar 7) (cI 1)) (evCons (evLst false (evCons (ev2 opIx (evVar 7) (cI 2)) evNil)) evNil)))) evNil)))) (gtName 8))
    p_law_s6) δ
def p_law_s8 (δ : DL.Env) : M (Fl × DL.Env) :=
  (evSeq (evAsg (ev2 (opAdd false) (evSl false (ev2 opIx (evVar 10) (evVar 9)) (oS (cI 1)) oN) (evCallF 2 f__law_pick (evCons (evVar 1) (evCons (evLst false (evCons (cS "\"") (evCons (cS " ") (evCons (cS "\n") (evCons (cS "\t") evNil))))) evNil)))) (gtSub (evVar 10) (evVar 9)))
    p_law_s7) δ
def p_law_s9 (δ : DL.Env) : M (Fl × DL.Env) :=
  (evSeq (evPar 9 10 (evCons (evCallF 2 f__law_below (evCons (evVar 1) (evCons (cI 3) evNil))) (evCons (evCall (bList true) (evCons (evVar 7) evNil)) evNil)))
    p_law_s8) δ
def p_law_s10 (δ : DL.Env) : M (Fl × DL.Env) :=
  (evSeq (evAsg (ev2 (opAdd true) (evVar 8) (evLst false (evCons (evSl false (evVar 7) oN (oS (cI 2))) (evCons (ev2 (opAdd false) (evVar 7) (evLst false (evCons (cS "") evNil))) (evCons (evMth1 mJoin (cS "") (evVar 7)) (evCons (evDictZip (cS "abc") (evVar 7)) (evCons cN (evCons (cI 3) (evCons (cB true) (evCons (evLst false (evCons (ev2 opIx (evVar 7) (cI 0)) (evCons (ev2 opIx (evVar 7) (cI 1)) (evCons cN evNil)))) evNil)))))))))) (gtName 8))
    p_law_s9) δ
def p_law_s11 (δ : DL.Env) : M (Fl × DL.Env) :=
  (evSeq (evAsg (ev2 (opAdd true) (evVar 8) (evLst false (evCons (evCallF 2 f__law_good (evCons (evVar 1) (evCons (evLst false (evCons (evVar 3) (evCons (cI 0) (evCons (evVar 5) evNil)))) evNil))) (evCons (evCallF 2 f__law_good (evCons (evVar 1) (evCons (evLst false (evCons (evVar 3) (evCons (evVar 4) (evCons (cI 0) evNil)))) evNil))) (evCons (evLst false (evCons (cS "") (evCons (cS "") (evCons (cS "") evNil)))) evNil))))) (gtName 8))
    p_law_s10) δ
def p_law_s12 (δ : DL.Env) : M (Fl × DL.Env) :=
  (evSeq (evAsg (evLst true (evCons (evCallF 2 f__law_good (evCons (evVar 1) (evCons (evLst false (evCons (cI 7) (evCons (evVar 4) (evCons (evVar 5) evNil)))) evNil))) (evCons (evCallF 2 f__law_good (evCons (evVar 1) (evCons (evLst false (evCons (evVar 3) (evCons (cI 4) (evCons (evVar 5) evNil)))) evNil))) (evCons (evCallF 2 f__law_good (evCons (evVar 1) (evCons (evLst false (evCons (evVar 3) (evCons (evVar 4) (evCons (cI 4) evNil)))) evNil))) evNil)))) (gtName 8))
    p_law_s11) δ
def p_law_s13 (δ : DL.Env) : M (Fl × DL.Env) :=
  (evSeq (evIfS (evNotT (evB (evCallF 2 (f__law_same 3) (evCons (evLst false (evCons (evCallF 1 f_is_signs (evCons (evCall (bList false) (evCons (evVar 7) evNil)) evNil)) (evCons (evCallF 1 f_is_signs (evCons (evCall bTuple (evCons (evVar 7) evNil)) evNil)) evNil))) (evCons (evLst false (evCons (cB true) (evCons (cB true) evNil))) evNil))))) (evRet (cB false)) evNext)
    p_law_s12) δ
def p_law_s14 (δ : DL.Env) : M (Fl × DL.Env) :=
  (evSeq (evAsg (evCallF 2 f__law_good (evCons (evVar 1) (evCons (evVar 6) evNil))) (gtName 7))
    p_law_s13) δ
def p_law_s15 (δ : DL.Env) : M (Fl × DL.Env) :=
  (evSeq (evAsg (evIf (evOrT (evB (ev2 opGt (ev2 opMod (evVar 2) (cI 3)) (cI 0))) (evB (ev2 (opEq false) (evVar 3) (cI 0)))) (evLst false (evCons (evVar 3) (evCons (evVar 4) (evCons (evVar 5) evNil)))) (evLst false (evCons (evVar 3) (evCons (cI 0) (evCons (cI 0) evNil))))) (gtName 6))
    p_law_s14) δ
def p_law_s16 (δ : DL.Env) : M (Fl × DL.Env) :=
  (evSeq (evPar 4 5 (evCons (ev2 (opAdd false) (cI 1) (evCallF 2 f__law_below (evCons (evVar 1) (evCons (cI 3) evNil)))) (evCons (ev2 (opAdd false) (cI 1) (evCallF 2 f__law_below (evCons (evVar 1) (evCons (cI 3) evNil)))) evNil)))
    p_law_s15) δ
def p_law_b17 (δ : DL.Env) : M (Fl × DL.Env) :=
  (evSeq (evAsg (evCallF 2 f__law_below (evCons (evVar 1) (evCons (cI 7) evNil))) (gtName 3))
    p_law_s16) δ
def m_law (δ : DL.Env) : M (Fl × DL.Env) :=
  (evSeq (evFor (evRange1 (evCons (cI 12) evNil)) (gtName 2) p_law_b17)
    (evRet (cB true))) δ
theorem ok_law (T : Top K mg) {f : Addr} {fd : FuncData} (F : Fun K "law" "law" s_law f fd) (math : ∀ ns : List Int, ns.length ≤ 63 → wpM (m_law (lawEnv 14)) (startW ns) (fun p _ => p.1 = .rt (.d (.bl true))) (fun _ _ => False)) : FnOk P w K mg base (L2.CX P w) 4 f fd ["script"] (spLawD K) := by
  refine okLaw (cv := fun _ => .none) (n := 14) F S_law rfl rfl (by decide) (fun cdv A outer s H E hr => ?_) (fun cdv A outer s H E hr => ?_) math
  · obtain ⟨fS, fdS, FS, gS, bS⟩ := T.d__law_start.ex
    exact ps_asg (pe_call ((ok_start T FS).mono (by omega)) hr (by rfl) gS FS.kp bS .nil (passes_call (takes_of rfl rfl rfl rfl) (fun _ _ _ _ h => h)) (pa_cons (pv 0) pa_nil)) (pg_name (i := 1) S_law.nd rfl (.inl rfl))
  · have hx : Passes (L2.CX P w) (cxOf (L2.CX P w) P w K mg base N_law "law" (defScope s_law) f cdv A outer s H E) E := passes_call (takes_of rfl rfl rfl rfl) (fun _ _ _ _ h => h)
    have hp : PassesOwn (model P w) (cxOf (L2.CX P w) P w K mg base N_law "law" (defScope s_law) f cdv A outer s H E).A (cxOf (L2.CX P w) P w K mg base N_law "law" (defScope s_law) f cdv A outer s H E).env (cxOf (L2.CX P w) P w K mg base N_law "law" (defScope s_law) f cdv A outer s H E).xe := passes_of rfl
    exact (dss_cons (ds_for (fun _ => hp) (fun _ => rfl) (di_range1 (fun _ => T.z_range) (da_cons de_int da_nil)) (dg_name 2 (fun _ => S_law.nd)) (dss_cons (ds_asg (de_call (fun _ => (c__law_below T)) (fun _ => hr) (fun _ => hx) (fun _ => rfl) (da_cons (de_var 1) (da_cons de_int da_nil))) (dg_name 3 (fun _ => S_law.nd)))
    (dss_cons (ds_par 4 5 (fun _ => rfl) (fun _ => S_law.nd) (da_cons (de_add (mk := false) (fun _ => rfl) de_int (de_call (fun _ => (c__law_below T)) (fun _ => hr) (fun _ => hx) (fun _ => rfl) (da_cons (de_var 1) (da_cons de_int da_nil)))) (da_cons (de_add (mk := false) (fun _ => rfl) de_int (de_call (fun _ => (c__law_below T)) (fun _ => hr) (fun _ => hx) (fun _ => rfl) (da_cons (de_var 1) (da_cons de_int da_nil)))) da_nil)))
    (dss_cons (ds_asg (de_if (DW.t (dw_or (dt_cmp (fun _ => op_gt) opd_gt (de_mod (de_var 2) de_int) de_int rfl) (dw_or1 (dt_cmp (or_eq (fun _ => rfl) (fun _ => hr)) opd_eq (de_var 3) de_int rfl)))) (de_lst (mk := false) (da_cons (de_var 3) (da_cons (de_var 4) (da_cons (de_var 5) da_nil)))) (de_lst (mk := false) (da_cons (de_var 3) (da_cons de_int (da_cons de_int da_nil))))) (dg_name 6 (fun _ => S_law.nd)))
    (dss_cons (ds_asg (de_call (fun _ => (c__law_good T)) (fun _ => hr) (fun _ => hx) (fun _ => rfl) (da_cons (de_var 1) (da_cons (de_var 6) da_nil))) (dg_name 7 (fun _ => S_law.nd)))
    (dss_cons (ds_if (dt_not (dt_val (de_call (fun _ => (c__law_same T 3)) (fun _ => hr) (fun _ => hx) (fun _ => rfl) (da_cons (de_lst (mk := false) (da_cons (de_call (fun _ => (c_is_signs T)) (fun _ => hr) (fun _ => hx) (fun _ => rfl) (da_cons (de_callTy (fun _ => call_bList rfl rfl) (cd_list (mk := false)) (fun _ => T.z_list) (da_cons (de_var 7) da_nil)) da_nil)) (da_cons (de_call (fun _ => (c_is_signs T)) (fun _ => hr) (fun _ => hx) (fun _ => rfl) (da_cons (de_callTy (fun _ => call_bTuple rfl) cd_tuple (fun _ => T.z_tuple) (da_cons (de_var 7) da_nil)) da_nil)) da_nil))) (da_cons (de_lst (mk := false) (da_cons de_bl (da_cons de_bl da_nil))) da_nil))))) (dss_one (ds_ret de_bl)) dss_nil)
    (dss_cons (ds_asg (de_lst (mk := true) (da_cons (de_call (fun _ => (c__law_good T)) (fun _ => hr) (fun _ => hx) (fun _ => rfl) (da_cons (de_var 1) (da_cons (de_lst (mk := false) (da_cons de_int (da_cons (de_var 4) (da_cons (de_var 5) da_nil)))) da_nil))) (da_cons (de_call (fun _ => (c__law_good T)) (fun _ => hr) (fun _ => hx) (fun _ => rfl) (da_cons (de_var 1) (da_cons (de_lst (mk := false) (da_cons (de_var 3) (da_cons de_int (da_cons (de_var 5) da_nil)))) da_nil))) (da_cons (de_call (fun _ => (c__law_good T)) (fun _ => hr) (fun _ => hx) (fun _ => rfl) (da_cons (de_var 1) (da_cons (de_lst (mk := false) (da_cons (de_var 3) (da_cons (de_var 4) (da_cons de_int da_nil)))) da_nil))) da_nil)))) (dg_name 8 (fun _ => S_law.nd)))
    (dss_cons (ds_asg (de_add (mk := true) (fun _ => rfl) (de_var 8) (de_lst (mk := false) (da_cons (de_call (fun _ => (c__law_good T)) (fun _ => hr) (fun _ => hx) (fun _ => rfl) (da_cons (de_var 1) (da_cons (de_lst (mk := false) (da_cons (de_var 3) (da_cons de_int (da_cons (de_var 5) da_nil)))) da_nil))) (da_cons (de_call (fun _ => (c__law_good T)) (fun _ => hr) (fun _ => hx) (fun _ => rfl) (da_cons (de_var 1) (da_cons (de_lst (mk := false) (da_cons (de_var 3) (da_cons (de_var 4) (da_cons de_int da_nil)))) da_nil))) (da_cons (de_lst (mk := false) (da_cons de_str (da_cons de_str (da_cons de_str da_nil)))) da_nil))))) (dg_name 8 (fun _ => S_law.nd)))
    (dss_cons (ds_asg (de_add (mk := true) (fun _ => rfl) (de_var 8) (de_lst (mk := false) (da_cons (de_sl (mk := false) (fun _ => rfl) (de_var 7) do_none (do_some de_int)) (da_cons (de_add (mk := false) (fun _ => rfl) (de_var 7) (de_lst (mk := false) (da_cons de_str da_nil))) (da_cons (de_mthS PySem.F.slot_str_join PySem.F.type_str_join (fun _ => mt_bJoin rfl) md_join de_str (de_var 7)) (da_cons (de_dictZip (fun _ => rfl) (fun _ => rfl) (fun _ => T.z_dict) (fun _ => T.z_zip) de_str (de_var 7)) (da_cons de_non (da_cons de_int (da_cons de_bl (da_cons (de_lst (mk := false) (da_cons (de_ix (fun _ => rfl) (de_var 7) de_int (fun _ _ => rfl)) (da_cons (de_ix (fun _ => rfl) (de_var 7) de_int (fun _ _ => rfl)) (da_cons de_non da_nil)))) da_nil)))))))))) (dg_name 8 (fun _ => S_law.nd)))
    (dss_cons (ds_par 9 10 (fun _ => rfl) (fun _ => S_law.nd) (da_cons (de_call (fun _ => (c__law_below T)) (fun _ => hr) (fun _ => hx) (fun _ => rfl) (da_cons (de_var 1) (da_cons de_int da_nil))) (da_cons (de_callTy (fun _ => call_bList rfl rfl) (cd_list (mk := true)) (fun _ => T.z_list) (da_cons (de_var 7) da_nil)) da_nil)))
    (dss_cons (ds_asg (de_add (mk := false) (fun _ => rfl) (de_sl (mk := false) (fun _ => rfl) (de_ix (fun _ => rfl) (de_var 10) (de_var 9) (fun _ _ => rfl)) (do_some de_int) do_none) (de_call (fun _ => (c__law_pick T)) (fun _ => hr) (fun _ => hx) (fun _ => rfl) (da_cons (de_var 1) (da_cons (de_lst (mk := false) (da_cons de_str (da_cons de_str (da_cons de_str (da_cons de_str da_nil))))) da_nil)))) (dg_sub (de_var 10) (de_var 9)))
    (dss_cons (ds_asg (de_add (mk := true) (fun _ => rfl) (de_var 8) (de_lst (mk := false) (da_cons (de_frz (de_var 10)) (da_cons (de_lst (mk := false) (da_cons (de_ix (fun _ => rfl) (de_var 7) de_int (fun _ _ => rfl)) (da_cons (de_ix (fun _ => rfl) (de_var 7) de_int (fun _ _ => rfl)) (da_cons (de_lst (mk := false) (da_cons (de_ix (fun _ => rfl) (de_var 7) de_int (fun _ _ => rfl)) da_nil)) da_nil)))) da_nil)))) (dg_name 8 (fun _ => S_law.nd)))
    (dss_cons (ds_asg (de_call (fun _ => (c__law_pick T)) (fun _ => hr) (fun _ => hx) (fun _ => rfl) (da_cons (de_var 1) (da_cons (de_callTy (fun _ => call_bList rfl rfl) (cd_list (mk := false)) (fun _ => T.z_list) (da_cons (de_mthS PySem.F.slot_str_join PySem.F.type_str_join (fun _ => mt_bJoin rfl) md_join de_str (de_var 7)) da_nil)) da_nil))) (dg_name 11 (fun _ => S_law.nd)))
    (dss_cons (ds_for (fun _ => hp) (fun _ => rfl) (di_range1 (fun _ => T.z_range) (da_cons de_int da_nil)) (dg_name 9 (fun _ => S_law.nd)) (dss_cons (ds_asg (de_callTy (fun _ => call_bList rfl rfl) (cd_list (mk := true)) (fun _ => T.z_list) (da_cons (de_var 7) da_nil)) (dg_name 12 (fun _ => S_law.nd)))
    (dss_cons (ds_asg (de_if (DW.t (dw_or (dt_cmp (or_in (fun _ => rfl)) opd_in (de_var 11) (de_sl (mk := false) (fun _ => rfl) (de_ix (fun _ => rfl) (de_var 12) (de_var 9) (fun _ _ => rfl)) do_none (do_some de_int)) rfl) (dw_or1 (dt_cmp (or_notIn (fun _ => rfl)) opd_notIn (de_var 11) (de_ix (fun _ => rfl) (de_var 12) (de_var 9) (fun _ _ => rfl)) rfl)))) (de_add (mk := false) (fun _ => rfl) (de_sl (mk := false) (fun _ => rfl) (de_ix (fun _ => rfl) (de_var 12) (de_var 9) (fun _ _ => rfl)) do_none (do_some de_int)) (de_var 11)) (de_add (mk := false) (fun _ => rfl) (de_add (mk := false) (fun _ => rfl) (de_sl (mk := false) (fun _ => rfl) (de_ix (fun _ => rfl) (de_var 12) (de_var 9) (fun _ _ => rfl)) do_none (do_some de_int)) (de_var 11)) (de_var 11))) (dg_sub (de_var 12) (de_var 9)))
    (dss_one (ds_expr (de_mthL (fun _ => rfl) PySem.F.slot_list_append PySem.F.type_list_append (fun _ => mt_append) md_append (de_var 8) (da_cons (de_frz (de_if (dt_cmp (fun _ => op_gt) opd_gt (de_mthS PySem.F.slot_str_count PySem.F.type_str_count (fun _ => mt_count) md_count (de_mthS PySem.F.slot_str_join PySem.F.type_str_join (fun _ => mt_bJoin rfl) md_join de_str (de_var 12)) (de_var 11)) de_int rfl) (de_var 12) (de_lst (mk := false) (da_cons (de_ix (fun _ => rfl) (de_var 7) de_int (fun _ _ => rfl)) (da_cons (de_add (mk := false) (fun _ => rfl) (de_ix (fun _ => rfl) (de_var 7) de_int (fun _ _ => rfl)) (de_var 11)) (da_cons (de_add (mk := false) (fun _ => rfl) (de_ix (fun _ => rfl) (de_var 7) de_int (fun _ _ => rfl)) (de_var 11)) da_nil)))))) da_nil)))))))
    (dss_cons (ds_if (dt_cmp (or_ne (fun _ => rfl) (fun _ => hr)) opd_ne (de_lc (mk := false) N_law (defScope s_law) [("thing", 13)] (blkOk_by (by decide +kernel)) (sub_by (by decide)) (fun _ => rfl) (fun _ => S_law.nd) (di_any (fun _ => rfl) (de_var 8)) (dg_name 13 (fun _ => S_law.nd)) (dts_one (dt_cmp or_isNot opd_isNot (de_call (fun _ => (c_is_signs T)) (fun _ => hr) (fun _ => passL) (fun _ => rfl) (da_cons (de_var 13) da_nil)) de_bl rfl)) (de_var 13)) (de_lst (mk := false) da_nil) rfl) (dss_one (ds_ret de_bl)) dss_nil)
    (dss_one (ds_if (DW.t (dw_or (dt_cmp or_isNot opd_isNot (de_call (fun _ => (c_is_signs T)) (fun _ => hr) (fun _ => hx) (fun _ => rfl) (da_cons (de_lst (mk := false) (da_cons de_str (da_cons de_str (da_cons de_str da_nil)))) da_nil)) de_bl rfl) (dw_or (dt_cmp or_isNot opd_isNot (de_call (fun _ => (c_is_signs T)) (fun _ => hr) (fun _ => hx) (fun _ => rfl) (da_cons (de_lst (mk := false) (da_cons de_str (da_cons de_str (da_cons de_str da_nil)))) da_nil)) de_bl rfl) (dw_or1 (dt_cmp or_isNot opd_isNot (de_call (fun _ => (c_is_signs T)) (fun _ => hr) (fun _ => hx) (fun _ => rfl) (da_cons (de_lst (mk := false) (da_cons de_str (da_cons de_str (da_cons de_str da_nil)))) da_nil)) de_bl rfl))))) (dss_one (ds_ret de_bl)) dss_nil)))))))))))))))))
    (dss_one (ds_ret de_bl)))
end
end K01

set_option Elab.async false
set_option linter.all false
set_option maxRecDepth 100000
set_option maxHeartbeats 4000000
namespace K01
open PySem PySem.Spec PyProof.Rows L2 RZ DL SH
open SX (S S_len S_cat S_inj)
def okc (c : Nat) : Bool := decide (33 ≤ c) && decide (c ≤ 126) && !(decide (c = 34) || decide (c = 37))
section
variable {W : Wd} {E : DX → Wd → Prop} {Q : RV → Wd → Prop}
theorem str_eta (z : PySem.Str) : S z.cps.toList = z := SX.S_tl z
theorem notIn_ints {c : Int} {a b : Int} : wpM (opIn true (.d (.int c)) (.d (.tup [.int a, .int b]))) W Q E = Q (.d (.bl (!(decide (c = a) || decide (c = b))))) W := by
  have e0 : opIn true (.d (.int c)) (.d (.tup [.int a, .int b])) = opInL true (.d (.int c)) (.d (.tup [.int a, .int b])) := rfl
  rw [e0]
  unfold opInL
  rw [w_bind, w_look]
  have e : inV (.int c) [.int a, .int b] = (decide (c = a) || decide (c = b)) := by
    unfold inV
    have h1 : ∀ a : Int, (a == c) = decide (c = a) := fun a => by
      by_cases h : c = a
      · subst h; simp
      · simp [h]; exact fun z => h z.symm
    simp [eqV, h1]
  show Q (.d (.bl (inV (.int c) [.int a, .int b] != true))) W = _
  rw [e]
  cases (decide (c = a) || decide (c = b)) <;> rfl
theorem chain_f {f g : Int → Int → Bool} {Fa Fb Fc : DL.Env → M RV} {δ : DL.Env} {i j k : Int} (ha : ∀ Q E, wpM (Fa δ) W Q E = Q (.d (.int i)) W) (hb : ∀ Q E, wpM (Fb δ) W Q E = Q (.d (.int j)) W) (hc : ∀ Q E, wpM (Fc δ) W Q E = Q (.d (.int k)) W) :
    wpM (evChain f g Fa Fb Fc δ) W Q E = Q (.d (.bl (f i j && g j k))) W := by
  unfold evChain
  rw [w_bind, ha, kB_ap, w_bind, hb, kB_ap]
  show wpM (if f i j = true then _ else _) W Q E = _
  cases f i j with
  | false => rfl
  | true =>
    show wpM ((Fc δ).bind _) W Q E = _
    rw [w_bind, hc, kB_ap]
    rfl
theorem is_sign (c : Nat) : wpM (f_is_sign [.d (.str (S [c]))]) W Q E = Q (.d (.bl (okc c))) W := by
  unfold f_is_sign
  rw [w_fnD]
  have h1 : (S [c]).length = 1 := S_len [c]
  have ho : ∀ (Q : RV → Wd → Prop) (E : DX → Wd → Prop), wpM (evCall bOrd (evCons (evVar 0) evNil) [some (RV.d (D.str (S [c])))]) W Q E = Q (.d (.int (c : Nat))) W := fun Q E => by
    simp [h1]
  have hl : 1 ≤ sizeLine := by decide
  simp [m_is_sign, startD, h1, hl]
  rw [chain_f (i := 33) (j := (c : Nat)) (k := 126) (fun _ _ => rfl) ho (fun _ _ => rfl)]
  have e1 : decide ((33 : Int) ≤ (c : Nat)) = decide (33 ≤ c) := by
    by_cases h : 33 ≤ c <;> simp [h] <;> omega
  have e2 : decide (((c : Nat) : Int) ≤ 126) = decide (c ≤ 126) := by
    by_cases h : c ≤ 126 <;> simp [h] <;> omega
  have e3 : ∀ n : Nat, decide (((c : Nat) : Int) = (n : Int)) = decide (c = n) := fun n => by
    by_cases h : c = n <;> simp [h] <;> omega
  rw [e1, e2]
  unfold okc
  cases h : (decide (33 ≤ c) && decide (c ≤ 126)) with
  | false => simp [h]
  | true =>
    simp [h, ho]
    refine (and_iff_right (by decide)).trans ?_
    have e34 : decide (((c : Nat) : Int) = 34) = decide (c = 34) := e3 34
    have e37 : decide (((c : Nat) : Int) = 37) = decide (c = 37) := e3 37
    rw [notIn_ints, e34, e37]
    simp
theorem eqL_nil (ns : List Int) {neg : Bool} : wpM (opEq neg (.d (.lst (ns.map D.int))) (.d (.lst []))) W Q E = Q (.d (.bl (ns.isEmpty != neg))) W := by
  have e0 : opEq neg (.d (.lst (ns.map D.int))) (.d (.lst [])) = opEqD neg (.d (.lst (ns.map D.int))) (.d (.lst [])) := rfl
  rw [e0]
  unfold opEqD
  rw [w_bind, w_look]
  have e : eqvD W (.d (.lst (ns.map D.int))) (.d (.lst [])) = some (ns.isEmpty) := by
    unfold eqvD
    have h2 : toPy (.lst (ns.map D.int)) = some (.list (ns.map PyData.int)) := by
      show (toPy.toPyL _).map _ = _
      rw [toPyL_ints]; rfl
    show ((toPy _).bind _) = _
    rw [h2]
    cases ns with
    | nil => rfl
    | cons c r =>
      show (if SeqAt.shaped (.list ((c :: r).map PyData.int)) = true ∧ _ then some (PyData.eqv (.list ((c :: r).map PyData.int)) (.list [])) else none) = _
      rw [if_pos ⟨PySem.W.ke_shaped_ints (c :: r), rfl⟩]
      rfl
  rw [e]
  rfl
theorem charsOf_S (a : List Nat) : charsOf (S a) = a.map fun c => D.str (S [c]) := rfl
theorem enum_S (a : List Nat) : enumD (charsOf (S a)) = a.zipIdx.map fun p => D.tup [.int (p.2 : Nat), .str (S [p.1])] := by
  rw [charsOf_S]
  unfold enumD
  rw [List.zipIdx_map, List.map_map]
  rfl
theorem cut_pre (a : List Nat) (i : Nat) : cutS (S a) none (some (i : Nat)) = S (a.take i) := by
  unfold cutS
  rw [HT.sIx_none, HT.sIx_nat, S_len]
  simp
theorem strIn_S (a : List Nat) (c : Nat) : strIn (S [c]) (S a) = decide (c ∈ a) := SX.in_one a c
def lotB (a : List Nat) : Bool := a.all okc && decide a.Nodup
def cnd (a : List Nat) : D → Bool
  | .tup [.int i, .str z] => !(okc (z.cps.getD 0 0)) || decide (z.cps.getD 0 0 ∈ a.take i.toNat)
  | _ => false
theorem nodup_take {a : List Nat} : a.Nodup ↔ ∀ i x, a[i]? = some x → x ∉ a.take i := by
  constructor
  · intro h i x hx hm
    obtain ⟨j, hj, e⟩ := List.mem_take_iff_getElem.mp hm
    have hi := (List.getElem?_eq_some_iff.mp hx)
    obtain ⟨hi, e2⟩ := hi
    exact (List.pairwise_iff_getElem.mp h) j i (by omega) hi (by omega) (e.trans e2.symm)
  · intro h
    unfold List.Nodup
    rw [List.pairwise_iff_getElem]
    intro i j hi hj hij e
    refine h j a[j] (List.getElem?_eq_getElem hj) ?_
    rw [← e]
    exact List.mem_take_iff_getElem.mpr ⟨i, by omega, rfl⟩
theorem lot_filter (a : List Nat) : ((enumD (charsOf (S a))).filter (cnd a)).isEmpty = lotB a := by
  rw [enum_S, List.filter_map, List.isEmpty_map]
  have h : ∀ p : Nat × Nat, (cnd a ∘ fun p : Nat × Nat => D.tup [.int (p.2 : Nat), .str (S [p.1])]) p = (!(okc p.1) || decide (p.1 ∈ a.take p.2)) := fun p => by
    simp [cnd, S]
  rw [List.filter_congr (fun p _ => h p)]
  rw [Bool.eq_iff_iff, List.isEmpty_iff, List.filter_eq_nil_iff]
  unfold lotB
  rw [Bool.and_eq_true, List.all_eq_true, decide_eq_true_iff, nodup_take]
  constructor
  · intro q
    have q2 : ∀ i x, a[i]? = some x → okc x = true ∧ x ∉ a.take i := fun i x hx => by
      have := q (x, i) (List.mk_mem_zipIdx_iff_getElem?.mpr hx)
      simpa [not_or] using this
    exact ⟨fun x hx => by
      obtain ⟨i, e⟩ := List.mem_iff_getElem?.mp hx
      exact (q2 i x e).1, fun i x hx => (q2 i x hx).2⟩
  · intro q p hp
    have hx := List.mk_mem_zipIdx_iff_getElem?.mp hp
    have h1 := q.1 p.1 (List.mem_of_getElem? hx)
    have h2 := q.2 p.2 p.1 hx
    simp [h1, h2]
theorem is_lot (a : List Nat) (most : Nat) (ha : a.length < sizeLine) (hq : Q (.d (.bl (decide (a.length ≤ most) && lotB a))) W) : wpM (f_is_lot [.d (.str (S a)), .d (.int most)]) W Q E := by
  unfold f_is_lot
  rw [w_fnD]
  have h1 : (S a).length = a.length := S_len a
  simp [m_is_lot, startD, h1, Nat.le_of_lt ha]
  by_cases hm : a.length ≤ most
  · simp [hm, show ¬ most < a.length from by omega, wipeD]
    refine w_noEr (goLc_fm (c := cnd a) (f := fun _ => .int 1) (by rw [enum_S, List.length_map, List.length_zipIdx]; exact ha) (fun d hd => ?_) ?_)
    · rw [enum_S, List.mem_map] at hd
      obtain ⟨⟨c, i⟩, hc, rfl⟩ := hd
      simp [p_is_lot_q2, p_is_lot_e1]
      rw [is_sign]
      have e : cnd a (D.tup [.int (i : Nat), .str (S [c])]) = (!(okc c) || decide (c ∈ a.take i)) := by simp [cnd, S]
      simp [e]
      cases okc c with
      | false => simp
      | true =>
        simp [h1, Nat.le_of_lt ha, cut_pre, strIn_S]
    · simp
      have e : (List.map (fun x => D.int 1) (List.filter (cnd a) (enumD (charsOf (S a))))) = (List.map (fun _ => (1 : Int)) (List.filter (cnd a) (enumD (charsOf (S a))))).map D.int := by rw [List.map_map]; rfl
      rw [e, eqL_nil]
      simp [lot_filter]
      simpa [hm] using hq
  · simp [hm, show most < a.length from by omega]
    simpa [hm] using hq
theorem is_lot_no {x : D} {m : Nat} (hx : ∀ z, x ≠ .str z) (ht : ∃ t, tyOf W (.d x) = some t ∧ t ≠ .str) (hq : Q (.d (.bl false)) W) : wpM (f_is_lot [.d x, .d (.int m)]) W Q E := by
  unfold f_is_lot
  rw [w_fnD]
  obtain ⟨t, ht, hn⟩ := ht
  have e : t.sub .str = false := by cases t <;> first | rfl | exact absurd rfl hn
  simpa [m_is_lot, startD, ht, e] using hq
/-- three strings of signs -/
def sig3 (a b c : List Nat) : Bool := (decide (a.length ≤ 6) && lotB a) && ((decide (b.length ≤ 3) && lotB b) && ((decide (c.length ≤ 3) && lotB c) && ((decide ((a ++ b ++ c).length ≤ 12) && lotB (a ++ b ++ c)) && (((decide (b = []) == decide (c = [])) && !(decide (a ++ b = [])))))))
theorem S_nil : (PySem.Str.ofString "") = S [] := rfl
theorem S_eq (a b : List Nat) : decide (S a = S b) = decide (a = b) := by
  by_cases h : a = b
  · subst h; simp
  · have h2 : ¬ S a = S b := fun e => h (S_inj e)
    rw [decide_eq_false h, decide_eq_false h2]
def bigOk (a b c : List Nat) : Prop := a.length < 1000 ∧ b.length < 1000 ∧ c.length < 1000
theorem small_line {n : Nat} (h : n < 10000) : n < sizeLine := Nat.lt_trans h (by decide)
theorem is_signs_core {x : D} {a b c : List Nat} (h : bigOk a b c) (hx : x = .lst [.str (S a), .str (S b), .str (S c)] ∨ x = .tup [.str (S a), .str (S b), .str (S c)]) (hq : Q (.d (.bl (sig3 a b c))) W) : wpM (f_is_signs [.d x]) W Q E := by
  obtain ⟨h1, h2, h3⟩ := h
  unfold f_is_signs
  rw [w_fnD]
  have line2 : 2 ≤ sizeLine := by decide
  have l6 : ((6 : Nat) : Int) = 6 := rfl
  have ev : ∀ x : D, (x = .lst [.str (S a), .str (S b), .str (S c)] ∨ x = .tup [.str (S a), .str (S b), .str (S c)]) → wpM (m_is_signs (startD 4 [.d x])) W (kFn Q) E := fun x hx => by
    have fin : wpM ((evSeq (evIfS (evOrT (evNotT (evB (evCallF 2 f_is_lot (evCons (evVar 1) (evCons (cI 6) evNil))))) (evOrT (evNotT (evB (evCallF 2 f_is_lot (evCons (evVar 2) (evCons (cI 3) evNil))))) (evNotT (evB (evCallF 2 f_is_lot (evCons (evVar 3) (evCons (cI 3) evNil))))))) (evRet (cB false)) evNext)
    (evRet (evAnd (evCallF 2 f_is_lot (evCons (ev2 (opAdd false) (ev2 (opAdd false) (evVar 1) (evVar 2)) (evVar 3)) (evCons (cI 12) evNil))) (evAnd (ev2 (opEq false) (ev2 (opEq false) (evVar 2) (cS "")) (ev2 (opEq false) (evVar 3) (cS ""))) (ev2 (opEq true) (ev2 (opAdd false) (evVar 1) (evVar 2)) (cS "")))))) [some (.d x), some (.d (.str (S a))), some (.d (.str (S b))), some (.d (.str (S c)))]) W (kFn Q) E := by
      have i6 := fun (Q : RV → Wd → Prop) => is_lot (W := W) (E := E) (Q := Q) a 6 (small_line (by omega))
      have i3 := fun (Q : RV → Wd → Prop) => is_lot (W := W) (E := E) (Q := Q) b 3 (small_line (by omega))
      have j3 := fun (Q : RV → Wd → Prop) => is_lot (W := W) (E := E) (Q := Q) c 3 (small_line (by omega))
      have i12 := fun (Q : RV → Wd → Prop) => is_lot (W := W) (E := E) (Q := Q) (a ++ b ++ c) 12 (small_line (by simp; omega))
      unfold sig3 at hq
      generalize (decide (a.length ≤ 6) && lotB a) = A1 at hq i6
      generalize (decide (b.length ≤ 3) && lotB b) = A2 at hq i3
      generalize (decide (c.length ≤ 3) && lotB c) = A3 at hq j3
      generalize (decide ((a ++ b ++ c).length ≤ 12) && lotB (a ++ b ++ c)) = A4 at hq i12
      have k1 : (S a).length + (S b).length ≤ sizeLine := by rw [S_len, S_len]; exact Nat.le_of_lt (small_line (by omega))
      have k2 : (S a ++ S b).length + (S c).length ≤ sizeLine := by rw [S_cat, S_len, S_len]; exact Nat.le_of_lt (small_line (by simp; omega))
      simp
      refine i6 _ ?_
      cases A1 with
      | false => simpa using hq
      | true =>
      simp
      refine i3 _ ?_
      cases A2 with
      | false => simpa using hq
      | true =>
      simp
      refine j3 _ ?_
      cases A3 with
      | false => simpa using hq
      | true =>
      simp [k1, k2]
      rw [S_cat, S_cat]
      refine i12 _ ?_
      cases A4 with
      | false => simpa using hq
      | true =>
      simp [S_nil, S_eq]
      cases h : (decide (b = []) == decide (c = [])) with
      | false => simpa [h] using hq
      | true =>
        simp [k1]
        rw [S_cat, S_eq]
        simpa [h] using hq
    rcases hx with rfl | rfl
    · simp [m_is_signs, startD, line2]
      simpa using fin
    · simp [m_is_signs, startD, line2]
      simpa using fin
  exact ev x hx
end
end K01
set_option Elab.async false
set_option linter.all false
set_option maxRecDepth 100000
set_option maxHeartbeats 4000000
namespace K01
open PySem PySem.Spec PyProof.Rows L2 RZ DL SH
open SX (S S_len S_cat S_inj)
section
variable {W : Wd} {E : DX → Wd → Prop} {Q : RV → Wd → Prop} {s : Strm} {J : Wd}
@[simp high] theorem W_get {l : Nat} : (s.W J)[l + 2]? = J[l]? := (rfl)
@[simp] theorem W_set {l : Nat} {x : MO} : (s.W J).set (l + 2) x = s.W (J.set l x) := (rfl)
@[simp] theorem W_app {K : Wd} : s.W J ++ K = s.W (J ++ K) := (rfl)
@[simp] theorem W_len : (s.W J).length = J.length + 2 := (rfl)
/-- things that are no signs -/
inductive Wrong : D → Prop where
  | ty (x : D) (t : Ty) (h : ∀ W, tyOf W (.d x) = some t) (h1 : t ≠ .lst) (h2 : t ≠ .tup) : Wrong x
  | len (xs : List D) (h : xs.length ≠ 3) : Wrong (.lst xs)
  | third (a b : List Nat) (x : D) (h : a.length < 1000 ∧ b.length < 1000) (t : Ty) (ht : ∀ W, tyOf W (.d x) = some t) (h1 : t ≠ .str) : Wrong (.lst [.str (S a), .str (S b), x])
  | sig (a b c : List Nat) (h : bigOk a b c) (h2 : sig3 a b c = false) : Wrong (.lst [.str (S a), .str (S b), .str (S c)])
theorem is_signs_wrong {x : D} (h : Wrong x) (hq : Q (.d (.bl false)) W) : wpM (f_is_signs [.d x]) W Q E := by
  have line2 : 2 ≤ sizeLine := by decide
  cases h with
  | ty _ t h h1 h2 =>
    unfold f_is_signs
    rw [w_fnD]
    have e1 : t.sub .lst = false := by cases t <;> first | rfl | exact absurd rfl h1 | exact absurd rfl h2
    have e2 : t.sub .tup = false := by cases t <;> first | rfl | exact absurd rfl h1 | exact absurd rfl h2
    simpa [m_is_signs, startD, line2, h, e1, e2] using hq
  | len xs h =>
    unfold f_is_signs
    rw [w_fnD]
    have e : decide ((xs.length : Int) = 3) = false := decide_eq_false (by omega)
    simp [m_is_signs, startD, line2]
    rw [e]
    simpa using hq
  | third a b y h t ht h1 =>
    obtain ⟨ha, hb⟩ := h
    unfold f_is_signs
    rw [w_fnD]
    have i6 := fun (Q : RV → Wd → Prop) => is_lot (W := W) (E := E) (Q := Q) a 6 (small_line (by omega))
    have i3 := fun (Q : RV → Wd → Prop) => is_lot (W := W) (E := E) (Q := Q) b 3 (small_line (by omega))
    have j3 := fun (Q : RV → Wd → Prop) => is_lot_no (W := W) (E := E) (Q := Q) (x := y) (m := 3) (fun z e => by subst e; have := ht []; simp at this; exact h1 this.symm) ⟨t, ht W, h1⟩
    generalize (decide (a.length ≤ 6) && lotB a) = A1 at i6
    generalize (decide (b.length ≤ 3) && lotB b) = A2 at i3
    simp [m_is_signs, startD, line2]
    refine i6 _ ?_
    cases A1 with
    | false => simpa using hq
    | true =>
    simp
    refine i3 _ ?_
    cases A2 with
    | false => simpa using hq
    | true =>
    simp
    refine j3 _ ?_
    simpa using hq
  | sig a b c h h2 => exact is_signs_core h (.inl rfl) (by rw [h2]; exact hq)
/-! ### drawn signs -/
@[irreducible] def pool : List Nat := ("!#$&'()*+,-./0123456789:;<=>?@ABCDEFGHIJKLMNOPQRSTUVWXYZ[\\]^_`abcdefghijklmnopqrstuvwxyz{|}~" : PySem.Str).cps.toList
theorem pool_S : S pool = ("!#$&'()*+,-./0123456789:;<=>?@ABCDEFGHIJKLMNOPQRSTUVWXYZ[\\]^_`abcdefghijklmnopqrstuvwxyz{|}~" : PySem.Str) := by
  unfold pool
  exact SX.S_tl _
theorem pool_ok : pool.all okc = true ∧ pool.Nodup ∧ pool.length = 92 := by decide +kernel
theorem bpool (hq : Q (.d (.str (S pool))) W) : wpM (f__law_bpool []) W Q E := by
  unfold f__law_bpool
  rw [w_fnD]
  rw [pool_S] at hq
  simp [m__law_bpool, startD]
  exact hq
def chD (l : List Nat) : List D := l.map fun c => D.str (S [c])
def chR (l : List Nat) : List RV := (chD l).map RV.d
theorem chR_get {l : List Nat} {k : Nat} (h : k < l.length) : (chR l)[k]? = some (.d (.str (S [l[k]]))) := by
  unfold chR chD
  rw [List.getElem?_map, List.getElem?_map, List.getElem?_eq_getElem h]; rfl
theorem chR_len {l : List Nat} : (chR l).length = l.length := by unfold chR chD; rw [List.length_map, List.length_map]
theorem map_erase {α β : Type} (f : α → β) : ∀ (l : List α) (k : Nat), (l.map f).eraseIdx k = (l.eraseIdx k).map f
  | [], _ => by simp
  | _ :: _, 0 => rfl
  | x :: r, k + 1 => by simp [map_erase f r k]
theorem chR_erase {l : List Nat} {k : Nat} : (chR l).eraseIdx k = chR (l.eraseIdx k) := by
  unfold chR chD
  rw [List.map_map, List.map_map, map_erase]
theorem perm_erase {l : List Nat} {k : Nat} (h : k < l.length) : (l[k] :: l.eraseIdx k).Perm l := by
  induction l generalizing k with
  | nil => simp at h
  | cons x r ih =>
    cases k with
    | zero => simp
    | succ k =>
      simp at h
      have := ih h
      simp
      exact (List.Perm.swap ..).trans (this.cons x)
def BsP (J : Wd) (p : List Nat) (N : Nat) (i : Nat) (acc : List RV) (W : Wd) : Prop := ∃ (cs left : List Nat) (s' : Strm), acc = chR cs ∧ cs.length = i ∧ (cs ++ left).Perm p ∧ s'.ok (N + i) ∧ W = s'.W (J ++ [.lst (chR left)])
theorem bsome {p : List Nat} {n N : Nat} (ok : s.ok N) (hN : N + n < 2 ^ 40) (hp : p.length ≤ 1000) (hn : n ≤ p.length)
    (hq : ∀ (cs : List Nat) (s' : Strm) (K : Wd), cs.length = n → (∃ r, (cs ++ r).Perm p) → s'.ok (N + n) → Q (.d (.lst (chD cs))) (s'.W (J ++ K))) : wpM (f__law_bsome [.r 1, .d (.str (S p)), .d (.int n)]) (s.W J) Q E := by
  unfold f__law_bsome
  rw [w_fnD]
  have hz : p.length ≤ sizeLine := Nat.le_of_lt (small_line (by omega))
  simp [m__law_bsome, startD, hz, S]
  refine ⟨by omega, ?_⟩
  have gl : ∀ W0, W0 = s.W (J ++ [.lst (chR p)]) → wpM (goLc false (gtName 4) evYes p__law_bsome_e1 [some (.r 1), some (.d (.str (S p))), some (.d (.int n)), some (.r (J.length + 2)), none] (DL.intsFrom 0 n) []) W0 (kB (retF [some (.r 1), some (.d (.str (S p))), some (.d (.int n)), some (.r (J.length + 2)), none]) (kFn Q) E) (fun _ _ => False) := fun W0 hW0 => by
    have hlen : (DL.intsFrom 0 n).length = n := by unfold DL.intsFrom; simp
    refine goLc_inv (P := BsP J p N) (DL.intsFrom 0 n) (by rw [hlen]; exact small_line (by omega)) (fun i d acc W hd hP => ?_) _ 0 [] W0 rfl (Nat.zero_le _) (Nat.le_refl _) ⟨[], p, s, rfl, rfl, List.Perm.refl _, ok, hW0⟩ fun acc W _ hP => ?_
    · obtain ⟨cs, left, s', rfl, hc, hperm, ok', rfl⟩ := hP
      have hi : i < n := by rw [← hlen]; exact (List.getElem?_eq_some_iff.mp hd).1
      have hl : cs.length + left.length = p.length := by rw [← List.length_append]; exact hperm.length_eq
      simp [p__law_bsome_e1, chR_len]
      refine below (n := (left.length : Int)) ok' (by omega) (by omega) (by omega) _ fun k s2 hk0 hk1 ok2 => ?_
      have hk : k.toNat < left.length := by omega
      simp
      rw [popK_at (k := k.toNat) (y := .d (.str (S [left[k.toNat]]))) hk0 rfl (chR_get hk) (by omega)]
      refine ⟨cs ++ [left[k.toNat]], left.eraseIdx k.toNat, s2, ?_, by simp [hc], ?_, by rw [← Nat.add_assoc]; exact ok2, ?_⟩
      · unfold chR chD; simp
      · rw [List.append_assoc]
        simp only [List.singleton_append]
        exact ((perm_erase hk).append_left cs).trans hperm
      · rw [chR_erase]; simp
    · obtain ⟨cs, left, s', rfl, hc, hperm, ok', rfl⟩ := hP
      rw [hlen] at hc ok'
      show wpM (newL false ((chD cs).map RV.d)) _ _ _
      rw [w_newL_f]
      exact hq cs s' _ hc ⟨left, hperm⟩ ok'
  exact w_noEr (gl _ rfl)
end
end K01
set_option Elab.async false
set_option linter.all false
set_option maxRecDepth 100000
set_option maxHeartbeats 4000000
namespace K01
open PySem PySem.Spec PyProof.Rows L2 RZ DL SH
open SX (S S_len S_cat S_inj)
section
variable {W : Wd} {E : DX → Wd → Prop} {Q : RV → Wd → Prop} {s : Strm} {J : Wd}
@[simp] theorem w_forF {T : RV → DL.Env → M DL.Env} {B : DL.Env → M (Fl × DL.Env)} {δ : DL.Env} {ds : List D} {QF : Fl × DL.Env → Wd → Prop} : wpM (forF T B δ ds) W QF E = wpM (goFor T B ds δ) W QF E := (rfl)
@[simp] theorem intsL_nil : intsL [] = some [] := (rfl)
@[simp] theorem intsL_cons {i : Int} {r : List RV} : intsL (.d (.int i) :: r) = (intsL r).map (i :: ·) := (rfl)
theorem joinL_flat : ∀ (l : List (List Nat)), TL.joinL [] l = l.flatten
  | [] => rfl
  | [x] => by simp [TL.joinL]
  | x :: y :: r => by
    have := joinL_flat (y :: r)
    simp [TL.joinL] at this ⊢
    simp [this]
theorem flat_one (l : List Nat) : (l.map fun c => [c]).flatten = l := by
  induction l with
  | nil => rfl
  | cons x r ih => simp; exact ih
def ones (l : List Nat) : List PySem.Str := (l.map fun c => [c]).map S
theorem join_ones (l : List Nat) : Txt.join (PySem.Str.ofString "") (ones l) = S l := by
  unfold ones
  rw [S_nil, SX.join_S, joinL_flat, flat_one]
theorem ones_strs (l : List Nat) : strsL (List.map RV.d (chD l)) = some (ones l) := by
  have e : chD l = (ones l).map D.str := by
    unfold chD ones
    rw [List.map_map, List.map_map]; rfl
  rw [e]
  exact strsL_map _
theorem ones_sum (l : List Nat) : ((ones l).map (·.length)).sum = l.length := by
  unfold ones
  induction l with
  | nil => rfl
  | cons x r ih =>
    simp only [List.map_cons, List.sum_cons, List.length_cons, S_len] at ih ⊢
    rw [ih]; simp; omega
theorem ones_len (l : List Nat) : (ones l).length = l.length := by unfold ones; simp
theorem nil_len : (PySem.Str.ofString "").length = 0 := rfl
theorem cut_take (l : List Nat) (n : Nat) : cutL (chD l) none (some (n : Nat)) = chD (l.take n) := by
  unfold cutL
  rw [HT.sIx_none, HT.sIx_nat]
  unfold chD
  simp [List.map_take]
theorem cut_drop (l : List Nat) (n : Nat) : cutL (chD l) (some (n : Nat)) none = chD (l.drop n) := by
  unfold cutL
  rw [HT.sIx_none, HT.sIx_nat]
  unfold chD
  rw [List.map_drop, List.length_map]
  by_cases h : n ≤ l.length
  · rw [Nat.min_eq_left h, ← List.length_map (as := l) (f := fun c => D.str (S [c])), ← List.length_drop, List.take_length]
  · rw [Nat.min_eq_right (by omega), List.drop_eq_nil_of_le (by simp), List.drop_eq_nil_of_le (by simp; omega)]; simp
theorem good_step {δ2 : RV} {l : List Nat} {n : Nat} {xs : List RV} {QF : Fl × DL.Env → Wd → Prop} (hl : l.length ≤ 1000) (hx : xs.length < 1000) (hq : QF (.nx, [some (.r 1), some δ2, some (.d (.lst (chD (l.drop n)))), some (.r (J.length + 2)), some (.d (.int n))]) (s.W (J ++ [.lst (xs ++ [.d (.str (S (l.take n)))])]))) :
    wpM (p__law_good_b1 [some (.r 1), some δ2, some (.d (.lst (chD l))), some (.r (J.length + 2)), some (.d (.int n))]) (s.W (J ++ [.lst xs])) QF E := by
  have hb : ((ones (l.take n)).map (·.length)).sum + (ones (l.take n)).length * (PySem.Str.ofString "").length ≤ 16777216 := by rw [ones_sum, nil_len, List.length_take]; omega
  simp [p__law_good_b1, cut_take, cut_drop, ones_strs, small_line (show xs.length < 10000 by omega)]
  rw [join_ones]
  exact ⟨hb, hq⟩
structure Good (a b c : Nat) (x y z : List Nat) : Prop where
  la : x.length = a
  lb : y.length = b
  lc : z.length = c
  ok : (x ++ y ++ z).all okc = true
  nd : (x ++ y ++ z).Nodup
theorem good_aux {a b c N : Nat} (po : List Nat) (hpo : po.all okc = true ∧ po.Nodup ∧ po.length = 92) (bp : ∀ (W : Wd) (Q : RV → Wd → Prop) (E : DX → Wd → Prop), Q (.d (.str (S po))) W → wpM (f__law_bpool []) W Q E) (ok : s.ok N) (hN : N + 100 < 2 ^ 40) (hs : a + b + c ≤ 92)
    (hq : ∀ (x y z : List Nat) (s' : Strm) (K : Wd), Good a b c x y z → s'.ok (N + 100) → Q (.d (.lst [.str (S x), .str (S y), .str (S z)])) (s'.W (J ++ K))) :
    wpM (f__law_good [.r 1, .d (.lst [.int a, .int b, .int c])]) (s.W J) Q E := by
  unfold f__law_good
  rw [w_fnD]
  simp [m__law_good, startD]
  have b2 := fun (Q : RV → Wd → Prop) (W : Wd) => bp W Q E
  refine b2 _ _ ?_
  simp
  have hi : (a : Int) + (b + c) = ((a + b + c : Nat) : Int) := by push_cast; omega
  rw [hi]
  refine bsome ok (by omega) (by rw [hpo.2.2]; omega) (by rw [hpo.2.2]; exact hs) fun cs s' K hc hp ok' => ?_
  have hq' := fun x y z s' K2 => hq x y z s' (K ++ K2)
  have ej : ∀ K2, J ++ (K ++ K2) = (J ++ K) ++ K2 := fun K2 => (List.append_assoc _ _ _).symm
  simp only [ej] at hq'
  generalize J ++ K = J1 at hq'
  simp
  rw [w_goFor]
  simp
  refine good_step (by omega) (by simp) ?_
  simp
  rw [w_goFor]
  simp
  refine good_step (by simp; omega) (by simp) ?_
  simp
  rw [w_goFor]
  simp
  refine good_step (by simp; omega) (by simp) ?_
  simp
  rw [w_goFor0]
  simp
  have e : ∀ a b c : D, MO.lst [.d a, .d b, .d c] = MO.lst ([a, b, c].map RV.d) := fun _ _ _ => rfl
  rw [e, frzM_l]
  have ec : cs.take a ++ (cs.drop a).take b ++ (cs.drop (a + b)).take c = cs := by
    have h1 : (cs.drop (a + b)).take c = cs.drop (a + b) := List.take_of_length_le (by rw [List.length_drop]; omega)
    rw [h1, List.append_assoc, ← List.drop_drop, List.take_append_drop, List.take_append_drop]
  obtain ⟨r, hp⟩ := hp
  have g : Good a b c (cs.take a) ((cs.drop a).take b) ((cs.drop (a + b)).take c) := by
    refine ⟨by rw [List.length_take]; omega, by rw [List.length_take, List.length_drop]; omega, by rw [List.length_take, List.length_drop]; omega, ?_, ?_⟩
    · rw [ec, List.all_eq_true]
      intro x hx
      exact List.all_eq_true.mp hpo.1 x (hp.subset (List.mem_append_left _ hx))
    · rw [ec]
      exact (List.nodup_append.mp (hp.nodup_iff.mpr hpo.2.1)).1
  have := hq' _ _ _ s' [.fz (.lst [D.str (S (List.take a cs)), D.str (S (List.take b (List.drop a cs))), D.str (S (List.take c (List.drop (a + b) cs)))])] g (ok'.mono (by omega))
  simpa using this
theorem good {a b c N : Nat} (ok : s.ok N) (hN : N + 100 < 2 ^ 40) (hs : a + b + c ≤ 92)
    (hq : ∀ (x y z : List Nat) (s' : Strm) (K : Wd), Good a b c x y z → s'.ok (N + 100) → Q (.d (.lst [.str (S x), .str (S y), .str (S z)])) (s'.W (J ++ K))) :
    wpM (f__law_good [.r 1, .d (.lst [.int a, .int b, .int c])]) (s.W J) Q E := good_aux pool pool_ok (fun _ _ _ h => bpool h) ok hN hs hq
end
end K01
set_option Elab.async false
set_option linter.all false
set_option maxRecDepth 100000
set_option maxHeartbeats 4000000
namespace K01
open PySem PySem.Spec PyProof.Rows L2 RZ DL SH
open SX (S S_len S_cat S_inj)
section
variable {W : Wd} {E : DX → Wd → Prop} {Q : RV → Wd → Prop} {s : Strm} {J : Wd}
@[simp] theorem line_1 : 1 ≤ sizeLine := by decide
@[simp] theorem line_2 : 2 ≤ sizeLine := by decide
@[simp] theorem line_3 : 3 ≤ sizeLine := by decide
@[simp] theorem line_4 : 4 ≤ sizeLine := by decide
@[simp] theorem line_5 : 5 ≤ sizeLine := by decide
@[simp] theorem line_6 : 6 ≤ sizeLine := by decide
@[simp] theorem line_7 : 7 ≤ sizeLine := by decide
@[simp] theorem line_8 : 8 ≤ sizeLine := by decide
@[simp] theorem line_9 : 9 ≤ sizeLine := by decide
@[simp] theorem line_10 : 10 ≤ sizeLine := by decide
@[simp] theorem line_11 : 11 ≤ sizeLine := by decide
@[simp] theorem line_12 : 12 ≤ sizeLine := by decide
@[simp] theorem line_13 : 13 ≤ sizeLine := by decide
@[simp] theorem line_14 : 14 ≤ sizeLine := by decide
@[simp] theorem line_15 : 15 ≤ sizeLine := by decide
def LP (N : Nat) (δ : DL.Env) (W : Wd) : Prop := ∃ (tl : DL.Env) (s : Strm) (J : Wd), δ = none :: some (.r 1) :: tl ∧ tl.length = 12 ∧ W = s.W J ∧ s.ok N
def Post (N : Nat) (p : Fl × DL.Env) (W : Wd) : Prop := p.1 = .nx ∧ LP N p.2 W
theorem nat_of {i : Int} (h : 0 ≤ i) : ∃ a : Nat, i = (a : Int) := ⟨i.toNat, (Int.toNat_of_nonneg h).symm⟩
theorem lotB_of {x : List Nat} (h1 : x.all okc = true) (h2 : x.Nodup) : lotB x = true := by unfold lotB; rw [h1, decide_eq_true h2]; rfl
theorem Good.lots {a b c : Nat} {x y z : List Nat} (g : Good a b c x y z) : lotB x = true ∧ lotB y = true ∧ lotB z = true ∧ lotB (x ++ y ++ z) = true := by
  have h1 := g.ok
  have h2 := g.nd
  rw [List.all_append, List.all_append, Bool.and_eq_true, Bool.and_eq_true] at h1
  have h3 := List.nodup_append.mp h2
  have h4 := List.nodup_append.mp h3.1
  exact ⟨lotB_of h1.1.1 h4.1, lotB_of h1.1.2 h4.2.1, lotB_of h1.2 h3.2.1, lotB_of g.ok g.nd⟩
theorem n1 {l : List Nat} {n : Nat} (e : l.length = n) : decide (l = []) = decide (n = 0) := by
  subst e
  cases l <;> simp
theorem Good.sig {a b c : Nat} {x y z : List Nat} (g : Good a b c x y z) : sig3 x y z = (decide (a ≤ 6) && (decide (b ≤ 3) && (decide (c ≤ 3) && (decide (a + b + c ≤ 12) && ((decide (b = 0) == decide (c = 0)) && !(decide (a + b = 0))))))) := by
  obtain ⟨l1, l2, l3, l4⟩ := g.lots
  have e1 := g.la
  have e2 := g.lb
  have e3 := g.lc
  unfold sig3
  rw [l1, l2, l3, l4]
  have hl : (x ++ y ++ z).length = a + b + c := by simp [e1, e2, e3]; omega
  have hl2 : (x ++ y).length = a + b := by simp [e1, e2]
  rw [n1 e2, n1 e3, n1 hl2, e1, e2, e3, hl]
  simp only [Bool.and_true]
theorem Good.big {a b c : Nat} {x y z : List Nat} (g : Good a b c x y z) (h : a + b + c ≤ 92) : bigOk x y z := ⟨by rw [g.la]; omega, by rw [g.lb]; omega, by rw [g.lc]; omega⟩
theorem Good.wrong {a b c : Nat} {x y z : List Nat} (g : Good a b c x y z) (hs : a + b + c ≤ 92) (h : 6 < a ∨ 3 < b ∨ 3 < c ∨ (b = 0 ∧ c ≠ 0) ∨ (b ≠ 0 ∧ c = 0)) : Wrong (.lst [.str (S x), .str (S y), .str (S z)]) := by
  refine .sig x y z (g.big hs) ?_
  rw [g.sig]
  rcases h with h | h | h | ⟨h1, h2⟩ | ⟨h1, h2⟩
  · simp [show ¬ a ≤ 6 by omega]
  · simp [show ¬ b ≤ 3 by omega]
  · simp [show ¬ c ≤ 3 by omega]
  · simp [h1, h2]
  · simp [h1, h2]
variable {x0 x2 x3 x4 x5 x6 x7 x8 x9 x10 x11 x12 x13 : Option RV} {N lw : Nat} {wr : List D}
/-- no wrong thing is let by -/
theorem t3 (ok : s.ok N) (hw : J[lw]? = some (.lst (wr.map RV.d))) (hW : ∀ x, x ∈ wr → Wrong x) (hl : wr.length < 1000) :
    wpM (p_law_s3 [none, some (.r 1), x2, x3, x4, x5, x6, x7, some (.r (lw + 2)), x9, x10, x11, x12, x13]) (s.W J) (Post N) E := by
  simp [p_law_s3, hw, wipeD]
  have key : ∀ (W : Wd) (Q : RV → Wd → Prop), Q (.d (.lst [])) W → wpM (lcF false (gtName 13) p_law_q2 p_law_e1 [none, some (.r 1), x2, x3, x4, x5, x6, x7, some (.r (lw + 2)), x9, x10, x11, x12, none] wr) W Q E := fun W Q hq => by
    refine w_noEr (goLc_fm (c := fun _ => false) (f := fun _ => .non) (small_line (by omega)) (fun d hd => ?_) ?_)
    · simp [p_law_q2]
      exact is_signs_wrong (hW d hd) (by simp)
    · rw [List.filter_eq_nil_iff.mpr (by simp)]
      exact hq
  refine key _ _ ?_
  have e0 : ∀ (W : Wd) (Q : RV → Wd → Prop), wpM (opEq true (.d (.lst [])) (.d (.lst []))) W Q E = Q (.d (.bl false)) W := fun W Q => eqL_nil (W := W) (E := E) (Q := Q) [] (neg := true)
  simp
  rw [e0]
  simp
  refine is_signs_core (a := [33, 126]) (b := [40]) (c := [41]) (by refine ⟨?_, ?_, ?_⟩ <;> decide) (.inl rfl) ?_
  rw [show sig3 [33, 126] [40] [41] = true by decide +kernel]
  simp
  refine is_signs_core (a := []) (b := [40, 60, 91]) (c := [62, 93, 41]) (by refine ⟨?_, ?_, ?_⟩ <;> decide) (.inl rfl) ?_
  rw [show sig3 [] [40, 60, 91] [62, 93, 41] = true by decide +kernel]
  simp
  refine is_signs_core (a := [97]) (b := []) (c := []) (by refine ⟨?_, ?_, ?_⟩ <;> decide) (.inl rfl) ?_
  rw [show sig3 [97] [] [] = true by decide +kernel]
  simp
  exact ⟨rfl, _, s, _, rfl, rfl, rfl, ok⟩
theorem cut1 (l : List Nat) : cutS (S l) (some 1) none = S (l.drop 1) := by
  unfold cutS
  rw [HT.sIx_none, show HT.sIx (S l).length 0 (some 1) = min 1 (S l).length from HT.sIx_nat _ 0 1, S_len]
  cases l with
  | nil => rfl
  | cons c r => simp [S]
theorem cut2 (l : List Nat) : cutS (S l) none (some 2) = S (l.take 2) := cut_pre l 2
theorem twice {a b c : List Nat} {ch : Nat} (h : bigOk a b c) (h2 : 1 < (a ++ b ++ c).count ch) : Wrong (.lst [.str (S a), .str (S b), .str (S c)]) := by
  refine .sig a b c h ?_
  have e : lotB (a ++ b ++ c) = false := by
    unfold lotB
    rw [decide_eq_false (fun n => ?_), Bool.and_false]
    have := List.nodup_iff_count.mp n ch
    omega
  unfold sig3
  rw [e]
  simp
theorem count_S (l : List Nat) (ch : Nat) : Txt.count (S l) (S [ch]) = l.count ch := by
  show Txt.count (S l) ⟨#[ch]⟩ = _
  rw [count_cnt]
  show cnt ch l = _
  induction l with
  | nil => rfl
  | cons n r ih =>
    rw [cnt_cons, ih, List.count_cons]
    by_cases h : n = ch
    · subst h; simp; omega
    · simp [h]
theorem chars_get {l : List Nat} {d : D} (h : d ∈ chD l) : ∃ ch, ch ∈ l ∧ d = .str (S [ch]) := by
  unfold chD at h
  obtain ⟨c, hc, rfl⟩ := List.mem_map.mp h
  exact ⟨c, hc, rfl⟩
theorem join3 (x y z : List Nat) : Txt.join (PySem.Str.ofString "") [S x, S y, S z] = S (x ++ y ++ z) := by
  have := SX.join_S [] [x, y, z]
  rw [joinL_flat] at this
  simpa [S_nil] using this
def rd3 (x y z : List Nat) : List D := [.str (S x), .str (S y), .str (S z)]
@[simp] theorem strsL_nil : strsL [] = some [] := (rfl)
@[simp] theorem strsL_cons {z : PySem.Str} {r : List RV} : strsL (.d (.str z) :: r) = (strsL r).map (z :: ·) := (rfl)
@[simp] theorem pureL_nil : pureL [] = some [] := (rfl)
@[simp] theorem pureL_cons {z : D} {r : List RV} : pureL (.d z :: r) = (pureL r).map (z :: ·) := (rfl)
def frzL (l : Nat) (o : Option (List D)) (QX : D → Wd → Prop) (W : Wd) : Prop := match o with | some ds => QX (.lst ds) (W.set l (.fz (.lst ds))) | none => False
@[simp] theorem frzL_some {l : Nat} {ds : List D} {QX : D → Wd → Prop} : frzL l (some ds) QX W = QX (.lst ds) (W.set l (.fz (.lst ds))) := (rfl)
theorem frzM_lst {l : Nat} {xs : List RV} {QX : D → Wd → Prop} : frzM l (some (.lst xs)) QX W = frzL l (pureL xs) QX W := by
  unfold frzM frzL
  dsimp only
  all_goals (cases pureL xs <;> rfl)
theorem new4 {k : Int} {m : Nat} {us : List RV} {p : List Nat} {ch : Nat} {δ : DL.Env} {K : RV → Wd → Prop} (hp : p.length ≤ 100) (h11 : δ[11]? = some (some (.d (.str (S [ch]))))) (h12 : δ[12]? = some (some (.r (m + 2)))) (h9 : δ[9]? = some (some (.d (.int k)))) (hu : J[m]? = some (.lst us)) (ha : atI us k = some (.d (.str (S p))))
    (h : ∀ q : List Nat, q.length ≤ 104 → K (.d (.str (S q))) (s.W J)) :
    wpM (orTF (evB (ev2 (opIn true) (evVar 11) (ev2 opIx (evVar 12) (evVar 9)))) δ (strIn (S [ch]) (cutS (S p) none (some 2)))) (s.W J) (kB (ifEF (ev2 (opAdd false) (evSl false (ev2 opIx (evVar 12) (evVar 9)) oN (oS (cI 2))) (evVar 11))
          (ev2 (opAdd false) (ev2 (opAdd false) (evSl false (ev2 opIx (evVar 12) (evVar 9)) oN (oS (cI 2))) (evVar 11)) (evVar 11)) δ) K E) E := by
  have hz : (S p).length ≤ sizeLine := by rw [S_len]; exact Nat.le_of_lt (small_line (by omega))
  have l2 : (p.take 2).length ≤ 2 := by rw [List.length_take]; omega
  have z1 : (S (p.take 2)).length + (S [ch]).length ≤ sizeLine := by rw [S_len, S_len]; exact Nat.le_of_lt (small_line (by simp; omega))
  have z2 : (S (p.take 2) ++ S [ch]).length + (S [ch]).length ≤ sizeLine := by rw [S_cat, S_len, S_len]; exact Nat.le_of_lt (small_line (by simp; omega))
  have q1 := h (p.take 2 ++ [ch]) (by simp; omega)
  have q2 := h (p.take 2 ++ [ch] ++ [ch]) (by simp; omega)
  rw [cut2, strIn_S]
  by_cases h1 : ch ∈ p.take 2
  · simp [h1, h11, h12, h9, hu, ha, hz, cut2, z1]
    rw [S_cat]
    exact q1
  · simp [h1, h11, h12, h9, hu, ha, hz, cut2, z1, strIn_S]
    by_cases h2 : ch ∈ p
    · simp [h2, h11, h12, h9, hu, ha, hz, cut2, z1, z2]
      rw [S_cat, S_cat]
      exact q2
    · simp [h2, h11, h12, h9, hu, ha, hz, cut2, z1]
      rw [S_cat]
      exact q1
/-- one thing with a sign twice -/
theorem step4 {k N : Nat} {x y z : List Nat} {ch : Nat} (hk : k < 3) (hx : x.length + y.length + z.length ≤ 100) (hc : ch ∈ x ++ y ++ z) (ok : s.ok N) (hw : J[lw]? = some (.lst (wr.map RV.d))) (hW : ∀ x, x ∈ wr → Wrong x) (hl : wr.length < 900) {QF : Fl × DL.Env → Wd → Prop}
    (h : ∀ (w : D) (x12 : Option RV) (J' : Wd), Wrong w → J'[lw]? = some (.lst ((wr ++ [w]).map RV.d)) → QF (.nx, [none, some (.r 1), x2, x3, x4, x5, x6, some (.d (.lst (rd3 x y z))), some (.r (lw + 2)), some (.d (.int k)), x10, some (.d (.str (S [ch]))), x12, x13]) (s.W J')) :
    wpM (p_law_b4 [none, some (.r 1), x2, x3, x4, x5, x6, some (.d (.lst (rd3 x y z))), some (.r (lw + 2)), some (.d (.int k)), x10, some (.d (.str (S [ch]))), x12, x13]) (s.W J) QF E := by
  have hlw : lw < J.length := (List.getElem?_eq_some_iff.mp hw).1
  have z0 : ∀ l : List Nat, l.length ≤ 1000 → (S l).length ≤ sizeLine := fun l hl => by rw [S_len]; exact Nat.le_of_lt (small_line (by omega))
  have z1 : ∀ l : List Nat, l.length ≤ 1000 → (S l).length + (S [ch]).length ≤ sizeLine := fun l hl => by rw [S_len, S_len]; exact Nat.le_of_lt (small_line (by simp; omega))
  have zw : wr.length < sizeLine := small_line (by omega)
  have hj : ∀ (m : MO), (J ++ [m])[lw]? = some (.lst (wr.map RV.d)) := fun us => by rw [List.getElem?_append_left hlw]; exact hw
  have set1 : ∀ (us vs : List RV), (J ++ [MO.lst us]).set J.length (.lst vs) = J ++ [MO.lst vs] := fun us vs => by rw [List.set_append_right _ _ (Nat.le_refl _), Nat.sub_self]; rfl
  have get1 : ∀ (us : List RV), (J ++ [MO.lst us])[J.length]? = some (.lst us) := fun us => by rw [List.getElem?_append_right (Nat.le_refl _), Nat.sub_self]; rfl
  have fin : ∀ (m : MO) (w : D), ((J ++ [m]).set lw (.lst (wr.map RV.d ++ [.d w])))[lw]? = some (.lst ((wr ++ [w]).map RV.d)) := fun m w => by
    rw [List.getElem?_set_self (by simp; omega)]; simp
  match k, hk with
  | 0, _ =>
    simp [p_law_b4, rd3, z0 x (by omega)]
    refine new4 (p := x) (by omega) rfl rfl rfl (get1 _) (by simp) fun q hq => ?_
    simp
    rw [hj]
    simp
    refine ⟨?_, ?_⟩
    · rw [S_len, S_len, S_len]; show _ + 3 * 0 ≤ _; omega
    rw [join3, count_S]
    by_cases h1 : 1 < (q ++ y ++ z).count ch
    · have h1' : (1 : Int) < (((q ++ y ++ z).count ch : Nat) : Int) := by omega
      simp only [h1', decide_true, ifEF_t]
      simp [frzM_lst]
      rw [hj]
      simp [zw]
      exact h _ _ _ (twice (a := q) (b := y) (c := z) ⟨by omega, by omega, by omega⟩ h1) (fin _ _)
    · have h1' : ¬ (1 : Int) < (((q ++ y ++ z).count ch : Nat) : Int) := by omega
      simp only [h1', decide_false, ifEF_f]
      simp [z1 y (by omega), z1 z (by omega)]
      rw [hj, S_cat, S_cat]
      simp [zw]
      exact h _ _ _ (twice (a := x) (b := y ++ [ch]) (c := z ++ [ch]) (ch := ch) ⟨by omega, by simp; omega, by simp; omega⟩ (by have e : [ch].count ch = 1 := (by simp); simp only [List.count_append, e]; omega)) (fin _ _)
  | 1, _ =>
    simp [p_law_b4, rd3, z0 y (by omega)]
    refine new4 (p := y) (by omega) rfl rfl rfl (get1 _) (by simp) fun q hq => ?_
    simp
    rw [hj]
    simp
    refine ⟨?_, ?_⟩
    · rw [S_len, S_len, S_len]; show _ + 3 * 0 ≤ _; omega
    rw [join3, count_S]
    by_cases h1 : 1 < (x ++ q ++ z).count ch
    · have h1' : (1 : Int) < (((x ++ q ++ z).count ch : Nat) : Int) := by omega
      simp only [h1', decide_true, ifEF_t]
      simp [frzM_lst]
      rw [hj]
      simp [zw]
      exact h _ _ _ (twice (a := x) (b := q) (c := z) ⟨by omega, by omega, by omega⟩ h1) (fin _ _)
    · have h1' : ¬ (1 : Int) < (((x ++ q ++ z).count ch : Nat) : Int) := by omega
      simp only [h1', decide_false, ifEF_f]
      simp [z1 y (by omega), z1 z (by omega)]
      rw [hj, S_cat, S_cat]
      simp [zw]
      exact h _ _ _ (twice (a := x) (b := y ++ [ch]) (c := z ++ [ch]) (ch := ch) ⟨by omega, by simp; omega, by simp; omega⟩ (by have e : [ch].count ch = 1 := (by simp); simp only [List.count_append, e]; omega)) (fin _ _)
  | 2, _ =>
    simp [p_law_b4, rd3, z0 z (by omega)]
    refine new4 (p := z) (by omega) rfl rfl rfl (get1 _) (by simp) fun q hq => ?_
    simp
    rw [hj]
    simp
    refine ⟨?_, ?_⟩
    · rw [S_len, S_len, S_len]; show _ + 3 * 0 ≤ _; omega
    rw [join3, count_S]
    by_cases h1 : 1 < (x ++ y ++ q).count ch
    · have h1' : (1 : Int) < (((x ++ y ++ q).count ch : Nat) : Int) := by omega
      simp only [h1', decide_true, ifEF_t]
      simp [frzM_lst]
      rw [hj]
      simp [zw]
      exact h _ _ _ (twice (a := x) (b := y) (c := q) ⟨by omega, by omega, by omega⟩ h1) (fin _ _)
    · have h1' : ¬ (1 : Int) < (((x ++ y ++ q).count ch : Nat) : Int) := by omega
      simp only [h1', decide_false, ifEF_f]
      simp [z1 y (by omega), z1 z (by omega)]
      rw [hj, S_cat, S_cat]
      simp [zw]
      exact h _ _ _ (twice (a := x) (b := y ++ [ch]) (c := z ++ [ch]) (ch := ch) ⟨by omega, by simp; omega, by simp; omega⟩ (by have e : [ch].count ch = 1 := (by simp); simp only [List.count_append, e]; omega)) (fin _ _)
theorem t5 {x y z : List Nat} {ch : Nat} (hx : x.length + y.length + z.length ≤ 100) (hc : ch ∈ x ++ y ++ z) (ok : s.ok N) (hw : J[lw]? = some (.lst (wr.map RV.d))) (hW : ∀ x, x ∈ wr → Wrong x) (hl : wr.length < 800) :
    wpM (p_law_s5 [none, some (.r 1), x2, x3, x4, x5, x6, some (.d (.lst (rd3 x y z))), some (.r (lw + 2)), x9, x10, some (.d (.str (S [ch]))), x12, x13]) (s.W J) (Post N) E := by
  simp [p_law_s5]
  rw [show ∀ (QD : List D → Wd → Prop), wpM (rng1 [.d (.int 3)]) (s.W J) QD E = ((3 : Nat) < 2 ^ 62 ∧ QD (DL.intsFrom 0 3) (s.W J)) from fun QD => w_rng1n (k := 3)]
  refine ⟨by decide, ?_⟩
  simp only [kB_ap, w_forF]
  have e3 : DL.intsFrom 0 3 = [.int ((0 : Nat) : Int), .int ((1 : Nat) : Int), .int ((2 : Nat) : Int)] := rfl
  rw [e3, w_goFor]
  simp only [w_gtName, List.set_cons_succ, List.set_cons_zero, kB_ap, w_forH]
  refine step4 (N := N) (k := 0) (by omega) hx hc ok hw hW (by omega) fun w1 x12 J1 h1 hw1 => ?_
  simp only [kB_ap, forG_nx]
  rw [w_goFor]
  simp only [w_gtName, List.set_cons_succ, List.set_cons_zero, kB_ap, w_forH]
  have hW1 : ∀ x, x ∈ wr ++ [w1] → Wrong x := fun x hx => by
    rcases List.mem_append.mp hx with h | h
    · exact hW x h
    · rw [List.mem_singleton.mp h]; exact h1
  refine step4 (N := N) (k := 1) (by omega) hx hc ok hw1 hW1 (by simp; omega) fun w2 x12 J2 h2 hw2 => ?_
  simp only [kB_ap, forG_nx]
  rw [w_goFor]
  simp only [w_gtName, List.set_cons_succ, List.set_cons_zero, kB_ap, w_forH]
  have hW2 : ∀ x, x ∈ wr ++ [w1] ++ [w2] → Wrong x := fun x hx => by
    rcases List.mem_append.mp hx with h | h
    · exact hW1 x h
    · rw [List.mem_singleton.mp h]; exact h2
  refine step4 (N := N) (k := 2) (by omega) hx hc ok hw2 hW2 (by simp; omega) fun w3 x12 J3 h3 hw3 => ?_
  simp only [kB_ap, forG_nx]
  rw [w_goFor0]
  simp only [kB_ap, seqF_nx]
  have hW3 : ∀ x, x ∈ wr ++ [w1] ++ [w2] ++ [w3] → Wrong x := fun x hx => by
    rcases List.mem_append.mp hx with h | h
    · exact hW2 x h
    · rw [List.mem_singleton.mp h]; exact h3
  exact t3 ok hw3 hW3 (by simp; omega)
end
end K01
set_option Elab.async false
set_option linter.all false
set_option maxRecDepth 100000
set_option maxHeartbeats 4000000
namespace K01
open PySem PySem.Spec PyProof.Rows L2 RZ DL SH
open SX (S S_len S_cat S_inj)
section
variable {W : Wd} {E : DX → Wd → Prop} {Q : RV → Wd → Prop} {s : Strm} {J : Wd}
variable {x0 x2 x3 x4 x5 x6 x7 x8 x9 x10 x11 x12 x13 : Option RV} {N lw ls : Nat} {wr : List D}
theorem Post.mono {N M : Nat} {p : Fl × DL.Env} {W : Wd} (h : Post N p W) (l : N ≤ M) : Post M p W := by
  obtain ⟨h1, tl, s, J, h2, h3, h4, h5⟩ := h
  exact ⟨h1, tl, s, J, h2, h3, h4, h5.mono l⟩
theorem charsOf_chD (l : List Nat) : charsOf (S l) = chD l := rfl
theorem lensum (x y z : List Nat) (h : x.length + y.length + z.length ≤ 100) : (S x).length + ((S y).length + (S z).length) + 3 * (PySem.Str.ofString "").length ≤ 16777216 := by
  rw [S_len, S_len, S_len]; show _ + 3 * 0 ≤ _; omega
theorem t6 {x y z : List Nat} (hx : x.length + y.length + z.length ≤ 100) (hn : x ++ y ++ z ≠ []) (hN : N < 2 ^ 40) (ok : s.ok N) (hw : J[lw]? = some (.lst (wr.map RV.d))) (hW : ∀ x, x ∈ wr → Wrong x) (hl : wr.length < 800) :
    wpM (p_law_s6 [none, some (.r 1), x2, x3, x4, x5, x6, some (.d (.lst (rd3 x y z))), some (.r (lw + 2)), x9, x10, x11, x12, x13]) (s.W J) (Post (N + 1)) E := by
  have hlen : (x ++ y ++ z).length ≤ 100 := by simp; omega
  simp [p_law_s6, rd3]
  refine ⟨by rw [S_len, S_len, S_len]; show _ + 3 * 0 ≤ _; omega, ?_⟩
  rw [join3, charsOf_chD]
  refine ⟨Nat.le_of_lt (small_line (by simp [S]; omega)), ?_⟩
  have hc : (chD (x ++ y ++ z)).length = (x ++ y ++ z).length := by unfold chD; rw [List.length_map]
  refine pick ok hN (by rw [hc]; exact List.length_pos_iff.mpr hn) (by rw [hc]; exact Nat.le_of_lt (small_line (by omega))) _ fun d s' hd ok' => ?_
  obtain ⟨ch, hch, rfl⟩ := chars_get hd
  simp
  exact t5 hx hch ok' hw hW hl
theorem mem_app {a b : List D} (h1 : ∀ x, x ∈ a → Wrong x) (h2 : ∀ x, x ∈ b → Wrong x) : ∀ x, x ∈ a ++ b → Wrong x := fun x hx => (List.mem_append.mp hx).elim (h1 x) (h2 x)
theorem t7 {x y z p q r : List Nat} (hx : x.length + y.length + z.length ≤ 100) (hn : x ++ y ++ z ≠ []) (hN : N < 2 ^ 40) (ok : s.ok N) (hw : J[lw]? = some (.lst (wr.map RV.d))) (hW : ∀ x, x ∈ wr → Wrong x) (hl : wr.length < 700)
    (hs : J[ls]? = some (.lst ((rd3 p q r).map RV.d))) (hne : ls ≠ lw) (hS : Wrong (.lst (rd3 p q r))) :
    wpM (p_law_s7 [none, some (.r 1), x2, x3, x4, x5, x6, some (.d (.lst (rd3 x y z))), some (.r (lw + 2)), x9, some (.r (ls + 2)), x11, x12, x13]) (s.W J) (Post (N + 1)) E := by
  have hlw : lw < J.length := (List.getElem?_eq_some_iff.mp hw).1
  simp [p_law_s7, rd3, hs, frzM_lst]
  rw [List.getElem?_set_ne hne, hw]
  simp
  refine ⟨Nat.le_of_lt (small_line (by omega)), ?_⟩
  have h2 : ∀ x', x' ∈ ([.lst (rd3 p q r), .lst [.str (S x), .str (S y), .lst [.str (S z)]]] : List D) → Wrong x' := fun x' hx' => by
    simp only [List.mem_cons, List.not_mem_nil, or_false] at hx'
    rcases hx' with rfl | rfl
    · exact hS
    · exact .third x y _ ⟨by omega, by omega⟩ .lst (fun _ => rfl) (by decide)
  refine t6 (lw := J.length) hx hn hN ok ?_ (mem_app hW h2) (by simp; omega)
  rw [List.getElem?_append_right (by simp), List.length_set, Nat.sub_self]
  simp [rd3]
theorem at_end {A : Wd} {m : MO} {n : Nat} (h : n = A.length) : (A ++ [m])[n]? = some m := by
  subst h
  rw [List.getElem?_append_right (Nat.le_refl _), Nat.sub_self]; rfl
theorem lot_bad {l : List Nat} {b : Nat} (h : okc b = false) : lotB (l ++ [b]) = false := by
  unfold lotB
  rw [List.all_append]
  simp [h]
theorem wrong_x {p q r : List Nat} (hb : bigOk p q r) (h : lotB p = false ∨ lotB q = false ∨ lotB r = false) : Wrong (.lst (rd3 p q r)) := by
  refine .sig p q r hb ?_
  unfold sig3
  rcases h with h | h | h <;> rw [h] <;> simp
def bads : List D := [.str (PySem.Str.ofString "\""), .str (PySem.Str.ofString " "), .str (PySem.Str.ofString "\n"), .str (PySem.Str.ofString "\t")]
theorem bads_get {d : D} (h : d ∈ bads) : ∃ b, okc b = false ∧ d = .str (S [b]) := by
  simp only [bads, List.mem_cons, List.not_mem_nil, or_false] at h
  rcases h with rfl | rfl | rfl | rfl
  · exact ⟨34, by decide, rfl⟩
  · exact ⟨32, by decide, rfl⟩
  · exact ⟨10, by decide, rfl⟩
  · exact ⟨9, by decide, rfl⟩
theorem t8 {k : Nat} {x y z : List Nat} (hk : k < 3) (hx : x.length + y.length + z.length ≤ 100) (hn : x ++ y ++ z ≠ []) (hN : N + 1 < 2 ^ 40) (ok : s.ok N) (hw : J[lw]? = some (.lst (wr.map RV.d))) (hW : ∀ x, x ∈ wr → Wrong x) (hl : wr.length < 700)
    (hs : J[ls]? = some (.lst ((rd3 x y z).map RV.d))) (hne : ls ≠ lw) :
    wpM (p_law_s8 [none, some (.r 1), x2, x3, x4, x5, x6, some (.d (.lst (rd3 x y z))), some (.r (lw + 2)), some (.d (.int k)), some (.r (ls + 2)), x11, x12, x13]) (s.W J) (Post (N + 2)) E := by
  have hlw : lw < J.length := (List.getElem?_eq_some_iff.mp hw).1
  have hls : ls < J.length := (List.getElem?_eq_some_iff.mp hs).1
  have z0 : ∀ l : List Nat, l.length ≤ 1000 → (S l).length ≤ sizeLine := fun l hl => by rw [S_len]; exact Nat.le_of_lt (small_line (by omega))
  have z1 : ∀ (l : List Nat) (b : Nat), l.length ≤ 1000 → (S l).length + (S [b]).length ≤ sizeLine := fun l b hl => by rw [S_len, S_len]; exact Nat.le_of_lt (small_line (by simp; omega))
  have hset : ∀ v, (J.set ls v)[lw]? = some (.lst (wr.map RV.d)) := fun v => by rw [List.getElem?_set_ne hne, hw]
  have hget : ∀ v, (J.set ls v)[ls]? = some v := fun v => by rw [List.getElem?_set_self hls]
  match k, hk with
  | 0, _ =>
    simp [p_law_s8, rd3, hs, z0 x (by omega), cut1]
    refine pick (xs := bads) ok (by omega) (by decide) (by decide) _ fun d s' hd ok' => ?_
    obtain ⟨b, hb, rfl⟩ := bads_get hd
    simp [z1 x.tail b (by simp; omega), hs, rd3]
    rw [S_cat]
    exact t7 (p := x.tail ++ [b]) (q := y) (r := z) hx hn (by omega) ok' (hset _) hW hl (hget _) hne (wrong_x ⟨by simp; omega, by omega, by omega⟩ (.inl (lot_bad hb)))
  | 1, _ =>
    simp [p_law_s8, rd3, hs, z0 y (by omega), cut1]
    refine pick (xs := bads) ok (by omega) (by decide) (by decide) _ fun d s' hd ok' => ?_
    obtain ⟨b, hb, rfl⟩ := bads_get hd
    simp [z1 y.tail b (by simp; omega), hs, rd3]
    rw [S_cat]
    exact t7 (p := x) (q := y.tail ++ [b]) (r := z) hx hn (by omega) ok' (hset _) hW hl (hget _) hne (wrong_x ⟨by omega, by simp; omega, by omega⟩ (.inr (.inl (lot_bad hb))))
  | 2, _ =>
    simp [p_law_s8, rd3, hs, z0 z (by omega), cut1]
    refine pick (xs := bads) ok (by omega) (by decide) (by decide) _ fun d s' hd ok' => ?_
    obtain ⟨b, hb, rfl⟩ := bads_get hd
    simp [z1 z.tail b (by simp; omega), hs, rd3]
    rw [S_cat]
    exact t7 (p := x) (q := y) (r := z.tail ++ [b]) hx hn (by omega) ok' (hset _) hW hl (hget _) hne (wrong_x ⟨by omega, by omega, by simp; omega⟩ (.inr (.inr (lot_bad hb))))
theorem t9 {x y z : List Nat} (hx : x.length + y.length + z.length ≤ 100) (hn : x ++ y ++ z ≠ []) (hN : N + 2 < 2 ^ 40) (ok : s.ok N) (hw : J[lw]? = some (.lst (wr.map RV.d))) (hW : ∀ x, x ∈ wr → Wrong x) (hl : wr.length < 700) :
    wpM (p_law_s9 [none, some (.r 1), x2, x3, x4, x5, x6, some (.d (.lst (rd3 x y z))), some (.r (lw + 2)), x9, x10, x11, x12, x13]) (s.W J) (Post (N + 3)) E := by
  have hlw : lw < J.length := (List.getElem?_eq_some_iff.mp hw).1
  simp [p_law_s9]
  refine below ok (by omega) (by decide) (by decide) _ fun i s' h0 h1 ok' => ?_
  obtain ⟨k, rfl⟩ := nat_of h0
  simp
  refine t8 (k := k) (ls := J.length) (by omega) hx hn (by omega) ok' (by rw [List.getElem?_append_left hlw]; exact hw) hW hl (by rw [List.getElem?_append_right (Nat.le_refl _), Nat.sub_self]; rfl) (by omega)
theorem cut_two (a b c : D) : cutL [a, b, c] none (some 2) = [a, b] := rfl
theorem t10 {x y z : List Nat} (hx : x.length + y.length + z.length ≤ 100) (hn : x ++ y ++ z ≠ []) (hN : N + 2 < 2 ^ 40) (ok : s.ok N) (hw : J[lw]? = some (.lst (wr.map RV.d))) (hW : ∀ x, x ∈ wr → Wrong x) (hl : wr.length < 600) :
    wpM (p_law_s10 [none, some (.r 1), x2, x3, x4, x5, x6, some (.d (.lst (rd3 x y z))), some (.r (lw + 2)), x9, x10, x11, x12, x13]) (s.W J) (Post (N + 3)) E := by
  have hlw : lw < J.length := (List.getElem?_eq_some_iff.mp hw).1
  simp [p_law_s10, rd3, hw, cut_two]
  refine ⟨by rw [S_len, S_len, S_len]; show _ + 3 * 0 ≤ _; omega, ⟨by decide, by decide⟩, Nat.le_of_lt (small_line (by omega)), ?_⟩
  generalize hd : (List.map (fun p => (((Sum.inr (⟨#[p.1]⟩ : PySem.Str)) : Key), p.2)) ((PySem.Str.ofString "abc").cps.toList.zip [D.str (S x), D.str (S y), D.str (S z)])) = dk
  have h2 : ∀ x', x' ∈ ([.lst [.str (S x), .str (S y)], .lst [.str (S x), .str (S y), .str (S z), .str (PySem.Str.ofString "")], .str (Txt.join (PySem.Str.ofString "") [S x, S y, S z]), .dK dk, .non, .int 3, .bl true, .lst [.str (S x), .str (S y), .non]] : List D) → Wrong x' := fun x' hx' => by
    simp only [List.mem_cons, List.not_mem_nil, or_false] at hx'
    rcases hx' with rfl | rfl | rfl | rfl | rfl | rfl | rfl | rfl
    · exact .len _ (by simp)
    · exact .len _ (by simp)
    · exact .ty _ .str (fun _ => rfl) (by decide) (by decide)
    · exact .ty _ .dct (fun _ => rfl) (by decide) (by decide)
    · exact .ty _ .non (fun _ => rfl) (by decide) (by decide)
    · exact .ty _ .int (fun _ => rfl) (by decide) (by decide)
    · exact .ty _ .bl (fun _ => rfl) (by decide) (by decide)
    · exact .third x y _ ⟨by omega, by omega⟩ .non (fun _ => rfl) (by decide)
  refine t9 (lw := J.length) hx hn hN ok ?_ (mem_app hW h2) (by simp; omega)
  rw [List.getElem?_append_right (Nat.le_refl _), Nat.sub_self]
  simp
theorem t11 {a b c : Nat} {x y z : List Nat} (ha : a ≤ 6) (hb : b ≤ 2) (hc : c ≤ 2) (hx : x.length + y.length + z.length ≤ 100) (hn : x ++ y ++ z ≠ []) (hN : N + 300 < 2 ^ 40) (ok : s.ok N) (hw : J[lw]? = some (.lst (wr.map RV.d))) (hW : ∀ x, x ∈ wr → Wrong x) (hl : wr.length < 500) :
    wpM (p_law_s11 [none, some (.r 1), x2, some (.d (.int a)), some (.d (.int ((b + 1 : Nat) : Int))), some (.d (.int ((c + 1 : Nat) : Int))), x6, some (.d (.lst (rd3 x y z))), some (.r (lw + 2)), x9, x10, x11, x12, x13]) (s.W J) (Post (N + 203)) E := by
  have hlw : lw < J.length := (List.getElem?_eq_some_iff.mp hw).1
  simp [p_law_s11]
  refine good (a := a) (b := 0) (c := c + 1) ok (by omega) (by omega) fun p q r s' K g ok' => ?_
  simp
  refine good (a := a) (b := b + 1) (c := 0) ok' (by omega) (by omega) fun p' q' r' s' K' g' ok' => ?_
  simp
  rw [List.getElem?_append_left hlw, hw]
  simp
  refine ⟨Nat.le_of_lt (small_line (by omega)), ?_⟩
  have h2 : ∀ x', x' ∈ ([.lst (rd3 p q r), .lst (rd3 p' q' r'), .lst (rd3 [] [] [])] : List D) → Wrong x' := fun x' hx' => by
    simp only [List.mem_cons, List.not_mem_nil, or_false] at hx'
    rcases hx' with rfl | rfl | rfl
    · exact g.wrong (by omega) (by omega)
    · exact g'.wrong (by omega) (by omega)
    · exact .sig [] [] [] ⟨by decide, by decide, by decide⟩ (by decide)
  refine t10 (N := N + 100 + 100) (lw := J.length + (K.length + K'.length)) hx hn (by omega) ok' ?_ (mem_app hW h2) (by simp; omega)
  rw [← List.append_assoc, ← List.append_assoc]
  exact (at_end (by simp <;> omega)).trans (by simp [rd3, S_nil])
theorem t12 {a b c : Nat} {x y z : List Nat} (ha : a ≤ 6) (hb : b ≤ 2) (hc : c ≤ 2) (hx : x.length + y.length + z.length ≤ 100) (hn : x ++ y ++ z ≠ []) (hN : N + 700 < 2 ^ 40) (ok : s.ok N) :
    wpM (p_law_s12 [none, some (.r 1), x2, some (.d (.int a)), some (.d (.int ((b + 1 : Nat) : Int))), some (.d (.int ((c + 1 : Nat) : Int))), x6, some (.d (.lst (rd3 x y z))), x8, x9, x10, x11, x12, x13]) (s.W J) (Post (N + 503)) E := by
  simp [p_law_s12]
  refine good (a := 7) (b := b + 1) (c := c + 1) ok (by omega) (by omega) fun p q r s' K g ok' => ?_
  simp
  refine good (a := a) (b := 4) (c := c + 1) ok' (by omega) (by omega) fun p2 q2 r2 s2 K2 g2 ok2 => ?_
  simp
  refine good (a := a) (b := b + 1) (c := 4) ok2 (by omega) (by omega) fun p3 q3 r3 s3 K3 g3 ok3 => ?_
  simp
  have h2 : ∀ x', x' ∈ ([.lst (rd3 p q r), .lst (rd3 p2 q2 r2), .lst (rd3 p3 q3 r3)] : List D) → Wrong x' := fun x' hx' => by
    simp only [List.mem_cons, List.not_mem_nil, or_false] at hx'
    rcases hx' with rfl | rfl | rfl
    · exact g.wrong (by omega) (by omega)
    · exact g2.wrong (by omega) (by omega)
    · exact g3.wrong (by omega) (by omega)
  refine t11 (N := N + 100 + 100 + 100) (lw := J.length + (K.length + (K2.length + K3.length))) ha hb hc hx hn (by omega) ok3 ?_ h2 (by simp)
  rw [← List.append_assoc, ← List.append_assoc, ← List.append_assoc]
  exact (at_end (by simp <;> omega)).trans (by simp [rd3])
theorem t13 {a b c d e : Nat} {x y z : List Nat} (ha : a ≤ 6) (hb : b ≤ 2) (hc : c ≤ 2) (g : Good a d e x y z) (hd : d ≤ 3) (he : e ≤ 3) (h0 : d = 0 ↔ e = 0) (hn : ¬ (a = 0 ∧ d = 0)) (hN : N + 700 < 2 ^ 40) (ok : s.ok N) :
    wpM (p_law_s13 [none, some (.r 1), x2, some (.d (.int a)), some (.d (.int ((b + 1 : Nat) : Int))), some (.d (.int ((c + 1 : Nat) : Int))), x6, some (.d (.lst (rd3 x y z))), x8, x9, x10, x11, x12, x13]) (s.W J) (Post (N + 503)) E := by
  have hs : sig3 x y z = true := by
    rw [g.sig]
    have h1 : (decide (d = 0) == decide (e = 0)) = true := by
      by_cases q : d = 0
      · simp [q, h0.mp q]
      · have : ¬ e = 0 := fun z => q (h0.mpr z)
        simp [q, this]
    have h2 : ¬ a + d = 0 := by omega
    rw [h1]
    simp [ha, hd, he, h2]
    omega
  have e1 := g.la
  have e2 := g.lb
  have e3 := g.lc
  simp [p_law_s13, rd3]
  refine is_signs_core (g.big (by omega)) (.inl rfl) ?_
  rw [hs]
  simp [w_bTuple_l]
  refine is_signs_core (g.big (by omega)) (.inr rfl) ?_
  rw [hs]
  simp
  refine same_refl 3 _ (by decide) _ _ _ ?_
  simp
  refine t12 (N := N) ha hb hc (by omega) (fun q => hn ?_) hN ok
  have hl : (x ++ y ++ z).length = 0 := by rw [q]; rfl
  rw [List.length_append, List.length_append] at hl
  omega
theorem t14 {a b c d e : Nat} (ha : a ≤ 6) (hb : b ≤ 2) (hc : c ≤ 2) (hd : d ≤ 3) (he : e ≤ 3) (h0 : d = 0 ↔ e = 0) (hn : ¬ (a = 0 ∧ d = 0)) (hN : N + 800 < 2 ^ 40) (ok : s.ok N) :
    wpM (p_law_s14 [none, some (.r 1), x2, some (.d (.int a)), some (.d (.int ((b + 1 : Nat) : Int))), some (.d (.int ((c + 1 : Nat) : Int))), some (.d (.lst [.int a, .int d, .int e])), x7, x8, x9, x10, x11, x12, x13]) (s.W J) (Post (N + 603)) E := by
  simp [p_law_s14]
  refine good (a := a) (b := d) (c := e) ok (by omega) (by omega) fun x y z s' K g ok' => ?_
  simp
  exact t13 (N := N + 100) ha hb hc g hd he h0 hn (by omega) ok'
theorem t15 {a b c t : Nat} (ha : a ≤ 6) (hb : b ≤ 2) (hc : c ≤ 2) (hN : N + 800 < 2 ^ 40) (ok : s.ok N) :
    wpM (p_law_s15 [none, some (.r 1), some (.d (.int t)), some (.d (.int a)), some (.d (.int ((b + 1 : Nat) : Int))), some (.d (.int ((c + 1 : Nat) : Int))), x6, x7, x8, x9, x10, x11, x12, x13]) (s.W J) (Post (N + 603)) E := by
  simp [p_law_s15]
  by_cases h1 : (0 : Int) < (t : Int) % 3
  · simp [h1]
    exact t14 (d := b + 1) (e := c + 1) ha hb hc (by omega) (by omega) (by omega) (by omega) hN ok
  · simp [h1]
    by_cases h2 : a = 0
    · subst h2
      simp
      exact t14 (a := 0) (d := b + 1) (e := c + 1) ha hb hc (by omega) (by omega) (by omega) (by omega) hN ok
    · simp [h2]
      exact t14 (a := a) (d := 0) (e := 0) ha hb hc (by omega) (by omega) (by omega) (by omega) hN ok
theorem turn {t : Nat} (hN : N + 900 < 2 ^ 40) (ok : s.ok N) :
    wpM (p_law_b17 [none, some (.r 1), some (.d (.int t)), x3, x4, x5, x6, x7, x8, x9, x10, x11, x12, x13]) (s.W J) (Post (N + 606)) E := by
  simp [p_law_b17]
  refine below ok (by omega) (by decide) (by decide) _ fun i s ha0 ha1 ok => ?_
  obtain ⟨a, rfl⟩ := nat_of ha0
  simp [p_law_s16]
  refine below ok (by omega) (by decide) (by decide) _ fun i s hb0 hb1 ok => ?_
  obtain ⟨b, rfl⟩ := nat_of hb0
  simp
  refine below ok (by omega) (by decide) (by decide) _ fun i s hc0 hc1 ok => ?_
  obtain ⟨c, rfl⟩ := nat_of hc0
  simp
  have e1 : ∀ b : Nat, (1 + (b : Int)) = ((b + 1 : Nat) : Int) := fun b => by push_cast; omega
  rw [e1 b, e1 c]
  exact t15 (N := N + 1 + 1 + 1) (by omega) (by omega) (by omega) (by omega) ok
end
end K01
set_option Elab.async false
set_option linter.all false
set_option maxRecDepth 100000
set_option maxHeartbeats 4000000
namespace K01
open PySem PySem.Spec PyProof.Rows L2 RZ DL SH
open SX (S S_len S_cat S_inj)
theorem ints_get {n i : Nat} {d : D} (h : (DL.intsFrom 0 n)[i]? = some d) : d = .int (i : Nat) := by
  unfold DL.intsFrom at h
  rw [List.getElem?_map] at h
  cases e : (List.range n)[i]? with
  | none => rw [e] at h; simp at h
  | some j =>
    rw [e] at h
    obtain ⟨h1, h2⟩ := List.getElem?_eq_some_iff.mp e
    rw [List.getElem_range] at h2
    subst h2
    simp at h
    exact h.symm
theorem tl12 {tl : DL.Env} (h : tl.length = 12) : ∃ x2 x3 x4 x5 x6 x7 x8 x9 x10 x11 x12 x13, tl = [x2, x3, x4, x5, x6, x7, x8, x9, x10, x11, x12, x13] := by
  match tl, h with
  | [x2, x3, x4, x5, x6, x7, x8, x9, x10, x11, x12, x13], _ => exact ⟨_, _, _, _, _, _, _, _, _, _, _, _, rfl⟩
theorem math (ns : List Int) (hl : ns.length ≤ 63) : wpM (m_law (lawEnv 14)) (startW ns) (fun p _ => p.1 = .rt (.d (.bl true))) (fun _ _ => False) := by
  generalize hQ : (fun (p : Fl × DL.Env) (_ : Wd) => p.1 = .rt (.d (.bl true))) = QF
  have e0 : startW ns = (Strm.mk ns 0 0 43).W [] := rfl
  have ok0 : (Strm.mk ns 0 0 43).ok 0 := ⟨hl, Int.le_refl _, Int.le_refl _, Int.le_refl _, show (0 : Int) ≤ 43 by decide, show (43 : Int) < 2147483647 by decide⟩
  rw [e0]
  simp [m_law]
  rw [show ∀ (QD : List D → Wd → Prop) (W : Wd) (E : DX → Wd → Prop), wpM (rng1 [.d (.int 12)]) W QD E = ((12 : Nat) < 2 ^ 62 ∧ QD (DL.intsFrom 0 12) W) from fun QD W E => w_rng1n (k := 12)]
  refine ⟨by decide, ?_⟩
  simp only [kB_ap, w_forF]
  have hlen : (DL.intsFrom 0 12).length = 12 := rfl
  refine wpM_mono (goFor_inv (fun i δ W => LP (606 * i) δ W) (DL.intsFrom 0 12) (fun i d δ W hd hP => ?_) (DL.intsFrom 0 12) 0 (lawEnv 14) _ rfl (Nat.zero_le _) ⟨_, _, [], rfl, rfl, rfl, ok0⟩) (fun p W' hp => ?_) fun _ _ z => z
  · have hi : i < 12 := by rw [← hlen]; exact (List.getElem?_eq_some_iff.mp hd).1
    have := ints_get hd
    subst this
    obtain ⟨tl, s, J, rfl, ht, rfl, ok⟩ := hP
    obtain ⟨x2, x3, x4, x5, x6, x7, x8, x9, x10, x11, x12, x13, rfl⟩ := tl12 ht
    simp only [w_gtName, List.set_cons_succ, List.set_cons_zero, kB_ap]
    refine wpM_mono (turn (N := 606 * i) (t := i) (by omega) ok) (fun p W' hp => ?_) fun _ _ z => z
    exact ⟨.inl hp.1, hp.2⟩
  · obtain ⟨f, δ⟩ := p
    obtain ⟨h1, h2⟩ := hp
    obtain rfl : f = .nx := h1
    simp
    rw [← hQ]
end K01
set_option Elab.async false
set_option linter.all false
set_option maxRecDepth 100000
set_option maxHeartbeats 4000000
namespace K01
open PySem PySem.Spec PyProof.Rows L2 RZ DL
theorem all_mk {l : PySem.W.OpenLaw} {w : World} {K : PySem.W.Frag} {h : Heap} {mg : Str → Option Value} {fa : Addr} (X : K.In h) (G : h.Ns mainGlobals mg) (hfa : mg "law" = some (.ref fa))
    {oc0 kV0 dc0 pm0 cd0 ct0 : Value} {od0 an0 : Option Addr} {sl0 : Array (Option Value)} {f0 : Addr}
    (a0 : PySem.W.nsIn K mainGlobals "_law_below" = some (some (.ref f0))) (l0 : K.lookup f0 = some ⟨oc0, od0, .func (PySem.W.fnOf "_law_below" "_law_below" (defArgs s__law_below) (defBody s__law_below) (defScope s__law_below) .none kV0 dc0 pm0 an0 cd0 ct0), sl0⟩) (c0 : PySem.W.codeIn K cd0 "_law_below" = true) (k0 : PySem.W.keepIn K (.ref f0) = true)
    {oc1 kV1 dc1 pm1 cd1 ct1 : Value} {od1 an1 : Option Addr} {sl1 : Array (Option Value)} {f1 : Addr}
    (a1 : PySem.W.nsIn K mainGlobals "_law_bpool" = some (some (.ref f1))) (l1 : K.lookup f1 = some ⟨oc1, od1, .func (PySem.W.fnOf "_law_bpool" "_law_bpool" (defArgs s__law_bpool) (defBody s__law_bpool) (defScope s__law_bpool) .none kV1 dc1 pm1 an1 cd1 ct1), sl1⟩) (c1 : PySem.W.codeIn K cd1 "_law_bpool" = true) (k1 : PySem.W.keepIn K (.ref f1) = true)
    {oc2 kV2 dc2 pm2 cd2 ct2 : Value} {od2 an2 : Option Addr} {sl2 : Array (Option Value)} {f2 : Addr}
    (a2 : PySem.W.nsIn K mainGlobals "_law_bsome" = some (some (.ref f2))) (l2 : K.lookup f2 = some ⟨oc2, od2, .func (PySem.W.fnOf "_law_bsome" "_law_bsome" (defArgs s__law_bsome) (defBody s__law_bsome) (defScope s__law_bsome) .none kV2 dc2 pm2 an2 cd2 ct2), sl2⟩) (c2 : PySem.W.codeIn K cd2 "_law_bsome" = true) (k2 : PySem.W.keepIn K (.ref f2) = true)
    {oc3 kV3 dc3 pm3 cd3 ct3 : Value} {od3 an3 : Option Addr} {sl3 : Array (Option Value)} {f3 : Addr}
    (a3 : PySem.W.nsIn K mainGlobals "_law_good" = some (some (.ref f3))) (l3 : K.lookup f3 = some ⟨oc3, od3, .func (PySem.W.fnOf "_law_good" "_law_good" (defArgs s__law_good) (defBody s__law_good) (defScope s__law_good) .none kV3 dc3 pm3 an3 cd3 ct3), sl3⟩) (c3 : PySem.W.codeIn K cd3 "_law_good" = true) (k3 : PySem.W.keepIn K (.ref f3) = true)
    {oc4 kV4 dc4 pm4 cd4 ct4 : Value} {od4 an4 : Option Addr} {sl4 : Array (Option Value)} {f4 : Addr}
    (a4 : PySem.W.nsIn K mainGlobals "_law_pick" = some (some (.ref f4))) (l4 : K.lookup f4 = some ⟨oc4, od4, .func (PySem.W.fnOf "_law_pick" "_law_pick" (defArgs s__law_pick) (defBody s__law_pick) (defScope s__law_pick) .none kV4 dc4 pm4 an4 cd4 ct4), sl4⟩) (c4 : PySem.W.codeIn K cd4 "_law_pick" = true) (k4 : PySem.W.keepIn K (.ref f4) = true)
    {oc5 kV5 dc5 pm5 cd5 ct5 : Value} {od5 an5 : Option Addr} {sl5 : Array (Option Value)} {f5 : Addr}
    (a5 : PySem.W.nsIn K mainGlobals "_law_same" = some (some (.ref f5))) (l5 : K.lookup f5 = some ⟨oc5, od5, .func (PySem.W.fnOf "_law_same" "_law_same" (defArgs s__law_same) (defBody s__law_same) (defScope s__law_same) .none kV5 dc5 pm5 an5 cd5 ct5), sl5⟩) (c5 : PySem.W.codeIn K cd5 "_law_same" = true) (k5 : PySem.W.keepIn K (.ref f5) = true)
    {oc6 kV6 dc6 pm6 cd6 ct6 : Value} {od6 an6 : Option Addr} {sl6 : Array (Option Value)} {f6 : Addr}
    (a6 : PySem.W.nsIn K mainGlobals "_law_start" = some (some (.ref f6))) (l6 : K.lookup f6 = some ⟨oc6, od6, .func (PySem.W.fnOf "_law_start" "_law_start" (defArgs s__law_start) (defBody s__law_start) (defScope s__law_start) .none kV6 dc6 pm6 an6 cd6 ct6), sl6⟩) (c6 : PySem.W.codeIn K cd6 "_law_start" = true) (k6 : PySem.W.keepIn K (.ref f6) = true)
    {oc7 kV7 dc7 pm7 cd7 ct7 : Value} {od7 an7 : Option Addr} {sl7 : Array (Option Value)} {f7 : Addr}
    (a7 : PySem.W.nsIn K mainGlobals "is_sign" = some (some (.ref f7))) (l7 : K.lookup f7 = some ⟨oc7, od7, .func (PySem.W.fnOf "is_sign" "is_sign" (defArgs s_is_sign) (defBody s_is_sign) (defScope s_is_sign) .none kV7 dc7 pm7 an7 cd7 ct7), sl7⟩) (c7 : PySem.W.codeIn K cd7 "is_sign" = true) (k7 : PySem.W.keepIn K (.ref f7) = true)
    {oc8 kV8 dc8 pm8 cd8 ct8 : Value} {od8 an8 : Option Addr} {sl8 : Array (Option Value)} {f8 : Addr}
    (a8 : PySem.W.nsIn K mainGlobals "is_lot" = some (some (.ref f8))) (l8 : K.lookup f8 = some ⟨oc8, od8, .func (PySem.W.fnOf "is_lot" "is_lot" (defArgs s_is_lot) (defBody s_is_lot) (defScope s_is_lot) .none kV8 dc8 pm8 an8 cd8 ct8), sl8⟩) (c8 : PySem.W.codeIn K cd8 "is_lot" = true) (k8 : PySem.W.keepIn K (.ref f8) = true)
    {oc9 kV9 dc9 pm9 cd9 ct9 : Value} {od9 an9 : Option Addr} {sl9 : Array (Option Value)} {f9 : Addr}
    (a9 : PySem.W.nsIn K mainGlobals "is_signs" = some (some (.ref f9))) (l9 : K.lookup f9 = some ⟨oc9, od9, .func (PySem.W.fnOf "is_signs" "is_signs" (defArgs s_is_signs) (defBody s_is_signs) (defScope s_is_signs) .none kV9 dc9 pm9 an9 cd9 ct9), sl9⟩) (c9 : PySem.W.codeIn K cd9 "is_signs" = true) (k9 : PySem.W.keepIn K (.ref f9) = true)
    {oc10 kV10 dc10 pm10 cd10 ct10 : Value} {od10 an10 : Option Addr} {sl10 : Array (Option Value)} {f10 : Addr}
    (a10 : PySem.W.nsIn K mainGlobals "law" = some (some (.ref f10))) (l10 : K.lookup f10 = some ⟨oc10, od10, .func (PySem.W.fnOf "law" "law" (defArgs s_law) (defBody s_law) (defScope s_law) .none kV10 dc10 pm10 an10 cd10 ct10), sl10⟩) (c10 : PySem.W.codeIn K cd10 "law" = true) (k10 : PySem.W.keepIn K (.ref f10) = true)
    (z_all : PySem.W.nsIn K mainGlobals "all" = some none)
    (z_bool : PySem.W.nsIn K mainGlobals "bool" = some none)
    (z_dict : PySem.W.nsIn K mainGlobals "dict" = some none)
    (z_enumerate : PySem.W.nsIn K mainGlobals "enumerate" = some none)
    (z_int : PySem.W.nsIn K mainGlobals "int" = some none)
    (z_isinstance : PySem.W.nsIn K mainGlobals "isinstance" = some none)
    (z_len : PySem.W.nsIn K mainGlobals "len" = some none)
    (z_list : PySem.W.nsIn K mainGlobals "list" = some none)
    (z_ord : PySem.W.nsIn K mainGlobals "ord" = some none)
    (z_range : PySem.W.nsIn K mainGlobals "range" = some none)
    (z_str : PySem.W.nsIn K mainGlobals "str" = some none)
    (z_sum : PySem.W.nsIn K mainGlobals "sum" = some none)
    (z_tuple : PySem.W.nsIn K mainGlobals "tuple" = some none)
    (z_zip : PySem.W.nsIn K mainGlobals "zip" = some none) :
    ∃ fd : FuncData, (∀ (s : Shared) (v : Value), BindsTo s fd ⟨[v], []⟩ [("script", v)]) ∧ ∀ base : Heap, K.In base → base.Ns mainGlobals mg → FnOk l.prog w K mg base (L2.CX l.prog w) 4 fa fd ["script"] (spLawD K) := by
  have e := hfa.symm.trans (PySem.W.mg_of X G a10)
  cases e
  have T : Top K mg := {
    d__law_below := ⟨f0, _, fun_mk (st := s__law_below) l0 c0 k0, PySem.W.mg_of X G a0, (fun_mk (st := s__law_below) l0 c0 k0).binds (ps := ["stream", "many"]) fun _ _ _ _ _ _ us hl => match us, hl with | [_, _], _ => rfl⟩
    d__law_bpool := ⟨f1, _, fun_mk (st := s__law_bpool) l1 c1 k1, PySem.W.mg_of X G a1, (fun_mk (st := s__law_bpool) l1 c1 k1).binds (ps := []) fun _ _ _ _ _ _ us hl => match us, hl with | [], _ => rfl⟩
    d__law_bsome := ⟨f2, _, fun_mk (st := s__law_bsome) l2 c2 k2, PySem.W.mg_of X G a2, (fun_mk (st := s__law_bsome) l2 c2 k2).binds (ps := ["stream", "some", "many"]) fun _ _ _ _ _ _ us hl => match us, hl with | [_, _, _], _ => rfl⟩
    d__law_good := ⟨f3, _, fun_mk (st := s__law_good) l3 c3 k3, PySem.W.mg_of X G a3, (fun_mk (st := s__law_good) l3 c3 k3).binds (ps := ["stream", "sizes"]) fun _ _ _ _ _ _ us hl => match us, hl with | [_, _], _ => rfl⟩
    d__law_pick := ⟨f4, _, fun_mk (st := s__law_pick) l4 c4 k4, PySem.W.mg_of X G a4, (fun_mk (st := s__law_pick) l4 c4 k4).binds (ps := ["stream", "some"]) fun _ _ _ _ _ _ us hl => match us, hl with | [_, _], _ => rfl⟩
    d__law_same := ⟨f5, _, fun_mk (st := s__law_same) l5 c5 k5, PySem.W.mg_of X G a5, (fun_mk (st := s__law_same) l5 c5 k5).binds (ps := ["found", "due"]) fun _ _ _ _ _ _ us hl => match us, hl with | [_, _], _ => rfl⟩
    d__law_start := ⟨f6, _, fun_mk (st := s__law_start) l6 c6 k6, PySem.W.mg_of X G a6, (fun_mk (st := s__law_start) l6 c6 k6).binds (ps := ["script"]) fun _ _ _ _ _ _ us hl => match us, hl with | [_], _ => rfl⟩
    d_is_sign := ⟨f7, _, fun_mk (st := s_is_sign) l7 c7 k7, PySem.W.mg_of X G a7, (fun_mk (st := s_is_sign) l7 c7 k7).binds (ps := ["thing"]) fun _ _ _ _ _ _ us hl => match us, hl with | [_], _ => rfl⟩
    d_is_lot := ⟨f8, _, fun_mk (st := s_is_lot) l8 c8 k8, PySem.W.mg_of X G a8, (fun_mk (st := s_is_lot) l8 c8 k8).binds (ps := ["thing", "most"]) fun _ _ _ _ _ _ us hl => match us, hl with | [_, _], _ => rfl⟩
    d_is_signs := ⟨f9, _, fun_mk (st := s_is_signs) l9 c9 k9, PySem.W.mg_of X G a9, (fun_mk (st := s_is_signs) l9 c9 k9).binds (ps := ["thing"]) fun _ _ _ _ _ _ us hl => match us, hl with | [_], _ => rfl⟩
    z_all := PySem.W.mg_none_of X G z_all
    z_bool := PySem.W.mg_none_of X G z_bool
    z_dict := PySem.W.mg_none_of X G z_dict
    z_enumerate := PySem.W.mg_none_of X G z_enumerate
    z_int := PySem.W.mg_none_of X G z_int
    z_isinstance := PySem.W.mg_none_of X G z_isinstance
    z_len := PySem.W.mg_none_of X G z_len
    z_list := PySem.W.mg_none_of X G z_list
    z_ord := PySem.W.mg_none_of X G z_ord
    z_range := PySem.W.mg_none_of X G z_range
    z_str := PySem.W.mg_none_of X G z_str
    z_sum := PySem.W.mg_none_of X G z_sum
    z_tuple := PySem.W.mg_none_of X G z_tuple
    z_zip := PySem.W.mg_none_of X G z_zip }
  exact ⟨_, fun s v => .of_eq rfl, fun base _ _ => ok_law T (fun_mk (st := s_law) l10 c10 k10) math⟩
end K01
open PySem PySem.W PyProof.Rows
set_option maxHeartbeats 0 in
theorem PySem.Challenge.cw_foldedsums_k01_signs_told_from_others_holds : PySem.Challenge.rw_foldedsums_k01_signs_told_from_others.Holds := by
  w_on; o_law; k_head; (case hw => w_witness2)
  k_fill
  refine L2.walk_of (l := PySem.Challenge.rw_foldedsums_k01_signs_told_from_others) (n := 63) (k := 4) (x := "script") (CX := fun w => L2.CX PySem.Challenge.rw_foldedsums_k01_signs_told_from_others.prog w) (sp := fun w => DL.spLawD _) rfl (by decide) rfl ⟨rfl, by decide, by decide⟩ (fun w h Y => PySem.W.kIn_of Y) ?F (fun _ _ a ns hl _ hS => ⟨a, ns, rfl, hS, hl, fun _ => rfl⟩) (fun _ _ _ _ _ h => by obtain ⟨_, _, _, _, _, _, _, _, _, _, _, _, z⟩ := h; exact z)
  case F =>
    intro w mg fa h KX G hmg
    refine' K01.all_mk KX G hmg ?a0 ?l0 ?c0 ?k0 ?a1 ?l1 ?c1 ?k1 ?a2 ?l2 ?c2 ?k2 ?a3 ?l3 ?c3 ?k3 ?a4 ?l4 ?c4 ?k4 ?a5 ?l5 ?c5 ?k5 ?a6 ?l6 ?c6 ?k6 ?a7 ?l7 ?c7 ?k7 ?a8 ?l8 ?c8 ?k8 ?a9 ?l9 ?c9 ?k9 ?a10 ?l10 ?c10 ?k10 ?z_all ?z_bool ?z_dict ?z_enumerate ?z_int ?z_isinstance ?z_len ?z_list ?z_ord ?z_range ?z_str ?z_sum ?z_tuple ?z_zip
    (case a0 => k_is); (case l0 => k_is); (case c0 => k_is); (case k0 => k_is); (case a1 => k_is); (case l1 => k_is); (case c1 => k_is); (case k1 => k_is); (case a2 => k_is); (case l2 => k_is); (case c2 => k_is); (case k2 => k_is); (case a3 => k_is); (case l3 => k_is); (case c3 => k_is); (case k3 => k_is); (case a4 => k_is); (case l4 => k_is); (case c4 => k_is); (case k4 => k_is); (case a5 => k_is); (case l5 => k_is); (case c5 => k_is); (case k5 => k_is); (case a6 => k_is); (case l6 => k_is); (case c6 => k_is); (case k6 => k_is); (case a7 => k_is); (case l7 => k_is); (case c7 => k_is); (case k7 => k_is); (case a8 => k_is); (case l8 => k_is); (case c8 => k_is); (case k8 => k_is); (case a9 => k_is); (case l9 => k_is); (case c9 => k_is); (case k9 => k_is); (case a10 => k_is); (case l10 => k_is); (case c10 => k_is); (case k10 => k_is); (case z_all => k_is); (case z_bool => k_is); (case z_dict => k_is); (case z_enumerate => k_is); (case z_int => k_is); (case z_isinstance => k_is); (case z_len => k_is); (case z_list => k_is); (case z_ord => k_is); (case z_range => k_is); (case z_str => k_is); (case z_sum => k_is); (case z_tuple => k_is); (case z_zip => k_is)

