import PyProof.Rows.All
import Wide.All
import OpenK.AllK
import Wide.FinOn
import HandS.ForMost
import HandS.ForExc
import HandS.Wide
import HandS.Walk
import HandS.Conv
import HandS.Star
import HandS.IsInst
import HandS.TupAny
import HandS.TupMul
import HandS.Zip
import HandS.Defaults
import HandS.Style
import HandS.ExcSuper
import KE.DataEq
import KE.GoesNew
import HandS.SetFor
import HandS.HeadHook4
import HandS.HeadEnd
import KE.KStateDown
import Lean
import HandS.Head0
import HandS.Head1
import HandS.Head2
import PySem.Challenge.RW_themomentitturned_k47_whole_sums_within
set_option Elab.async false
set_option linter.all false
set_option maxRecDepth 100000
set_option maxHeartbeats 4000000
/-! The data layer, part 1: plain data, what of the heap bears it, the state of a def's body. -/
namespace DL
open PySem PySem.Spec PyProof.Rows L2

/-- plain data -/
inductive D where
  | non | bl (b : Bool) | int (i : Int) | str (x : Str) | tup (ds : List D) | lst (ds : List D)

/-- what a slot holds: nothing known, a value, a list that this body alone changes, the one list that callers and callees change -/
inductive B where
  | un | val (d : D) | own (ds : List D) | pot

def KTup (K : PySem.W.Frag) (a : Addr) (xs : List V) : Prop :=
  ∃ (o : Obj) (its : Array Value) (n : Nat), K.lookup a = some o ∧ o.cls = .type "tuple" ∧ o.data = .seq its n ∧ its.size ≤ sizeLine ∧ Vals xs its.toList
def KLst (K : PySem.W.Frag) (a : Addr) (xs : List V) : Prop :=
  ∃ (o : Obj) (its : Array Value) (n : Nat), K.lookup a = some o ∧ o.cls = .type "list" ∧ o.dict = none ∧ o.data = .seq its n ∧ its.size ≤ sizeLine ∧ Vals xs its.toList
def TupAt (K : PySem.W.Frag) (M : List Addr) (H : Hp) (a : Addr) (xs : List V) : Prop := (a ∉ M ∧ Rd H a (.tup xs)) ∨ KTup K a xs
def LstAt (K : PySem.W.Frag) (M : List Addr) (H : Hp) (a : Addr) (xs : List V) : Prop := (a ∉ M ∧ Rd H a (.lst xs)) ∨ KLst K a xs
theorem TupAt.sq {K : PySem.W.Frag} {M : List Addr} {H : Hp} {a : Addr} {xs : List V} (h : TupAt K M H a xs) : SqT K H a xs := by
  rcases h with ⟨_, h⟩ | h
  · exact .inl h
  · exact .inr h
theorem LstAt.sq {K : PySem.W.Frag} {M : List Addr} {H : Hp} {a : Addr} {xs : List V} (h : LstAt K M H a xs) : SqL K H a xs := by
  rcases h with ⟨_, h⟩ | h
  · exact .inl h
  · exact .inr h

mutual
/-- the value v bears d: all that it reaches stands in the heap, apart from the addresses in M -/
def Rep (K : PySem.W.Frag) (M : List Addr) (H : Hp) : D → V → Prop
  | .non, v => v = .non
  | .bl b, v => v = .bl b
  | .int i, v => v = .int i
  | .str x, v => v = .str x
  | .tup ds, v => ∃ a xs, v = .ref a ∧ TupAt K M H a xs ∧ RepL K M H ds xs
  | .lst ds, v => ∃ a xs, v = .ref a ∧ LstAt K M H a xs ∧ RepL K M H ds xs
def RepL (K : PySem.W.Frag) (M : List Addr) (H : Hp) : List D → List V → Prop
  | [], xs => xs = []
  | d :: ds, xs => ∃ x r, xs = x :: r ∧ Rep K M H d x ∧ RepL K M H ds r
end

/-- all but what stands at P is kept -/
def Keep (P : List Addr) (H H' : Hp) : Prop := ∀ b o, b ∉ P → H b = some o → H' b = some o
theorem Keep.refl (P : List Addr) (H : Hp) : Keep P H H := fun _ _ _ h => h
theorem Keep.trans {P : List Addr} {H H1 H2 : Hp} (a : Keep P H H1) (b : Keep P H1 H2) : Keep P H H2 := fun c o n h => b c o n (a c o n h)
theorem Keep.same {P : List Addr} {H H' : Hp} (s : Same H H') : Keep P H H' := fun c o _ h => s c o h
theorem Keep.mono {P P' : List Addr} {H H' : Hp} (k : Keep P H H') (h : ∀ a ∈ P, a ∈ P') : Keep P' H H' := fun c o n e => k c o (fun z => n (h c z)) e
theorem Keep.free {P : List Addr} {H H' : Hp} (k : Keep P H H') {a : Addr} (n : a ∉ P) (h : H' a = none) : H a = none := by
  cases q : H a with
  | none => rfl
  | some o => rw [k a o n q] at h; cases h
theorem same_upd {H : Hp} {p : Addr} {o : HO} (h : H p = none) : Same H (upd H p o) := fun b x e => by
  rw [upd_ne (ne_of_none e h)]
  exact e
theorem keep_upd {P : List Addr} {H : Hp} {p : Addr} {o : HO} (h : p ∈ P) : Keep P H (upd H p o) := fun b x n e => by
  rw [upd_ne fun z => n (by rw [z]; exact h)]
  exact e

section
variable {K : PySem.W.Frag} {M M' P : List Addr} {H H' : Hp} {a : Addr} {xs : List V}
theorem Rd.keep {u : HO} (k : Keep P H H') (n : a ∉ P) (h : Rd H a u) : Rd H' a u := by
  rcases h with h | ⟨o, h⟩
  · exact .inl (k _ _ n h)
  · exact .inr ⟨o, k _ _ n h⟩
theorem Rd.some {u : HO} (h : Rd H a u) : H a ≠ none := by
  rcases h with h | ⟨o, h⟩ <;> (rw [h]; exact fun z => nomatch z)
theorem TupAt.keep (k : Keep P H H') (s : ∀ b ∈ P, b ∈ M) (h : TupAt K M H a xs) : TupAt K M H' a xs := by
  rcases h with ⟨n, h⟩ | h
  · exact .inl ⟨n, Rd.keep k (fun z => n (s _ z)) h⟩
  · exact .inr h
theorem LstAt.keep (k : Keep P H H') (s : ∀ b ∈ P, b ∈ M) (h : LstAt K M H a xs) : LstAt K M H' a xs := by
  rcases h with ⟨n, h⟩ | h
  · exact .inl ⟨n, Rd.keep k (fun z => n (s _ z)) h⟩
  · exact .inr h
theorem TupAt.grow (g : ∀ m ∈ M', m ∈ M ∨ H m = none) (h : TupAt K M H a xs) : TupAt K M' H a xs := by
  rcases h with ⟨n, h⟩ | h
  · exact .inl ⟨fun z => (g _ z).elim n (Rd.some h), h⟩
  · exact .inr h
theorem LstAt.grow (g : ∀ m ∈ M', m ∈ M ∨ H m = none) (h : LstAt K M H a xs) : LstAt K M' H a xs := by
  rcases h with ⟨n, h⟩ | h
  · exact .inl ⟨fun z => (g _ z).elim n (Rd.some h), h⟩
  · exact .inr h
end

section
variable {K : PySem.W.Frag} {M M' P : List Addr} {H H' : Hp}
mutual
theorem Rep.keep (k : Keep P H H') (s : ∀ b ∈ P, b ∈ M) : ∀ (d : D) (v : V), Rep K M H d v → Rep K M H' d v
  | .non, v, h => by simp only [Rep] at h ⊢; exact h
  | .bl b, v, h => by simp only [Rep] at h ⊢; exact h
  | .int b, v, h => by simp only [Rep] at h ⊢; exact h
  | .str b, v, h => by simp only [Rep] at h ⊢; exact h
  | .tup ds, v, h => by
    simp only [Rep] at h ⊢
    obtain ⟨a, xs, e, h1, h2⟩ := h
    exact ⟨a, xs, e, h1.keep k s, RepL.keep k s ds xs h2⟩
  | .lst ds, v, h => by
    simp only [Rep] at h ⊢
    obtain ⟨a, xs, e, h1, h2⟩ := h
    exact ⟨a, xs, e, h1.keep k s, RepL.keep k s ds xs h2⟩
theorem RepL.keep (k : Keep P H H') (s : ∀ b ∈ P, b ∈ M) : ∀ (ds : List D) (xs : List V), RepL K M H ds xs → RepL K M H' ds xs
  | [], xs, h => by simp only [RepL] at h ⊢; exact h
  | d :: ds, xs, h => by
    simp only [RepL] at h ⊢
    obtain ⟨x, r, e, h1, h2⟩ := h
    exact ⟨x, r, e, Rep.keep k s d x h1, RepL.keep k s ds r h2⟩
end
mutual
theorem Rep.grow (g : ∀ m ∈ M', m ∈ M ∨ H m = none) : ∀ (d : D) (v : V), Rep K M H d v → Rep K M' H d v
  | .non, v, h => by simp only [Rep] at h ⊢; exact h
  | .bl b, v, h => by simp only [Rep] at h ⊢; exact h
  | .int b, v, h => by simp only [Rep] at h ⊢; exact h
  | .str b, v, h => by simp only [Rep] at h ⊢; exact h
  | .tup ds, v, h => by
    simp only [Rep] at h ⊢
    obtain ⟨a, xs, e, h1, h2⟩ := h
    exact ⟨a, xs, e, h1.grow g, RepL.grow g ds xs h2⟩
  | .lst ds, v, h => by
    simp only [Rep] at h ⊢
    obtain ⟨a, xs, e, h1, h2⟩ := h
    exact ⟨a, xs, e, h1.grow g, RepL.grow g ds xs h2⟩
theorem RepL.grow (g : ∀ m ∈ M', m ∈ M ∨ H m = none) : ∀ (ds : List D) (xs : List V), RepL K M H ds xs → RepL K M' H ds xs
  | [], xs, h => by simp only [RepL] at h ⊢; exact h
  | d :: ds, xs, h => by
    simp only [RepL] at h ⊢
    obtain ⟨x, r, e, h1, h2⟩ := h
    exact ⟨x, r, e, Rep.grow g d x h1, RepL.grow g ds r h2⟩
end
theorem Rep.same {d : D} {v : V} (s : Same H H') (h : Rep K M H d v) : Rep K M H' d v := Rep.keep (P := []) (Keep.same s) (fun _ z => nomatch z) d v h
theorem RepL.same {ds : List D} {xs : List V} (s : Same H H') (h : RepL K M H ds xs) : RepL K M H' ds xs := RepL.keep (P := []) (Keep.same s) (fun _ z => nomatch z) ds xs h
theorem Rep.sub {d : D} {v : V} (g : ∀ m ∈ M', m ∈ M) (h : Rep K M H d v) : Rep K M' H d v := Rep.grow (fun m z => .inl (g m z)) d v h
theorem RepL.sub {ds : List D} {xs : List V} (g : ∀ m ∈ M', m ∈ M) (h : RepL K M H ds xs) : RepL K M' H ds xs := RepL.grow (fun m z => .inl (g m z)) ds xs h

theorem repL_nil : RepL K M H [] [] := by simp only [RepL]
theorem repL_cons {d : D} {x : V} {ds : List D} {r : List V} (h1 : Rep K M H d x) (h2 : RepL K M H ds r) : RepL K M H (d :: ds) (x :: r) := by
  simp only [RepL]
  exact ⟨x, r, rfl, h1, h2⟩
theorem RepL.inv_nil {xs : List V} (h : RepL K M H [] xs) : xs = [] := by simp only [RepL] at h; exact h
theorem RepL.inv_cons {d : D} {ds : List D} {xs : List V} (h : RepL K M H (d :: ds) xs) : ∃ x r, xs = x :: r ∧ Rep K M H d x ∧ RepL K M H ds r := by simp only [RepL] at h; exact h
theorem RepL.length : ∀ {ds : List D} {xs : List V}, RepL K M H ds xs → xs.length = ds.length
  | [], xs, h => by rw [h.inv_nil]; rfl
  | d :: ds, xs, h => by
    obtain ⟨x, r, rfl, _, h2⟩ := h.inv_cons
    rw [List.length_cons, List.length_cons, RepL.length h2]
theorem RepL.append : ∀ {ds es : List D} {xs ys : List V}, RepL K M H ds xs → RepL K M H es ys → RepL K M H (ds ++ es) (xs ++ ys)
  | [], es, xs, ys, h, h2 => by rw [h.inv_nil]; exact h2
  | d :: ds, es, xs, ys, h, h2 => by
    obtain ⟨x, r, rfl, h3, h4⟩ := h.inv_cons
    exact repL_cons h3 (RepL.append h4 h2)
theorem RepL.at : ∀ {ds : List D} {xs : List V} {i : Nat} {d : D}, RepL K M H ds xs → ds[i]? = some d → ∃ x, xs[i]? = some x ∧ Rep K M H d x
  | [], _, _, _, _, e => by simp at e
  | d :: ds, xs, 0, d', h, e => by
    obtain ⟨x, r, rfl, h3, h4⟩ := h.inv_cons
    have e1 : d = d' := by simpa using e
    exact ⟨x, rfl, e1 ▸ h3⟩
  | d :: ds, xs, i + 1, d', h, e => by
    obtain ⟨x, r, rfl, h3, h4⟩ := h.inv_cons
    obtain ⟨y, h5, h6⟩ := RepL.at (i := i) (d := d') h4 (by simpa using e)
    exact ⟨y, by simpa using h5, h6⟩
theorem RepL.at_some : ∀ {ds : List D} {xs : List V} {i : Nat} {x : V}, RepL K M H ds xs → xs[i]? = some x → ∃ d, ds[i]? = some d ∧ Rep K M H d x
  | [], _, _, _, h, e => by rw [h.inv_nil] at e; simp at e
  | d :: ds, xs, 0, x', h, e => by
    obtain ⟨x, r, rfl, h3, h4⟩ := h.inv_cons
    have e1 : x = x' := by simpa using e
    exact ⟨d, rfl, e1 ▸ h3⟩
  | d :: ds, xs, i + 1, x', h, e => by
    obtain ⟨x, r, rfl, h3, h4⟩ := h.inv_cons
    obtain ⟨y, h5, h6⟩ := RepL.at_some (i := i) (x := x') h4 (by simpa using e)
    exact ⟨y, by simpa using h5, h6⟩
theorem RepL.set : ∀ {ds : List D} {xs : List V} {d : D} {x : V} (i : Nat), RepL K M H ds xs → Rep K M H d x → RepL K M H (ds.set i d) (xs.set i x)
  | [], xs, d, x, i, h, _ => by rw [h.inv_nil]; exact repL_nil
  | e :: ds, xs, d, x, 0, h, h1 => by
    obtain ⟨y, r, rfl, h3, h4⟩ := h.inv_cons
    exact repL_cons h1 h4
  | e :: ds, xs, d, x, i + 1, h, h1 => by
    obtain ⟨y, r, rfl, h3, h4⟩ := h.inv_cons
    exact repL_cons h3 (RepL.set i h4 h1)
theorem RepL.take : ∀ {ds : List D} {xs : List V} (i : Nat), RepL K M H ds xs → RepL K M H (ds.take i) (xs.take i)
  | _, _, 0, _ => repL_nil
  | [], xs, i + 1, h => by rw [h.inv_nil]; exact repL_nil
  | d :: ds, xs, i + 1, h => by
    obtain ⟨y, r, rfl, h3, h4⟩ := h.inv_cons
    exact repL_cons h3 (RepL.take i h4)
theorem RepL.drop : ∀ {ds : List D} {xs : List V} (i : Nat), RepL K M H ds xs → RepL K M H (ds.drop i) (xs.drop i)
  | _, _, 0, h => h
  | [], xs, i + 1, h => by rw [h.inv_nil]; exact repL_nil
  | d :: ds, xs, i + 1, h => by
    obtain ⟨y, r, rfl, h3, h4⟩ := h.inv_cons
    exact RepL.drop i h4
theorem RepL.eraseIdx : ∀ {ds : List D} {xs : List V} (i : Nat), RepL K M H ds xs → RepL K M H (ds.eraseIdx i) (xs.eraseIdx i)
  | [], xs, i, h => by rw [h.inv_nil]; exact repL_nil
  | d :: ds, xs, 0, h => by
    obtain ⟨y, r, rfl, h3, h4⟩ := h.inv_cons
    exact h4
  | d :: ds, xs, i + 1, h => by
    obtain ⟨y, r, rfl, h3, h4⟩ := h.inv_cons
    exact repL_cons h3 (RepL.eraseIdx i h4)
theorem RepL.reverse : ∀ {ds : List D} {xs : List V}, RepL K M H ds xs → RepL K M H ds.reverse xs.reverse
  | [], xs, h => by rw [h.inv_nil]; exact repL_nil
  | d :: ds, xs, h => by
    obtain ⟨y, r, rfl, h3, h4⟩ := h.inv_cons
    rw [List.reverse_cons, List.reverse_cons]
    exact RepL.append (RepL.reverse h4) (repL_cons h3 repL_nil)
theorem RepL.replicate {ds : List D} {xs : List V} (h : RepL K M H ds xs) : ∀ n, RepL K M H (List.replicate n ds).flatten (List.replicate n xs).flatten
  | 0 => repL_nil
  | n + 1 => by
    rw [List.replicate_succ, List.replicate_succ, List.flatten_cons, List.flatten_cons]
    exact RepL.append h (RepL.replicate h n)
theorem repL_ints (ns : List Int) : RepL K M H (ns.map D.int) (ns.map V.int) := by
  induction ns with
  | nil => exact repL_nil
  | cons n r ih => exact repL_cons (by simp only [Rep]) ih
theorem repL_map_ints {f : Nat → Int} (r : List Nat) : RepL K M H (r.map fun i => D.int (f i)) (r.map fun i => V.int (f i)) := by
  induction r with
  | nil => exact repL_nil
  | cons n r ih => exact repL_cons (by simp only [Rep]) ih
theorem rep_tup_new {a : Addr} {xs : List V} {ds : List D} (n : H a = none) (hM : ∀ m ∈ M, H m ≠ none) (h : RepL K M H ds xs) : Rep K M (upd H a (.tup xs)) (.tup ds) (.ref a) := by
  simp only [Rep]
  exact ⟨a, xs, rfl, .inl ⟨fun z => hM a z n, .inl upd_same⟩, h.same (same_upd n)⟩
theorem rep_lst_new {a : Addr} {xs : List V} {ds : List D} (n : H a = none) (hM : ∀ m ∈ M, H m ≠ none) (h : RepL K M H ds xs) : Rep K M (upd H a (.lst xs)) (.lst ds) (.ref a) := by
  simp only [Rep]
  exact ⟨a, xs, rfl, .inl ⟨fun z => hM a z n, .inl upd_same⟩, h.same (same_upd n)⟩
theorem Rep.inv_tup {ds : List D} {v : V} (h : Rep K M H (.tup ds) v) : ∃ a xs, v = .ref a ∧ TupAt K M H a xs ∧ RepL K M H ds xs := by simp only [Rep] at h; exact h
theorem Rep.inv_lst {ds : List D} {v : V} (h : Rep K M H (.lst ds) v) : ∃ a xs, v = .ref a ∧ LstAt K M H a xs ∧ RepL K M H ds xs := by simp only [Rep] at h; exact h
theorem Rep.inv_int {i : Int} {v : V} (h : Rep K M H (.int i) v) : v = .int i := by simp only [Rep] at h; exact h
theorem Rep.inv_bl {i : Bool} {v : V} (h : Rep K M H (.bl i) v) : v = .bl i := by simp only [Rep] at h; exact h
theorem Rep.inv_str {i : Str} {v : V} (h : Rep K M H (.str i) v) : v = .str i := by simp only [Rep] at h; exact h
theorem Rep.inv_non {v : V} (h : Rep K M H .non v) : v = .non := by simp only [Rep] at h; exact h
theorem rep_int {i : Int} : Rep K M H (.int i) (.int i) := by simp only [Rep]
theorem rep_bl {i : Bool} : Rep K M H (.bl i) (.bl i) := by simp only [Rep]
theorem rep_str {i : Str} : Rep K M H (.str i) (.str i) := by simp only [Rep]
theorem rep_non : Rep K M H .non .non := by simp only [Rep]
end

/-! ### the state of a def's body -/
abbrev Env := List B
abbrev Pot := Option (List D)
def own (ws : List (Option Addr)) : List Addr := ws.filterMap id
def mset (p : Option Addr) (ws : List (Option Addr)) (F : List Addr) : List Addr := p.toList ++ (own ws ++ F)
def SlotOk (K : PySem.W.Frag) (M : List Addr) (H : Hp) (p : Option Addr) : B → Option V → Option Addr → Prop
  | .un, _, w => w = none
  | .val d, s, w => w = none ∧ ∃ v, s = some v ∧ Rep K M H d v
  | .own ds, s, w => ∃ a xs, w = some a ∧ s = some (.ref a) ∧ H a = some (.lst xs) ∧ RepL K M H ds xs
  | .pot, s, w => w = none ∧ ∃ a, p = some a ∧ s = some (.ref a)
def SlotsOk (K : PySem.W.Frag) (M : List Addr) (H : Hp) (p : Option Addr) : Env → L2.St → List (Option Addr) → Prop
  | [], σ, ws => σ = [] ∧ ws = []
  | b :: bs, σ, ws => ∃ s ss w wr, σ = s :: ss ∧ ws = w :: wr ∧ SlotOk K M H p b s w ∧ SlotsOk K M H p bs ss wr
def PotOk (K : PySem.W.Frag) (M : List Addr) (H : Hp) : Option Addr → Pot → Prop
  | none, none => True
  | some a, some ds => ∃ xs, H a = some (.lst xs) ∧ RepL K M H ds xs
  | _, _ => False
structure SR (K : PySem.W.Frag) (F : List Addr) (p : Option Addr) (ws : List (Option Addr)) (H : Hp) (σ : L2.St) (env : Env) (pot : Pot) : Prop where
  slots : SlotsOk K (mset p ws F) H p env σ ws
  pot : PotOk K (mset p ws F) H p pot
  nd : (p.toList ++ own ws).Nodup
  frg : ∀ m ∈ F, H m ≠ none
  dis : ∀ m ∈ own ws, m ∉ F

section
variable {K : PySem.W.Frag} {M M' P F : List Addr} {H H' : Hp} {p : Option Addr}
theorem own_cons_none {ws : List (Option Addr)} : own (none :: ws) = own ws := rfl
theorem own_cons_some {a : Addr} {ws : List (Option Addr)} : own (some a :: ws) = a :: own ws := rfl
theorem SlotsOk.length : ∀ {env : Env} {σ : L2.St} {ws : List (Option Addr)}, SlotsOk K M H p env σ ws → σ.length = env.length ∧ ws.length = env.length
  | [], σ, ws, h => by obtain ⟨rfl, rfl⟩ := h; exact ⟨rfl, rfl⟩
  | b :: bs, σ, ws, h => by
    obtain ⟨s, ss, w, wr, rfl, rfl, _, h2⟩ := h
    have := SlotsOk.length h2
    exact ⟨by simp [this.1], by simp [this.2]⟩
theorem SlotsOk.at : ∀ {env : Env} {σ : L2.St} {ws : List (Option Addr)} {i : Nat} {b : B}, SlotsOk K M H p env σ ws → env[i]? = some b → ∃ s w, σ[i]? = some s ∧ ws[i]? = some w ∧ SlotOk K M H p b s w
  | [], σ, ws, i, b, _, e => by simp at e
  | b :: bs, σ, ws, 0, b', h, e => by
    obtain ⟨s, ss, w, wr, rfl, rfl, h1, h2⟩ := h
    have e1 : b = b' := by simpa using e
    exact ⟨s, w, rfl, rfl, e1 ▸ h1⟩
  | b :: bs, σ, ws, i + 1, b', h, e => by
    obtain ⟨s, ss, w, wr, rfl, rfl, h1, h2⟩ := h
    obtain ⟨s', w', e1, e2, h3⟩ := SlotsOk.at (i := i) (b := b') h2 (by simpa using e)
    exact ⟨s', w', by simpa using e1, by simpa using e2, h3⟩
theorem SlotsOk.imp {p' : Option Addr} (f : ∀ b s w, SlotOk K M H p b s w → SlotOk K M' H' p' b s w) : ∀ {env : Env} {σ : L2.St} {ws : List (Option Addr)}, SlotsOk K M H p env σ ws → SlotsOk K M' H' p' env σ ws
  | [], σ, ws, h => h
  | b :: bs, σ, ws, h => by
    obtain ⟨s, ss, w, wr, e1, e2, h1, h2⟩ := h
    exact ⟨s, ss, w, wr, e1, e2, f b s w h1, SlotsOk.imp f h2⟩
theorem SlotsOk.set {b : B} {s : Option V} {w : Option Addr} (h1 : SlotOk K M H p b s w) : ∀ {env : Env} {σ : L2.St} {ws : List (Option Addr)} (i : Nat), SlotsOk K M H p env σ ws → SlotsOk K M H p (env.set i b) (σ.set i s) (ws.set i w)
  | [], σ, ws, i, h => by obtain ⟨rfl, rfl⟩ := h; exact ⟨rfl, rfl⟩
  | c :: bs, σ, ws, 0, h => by
    obtain ⟨s', ss, w', wr, rfl, rfl, _, h2⟩ := h
    exact ⟨s, ss, w, wr, rfl, rfl, h1, h2⟩
  | c :: bs, σ, ws, i + 1, h => by
    obtain ⟨s', ss, w', wr, rfl, rfl, h3, h2⟩ := h
    exact ⟨s', ss.set i s, w', wr.set i w, rfl, rfl, h3, SlotsOk.set h1 i h2⟩
/-- the mutable things are tracked -/
theorem SlotsOk.trk : ∀ {env : Env} {σ : L2.St} {ws : List (Option Addr)}, SlotsOk K M H p env σ ws → ∀ a ∈ own ws, ∃ xs, H a = some (.lst xs)
  | [], σ, ws, h, a, ha => by obtain ⟨rfl, rfl⟩ := h; cases ha
  | b :: bs, σ, ws, h, a, ha => by
    obtain ⟨s, ss, w, wr, rfl, rfl, h1, h2⟩ := h
    have key : ∀ w' : Option Addr, w = w' → a ∈ own (w :: wr) → (∃ b', w' = some b' ∧ a = b') ∨ a ∈ own wr := fun w' e hm => by
      subst e
      cases w with
      | none => exact .inr hm
      | some c =>
        rw [own_cons_some] at hm
        rcases List.mem_cons.mp hm with z | z
        · exact .inl ⟨c, rfl, z⟩
        · exact .inr z
    rcases key w rfl ha with ⟨c, e, rfl⟩ | z
    · subst e
      cases b with
      | un => cases h1
      | val d => cases h1.1
      | pot => cases h1.1
      | own ds =>
        obtain ⟨a', xs, e1, e2, e3, _⟩ := h1
        cases e1
        exact ⟨xs, e3⟩
    · exact SlotsOk.trk h2 a z
theorem PotOk.trk {pot : Pot} {a : Addr} (h : PotOk K M H (some a) pot) : ∃ xs, H a = some (.lst xs) := by
  cases pot with
  | none => cases h
  | some ds =>
    obtain ⟨xs, h1, _⟩ := h
    exact ⟨xs, h1⟩
end
section
variable {K : PySem.W.Frag} {F : List Addr} {H H' : Hp} {p : Option Addr} {ws : List (Option Addr)} {σ : L2.St} {env : Env} {pot : Pot}
theorem SR.trk (S : SR K F p ws H σ env pot) : ∀ m ∈ mset p ws F, H m ≠ none := fun m hm => by
  unfold mset at hm
  rcases List.mem_append.mp hm with h | h
  · cases p with
    | none => cases h
    | some a =>
      have e : m = a := by simpa using h
      subst e
      obtain ⟨xs, q⟩ := S.pot.trk
      rw [q]
      exact fun z => nomatch z
  · rcases List.mem_append.mp h with h | h
    · obtain ⟨xs, q⟩ := S.slots.trk m h
      rw [q]
      exact fun z => nomatch z
    · exact S.frg m h
theorem SR.fresh (S : SR K F p ws H σ env pot) {a : Addr} (h : H a = none) : a ∉ mset p ws F := fun z => S.trk a z h
/-- all that is tracked is kept -/
theorem SR.same (S : SR K F p ws H σ env pot) (s : Same H H') : SR K F p ws H' σ env pot where
  slots := S.slots.imp fun b sv w h => by
    cases b with
    | un => exact h
    | val d => exact ⟨h.1, let ⟨v, e, r⟩ := h.2; ⟨v, e, r.same s⟩⟩
    | own ds => exact let ⟨a, xs, e1, e2, e3, r⟩ := h; ⟨a, xs, e1, e2, s _ _ e3, r.same s⟩
    | pot => exact h
  pot := by
    have q := S.pot
    cases p with
    | none => cases pot with
      | none => trivial
      | some ds => exact q
    | some a => cases pot with
      | none => exact q
      | some ds => exact let ⟨xs, e, r⟩ := q; ⟨xs, s _ _ e, r.same s⟩
  nd := S.nd
  dis := S.dis
  frg := fun m hm z => by
    cases q : H m with
    | none => exact S.frg m hm q
    | some o => rw [s m o q] at z; cases z
theorem mem_p {a : Addr} (h : p = some a) : a ∈ mset p ws F := by
  subst h
  unfold mset
  simp
theorem sub_p : ∀ b ∈ p.toList, b ∈ mset p ws F := fun b h => List.mem_append_left _ h
/-- behind a call: the pot has changed, all else is kept -/
theorem SR.call {pot' : Pot} (S : SR K F p ws H σ env pot) (k : Keep p.toList H H') (q : PotOk K (mset p ws F) H' p pot') : SR K F p ws H' σ env pot' where
  slots := by
    have nd := S.nd
    have key : ∀ a ∈ own ws, a ∉ p.toList := fun a ha hb => (List.nodup_append.mp nd).2.2 a hb a ha rfl
    have go : ∀ {env : Env} {σ : L2.St} {us : List (Option Addr)}, (∀ a ∈ own us, a ∉ p.toList) → SlotsOk K (mset p ws F) H p env σ us → SlotsOk K (mset p ws F) H' p env σ us := by
      intro env
      induction env with
      | nil => intro σ us _ h; exact h
      | cons b bs ih =>
        intro σ us hk h
        obtain ⟨s, ss, w, wr, e1, e2, h1, h2⟩ := h
        subst e2
        refine ⟨s, ss, w, wr, e1, rfl, ?_, ih (fun a ha => hk a (by
          cases w with
          | none => exact ha
          | some c => exact List.mem_cons_of_mem _ ha)) h2⟩
        cases b with
        | un => exact h1
        | val d => exact ⟨h1.1, let ⟨v, e, r⟩ := h1.2; ⟨v, e, Rep.keep k sub_p _ _ r⟩⟩
        | own ds =>
          obtain ⟨a, xs, e3, e4, e5, r⟩ := h1
          subst e3
          exact ⟨a, xs, rfl, e4, k _ _ (hk a List.mem_cons_self) e5, RepL.keep k sub_p _ _ r⟩
        | pot => exact h1
    exact go key S.slots
  pot := q
  nd := S.nd
  dis := S.dis
  frg := fun m hm z => by
    by_cases hp : m ∈ p.toList
    · cases p with
      | none => cases hp
      | some a =>
        have e : m = a := by simpa using hp
        subst e
        obtain ⟨xs, q'⟩ := q.trk
        rw [q'] at z; cases z
    · cases q' : H m with
      | none => exact S.frg m hm q'
      | some o => rw [k m o hp q'] at z; cases z
end
end DL
set_option Elab.async false
set_option linter.all false
set_option maxRecDepth 100000
set_option maxHeartbeats 4000000
/-! The data layer, part 2: denotations of expressions. -/
namespace DL
open PySem PySem.Spec PyProof.Rows L2

/-! ### denotations -/
abbrev MM (α : Type) := Env → Pot → Option (α × Pot)
abbrev ME := MM D
abbrev MT := MM Bool
abbrev MA := MM (List D)
def bnd {α β : Type} (m : MM α) (f : α → MM β) : MM β := fun env pot => match m env pot with
  | none => none
  | some (a, pot1) => f a env pot1
def lft {α : Type} (o : Option α) : MM α := fun _ pot => match o with
  | none => none
  | some a => some (a, pot)
theorem bnd_inv {α β : Type} {m : MM α} {f : α → MM β} {env : Env} {pot : Pot} {r : β × Pot} (h : bnd m f env pot = some r) : ∃ a pot1, m env pot = some (a, pot1) ∧ f a env pot1 = some r := by
  unfold bnd at h
  cases e : m env pot with
  | none => rw [e] at h; cases h
  | some q => rw [e] at h; exact ⟨q.1, q.2, rfl, h⟩
theorem lft_inv {α : Type} {o : Option α} {env : Env} {pot pot' : Pot} {a : α} (h : lft o env pot = some (a, pot')) : o = some a ∧ pot' = pot := by
  unfold lft at h
  cases o with
  | none => cases h
  | some b => cases h; exact ⟨rfl, rfl⟩

/-! ### readings by denotations -/
def tG (K : PySem.W.Frag) {α β : Type} (R : Option Addr → List Addr → Hp → α → β → Prop) (m : MM α) : L2.St → Hp → (β → Hp → Prop) → Prop := fun σ H Q =>
  ∃ F p ws env pot a pot', SR K F p ws H σ env pot ∧ m env pot = some (a, pot') ∧ ∀ b H', SR K F p ws H' σ env pot' → Keep p.toList H H' → R p (mset p ws F) H' a b → Q b H'
abbrev tD (K : PySem.W.Frag) (m : ME) : TE := tG K (fun _ M H d v => Rep K M H d v) m
abbrev tDT (K : PySem.W.Frag) (m : MT) : TT := tG K (fun _ _ _ a b => a = b) m
abbrev tDA (K : PySem.W.Frag) (m : MA) : TA := tG K (fun _ M H ds vs => RepL K M H ds vs) m
abbrev EE (X : Cx) (e : Expr) (m : ME) : Prop := PE X e (tD X.K m)
abbrev ET (X : Cx) (e : Expr) (m : MT) : Prop := PT X e (tDT X.K m)
abbrev EW (X : Cx) (e : Expr) (m : MT) : Prop := PW X e (tDT X.K m)
abbrev EA (X : Cx) (es : List Expr) (m : MA) : Prop := PA X es (tDA X.K m)

section
variable {X : Cx} {a b c e : Expr} {es : List Expr} {t t' : TE} {ma mb mc m : ME} {pos p : Pos} {x : Str}
theorem PE.imp (h : PE X e t) (i : ∀ σ H Q, t' σ H Q → t σ H Q) : PE X e t' := ⟨fun pins s σ H Q I hw => h.run pins s σ H Q I (i σ H Q hw)⟩
theorem PT.imp {t t' : TT} (h : PT X e t) (i : ∀ σ H Q, t' σ H Q → t σ H Q) : PT X e t' := ⟨fun pins s σ H Q I hw => h.run pins s σ H Q I (i σ H Q hw)⟩
theorem PW.imp {t t' : TT} (h : PW X e t) (i : ∀ σ H Q, t' σ H Q → t σ H Q) : PW X e t' := ⟨fun wh pins s σ H Q I hw => h.run wh pins s σ H Q I (i σ H Q hw)⟩
theorem PA.imp {t t' : TA} (h : PA X es t) (i : ∀ σ H Q, t' σ H Q → t σ H Q) : PA X es t' := ⟨fun pos pins s σ H Q I hw => h.run pos pins s σ H Q I (i σ H Q hw)⟩

/-! ### names, constants -/
def dV (i : Nat) : ME := fun env pot => match env[i]? with
  | some (.val d) => some (d, pot)
  | _ => none
theorem dV_inv {i : Nat} {env : Env} {pot pot' : Pot} {d : D} (h : dV i env pot = some (d, pot')) : env[i]? = some (.val d) ∧ pot' = pot := by
  unfold dV at h
  split at h
  · rename_i d' e; cases h; exact ⟨e, rfl⟩
  · cases h
theorem e_v (i : Nat) (hN : X.N[i]? = some x := by rfl) (hv : Vis X.env.scope x := by first | exact Or.inl rfl | exact Or.inr (Or.inl rfl) | exact Or.inr (Or.inr rfl)) (hd : (x == ("__debug__" : Str)) = false := by decide)
    (hcd : (x == ("__classdict__" : Str)) = false := by decide) : EE X (.Name x pos) (dV i) := PE.imp (pe_var hN hv hd hcd) fun σ H Q h => by
  obtain ⟨F, p, ws, env, pot, d, pot', S, e, q⟩ := h
  obtain ⟨e0, rfl⟩ := dV_inv e
  obtain ⟨s, w, h1, h2, h3, v, rfl, r⟩ := S.slots.at e0
  exact ⟨v, h1, q v H S (Keep.refl _ _) r⟩
def dC (d : D) : ME := fun _ pot => some (d, pot)
theorem e_const {v : V} {d : D} (h : PE X e (tC v)) (r : ∀ M H, Rep X.K M H d v) : EE X e (dC d) := PE.imp h fun σ H Q h => by
  obtain ⟨F, p, ws, env, pot, d', pot', S, e, q⟩ := h
  cases e
  exact q v H S (Keep.refl _ _) (r _ _)
theorem e_int {i j} : EE X (.Constant (.int i) j pos) (dC (.int i)) := e_const pe_int fun _ _ => rep_int
theorem e_bl {i j} : EE X (.Constant (.bool i) j pos) (dC (.bl i)) := e_const pe_bl fun _ _ => rep_bl
theorem e_non {j} : EE X (.Constant .none j pos) (dC .non) := e_const pe_non fun _ _ => rep_non
theorem e_str {i j} : EE X (.Constant (.str i) j pos) (dC (.str i)) := e_const pe_str fun _ _ => rep_str
/-- a constant of the module -/
def GlD (K : PySem.W.Frag) (mg : Str → Option Value) (x : Str) (d : D) : Prop := ∃ v u, mg x = some u ∧ RelV v u ∧ ∀ M H, Rep K M H d v
theorem e_glob {d : D} (h : GlD X.K X.mg x d) (hg : Gl X x := by rfl) (hd : (x == ("__debug__" : Str)) = false := by decide) : EE X (.Name x pos) (dC d) := by
  obtain ⟨v, u, h1, h2, h3⟩ := h
  exact e_const (pe_glob hg h1 h2 hd) h3

/-! ### operators -/
def d1 (f : D → Option D) (ma : ME) : ME := bnd ma fun x => lft (f x)
def d2 (f : D → D → Option D) (ma mb : ME) : ME := bnd ma fun x => bnd mb fun y => lft (f x y)
def BinOk (K : PySem.W.Frag) (r : R2) (f : D → D → Option D) : Prop := ∀ (M : List Addr) (H : Hp) (x y d : D) (vx vy : V) (Q : VK), (∀ m ∈ M, H m ≠ none) → Rep K M H x vx → Rep K M H y vy → f x y = some d →
  (∀ v H', Same H H' → Rep K M H' d v → Q v H') → r vx vy H Q
def UnOk (K : PySem.W.Frag) (r : V → Hp → VK → Prop) (f : D → Option D) : Prop := ∀ (M : List Addr) (H : Hp) (x d : D) (vx : V) (Q : VK), (∀ m ∈ M, H m ≠ none) → Rep K M H x vx → f x = some d →
  (∀ v H', Same H H' → Rep K M H' d v → Q v H') → r vx H Q
theorem bin_imp {K : PySem.W.Frag} {r : R2} {f : D → D → Option D} (hk : BinOk K r f) {σ : L2.St} {H : Hp} {Q : VK} (h : tD K (d2 f ma mb) σ H Q) : tOp r (tD K ma) (tD K mb) σ H Q := by
  obtain ⟨F, p, ws, env, pot, d, pot', S, e, q⟩ := h
  obtain ⟨x, pot1, e1, e⟩ := bnd_inv e
  obtain ⟨y, pot2, e2, e⟩ := bnd_inv e
  obtain ⟨e3, rfl⟩ := lft_inv e
  exact ⟨F, p, ws, env, pot, x, pot1, S, e1, fun vx H1 S1 k1 r1 => ⟨F, p, ws, env, pot1, y, _, S1, e2, fun vy H2 S2 k2 r2 =>
    hk _ H2 x y d vx vy Q S2.trk (Rep.keep k2 sub_p _ _ r1) r2 e3 fun v H' sm r' => q v H' (S2.same sm) (k1.trans (k2.trans (Keep.same sm))) r'⟩⟩
theorem un_imp {K : PySem.W.Frag} {r : V → Hp → VK → Prop} {f : D → Option D} (hk : UnOk K r f) {σ : L2.St} {H : Hp} {Q : VK} (h : tD K (d1 f ma) σ H Q) : tUn r (tD K ma) σ H Q := by
  obtain ⟨F, p, ws, env, pot, d, pot', S, e, q⟩ := h
  obtain ⟨x, pot1, e1, e⟩ := bnd_inv e
  obtain ⟨e3, rfl⟩ := lft_inv e
  exact ⟨F, p, ws, env, pot, x, _, S, e1, fun vx H1 S1 k1 r1 => hk _ H1 x d vx Q S1.trk r1 e3 fun v H' sm r' => q v H' (S1.same sm) (k1.trans (Keep.same sm)) r'⟩
theorem e_bin {op : Operator} {r : R2} {f : D → D → Option D} (ho : OpR X (binaryOp op) r) (hk : BinOk X.K r f) (ha : EE X a ma) (hb : EE X b mb) : EE X (.BinOp a op b pos) (d2 f ma mb) :=
  PE.imp (pe_op ho ha hb) fun σ H Q h => bin_imp hk h
theorem e_un {op : UnaryOp} {r : V → Hp → VK → Prop} {f : D → Option D} (ho : UnR X (unaryOp op) r) (hk : UnOk X.K r f) (ha : EE X a ma) : EE X (.UnaryOp op a pos) (d1 f ma) :=
  PE.imp (pe_un ho ha) fun σ H Q h => un_imp hk h
theorem e_cmp {op : CmpOp} {r : R2} {f : D → D → Option D} (ho : OpR X (compareOp op) r) (hk : BinOk X.K r f) (ha : EE X a ma) (hb : EE X b mb) (hm : behindInMarks op b = false) : EE X (.Compare a [op] [b] pos) (d2 f ma mb) :=
  PE.imp (pe_cmpR ho ha hb hm) fun σ H Q h => bin_imp hk h
/-- a value that is a bool, as a test -/
def dT (m : ME) : MT := fun env pot => match m env pot with
  | some (.bl b, pot') => some (b, pot')
  | _ => none
theorem dT_inv {env : Env} {pot pot' : Pot} {b : Bool} (h : dT m env pot = some (b, pot')) : m env pot = some (.bl b, pot') := by
  unfold dT at h
  split at h
  · rename_i b' p' e; cases h; exact e
  · cases h
theorem test_imp {K : PySem.W.Frag} {t : TE} (i : ∀ σ H Q, tD K m σ H Q → t σ H Q) {σ : L2.St} {H : Hp} {Q : Bool → Hp → Prop} (h : tDT K (dT m) σ H Q) : tTest t σ H Q := by
  obtain ⟨F, p, ws, env, pot, b, pot', S, e, q⟩ := h
  exact i σ H _ ⟨F, p, ws, env, pot, .bl b, pot', S, dT_inv e, fun v H' S' k r => ⟨b, r.inv_bl, q b H' S' k rfl⟩⟩
theorem t_cmp {op : CmpOp} {r : R2} {f : D → D → Option D} (ho : OpR X (compareOp op) r) (hk : BinOk X.K r f) (ha : EE X a ma) (hb : EE X b mb) (hm : behindInMarks op b = false) : ET X (.Compare a [op] [b] pos) (dT (d2 f ma mb)) :=
  PT.imp (pt_cmpR ho ha hb hm) fun σ H Q h => test_imp (fun _ _ _ => bin_imp hk) h
/-- any other expression whose value is a bool (a name, a call ..), as a test -/
theorem t_val (h : EE X e m) (he : ∀ whole, isTrue e X.env whole = (do let v ← whole; standAt e.pos; holding [v] (truthy v)) := by intro _; rfl) : ET X e (dT m) :=
  PT.imp (pt_val h he) fun σ H Q h => test_imp (fun _ _ _ x => x) h
/-- a < b < c -/
def dChain (f g : D → D → Option D) (ma mb mc : ME) : ME := bnd ma fun x => bnd mb fun y => bnd (lft (f x y)) fun z => match z with
  | .bl true => bnd mc fun w => lft (g y w)
  | .bl false => dC (.bl false)
  | _ => fun _ _ => none
theorem chain_imp {K : PySem.W.Frag} {r r' : R2} {f g : D → D → Option D} (hk : BinOk K r f) (hk' : BinOk K r' g) {σ : L2.St} {H : Hp} {Q : VK} (h : tD K (dChain f g ma mb mc) σ H Q) : tChain r r' (tD K ma) (tD K mb) (tD K mc) σ H Q := by
  obtain ⟨F, p, ws, env, pot, d, pot', S, e, q⟩ := h
  obtain ⟨x, pot1, e1, e⟩ := bnd_inv e
  obtain ⟨y, pot2, e2, e⟩ := bnd_inv e
  obtain ⟨z, pot3, e3, e⟩ := bnd_inv e
  obtain ⟨e3', rfl⟩ := lft_inv e3
  refine ⟨F, p, ws, env, pot, x, pot1, S, e1, fun vx H1 S1 k1 r1 => ⟨F, p, ws, env, pot1, y, _, S1, e2, fun vy H2 S2 k2 r2 => hk _ H2 x y z vx vy _ S2.trk (Rep.keep k2 sub_p _ _ r1) r2 e3' fun v H3 sm r' => ?_⟩⟩
  have S3 := S2.same sm
  have k3 := k1.trans (k2.trans (Keep.same sm))
  cases z with
  | bl k =>
    refine ⟨k, r'.inv_bl, ?_⟩
    cases k with
    | true =>
      rw [if_pos rfl]
      obtain ⟨w, pot4, e4, e⟩ := bnd_inv e
      obtain ⟨e5, rfl⟩ := lft_inv e
      exact ⟨F, p, ws, env, _, w, _, S3, e4, fun vw H4 S4 k4 r4 => hk' _ H4 y w d vy vw Q S4.trk (Rep.keep k4 sub_p _ _ (r2.same sm)) r4 e5 fun v' H5 sm5 r5 => q v' H5 (S4.same sm5) (k3.trans (k4.trans (Keep.same sm5))) r5⟩
    | false =>
      rw [if_neg Bool.false_ne_true]
      cases e
      exact q _ H3 S3 k3 rep_bl
  | _ => cases e
theorem e_chain {op op' : CmpOp} {r r' : R2} {f g : D → D → Option D} (ho : OpR X (compareOp op) r) (hk : BinOk X.K r f) (ho' : OpR X (compareOp op') r') (hk' : BinOk X.K r' g) (ha : EE X a ma) (hb : EE X b mb) (hc : EE X c mc) (hm : lastMarks [op, op'] [b, c] = false := by with_unfolding_all rfl) :
    EE X (.Compare a [op, op'] [b, c] pos) (dChain f g ma mb mc) := PE.imp (pe_chain ho ho' ha hb hc hm) fun σ H Q h => chain_imp hk hk' h
theorem t_chain {op op' : CmpOp} {r r' : R2} {f g : D → D → Option D} (ho : OpR X (compareOp op) r) (hk : BinOk X.K r f) (ho' : OpR X (compareOp op') r') (hk' : BinOk X.K r' g) (ha : EE X a ma) (hb : EE X b mb) (hc : EE X c mc) (hm : lastMarks [op, op'] [b, c] = false := by with_unfolding_all rfl) :
    ET X (.Compare a [op, op'] [b, c] pos) (dT (dChain f g ma mb mc)) := PT.imp (pt_chain ho ho' ha hb hc hm) fun σ H Q h => test_imp (fun _ _ _ => chain_imp hk hk') h

/-! ### and, or, not, if -/
def tAnd2 (mt mu : MT) : MT := bnd mt fun k => match k with
  | true => mu
  | false => lft (some false)
def tOr2 (mt mu : MT) : MT := bnd mt fun k => match k with
  | true => lft (some true)
  | false => mu
def tNot1 (mt : MT) : MT := bnd mt fun k => lft (some (!k))
variable {mt mu : MT} {rest : List Expr}
theorem tG_run {K : PySem.W.Frag} {α β : Type} {R : Option Addr → List Addr → Hp → α → β → Prop} {m : MM α} {F : List Addr} {p : Option Addr} {ws : List (Option Addr)} {env : Env} {pot pot' : Pot} {a : α} {σ : L2.St} {H : Hp} {Q : β → Hp → Prop}
    (S : SR K F p ws H σ env pot) (e : m env pot = some (a, pot')) (q : ∀ b H', SR K F p ws H' σ env pot' → Keep p.toList H H' → R p (mset p ws F) H' a b → Q b H') : tG K R m σ H Q := ⟨F, p, ws, env, pot, a, pot', S, e, q⟩
theorem t_not (h : ET X a mt) : ET X (.UnaryOp .Not a pos) (tNot1 mt) := PT.imp (pt_not h) fun σ H Q h => by
  obtain ⟨F, p, ws, env, pot, d, pot', S, e, q⟩ := h
  obtain ⟨k, pot1, e1, e⟩ := bnd_inv e
  obtain ⟨e2, rfl⟩ := lft_inv e
  cases e2
  show tDT X.K mt σ H _
  exact tG_run S e1 fun k' H' S' kp ek => by subst ek; exact q _ H' S' kp rfl
theorem w_and1 (h : ET X a mt) : EW X (.BoolOp .And [a] pos) mt := pw_and1 h
theorem w_or1 (h : ET X a mt) : EW X (.BoolOp .Or [a] pos) mt := pw_or1 h
theorem w_and (h : ET X a mt) (hr : EW X (.BoolOp .And (b :: rest) pos) mu) : EW X (.BoolOp .And (a :: b :: rest) pos) (tAnd2 mt mu) := PW.imp (pw_and h hr) fun σ H Q h => by
  obtain ⟨F, p, ws, env, pot, d, pot', S, e, q⟩ := h
  obtain ⟨k, pot1, e1, e⟩ := bnd_inv e
  show tDT X.K mt σ H _
  refine tG_run S e1 fun k' H' S' kp ek => ?_
  subst ek
  cases k with
  | true => rw [if_pos rfl]; exact tG_run S' e fun k2 H2 S2 kp2 r2 => q k2 H2 S2 (kp.trans kp2) r2
  | false =>
    rw [if_neg Bool.false_ne_true]
    obtain ⟨e2, rfl⟩ := lft_inv e
    cases e2
    exact q _ H' S' kp rfl
theorem w_or (h : ET X a mt) (hr : EW X (.BoolOp .Or (b :: rest) pos) mu) : EW X (.BoolOp .Or (a :: b :: rest) pos) (tOr2 mt mu) := PW.imp (pw_or h hr) fun σ H Q h => by
  obtain ⟨F, p, ws, env, pot, d, pot', S, e, q⟩ := h
  obtain ⟨k, pot1, e1, e⟩ := bnd_inv e
  show tDT X.K mt σ H _
  refine tG_run S e1 fun k' H' S' kp ek => ?_
  subst ek
  cases k with
  | false => rw [if_neg Bool.false_ne_true]; exact tG_run S' e fun k2 H2 S2 kp2 r2 => q k2 H2 S2 (kp.trans kp2) r2
  | true =>
    rw [if_pos rfl]
    obtain ⟨e2, rfl⟩ := lft_inv e
    cases e2
    exact q _ H' S' kp rfl
theorem w_pt (h : EW X a mt) : ET X a mt := PW.pt h
/-- .. as values; all but the last one bools -/
def dAnd2 (ma mb : ME) : ME := bnd (dT ma) fun k => match k with
  | true => mb
  | false => dC (.bl false)
def dOr2 (ma mb : ME) : ME := bnd (dT ma) fun k => match k with
  | true => dC (.bl true)
  | false => mb
def dNot1 (ma : ME) : ME := bnd (dT ma) fun k => dC (.bl !k)
theorem e_one {op} (h : EE X a m) : EE X (.BoolOp op [a] pos) m := pe_one h
theorem e_and (h : EE X a ma) (hr : EE X (.BoolOp .And (b :: rest) pos) mb) : EE X (.BoolOp .And (a :: b :: rest) pos) (dAnd2 ma mb) := PE.imp (pe_and h hr) fun σ H Q h => by
  obtain ⟨F, p, ws, env, pot, d, pot', S, e, q⟩ := h
  obtain ⟨k, pot1, e1, e⟩ := bnd_inv e
  refine tG_run S (dT_inv e1) fun v H' S' kp r => ⟨k, r.inv_bl, ?_⟩
  cases k with
  | true => rw [if_pos rfl]; exact tG_run S' e fun k2 H2 S2 kp2 r2 => q k2 H2 S2 (kp.trans kp2) r2
  | false =>
    rw [if_neg Bool.false_ne_true]
    cases e
    exact q _ H' S' kp rep_bl
theorem e_or (h : EE X a ma) (hr : EE X (.BoolOp .Or (b :: rest) pos) mb) : EE X (.BoolOp .Or (a :: b :: rest) pos) (dOr2 ma mb) := PE.imp (pe_or h hr) fun σ H Q h => by
  obtain ⟨F, p, ws, env, pot, d, pot', S, e, q⟩ := h
  obtain ⟨k, pot1, e1, e⟩ := bnd_inv e
  refine tG_run S (dT_inv e1) fun v H' S' kp r => ⟨k, r.inv_bl, ?_⟩
  cases k with
  | false => rw [if_neg Bool.false_ne_true]; exact tG_run S' e fun k2 H2 S2 kp2 r2 => q k2 H2 S2 (kp.trans kp2) r2
  | true =>
    rw [if_pos rfl]
    cases e
    exact q _ H' S' kp rep_bl
theorem e_not (h : EE X a ma) : EE X (.UnaryOp .Not a pos) (dNot1 ma) := PE.imp (pe_not h) fun σ H Q h => by
  obtain ⟨F, p, ws, env, pot, d, pot', S, e, q⟩ := h
  obtain ⟨k, pot1, e1, e⟩ := bnd_inv e
  refine tG_run S (dT_inv e1) fun v H' S' kp r => ⟨k, r.inv_bl, ?_⟩
  cases e
  exact q _ H' S' kp rep_bl
/-- not of a test, as a value -/
def dIf (mt : MT) (ma mb : ME) : ME := bnd mt fun k => match k with
  | true => ma
  | false => mb
theorem e_if (ht : ET X c mt) (ha : EE X a ma) (hb : EE X b mb) : EE X (.IfExp c a b pos) (dIf mt ma mb) := PE.imp (pe_ifExp ht ha hb) fun σ H Q h => by
  obtain ⟨F, p, ws, env, pot, d, pot', S, e, q⟩ := h
  obtain ⟨k, pot1, e1, e⟩ := bnd_inv e
  show tDT X.K mt σ H _
  refine tG_run S e1 fun k' H' S' kp ek => ?_
  subst ek
  cases k with
  | true => rw [if_pos rfl]; exact tG_run S' e fun k2 H2 S2 kp2 r2 => q k2 H2 S2 (kp.trans kp2) r2
  | false => rw [if_neg Bool.false_ne_true]; exact tG_run S' e fun k2 H2 S2 kp2 r2 => q k2 H2 S2 (kp.trans kp2) r2

/-! ### argument lists, displays -/
def aNil : MA := fun _ pot => some ([], pot)
def aCons (ma : ME) (mr : MA) : MA := bnd ma fun x => bnd mr fun xs => lft (some (x :: xs))
/-- *e: the items of a tuple or a list -/
def items : D → Option (List D)
  | .tup ds => some ds
  | .lst ds => some ds
  | _ => none
def aStar (ma : ME) (mr : MA) : MA := bnd ma fun x => bnd (lft (items x)) fun ds => bnd mr fun xs => lft (some (ds ++ xs))
variable {mr : MA}
theorem a_nil : EA X [] aNil := PA.imp pa_nil fun σ H Q h => by
  obtain ⟨F, p, ws, env, pot, d, pot', S, e, q⟩ := h
  cases e
  exact q [] H S (Keep.refl _ _) repL_nil
theorem a_cons (ha : EE X e ma) (hr : EA X es mr) (hs : starEach (e :: es) X.env = (false, eval e X.env) :: starEach es X.env := by rfl) : EA X (e :: es) (aCons ma mr) := PA.imp (pa_cons ha hr hs) fun σ H Q h => by
  obtain ⟨F, p, ws, env, pot, d, pot', S, e, q⟩ := h
  obtain ⟨x, pot1, e1, e⟩ := bnd_inv e
  obtain ⟨xs, pot2, e2, e⟩ := bnd_inv e
  obtain ⟨e3, rfl⟩ := lft_inv e
  cases e3
  exact tG_run S e1 fun v H' S' kp r => tG_run S' e2 fun vs H2 S2 kp2 r2 => q _ H2 S2 (kp.trans kp2) (repL_cons (Rep.keep kp2 sub_p _ _ r) r2)
theorem a_star {sp : Pos} (ha : EE X e ma) (hr : EA X es mr) (hs : starEach (.Starred e sp :: es) X.env = (true, eval e X.env) :: starEach es X.env := by rfl) : EA X (.Starred e sp :: es) (aStar ma mr) := PA.imp (StX.pa_star ha hr hs) fun σ H Q h => by
  obtain ⟨F, p, ws, env, pot, d, pot', S, e, q⟩ := h
  obtain ⟨x, pot1, e1, e⟩ := bnd_inv e
  obtain ⟨ds, pot2, e2', e7⟩ := bnd_inv e
  obtain ⟨e2, rfl⟩ := lft_inv e2'
  obtain ⟨xs, pot3, e3, e6⟩ := bnd_inv e7
  obtain ⟨e4, rfl⟩ := lft_inv e6
  cases e4
  refine tG_run S e1 fun v H' S' kp r => ?_
  cases x with
  | tup es =>
    cases e2
    obtain ⟨a, xs', e5, t5, r5⟩ := r.inv_tup
    exact ⟨a, xs', e5, .inl t5.sq, tG_run S' e3 fun vs H2 S2 kp2 r2 => q _ H2 S2 (kp.trans kp2) (RepL.append (RepL.keep kp2 sub_p _ _ r5) r2)⟩
  | lst es =>
    cases e2
    obtain ⟨a, xs', e5, t5, r5⟩ := r.inv_lst
    exact ⟨a, xs', e5, .inr t5.sq, tG_run S' e3 fun vs H2 S2 kp2 r2 => q _ H2 S2 (kp.trans kp2) (RepL.append (RepL.keep kp2 sub_p _ _ r5) r2)⟩
  | _ => cases e2
def dTup (m : MA) : ME := bnd m fun ds => if ds.length ≤ 16777216 then dC (.tup ds) else fun _ _ => none
theorem line_eq : (sizeLine : Nat) = 16777216 := by rfl
theorem e_tup {k} (h : EA X es mr) : EE X (.Tuple es k pos) (dTup mr) := PE.imp (pe_tup h) fun σ H Q h => by
  obtain ⟨F, p, ws, env, pot, d, pot', S, e, q⟩ := h
  obtain ⟨ds, pot1, e1, e⟩ := bnd_inv e
  by_cases hl : ds.length ≤ 16777216
  · rw [if_pos hl] at e
    cases e
    refine tG_run S e1 fun vs H' S' kp r => ⟨by rw [r.length]; exact hl, fun a na => ?_⟩
    exact q _ _ (S'.same (same_upd na)) (kp.trans (Keep.same (same_upd na))) (rep_tup_new na S'.trk r)
  · rw [if_neg hl] at e; cases e

/-! ### fresh lists: their address was free at the start -/
def tF (K : PySem.W.Frag) (m : MA) : TE := fun σ H Q =>
  ∃ F p ws env pot ds pot', SR K F p ws H σ env pot ∧ m env pot = some (ds, pot') ∧ ∀ a xs H', SR K F p ws H' σ env pot' → Keep p.toList H H' → H a = none → a ∉ mset p ws F → H' a = some (.lst xs) → RepL K (mset p ws F) H' ds xs → (∀ b, H' b = none → b ≠ a) → RepL K (a :: mset p ws F) H' ds xs → Q (.ref a) H'
abbrev EF (X : Cx) (e : Expr) (m : MA) : Prop := PE X e (tF X.K m)
def dL (m : MA) : ME := bnd m fun ds => dC (.lst ds)
theorem e_ofF (h : EF X e mr) : EE X e (dL mr) := PE.imp h fun σ H Q h => by
  obtain ⟨F, p, ws, env, pot, d, pot', S, e, q⟩ := h
  obtain ⟨ds, pot1, e1, e⟩ := bnd_inv e
  cases e
  refine ⟨F, p, ws, env, pot, ds, _, S, e1, fun a xs H' S' kp na nm ha r _ _ => q _ _ S' kp ?_⟩
  simp only [Rep]
  exact ⟨a, xs, rfl, .inl ⟨nm, .inl ha⟩, r⟩
def aLen (m : MA) : MA := bnd m fun ds => if ds.length ≤ 16777216 then lft (some ds) else fun _ _ => none
theorem fresh_cons {K : PySem.W.Frag} {M : List Addr} {H : Hp} {a : Addr} {ds : List D} {xs : List V} (n : H a = none) (r : RepL K M H ds xs) : RepL K (a :: M) H ds xs :=
  RepL.grow (fun m hm => by
    rcases List.mem_cons.mp hm with z | z
    · subst z; exact .inr n
    · exact .inl z) ds xs r
theorem f_lst (h : EA X es mr) : EF X (.List es pos) (aLen mr) := PE.imp (pe_lst h) fun σ H Q h => by
  obtain ⟨F, p, ws, env, pot, d, pot', S, e, q⟩ := h
  obtain ⟨ds, pot1, e1, e⟩ := bnd_inv e
  by_cases hl : ds.length ≤ 16777216
  · rw [if_pos hl] at e
    obtain ⟨e2, rfl⟩ := lft_inv e
    cases e2
    refine tG_run S e1 fun vs H' S' kp r => ⟨by rw [r.length]; exact hl, fun a na => ?_⟩
    have sm := same_upd (o := HO.lst vs) na
    have nH : H a = none := by
      by_cases hp : a ∈ p.toList
      · exact absurd (sub_p (ws := ws) (F := F) a hp) (S'.fresh na)
      · exact kp.free hp na
    exact q a vs _ (S'.same sm) (kp.trans (Keep.same sm)) nH (S'.fresh na) upd_same (r.same sm) (fun b hb z => by subst z; rw [upd_same] at hb; cases hb) ((fresh_cons na r).same sm)
  · rw [if_neg hl] at e; cases e
end
end DL
set_option Elab.async false
set_option linter.all false
set_option maxRecDepth 100000
set_option maxHeartbeats 4000000
/-! The data layer, part 3: operators, built-ins, subscripts on plain data. -/
namespace DL
open PySem PySem.Spec PyProof.Rows L2

theorem binOk_or {K : PySem.W.Frag} {r r' : R2} {f g : D → D → Option D} (h : BinOk K r f) (h' : BinOk K r' g) : BinOk K (fun x y H Q => r x y H Q ∨ r' x y H Q) (fun x y => (f x y).or (g x y)) := by
  intro M H x y d vx vy Q hM hx hy e q
  dsimp only at e
  cases h1 : f x y with
  | some z =>
    rw [h1] at e
    cases e
    exact .inl (h M H x y _ vx vy Q hM hx hy h1 q)
  | none =>
    rw [h1] at e
    exact .inr (h' M H x y d vx vy Q hM hx hy e q)

/-! ### arithmetic -/
def iAdd : D → D → Option D
  | .int i, .int j => some (.int (i + j))
  | _, _ => none
def iSub : D → D → Option D
  | .int i, .int j => some (.int (i - j))
  | _, _ => none
def iMul : D → D → Option D
  | .int i, .int j => if i.natAbs.log2 + j.natAbs.log2 < 1000000 then some (.int (i * j)) else none
  | _, _ => none
def iDiv : D → D → Option D
  | .int i, .int j => if 0 < j ∧ j.natAbs.log2 < 9000 then some (.int (i / j)) else none
  | _, _ => none
def iMod : D → D → Option D
  | .int i, .int j => if 0 < j then some (.int (i % j)) else none
  | _, _ => none
def iPow : D → D → Option D
  | .int i, .int j => if (0 ≤ j ∧ j ≤ 1000000 ∧ i.natAbs < 2 ^ 64) ∨ (0 ≤ j ∧ (Builtin.Int.intBits i : Int) * j ≤ 2 ^ 27) then some (.int (i ^ j.toNat)) else none
  | _, _ => none
def CPowW (i j : Int) : Prop := (0 ≤ j ∧ j ≤ 1000000 ∧ i.natAbs < 2 ^ 64) ∨ (0 ≤ j ∧ (Builtin.Int.intBits i : Int) * j ≤ 2 ^ 27)
theorem op_powW {X : Cx} : OpR X (binaryOp .Pow) (rI CPowW fun i j => .int (i ^ j.toNat)) := opI fun _ _ _ _ _ _ _ hc q => hc.elim (fun h => pow_int_small h.1 h.2.1 h.2.2 q) (fun h => pow_int h.1 h.2 q)
def tCat : D → D → Option D
  | .tup a, .tup b => if a.length + b.length ≤ 16777216 then some (.tup (a ++ b)) else none
  | _, _ => none
def tRep : D → D → Option D
  | .tup a, .int k => if a ≠ [] ∧ 2 ≤ k ∧ k ≤ 1000 ∧ a.length ≤ 1000 then some (.tup (List.replicate k.toNat a).flatten) else none
  | _, _ => none
def fAdd : D → D → Option D := fun x y => (iAdd x y).or (tCat x y)
def fMul : D → D → Option D := fun x y => (iMul x y).or (tRep x y)
section
variable {K : PySem.W.Frag}
theorem ok_int {r : R2} {C : Int → Int → Prop} {g : Int → Int → V} {f : D → D → Option D} (hr : r = rI C g) (h : ∀ x y d, f x y = some d → ∃ i j, x = .int i ∧ y = .int j ∧ C i j ∧ ∀ M H, Rep K M H d (g i j)) : BinOk K r f := by
  subst hr
  intro M H x y d vx vy Q hM hx hy e q
  obtain ⟨i, j, rfl, rfl, hc, hd⟩ := h x y d e
  exact ⟨i, j, hx.inv_int, hy.inv_int, hc, q _ H (Same.refl H) (hd M H)⟩
theorem ok_int0 {r : R2} {g : Int → Int → V} {f : D → D → Option D} (hr : r = rI0 g) (h : ∀ x y d, f x y = some d → ∃ i j, x = .int i ∧ y = .int j ∧ ∀ M H, Rep K M H d (g i j)) : BinOk K r f := by
  subst hr
  intro M H x y d vx vy Q hM hx hy e q
  obtain ⟨i, j, rfl, rfl, hd⟩ := h x y d e
  exact ⟨i, j, hx.inv_int, hy.inv_int, q _ H (Same.refl H) (hd M H)⟩
theorem ok_iAdd : BinOk K (rI0 fun i j => .int (i + j)) iAdd := ok_int0 rfl fun x y d e => by
  cases x <;> cases y <;> simp only [iAdd, Option.some.injEq, reduceCtorEq] at e
  subst e
  exact ⟨_, _, rfl, rfl, fun _ _ => rep_int⟩
theorem ok_iSub : BinOk K (rI0 fun i j => .int (i - j)) iSub := ok_int0 rfl fun x y d e => by
  cases x <;> cases y <;> simp only [iSub, Option.some.injEq, reduceCtorEq] at e
  subst e
  exact ⟨_, _, rfl, rfl, fun _ _ => rep_int⟩
theorem ok_iMul : BinOk K (rI CMulW fun i j => .int (i * j)) iMul := ok_int rfl fun x y d e => by
  cases x <;> cases y <;> simp only [iMul, reduceCtorEq] at e
  split at e
  · rename_i h; cases e; exact ⟨_, _, rfl, rfl, h, fun _ _ => rep_int⟩
  · cases e
theorem ok_iDiv : BinOk K (rI CDivW fun i j => .int (i / j)) iDiv := ok_int rfl fun x y d e => by
  cases x <;> cases y <;> simp only [iDiv, reduceCtorEq] at e
  split at e
  · rename_i h; cases e; exact ⟨_, _, rfl, rfl, h, fun _ _ => rep_int⟩
  · cases e
theorem ok_iMod : BinOk K (rI (fun _ j => 0 < j) fun i j => .int (i % j)) iMod := ok_int rfl fun x y d e => by
  cases x <;> cases y <;> simp only [iMod, reduceCtorEq] at e
  split at e
  · rename_i h; cases e; exact ⟨_, _, rfl, rfl, h, fun _ _ => rep_int⟩
  · cases e
theorem ok_iPow : BinOk K (rI CPowW fun i j => .int (i ^ j.toNat)) iPow := ok_int rfl fun x y d e => by
  cases x <;> cases y <;> simp only [iPow, reduceCtorEq] at e
  split at e
  · rename_i h; cases e; exact ⟨_, _, rfl, rfl, h, fun _ _ => rep_int⟩
  · cases e
theorem ok_tCat : BinOk K (rCatA K) tCat := by
  intro M H x y d vx vy Q hM hx hy e q
  cases x with
  | tup a => cases y with
    | tup b =>
      simp only [tCat] at e
      split at e
      · rename_i hl
        cases e
        obtain ⟨p, xs, rfl, h1, r1⟩ := hx.inv_tup
        obtain ⟨p2, ys, rfl, h2, r2⟩ := hy.inv_tup
        refine ⟨p, p2, xs, ys, rfl, rfl, h1.sq, h2.sq, by rw [r1.length, r2.length]; exact hl, fun e1 => ?_, fun e1 e2 => ?_, fun e1 e2 c nc => ?_⟩
        · subst e1
          have : a = [] := by
            have := r1.length
            exact List.eq_nil_of_length_eq_zero (by simpa using this.symm)
          subst this
          exact q _ H (Same.refl H) (by simpa using hy)
        · subst e2
          have : b = [] := by
            have := r2.length
            exact List.eq_nil_of_length_eq_zero (by simpa using this.symm)
          subst this
          exact q _ H (Same.refl H) (by simpa using hx)
        · exact q _ _ (same_upd nc) (rep_tup_new nc hM (RepL.append r1 r2))
      · cases e
    | _ => cases e
  | _ => cases y <;> cases e
theorem ok_tRep : BinOk K (rRepT K) tRep := by
  intro M H x y d vx vy Q hM hx hy e q
  cases x with
  | tup a => cases y with
    | int k =>
      simp only [tRep] at e
      split at e
      · rename_i hl
        cases e
        obtain ⟨p, xs, rfl, h1, r1⟩ := hx.inv_tup
        refine ⟨p, k, xs, rfl, hy.inv_int, h1.sq, fun z => hl.1 ?_, hl.2.1, hl.2.2.1, by rw [r1.length]; exact hl.2.2.2, fun c nc => ?_⟩
        · subst z
          exact List.eq_nil_of_length_eq_zero (by simpa using r1.length.symm)
        · exact q _ _ (same_upd nc) (rep_tup_new nc hM (RepL.replicate r1 _))
      · cases e
    | _ => cases e
  | _ => cases y <;> cases e
end
section
variable {X : Cx} {a b c e : Expr} {es : List Expr} {ma mb mc m : ME} {pos p : Pos} {x : Str}
theorem e_add (ha : EE X a ma) (hb : EE X b mb) : EE X (.BinOp a .Add b pos) (d2 fAdd ma mb) := e_bin (OpR.or op_add op_catA) (binOk_or ok_iAdd ok_tCat) ha hb
theorem e_sub (ha : EE X a ma) (hb : EE X b mb) : EE X (.BinOp a .Sub b pos) (d2 iSub ma mb) := e_bin op_sub ok_iSub ha hb
theorem e_mul (ha : EE X a ma) (hb : EE X b mb) : EE X (.BinOp a .Mult b pos) (d2 fMul ma mb) := e_bin (OpR.or op_mulW op_repT) (binOk_or ok_iMul ok_tRep) ha hb
theorem e_div (ha : EE X a ma) (hb : EE X b mb) : EE X (.BinOp a .FloorDiv b pos) (d2 iDiv ma mb) := e_bin op_fdivW ok_iDiv ha hb
theorem e_mod (ha : EE X a ma) (hb : EE X b mb) : EE X (.BinOp a .Mod b pos) (d2 iMod ma mb) := e_bin op_mod ok_iMod ha hb
theorem e_pow (ha : EE X a ma) (hb : EE X b mb) : EE X (.BinOp a .Pow b pos) (d2 iPow ma mb) := e_bin op_powW ok_iPow ha hb
def iNeg : D → Option D
  | .int i => some (.int (-i))
  | _ => none
theorem ok_iNeg {K : PySem.W.Frag} : UnOk K (rU fun i => .int (-i)) iNeg := by
  intro M H x d vx Q hM hx e q
  cases x <;> simp only [iNeg, Option.some.injEq, reduceCtorEq] at e
  subst e
  exact ⟨_, hx.inv_int, q _ H (Same.refl H) rep_int⟩
theorem e_neg (ha : EE X a ma) : EE X (.UnaryOp .USub a pos) (d1 iNeg ma) := e_un un_neg ok_iNeg ha
end

/-! ### comparisons -/
def cI (f : Int → Int → Bool) : D → D → Option D
  | .int i, .int j => some (.bl (f i j))
  | _, _ => none
theorem ok_cI {K : PySem.W.Frag} {f : Int → Int → Bool} : BinOk K (rI0 fun i j => .bl (f i j)) (cI f) := ok_int0 rfl fun x y d e => by
  cases x <;> cases y <;> simp only [cI, Option.some.injEq, reduceCtorEq] at e
  subst e
  exact ⟨_, _, rfl, rfl, fun _ _ => rep_bl⟩
abbrev cLt := cI fun i j => decide (i < j)
abbrev cLe := cI fun i j => decide (i ≤ j)
abbrev cGt := cI fun i j => decide (j < i)
abbrev cGe := cI fun i j => decide (j ≤ i)
/- == of data, as Python has it -/
mutual
def eqD : D → D → Bool
  | .non, .non => true
  | .bl a, .bl b => a == b
  | .bl a, .int j => (if a then 1 else 0) == j
  | .int i, .bl b => i == (if b then 1 else 0)
  | .int i, .int j => i == j
  | .str x, .str y => x == y
  | .lst xs, .lst ys => eqDL xs ys
  | .tup xs, .tup ys => eqDL xs ys
  | _, _ => false
def eqDL : List D → List D → Bool
  | [], [] => true
  | x :: xs, y :: ys => eqD x y && eqDL xs ys
  | _, _ => false
end
mutual
def pyOf : D → PyData
  | .non => .none
  | .bl b => .bool b
  | .int i => .int i
  | .str x => .str x
  | .tup ds => .tuple (pyOfL ds)
  | .lst ds => .list (pyOfL ds)
def pyOfL : List D → List PyData
  | [] => []
  | d :: ds => pyOf d :: pyOfL ds
end
mutual
theorem eqv_py : ∀ x y : D, PyData.eqv (pyOf x) (pyOf y) = eqD x y
  | .non, y => by cases y <;> simp [pyOf, PyData.eqv, eqD]
  | .bl b, y => by cases y <;> simp [pyOf, PyData.eqv, eqD]
  | .int b, y => by cases y <;> simp [pyOf, PyData.eqv, eqD]
  | .str b, y => by cases y <;> simp [pyOf, PyData.eqv, eqD]
  | .tup ds, y => by
    cases y with
    | tup es => simp only [pyOf, PyData.eqv, eqD]; exact eqv_pyL ds es
    | _ => simp [pyOf, PyData.eqv, eqD]
  | .lst ds, y => by
    cases y with
    | lst es => simp only [pyOf, PyData.eqv, eqD]; exact eqv_pyL ds es
    | _ => simp [pyOf, PyData.eqv, eqD]
theorem eqv_pyL : ∀ x y : List D, PyData.eqvAll (pyOfL x) (pyOfL y) = eqDL x y
  | [], y => by cases y <;> simp [pyOfL, PyData.eqvAll, eqDL]
  | x :: xs, y => by
    cases y with
    | nil => simp [pyOfL, PyData.eqvAll, eqDL]
    | cons z zs => simp only [pyOfL, PyData.eqvAll, eqDL]; rw [eqv_py x z, eqv_pyL xs zs]
end
mutual
theorem plain_py : ∀ x : D, (pyOf x).plain = true
  | .non => rfl
  | .bl _ => rfl
  | .int _ => rfl
  | .str _ => rfl
  | .tup ds => by simp only [pyOf, PyData.plain]; exact plain_pyL ds
  | .lst ds => by simp only [pyOf, PyData.plain]; exact plain_pyL ds
theorem plain_pyL : ∀ x : List D, PyData.plainAll (pyOfL x) = true
  | [] => rfl
  | d :: ds => by simp only [pyOfL, PyData.plainAll]; rw [plain_py d, plain_pyL ds]; rfl
end
/- how deep data are nested -/
mutual
def dep : D → Nat
  | .tup ds => depL ds + 1
  | .lst ds => depL ds + 1
  | _ => 0
def depL : List D → Nat
  | [] => 0
  | d :: ds => max (dep d) (depL ds)
end
mutual
theorem dep_py : ∀ x : D, (pyOf x).depth = dep x
  | .non => rfl
  | .bl _ => rfl
  | .int _ => rfl
  | .str _ => rfl
  | .tup ds => by simp only [pyOf, PyData.depth, dep]; rw [dep_pyL ds]
  | .lst ds => by simp only [pyOf, PyData.depth, dep]; rw [dep_pyL ds]
theorem dep_pyL : ∀ x : List D, PyData.depthAll (pyOfL x) = depL x
  | [] => rfl
  | d :: ds => by simp only [pyOfL, PyData.depthAll, depL]; rw [dep_py d, dep_pyL ds]
end
section
variable {K : PySem.W.Frag} {M : List Addr} {H : Hp}
mutual
theorem dp_of : ∀ (d : D) (v : V), Rep K M H d v → Dp K H v (pyOf d)
  | .non, v, h => by rw [h.inv_non]; exact .non
  | .bl b, v, h => by rw [h.inv_bl]; exact .bl b
  | .int i, v, h => by rw [h.inv_int]; exact .int i
  | .str x, v, h => by rw [h.inv_str]; exact .str x
  | .tup ds, v, h => by
    obtain ⟨a, xs, rfl, h1, h2⟩ := h.inv_tup
    simp only [pyOf]
    exact .tup h1.sq (dp_ofL ds xs h2)
  | .lst ds, v, h => by
    obtain ⟨a, xs, rfl, h1, h2⟩ := h.inv_lst
    simp only [pyOf]
    exact .lst h1.sq (dp_ofL ds xs h2)
theorem dp_ofL : ∀ (ds : List D) (vs : List V), RepL K M H ds vs → DpAll K H vs (pyOfL ds)
  | [], vs, h => by rw [h.inv_nil]; exact .nil
  | d :: ds, vs, h => by
    obtain ⟨x, r, rfl, h1, h2⟩ := h.inv_cons
    simp only [pyOfL]
    exact .cons (dp_of d x h1) (dp_ofL ds r h2)
end
end
def rEqP (K : PySem.W.Frag) (neg : Bool) : R2 := fun x y H Q => ∃ d e, Dp K H x d ∧ Dp K H y e ∧ d.plain = true ∧ e.plain = true ∧ min d.depth e.depth ≤ 60 ∧ Q (.bl (if neg then !PyData.eqv d e else PyData.eqv d e)) H
def rInP (K : PySem.W.Frag) (neg : Bool) : R2 := fun x y H Q => ∃ d ds, Dp K H x d ∧ (Dp K H y (.list ds) ∨ Dp K H y (.tuple ds)) ∧ d.plain = true ∧ PyData.plainAll ds = true ∧ d.depth ≤ 60 ∧ Q (.bl (if neg then !(ds.any fun z => PyData.eqv z d) else ds.any fun z => PyData.eqv z d)) H
section
variable {X : Cx} {k : Nat}
theorem op_eqP (hr : Room k X.A) : OpR X (compareOp .Eq) (rEqP X.K false) := by
  intro pins s σ H x y v u Q I rx ry h
  obtain ⟨d, e, hd, he, sd, se, hl, q⟩ := h
  obtain ⟨as, r1⟩ := Dp.reads I d x v hd rx
  obtain ⟨bs, r2⟩ := Dp.reads I e y u he ry
  have := hr.un
  exact SeqAt.eq_plain r1 r2 sd se (by omega) ⟨.bl _, H, I, rfl, q⟩
theorem op_neP (hr : Room k X.A) : OpR X (compareOp .NotEq) (rEqP X.K true) := by
  intro pins s σ H x y v u Q I rx ry h
  obtain ⟨d, e, hd, he, sd, se, hl, q⟩ := h
  obtain ⟨as, r1⟩ := Dp.reads I d x v hd rx
  obtain ⟨bs, r2⟩ := Dp.reads I e y u he ry
  have := hr.un
  exact SeqAt.ne_plain r1 r2 sd se (by omega) ⟨.bl _, H, I, rfl, q⟩
theorem op_inP (hr : Room k X.A) : OpR X (compareOp .In) (rInP X.K false) := by
  intro pins s σ H x y v u Q I rx ry h
  obtain ⟨d, ds, hd, he, sd, se, hl, q⟩ := h
  obtain ⟨as, r1⟩ := Dp.reads I d x v hd rx
  have := hr.un
  rcases he with he | he
  · obtain ⟨bs, r2⟩ := Dp.reads I _ y u he ry
    exact SeqAt.in_list_data r2 r1 se sd (by omega) ⟨.bl _, H, I, rfl, q⟩
  · obtain ⟨bs, r2⟩ := Dp.reads I _ y u he ry
    exact SeqAt.in_tuple_data r2 r1 se sd (by omega) ⟨.bl _, H, I, rfl, q⟩
theorem op_notInP (hr : Room k X.A) : OpR X (compareOp .NotIn) (rInP X.K true) := by
  intro pins s σ H x y v u Q I rx ry h
  obtain ⟨d, ds, hd, he, sd, se, hl, q⟩ := h
  obtain ⟨as, r1⟩ := Dp.reads I d x v hd rx
  have := hr.un
  rcases he with he | he
  · obtain ⟨bs, r2⟩ := Dp.reads I _ y u he ry
    exact SeqAt.notIn_list_data r2 r1 se sd (by omega) ⟨.bl _, H, I, rfl, q⟩
  · obtain ⟨bs, r2⟩ := Dp.reads I _ y u he ry
    exact SeqAt.notIn_tuple_data r2 r1 se sd (by omega) ⟨.bl _, H, I, rfl, q⟩
end
def cEq : D → D → Option D := fun x y => if min (dep x) (dep y) ≤ 60 then some (.bl (eqD x y)) else none
def cNe : D → D → Option D := fun x y => if min (dep x) (dep y) ≤ 60 then some (.bl (!eqD x y)) else none
def cIn : D → D → Option D := fun x y => if dep x ≤ 60 then (items y).map fun ds => .bl (ds.any fun z => eqD z x) else none
def cNotIn : D → D → Option D := fun x y => if dep x ≤ 60 then (items y).map fun ds => .bl (!(ds.any fun z => eqD z x)) else none
theorem any_py (x : D) : ∀ ds : List D, ((pyOfL ds).any fun z => PyData.eqv z (pyOf x)) = ds.any fun z => eqD z x
  | [] => rfl
  | d :: ds => by
    simp only [pyOfL, List.any_cons]
    rw [eqv_py, any_py x ds]
section
variable {K : PySem.W.Frag}
theorem ok_cEq : BinOk K (rEqP K false) cEq := by
  intro M H x y d vx vy Q hM hx hy e q
  unfold cEq at e
  split at e
  · rename_i hl
    cases e
    refine ⟨pyOf x, pyOf y, dp_of x vx hx, dp_of y vy hy, plain_py x, plain_py y, by rw [dep_py, dep_py]; exact hl, ?_⟩
    rw [if_neg Bool.false_ne_true, eqv_py]
    exact q _ H (Same.refl H) rep_bl
  · cases e
theorem ok_cNe : BinOk K (rEqP K true) cNe := by
  intro M H x y d vx vy Q hM hx hy e q
  unfold cNe at e
  split at e
  · rename_i hl
    cases e
    refine ⟨pyOf x, pyOf y, dp_of x vx hx, dp_of y vy hy, plain_py x, plain_py y, by rw [dep_py, dep_py]; exact hl, ?_⟩
    rw [if_pos rfl, eqv_py]
    exact q _ H (Same.refl H) rep_bl
  · cases e
theorem in_data {M : List Addr} {H : Hp} {y : D} {ds : List D} {vy : V} (h : Rep K M H y vy) (e : items y = some ds) : Dp K H vy (.list (pyOfL ds)) ∨ Dp K H vy (.tuple (pyOfL ds)) := by
  have q := dp_of y vy h
  cases y with
  | tup es => cases e; simp only [pyOf] at q; exact .inr q
  | lst es => cases e; simp only [pyOf] at q; exact .inl q
  | _ => cases e
theorem ok_cIn : BinOk K (rInP K false) cIn := by
  intro M H x y d vx vy Q hM hx hy e q
  unfold cIn at e
  split at e
  · rename_i hl
    cases hi : items y with
    | none => rw [hi] at e; cases e
    | some ds =>
      rw [hi] at e
      cases e
      refine ⟨pyOf x, pyOfL ds, dp_of x vx hx, in_data hy hi, plain_py x, plain_pyL ds, by rw [dep_py]; exact hl, ?_⟩
      rw [if_neg Bool.false_ne_true, any_py]
      exact q _ H (Same.refl H) rep_bl
  · cases e
theorem ok_cNotIn : BinOk K (rInP K true) cNotIn := by
  intro M H x y d vx vy Q hM hx hy e q
  unfold cNotIn at e
  split at e
  · rename_i hl
    cases hi : items y with
    | none => rw [hi] at e; cases e
    | some ds =>
      rw [hi] at e
      cases e
      refine ⟨pyOf x, pyOfL ds, dp_of x vx hx, in_data hy hi, plain_py x, plain_pyL ds, by rw [dep_py]; exact hl, ?_⟩
      rw [if_pos rfl, any_py]
      exact q _ H (Same.refl H) rep_bl
  · cases e
end
/-- is None, is True .. -/
def isNon : D → Bool
  | .non => true
  | _ => false
theorem dec_non {K : PySem.W.Frag} {M : List Addr} {H : Hp} {x : D} {v : V} (h : Rep K M H x v) : decide (v = .non) = isNon x := by
  cases x with
  | non => rw [h.inv_non]; rfl
  | bl b => rw [h.inv_bl]; rfl
  | int b => rw [h.inv_int]; rfl
  | str b => rw [h.inv_str]; rfl
  | tup b => obtain ⟨a, xs, rfl, _⟩ := h.inv_tup; rfl
  | lst b => obtain ⟨a, xs, rfl, _⟩ := h.inv_lst; rfl
def cIs : D → D → Option D
  | x, .non => some (.bl (isNon x))
  | .bl a, .bl b => some (.bl (decide (a = b)))
  | _, _ => none
def cIsNot : D → D → Option D
  | x, .non => some (.bl (!isNon x))
  | .bl a, .bl b => some (.bl (!decide (a = b)))
  | _, _ => none
abbrev rIs : R2 := fun x y H Q => (y = .non ∧ Q (.bl (decide (x = .non))) H) ∨ rIsB x y H Q
abbrev rIsNot : R2 := fun x y H Q => (y = .non ∧ Q (.bl (!decide (x = .non))) H) ∨ rNotB x y H Q
section
variable {K : PySem.W.Frag}
theorem ok_cIs : BinOk K rIs cIs := by
  intro M H x y d vx vy Q hM hx hy e q
  cases y with
  | non =>
    simp only [cIs] at e
    cases e
    refine .inl ⟨hy.inv_non, ?_⟩
    rw [dec_non hx]
    exact q _ H (Same.refl H) rep_bl
  | bl b => cases x with
    | bl a =>
      simp only [cIs] at e
      cases e
      exact .inr ⟨a, b, hx.inv_bl, hy.inv_bl, q _ H (Same.refl H) rep_bl⟩
    | _ => simp only [cIs, reduceCtorEq] at e
  | _ => cases x <;> simp only [cIs, reduceCtorEq] at e
theorem ok_cIsNot : BinOk K rIsNot cIsNot := by
  intro M H x y d vx vy Q hM hx hy e q
  cases y with
  | non =>
    simp only [cIsNot] at e
    cases e
    refine .inl ⟨hy.inv_non, ?_⟩
    rw [dec_non hx]
    exact q _ H (Same.refl H) rep_bl
  | bl b => cases x with
    | bl a =>
      simp only [cIsNot] at e
      cases e
      exact .inr ⟨a, b, hx.inv_bl, hy.inv_bl, q _ H (Same.refl H) rep_bl⟩
    | _ => simp only [cIsNot, reduceCtorEq] at e
  | _ => cases x <;> simp only [cIsNot, reduceCtorEq] at e
end
/-- a comparison as the rules take it: the operator's rule and its denotation -/
structure CmpOk (X : Cx) (op : CmpOp) (f : D → D → Option D) : Prop where
  ok : ∃ r, OpR X (compareOp op) r ∧ BinOk X.K r f
section
variable {X : Cx} {k : Nat} {a b c e : Expr} {ma mb mc m : ME} {pos : Pos}
theorem c_lt : CmpOk X .Lt cLt := ⟨_, op_lt, ok_cI⟩
theorem c_le : CmpOk X .LtE cLe := ⟨_, op_le, ok_cI⟩
theorem c_gt : CmpOk X .Gt cGt := ⟨_, op_gt, ok_cI⟩
theorem c_ge : CmpOk X .GtE cGe := ⟨_, op_ge, ok_cI⟩
theorem c_eq (hr : Room k X.A) : CmpOk X .Eq cEq := ⟨_, op_eqP hr, ok_cEq⟩
theorem c_ne (hr : Room k X.A) : CmpOk X .NotEq cNe := ⟨_, op_neP hr, ok_cNe⟩
theorem c_in (hr : Room k X.A) : CmpOk X .In cIn := ⟨_, op_inP hr, ok_cIn⟩
theorem c_notIn (hr : Room k X.A) : CmpOk X .NotIn cNotIn := ⟨_, op_notInP hr, ok_cNotIn⟩
theorem c_is : CmpOk X .Is cIs := ⟨_, OpR.or op_isN op_isBl, ok_cIs⟩
theorem c_isNot : CmpOk X .IsNot cIsNot := ⟨_, OpR.or op_notN op_notBl, ok_cIsNot⟩
theorem e_c {op : CmpOp} {f : D → D → Option D} (h : CmpOk X op f) (ha : EE X a ma) (hb : EE X b mb) (hm : behindInMarks op b = false := by rfl) : EE X (.Compare a [op] [b] pos) (d2 f ma mb) :=
  let ⟨_, h1, h2⟩ := h.ok; e_cmp h1 h2 ha hb hm
theorem t_c {op : CmpOp} {f : D → D → Option D} (h : CmpOk X op f) (ha : EE X a ma) (hb : EE X b mb) (hm : behindInMarks op b = false := by rfl) : ET X (.Compare a [op] [b] pos) (dT (d2 f ma mb)) :=
  let ⟨_, h1, h2⟩ := h.ok; t_cmp h1 h2 ha hb hm
theorem e_cc {op op' : CmpOp} {f g : D → D → Option D} (h : CmpOk X op f) (h' : CmpOk X op' g) (ha : EE X a ma) (hb : EE X b mb) (hc : EE X c mc) (hm : lastMarks [op, op'] [b, c] = false := by with_unfolding_all rfl) : EE X (.Compare a [op, op'] [b, c] pos) (dChain f g ma mb mc) :=
  let ⟨_, h1, h2⟩ := h.ok; let ⟨_, h3, h4⟩ := h'.ok; e_chain h1 h2 h3 h4 ha hb hc hm
theorem t_cc {op op' : CmpOp} {f g : D → D → Option D} (h : CmpOk X op f) (h' : CmpOk X op' g) (ha : EE X a ma) (hb : EE X b mb) (hc : EE X c mc) (hm : lastMarks [op, op'] [b, c] = false := by with_unfolding_all rfl) : ET X (.Compare a [op, op'] [b, c] pos) (dT (dChain f g ma mb mc)) :=
  let ⟨_, h1, h2⟩ := h.ok; let ⟨_, h3, h4⟩ := h'.ok; t_chain h1 h2 h3 h4 ha hb hc hm
end

/-! ### calls of built-ins by values -/
def CallOk (K : PySem.W.Frag) (r : List V → Hp → VK → Prop) (f : List D → Option D) : Prop := ∀ (M : List Addr) (H : Hp) (ds : List D) (d : D) (vs : List V) (Q : VK), (∀ m ∈ M, H m ≠ none) → RepL K M H ds vs → f ds = some d →
  (∀ v H', Same H H' → Rep K M H' d v → Q v H') → r vs H Q
def dB (f : List D → Option D) (ma : MA) : ME := bnd ma fun ds => lft (f ds)
theorem callOk_or {K : PySem.W.Frag} {r r' : List V → Hp → VK → Prop} {f g : List D → Option D} (h : CallOk K r f) (h' : CallOk K r' g) : CallOk K (fun xs H Q => r xs H Q ∨ r' xs H Q) (fun ds => (f ds).or (g ds)) := by
  intro M H x d vx Q hM hx e q
  dsimp only at e
  cases h1 : f x with
  | some z =>
    rw [h1] at e
    cases e
    exact .inl (h M H x _ vx Q hM hx h1 q)
  | none =>
    rw [h1] at e
    exact .inr (h' M H x d vx Q hM hx e q)
theorem call_imp {K : PySem.W.Frag} {r : List V → Hp → VK → Prop} {f : List D → Option D} {ma : MA} (hk : CallOk K r f) {σ : L2.St} {H : Hp} {Q : VK} (h : tD K (dB f ma) σ H Q) : tCB r (tDA K ma) σ H Q := by
  obtain ⟨F, p, ws, env, pot, d, pot', S, e, q⟩ := h
  obtain ⟨ds, pot1, e1, e2⟩ := bnd_inv e
  obtain ⟨e3, rfl⟩ := lft_inv e2
  exact ⟨F, p, ws, env, pot, ds, _, S, e1, fun vs H1 S1 k1 r1 => hk _ H1 ds d vs Q S1.trk r1 e3 fun v H' sm r' => q v H' (S1.same sm) (k1.trans (Keep.same sm)) r'⟩
section
variable {X : Cx} {k : Nat} {a b c e : Expr} {es : List Expr} {ma mb mc m : ME} {mr : MA} {pos p : Pos} {x : Str} {id T : String} {r : List V → Hp → VK → Prop} {f : List D → Option D}
theorem e_callB (hc : CallR X (.builtin id) r) (hk : CallOk X.K r f) (hm : X.mg x = none) (hv : bootBuiltins x = some (.builtin id)) (ha : EA X (e :: es) mr) (hg : Gl X x := by rfl) (hn : x ≠ "__name__" := by decide) (hdb : (x == ("__debug__" : Str)) = false := by decide)
    (he : starEach (e :: es) X.env = (false, eval e X.env) :: starEach es X.env := by rfl) (hpl : (backTo pos (starEach es X.env)).any (·.1) = false := by rfl) : EE X (.Call (.Name x p) (e :: es) [] pos) (dB f mr) :=
  PE.imp (pe_callB hc hg hm hv ha hn hdb he hpl) fun _ _ _ h => call_imp hk h
theorem e_callTy (hc : CallR X (.type T) r) (hk : CallOk X.K r f) (hm : X.mg x = none) (hv : bootBuiltins x = some (.type T)) (ha : EA X (e :: es) mr) (hg : Gl X x := by rfl) (hn : x ≠ "__name__" := by decide) (hdb : (x == ("__debug__" : Str)) = false := by decide)
    (he : starEach (e :: es) X.env = (false, eval e X.env) :: starEach es X.env := by rfl) (hpl : (backTo pos (starEach es X.env)).any (·.1) = false := by rfl) : EE X (.Call (.Name x p) (e :: es) [] pos) (dB f mr) :=
  PE.imp (pe_callTy hc hg hm hv ha hn hdb he hpl) fun _ _ _ h => call_imp hk h
end
/-- len -/
def bLen : List D → Option D
  | [.tup ds] => some (.int ds.length)
  | [.lst ds] => some (.int ds.length)
  | _ => none
def bAbs : List D → Option D
  | [.int i] => some (.int (if i < 0 then -i else i))
  | _ => none
def bInt : List D → Option D
  | [.int i] => some (.int i)
  | [.bl b] => some (.int (if b then 1 else 0))
  | _ => none
def bMin : List D → Option D
  | [.int i, .int j] => some (.int (if j < i then j else i))
  | _ => none
def bMax : List D → Option D
  | [.int i, .int j] => some (.int (if j > i then j else i))
  | _ => none
def blsOf : List D → Option (List Bool)
  | [] => some []
  | .bl b :: ds => (blsOf ds).map (b :: ·)
  | _ => none
def intsOf : List D → Option (List Int)
  | [] => some []
  | .int b :: ds => (intsOf ds).map (b :: ·)
  | _ => none
def bAll : List D → Option D
  | [.lst ds] => (blsOf ds).map fun bs => .bl (bs.all id)
  | _ => none
def bAny : List D → Option D
  | [.lst ds] => (blsOf ds).map fun bs => .bl (bs.any id)
  | _ => none
def bSum : List D → Option D
  | [.lst ds] => (intsOf ds).map fun ns => .int ns.sum
  | _ => none
def bTuple : List D → Option D
  | [.lst ds] => some (.tup ds)
  | [.tup ds] => some (.tup ds)
  | _ => none
section
variable {K : PySem.W.Frag}
theorem RepL.one {M : List Addr} {H : Hp} {d : D} {vs : List V} (h : RepL K M H [d] vs) : ∃ v, vs = [v] ∧ Rep K M H d v := by
  obtain ⟨x, r, rfl, h1, h2⟩ := h.inv_cons
  rw [h2.inv_nil]
  exact ⟨x, rfl, h1⟩
theorem RepL.two {M : List Addr} {H : Hp} {d d' : D} {vs : List V} (h : RepL K M H [d, d'] vs) : ∃ v u, vs = [v, u] ∧ Rep K M H d v ∧ Rep K M H d' u := by
  obtain ⟨x, r, rfl, h1, h2⟩ := h.inv_cons
  obtain ⟨u, rfl, h3⟩ := h2.one
  exact ⟨x, u, rfl, h1, h3⟩
theorem bls_rep {M : List Addr} {H : Hp} : ∀ {ds : List D} {bs : List Bool} {xs : List V}, blsOf ds = some bs → RepL K M H ds xs → xs = bs.map V.bl
  | [], bs, xs, e, h => by cases e; rw [h.inv_nil]; rfl
  | .bl b :: ds, bs, xs, e, h => by
    simp only [blsOf] at e
    cases e1 : blsOf ds with
    | none => rw [e1] at e; cases e
    | some cs =>
      rw [e1] at e
      cases e
      obtain ⟨x, r, rfl, h1, h2⟩ := h.inv_cons
      rw [h1.inv_bl, bls_rep e1 h2]
      rfl
  | .non :: _, _, _, e, _ => by simp only [blsOf, reduceCtorEq] at e
  | .int _ :: _, _, _, e, _ => by simp only [blsOf, reduceCtorEq] at e
  | .str _ :: _, _, _, e, _ => by simp only [blsOf, reduceCtorEq] at e
  | .tup _ :: _, _, _, e, _ => by simp only [blsOf, reduceCtorEq] at e
  | .lst _ :: _, _, _, e, _ => by simp only [blsOf, reduceCtorEq] at e
theorem ints_rep {M : List Addr} {H : Hp} : ∀ {ds : List D} {bs : List Int} {xs : List V}, intsOf ds = some bs → RepL K M H ds xs → xs = bs.map V.int
  | [], bs, xs, e, h => by cases e; rw [h.inv_nil]; rfl
  | .int b :: ds, bs, xs, e, h => by
    simp only [intsOf] at e
    cases e1 : intsOf ds with
    | none => rw [e1] at e; cases e
    | some cs =>
      rw [e1] at e
      cases e
      obtain ⟨x, r, rfl, h1, h2⟩ := h.inv_cons
      rw [h1.inv_int, ints_rep e1 h2]
      rfl
  | .non :: _, _, _, e, _ => by simp only [intsOf, reduceCtorEq] at e
  | .bl _ :: _, _, _, e, _ => by simp only [intsOf, reduceCtorEq] at e
  | .str _ :: _, _, _, e, _ => by simp only [intsOf, reduceCtorEq] at e
  | .tup _ :: _, _, _, e, _ => by simp only [intsOf, reduceCtorEq] at e
  | .lst _ :: _, _, _, e, _ => by simp only [intsOf, reduceCtorEq] at e
theorem ok_bLen : CallOk K (fun xs H Q => ∃ p ys, xs = [.ref p] ∧ (SqL K H p ys ∨ SqT K H p ys) ∧ Q (.int ys.length) H) bLen := by
  intro M H ds d vs Q hM h e q
  match ds, e with
  | [.tup es], e =>
    cases e
    obtain ⟨v, rfl, h1⟩ := h.one
    obtain ⟨a, xs, rfl, h2, h3⟩ := h1.inv_tup
    exact ⟨a, xs, rfl, .inr h2.sq, by rw [h3.length]; exact q _ H (Same.refl H) rep_int⟩
  | [.lst es], e =>
    cases e
    obtain ⟨v, rfl, h1⟩ := h.one
    obtain ⟨a, xs, rfl, h2, h3⟩ := h1.inv_lst
    exact ⟨a, xs, rfl, .inl h2.sq, by rw [h3.length]; exact q _ H (Same.refl H) rep_int⟩
theorem ok_bAbs : CallOk K (fun xs H Q => ∃ i, xs = [.int i] ∧ Q (.int (if i < 0 then -i else i)) H) bAbs := by
  intro M H ds d vs Q hM h e q
  match ds, e with
  | [.int i], e =>
    cases e
    obtain ⟨v, rfl, h1⟩ := h.one
    exact ⟨i, by rw [h1.inv_int], q _ H (Same.refl H) rep_int⟩
theorem ok_bInt : CallOk K (fun xs H Q => (∃ i, xs = [.int i] ∧ Q (.int i) H) ∨ ∃ k, xs = [.bl k] ∧ Q (.int (if k then 1 else 0)) H) bInt := by
  intro M H ds d vs Q hM h e q
  match ds, e with
  | [.int i], e =>
    cases e
    obtain ⟨v, rfl, h1⟩ := h.one
    exact .inl ⟨i, by rw [h1.inv_int], q _ H (Same.refl H) rep_int⟩
  | [.bl b], e =>
    cases e
    obtain ⟨v, rfl, h1⟩ := h.one
    exact .inr ⟨b, by rw [h1.inv_bl], q _ H (Same.refl H) rep_int⟩
theorem ok_bMin : CallOk K (fun xs H Q => ∃ i j, xs = [.int i, .int j] ∧ Q (.int (if j < i then j else i)) H) bMin := by
  intro M H ds d vs Q hM h e q
  match ds, e with
  | [.int i, .int j], e =>
    cases e
    obtain ⟨v, u, rfl, h1, h2⟩ := h.two
    exact ⟨i, j, by rw [h1.inv_int, h2.inv_int], q _ H (Same.refl H) rep_int⟩
theorem ok_bMax : CallOk K (fun xs H Q => ∃ i j, xs = [.int i, .int j] ∧ Q (.int (if j > i then j else i)) H) bMax := by
  intro M H ds d vs Q hM h e q
  match ds, e with
  | [.int i, .int j], e =>
    cases e
    obtain ⟨v, u, rfl, h1, h2⟩ := h.two
    exact ⟨i, j, by rw [h1.inv_int, h2.inv_int], q _ H (Same.refl H) rep_int⟩
theorem ok_bAll : CallOk K (rAll K) bAll := by
  intro M H ds d vs Q hM h e q
  match ds, e with
  | [.lst es], e =>
    simp only [bAll] at e
    cases e1 : blsOf es with
    | none => rw [e1] at e; cases e
    | some bs =>
      rw [e1] at e
      cases e
      obtain ⟨v, rfl, h1⟩ := h.one
      obtain ⟨a, xs, rfl, h2, h3⟩ := h1.inv_lst
      rw [bls_rep e1 h3] at h2
      exact ⟨a, bs, rfl, h2.sq, q _ H (Same.refl H) rep_bl⟩
theorem ok_bAny : CallOk K (rAny K) bAny := by
  intro M H ds d vs Q hM h e q
  match ds, e with
  | [.lst es], e =>
    simp only [bAny] at e
    cases e1 : blsOf es with
    | none => rw [e1] at e; cases e
    | some bs =>
      rw [e1] at e
      cases e
      obtain ⟨v, rfl, h1⟩ := h.one
      obtain ⟨a, xs, rfl, h2, h3⟩ := h1.inv_lst
      rw [bls_rep e1 h3] at h2
      exact ⟨a, bs, rfl, h2.sq, q _ H (Same.refl H) rep_bl⟩
theorem ok_bSum : CallOk K (rSum K) bSum := by
  intro M H ds d vs Q hM h e q
  match ds, e with
  | [.lst es], e =>
    simp only [bSum] at e
    cases e1 : intsOf es with
    | none => rw [e1] at e; cases e
    | some bs =>
      rw [e1] at e
      cases e
      obtain ⟨v, rfl, h1⟩ := h.one
      obtain ⟨a, xs, rfl, h2, h3⟩ := h1.inv_lst
      rw [ints_rep e1 h3] at h2
      exact ⟨a, bs, rfl, h2.sq, q _ H (Same.refl H) rep_int⟩
theorem ok_bTuple : CallOk K (fun xs H Q => ∃ p ys, xs = [.ref p] ∧ ((SqL K H p ys ∧ ∀ l, H l = none → Q (.ref l) (upd H l (.tup ys))) ∨ (SqT K H p ys ∧ Q (.ref p) H))) bTuple := by
  intro M H ds d vs Q hM h e q
  match ds, e with
  | [.tup es], e =>
    cases e
    obtain ⟨v, rfl, h1⟩ := h.one
    obtain ⟨a, xs, rfl, h2, h3⟩ := h1.inv_tup
    exact ⟨a, xs, rfl, .inr ⟨h2.sq, q _ H (Same.refl H) h1⟩⟩
  | [.lst es], e =>
    cases e
    obtain ⟨v, rfl, h1⟩ := h.one
    obtain ⟨a, xs, rfl, h2, h3⟩ := h1.inv_lst
    exact ⟨a, xs, rfl, .inl ⟨h2.sq, fun l nl => q _ _ (same_upd nl) (rep_tup_new nl hM h3)⟩⟩
end
section
variable {X : Cx} {k : Nat} {a b c e : Expr} {es : List Expr} {ma mb mc m : ME} {mr : MA} {pos p : Pos}
theorem e_len (hm : X.mg "len" = none) (ha : EE X a ma) (hg : Gl X "len" := by rfl) (na : starEach [a] X.env = (false, eval a X.env) :: starEach [] X.env := by rfl) : EE X (.Call (.Name "len" p) [a] [] pos) (dB bLen (aCons ma aNil)) :=
  e_callB call_len_seq ok_bLen hm PySem.boot_len (a_cons ha a_nil na) hg (he := na)
theorem e_abs (hm : X.mg "abs" = none) (ha : EE X a ma) (hg : Gl X "abs" := by rfl) (na : starEach [a] X.env = (false, eval a X.env) :: starEach [] X.env := by rfl) : EE X (.Call (.Name "abs" p) [a] [] pos) (dB bAbs (aCons ma aNil)) :=
  e_callB call_abs ok_bAbs hm (by decide +kernel) (a_cons ha a_nil na) hg (he := na)
theorem e_toInt (hm : X.mg "int" = none) (ha : EE X a ma) (hg : Gl X "int" := by rfl) (na : starEach [a] X.env = (false, eval a X.env) :: starEach [] X.env := by rfl) : EE X (.Call (.Name "int" p) [a] [] pos) (dB bInt (aCons ma aNil)) :=
  e_callTy call_int1 ok_bInt hm (by decide +kernel) (a_cons ha a_nil na) hg (he := na)
theorem e_all (hc : X.calm = true) (hm : X.mg "all" = none) (ha : EE X a ma) (hg : Gl X "all" := by rfl) (na : starEach [a] X.env = (false, eval a X.env) :: starEach [] X.env := by rfl) : EE X (.Call (.Name "all" p) [a] [] pos) (dB bAll (aCons ma aNil)) :=
  e_callB (cr_all hc) ok_bAll hm (by decide +kernel) (a_cons ha a_nil na) hg (he := na)
theorem e_any (hc : X.calm = true) (hm : X.mg "any" = none) (ha : EE X a ma) (hg : Gl X "any" := by rfl) (na : starEach [a] X.env = (false, eval a X.env) :: starEach [] X.env := by rfl) : EE X (.Call (.Name "any" p) [a] [] pos) (dB bAny (aCons ma aNil)) :=
  e_callB (cr_any hc) ok_bAny hm (by decide +kernel) (a_cons ha a_nil na) hg (he := na)
theorem e_sum (hc : X.calm = true) (hm : X.mg "sum" = none) (ha : EE X a ma) (hg : Gl X "sum" := by rfl) (na : starEach [a] X.env = (false, eval a X.env) :: starEach [] X.env := by rfl) : EE X (.Call (.Name "sum" p) [a] [] pos) (dB bSum (aCons ma aNil)) :=
  e_callB (cr_sum hc) ok_bSum hm (by decide +kernel) (a_cons ha a_nil na) hg (he := na)
theorem e_tuple (hm : X.mg "tuple" = none) (ha : EE X a ma) (hg : Gl X "tuple" := by rfl) (na : starEach [a] X.env = (false, eval a X.env) :: starEach [] X.env := by rfl) : EE X (.Call (.Name "tuple" p) [a] [] pos) (dB bTuple (aCons ma aNil)) :=
  e_callTy call_tuple_of ok_bTuple hm (by decide +kernel) (a_cons ha a_nil na) hg (he := na)
theorem e_min2 (hc : X.calm = true) (hm : X.mg "min" = none) (ha : EE X a ma) (hb : EE X b mb) (hg : Gl X "min" := by rfl) (na : starEach [a, b] X.env = (false, eval a X.env) :: starEach [b] X.env := by rfl) (nb : starEach [b] X.env = (false, eval b X.env) :: starEach [] X.env := by rfl)
    (hpl : (backTo pos (starEach [b] X.env)).any (·.1) = false := by rfl) : EE X (.Call (.Name "min" p) [a, b] [] pos) (dB bMin (aCons ma (aCons mb aNil))) :=
  e_callB (call_min2 hc) ok_bMin hm (by decide +kernel) (a_cons ha (a_cons hb a_nil nb) na) hg (he := na) (hpl := hpl)
theorem e_max2 (hc : X.calm = true) (hm : X.mg "max" = none) (ha : EE X a ma) (hb : EE X b mb) (hg : Gl X "max" := by rfl) (na : starEach [a, b] X.env = (false, eval a X.env) :: starEach [b] X.env := by rfl) (nb : starEach [b] X.env = (false, eval b X.env) :: starEach [] X.env := by rfl)
    (hpl : (backTo pos (starEach [b] X.env)).any (·.1) = false := by rfl) : EE X (.Call (.Name "max" p) [a, b] [] pos) (dB bMax (aCons ma (aCons mb aNil))) :=
  e_callB (call_max2 hc) ok_bMax hm (by decide +kernel) (a_cons ha (a_cons hb a_nil nb) na) hg (he := na) (hpl := hpl)
end
end DL
set_option Elab.async false
set_option linter.all false
set_option maxRecDepth 100000
set_option maxHeartbeats 4000000
/-! The data layer, part 4: what is walked. -/
namespace DL
open PySem PySem.Spec PyProof.Rows L2

/-! ### zip and enumerate over lists and tuples in any mix -/
inductive Kd where
  | l | t
def SqK (κ : Kd) (K : PySem.W.Frag) (H : Hp) (a : Addr) (xs : List V) : Prop := match κ with
  | .l => SqL K H a xs
  | .t => SqT K H a xs
def ItK (κ : Kd) (h : Heap) (it a : Addr) (i : Nat) : Prop := match κ with
  | .l => h.IsListIter it a i
  | .t => h.IsTupleIter it a i
def ObK (κ : Kd) (h : Heap) (a : Addr) (its : Array Value) : Prop := match κ with
  | .l => h.IsList a its
  | .t => h.IsTuple a its
def iterO (κ : Kd) (a : Addr) : Obj := match κ with
  | .l => { cls := .type "list_iterator", data := .fields #[.ref a, .int 0 0] }
  | .t => { cls := .type "tuple_iterator", data := .fields #[.ref a, .int 0 0] }
section
variable {X : Cx} {pins : List (Addr × Obj)} {σ : L2.St} {H : Hp} {s : Shared} {a : Addr} {xs ys : List V} {κ : Kd}
theorem Inv.sqk (I : Inv X pins σ H s) (h : SqK κ X.K H a xs) : ∃ its : List Value, Vals xs its ∧ ObK κ s.heap a its.toArray ∧ a < s.heap.objs.size := by
  cases κ with
  | l =>
    obtain ⟨its, rv, p, _⟩ := I.list h
    exact ⟨its, rv, p.isList, p.lt⟩
  | t =>
    obtain ⟨its, rv, p, _⟩ := I.tuple h
    obtain ⟨o, ho, _⟩ := id p
    exact ⟨its, rv, p, Heap.lt_size ho⟩
theorem Inv.sqk_inj (I : Inv X pins σ H s) (h : SqK κ X.K H a xs) (h' : SqK κ X.K H a ys) : xs = ys := by
  cases κ with
  | l => exact I.list_inj h h'
  | t => exact I.tuple_inj h h'
end
theorem drawsK {prog : Program} {w : World} {A : Around} (hh : A.handled = none) (κ : Kd) (it a : Addr) (hne : a ≠ it) (its : Array Value) :
    Draws prog w A it [it, a] its.size (fun i v => its[i]? = some v) (fun i h => ItK κ h it a i ∧ ObK κ h a its) := by
  cases κ with
  | l => exact Draws.list hh it a hne its
  | t => exact Draws.tuple hh it a hne its
theorem beginsK (κ : Kd) (a : Addr) (its : Array Value) : Begins (.ref a) (iterO κ a) fun h => ObK κ h a its := by
  cases κ with
  | l => exact begins_list a its
  | t => exact begins_tuple a its
theorem ItK.at {κ : Kd} {h h' : Heap} {it a : Addr} {i : Nat} (x : ItK κ h it a i) (k : ∀ o, h.get? it = some o → h'.get? it = some o) : ItK κ h' it a i := by
  cases κ with
  | l => exact Heap.IsListIter.at x k
  | t => exact Heap.IsTupleIter.at x k
theorem ItK.obj {κ : Kd} {h : Heap} {it a : Addr} {i : Nat} (x : ItK κ h it a i) : ∃ o, h.get? it = some o ∧ ∀ v, o.data ≠ .cell v := by
  cases κ with
  | l => obtain ⟨o, e, _, d⟩ := x; exact ⟨o, e, fun v z => by rw [d] at z; cases z⟩
  | t => obtain ⟨o, e, _, d⟩ := x; exact ⟨o, e, fun v z => by rw [d] at z; cases z⟩
theorem itK_new {κ : Kd} {h : Heap} {it a : Addr} (e : h.get? it = some (iterO κ a)) : ItK κ h it a 0 := by
  cases κ with
  | l => exact ⟨_, e, rfl, rfl⟩
  | t => exact ⟨_, e, rfl, rfl⟩
/-- the i-th items of what stands at a and at b, in a new pair -/
def ItzM (K : PySem.W.Frag) (κ1 κ2 : Kd) (a b : Addr) : It :=
  ⟨fun i H => ∃ (xs ys : List V), SqK κ1 K H a xs ∧ SqK κ2 K H b ys ∧ i < min xs.length ys.length,
    fun i H v H' => ∃ T x y, v = .ref T ∧ H T = none ∧ H' = upd H T (.tup [x, y]) ∧ (∀ xs, SqK κ1 K H a xs → xs[i]? = some x) ∧ ∀ ys, SqK κ2 K H b ys → ys[i]? = some y,
    fun i H => ∃ xs ys : List V, SqK κ1 K H a xs ∧ SqK κ2 K H b ys ∧ i = min xs.length ys.length⟩
theorem turn_zipM {P : Program} {w : World} {K : PySem.W.Frag} {κ1 κ2 : Kd} {elts : List Expr} {kk : Nat} {tpos : Pos} {a b z TI TO i1 i2 : Addr} (S : ZipSep2 z TI TO i1 i2 [i1, a] [i2, b]) (n1 : a ≠ i1) (n2 : b ≠ i2) :
    Turn P w K (.Tuple elts kk tpos) (ItzM K κ1 κ2 a b) [z, TI, TO, i1, i2] z (fun i h => IsZip h z TI TO .none ∧ IsTupOf2 h TI (.ref i1) (.ref i2) ∧ (∃ x y, IsTupOf2 h TO x y) ∧ ItK κ1 h i1 a i ∧ ItK κ2 h i2 b i) where
  mem := by simp
  obj := fun i h st c hc => by
    obtain ⟨hz, hTI, ⟨x, y, hTO⟩, h1, h2⟩ := st
    have e' : c = z ∨ c = TI ∨ c = TO ∨ c = i1 ∨ c = i2 := by simpa using hc
    rcases e' with q | q | q | q | q
    · rw [q]; exact ⟨_, hz, fun v q => nomatch q⟩
    · rw [q]; exact ⟨_, hTI, fun v q => nomatch q⟩
    · rw [q]; exact ⟨_, hTO, fun v q => nomatch q⟩
    · rw [q]; exact h1.obj
    · rw [q]; exact h2.obj
  keep := fun i h h' st k => by
    obtain ⟨hz, hTI, ⟨x, y, hTO⟩, h1, h2⟩ := st
    exact ⟨k z (by simp) _ hz, k TI (by simp) _ hTI, ⟨x, y, k TO (by simp) _ hTO⟩, h1.at fun o q => k i1 (by simp) o q, h2.at fun o q => k i2 (by simp) o q⟩
  item := by
    intro X hP hw hK hc i pins s σ H E I hf st hg
    subst hP hw hK
    obtain ⟨hz, hTI, hTO, h1, h2⟩ := st
    obtain ⟨xs, ys, hqx, hqy, hlt⟩ := hg
    obtain ⟨its, rv, p, _⟩ := Inv.sqk I hqx
    obtain ⟨its2, rv2, p2, _⟩ := Inv.sqk I hqy
    have hh : X.A.in1.handled = none := I.ok.hd hc
    have G := GoesN.zip2 (elts := elts) (x1 := kk) (pos := tpos) S (drawsK (prog := X.prog) (w := X.w) (A := X.A.in1) hh κ1 i1 a n1 its.toArray) (drawsK (prog := X.prog) (w := X.w) (A := X.A.in1) hh κ2 i2 b n2 its2.toArray)
    have l1 := rv.length
    have l2 := rv2.length
    refine G.goes i s (fun v s2 => ∃ x H', Inv X pins σ H' s2 ∧ RelV x v ∧ (ItzM X.K κ1 κ2 a b).yld i H x H' ∧ (IsZip s2.heap z TI TO .none ∧ IsTupOf2 s2.heap TI (.ref i1) (.ref i2) ∧ (∃ x y, IsTupOf2 s2.heap TO x y) ∧ ItK κ1 s2.heap i1 a (i + 1) ∧ ItK κ2 s2.heap i2 b (i + 1)) ∧ ∀ b ∈ [z, TI, TO, i1, i2], H' b = none) E (by simp; omega) ⟨hz, hTI, hTO, ⟨h1, p⟩, ⟨h2, p2⟩⟩ fun v h' tk hY st' hk htk => ?_
    obtain ⟨T, u, u2, rfl, hT, hu, hu2, hTT⟩ := hY
    obtain ⟨z1, z2, z3, ⟨z4, _⟩, ⟨z5, _⟩⟩ := st'
    have hi1 : i < xs.length := by omega
    have hi2 : i < ys.length := by omega
    have hx : xs[i]? = some xs[i] := List.getElem?_eq_getElem hi1
    have hy : ys[i]? = some ys[i] := List.getElem?_eq_getElem hi2
    obtain ⟨u', hu', ru⟩ := rv.get hx
    obtain ⟨u2', hu2', ru2⟩ := rv2.get hy
    have e1 : u = u' := by
      have : its[i]? = some u := by simpa using hu
      rw [this] at hu'
      exact Option.some.inj hu'
    have e2 : u2 = u2' := by
      have : its2[i]? = some u2 := by simpa using hu2
      rw [this] at hu2'
      exact Option.some.inj hu2'
    subst e1 e2
    have new : ObjOk X.prog X.w (upd H T (.tup [xs[i], ys[i]])) h' T (.tup [xs[i], ys[i]]) := ⟨by show 2 ≤ sizeLine; decide, [u, u2], .cons ru (.cons ru2 .nil), hTT⟩
    have I1 : Inv X pins σ (upd H T (.tup [xs[i], ys[i]])) { s with heap := h', toks := tk } :=
      I.turnedNew (ch := [z, TI, TO, i1, i2]) (fun c o hb q => hk c o (fun q' => hb (by simp at q' ⊢; rcases q' with q' | q' | q' | q' <;> simp [q'])) q) hf hT new
    refine ⟨.ref T, _, I1, rfl, ⟨T, _, _, rfl, I.hok.fresh hT, rfl, fun l hl => by rw [Inv.sqk_inj I hl hqx]; exact hx, fun l hl => by rw [Inv.sqk_inj I hl hqy]; exact hy⟩, ⟨z1, z2, z3, z4, z5⟩, fun c hcm => ?_⟩
    have hlt' : c < s.heap.objs.size := by
      have e' : c = z ∨ c = TI ∨ c = TO ∨ c = i1 ∨ c = i2 := by simpa using hcm
      obtain ⟨x0, y0, hTO'⟩ := hTO
      rcases e' with q | q | q | q | q
      · rw [q]; exact Heap.lt_size hz
      · rw [q]; exact Heap.lt_size hTI
      · rw [q]; exact Heap.lt_size hTO'
      · rw [q]; obtain ⟨_, e1, _⟩ := h1.obj; exact Heap.lt_size e1
      · rw [q]; obtain ⟨_, e2, _⟩ := h2.obj; exact Heap.lt_size e2
    rw [upd_ne (Nat.ne_of_lt (Nat.lt_of_lt_of_le hlt' hT))]
    exact (hf c hcm).1
  done := by
    intro X hP hw hK hc i pins s σ H E I hf st hg
    subst hP hw hK
    obtain ⟨hz, hTI, hTO, h1, h2⟩ := st
    obtain ⟨xs, ys, hqx, hqy, hend⟩ := hg
    obtain ⟨its, rv, p, _⟩ := Inv.sqk I hqx
    obtain ⟨its2, rv2, p2, _⟩ := Inv.sqk I hqy
    have hh : X.A.in1.handled = none := I.ok.hd hc
    have G := GoesN.zip2 (elts := elts) (x1 := kk) (pos := tpos) S (drawsK (prog := X.prog) (w := X.w) (A := X.A.in1) hh κ1 i1 a n1 its.toArray) (drawsK (prog := X.prog) (w := X.w) (A := X.A.in1) hh κ2 i2 b n2 its2.toArray)
    have l1 := rv.length
    have l2 := rv2.length
    have ei : i = min its.toArray.size its2.toArray.size := by rw [hend]; simp; omega
    subst ei
    refine G.stops s (fun s1 => Inv X pins σ H s1) E ⟨hz, hTI, hTO, ⟨h1, p⟩, ⟨h2, p2⟩⟩ fun h' tk hk htk => ?_
    exact I.turnedL (ch := [z, TI, TO, i1, i2]) (fun c o hb q => hk c o (fun q' => hb (by simp at q' ⊢; rcases q' with q' | q' | q' | q' <;> simp [q'])) q) hf
  self := fun A i s Q E st h => wpAny_pyIter_zip st.1 h
def ItE (K : PySem.W.Frag) (κ : Kd) (a : Addr) : It :=
  ⟨fun i H => ∃ (xs : List V), SqK κ K H a xs ∧ i < xs.length,
    fun i H v H' => ∃ T x, v = .ref T ∧ H T = none ∧ H' = upd H T (.tup [.int (i : Nat), x]) ∧ ∀ xs, SqK κ K H a xs → xs[i]? = some x,
    fun i H => ∃ xs : List V, SqK κ K H a xs ∧ i = xs.length⟩
theorem turn_enumM {P : Program} {w : World} {K : PySem.W.Frag} {κ : Kd} {elts : List Expr} {kk : Nat} {tpos : Pos} (a e it : Addr) (n1 : a ≠ it) (hei : e ≠ it) (hea : e ≠ a) :
    Turn P w K (.Tuple elts kk tpos) (ItE K κ a) [e, it] e (fun i h => (∃ old, IsEnum h e it (0 + (i : Int)) old) ∧ ItK κ h it a i) where
  mem := by simp
  obj := fun i h st c hc => by
    obtain ⟨⟨old, he⟩, h1⟩ := st
    have e' : c = e ∨ c = it := by simpa using hc
    rcases e' with q | q
    · rw [q]; exact ⟨_, he, fun v q => nomatch q⟩
    · rw [q]; exact h1.obj
  keep := fun i h h' st k => by
    obtain ⟨⟨old, he⟩, h1⟩ := st
    exact ⟨⟨old, k e (by simp) _ he⟩, h1.at fun o q => k it (by simp) o q⟩
  item := by
    intro X hP hw hK hc i pins s σ H E I hf st hg
    subst hP hw hK
    obtain ⟨hE, h1⟩ := st
    obtain ⟨xs, hqx, hlt⟩ := hg
    obtain ⟨its, rv, p, _⟩ := Inv.sqk I hqx
    have hh : X.A.in1.handled = none := I.ok.hd hc
    have G := GoesN.enumFrom (elts := elts) (x1 := kk) (pos := tpos) 0 (drawsK (prog := X.prog) (w := X.w) (A := X.A.in1) hh κ it a n1 its.toArray) e hei (by simp [hei, hea]) (by simp)
    have l1 := rv.length
    refine G.goes i s (fun v s2 => ∃ x H', Inv X pins σ H' s2 ∧ RelV x v ∧ (ItE X.K κ a).yld i H x H' ∧ ((∃ old, IsEnum s2.heap e it (0 + ((i + 1 : Nat) : Int)) old) ∧ ItK κ s2.heap it a (i + 1)) ∧ ∀ b ∈ [e, it], H' b = none) E (by simp; omega) ⟨hE, h1, p⟩ fun v h' tk hY st' hk htk => ?_
    obtain ⟨T, t, u, rfl, hT, hu, hTT⟩ := hY
    obtain ⟨z1, z4, _⟩ := st'
    have hx : xs[i]? = some xs[i] := List.getElem?_eq_getElem hlt
    obtain ⟨u', hu', ru⟩ := rv.get hx
    have e1 : u = u' := by
      have : its[i]? = some u := by simpa using hu
      rw [this] at hu'
      exact Option.some.inj hu'
    subst e1
    have new : ObjOk X.prog X.w (upd H T (.tup [.int (i : Nat), xs[i]])) h' T (.tup [.int (i : Nat), xs[i]]) := ⟨by show 2 ≤ sizeLine; decide, [.int (0 + (i : Int)) t, u], .cons ⟨t, by rw [Int.zero_add]⟩ (.cons ru .nil), hTT⟩
    have I1 : Inv X pins σ (upd H T (.tup [.int (i : Nat), xs[i]])) { s with heap := h', toks := tk } :=
      I.turnedNew (ch := [e, it]) (fun c o hb q => hk c o hb q) hf hT new
    refine ⟨.ref T, _, I1, rfl, ⟨T, _, rfl, I.hok.fresh hT, rfl, fun l hl => by rw [Inv.sqk_inj I hl hqx]; exact hx⟩, ⟨z1, z4⟩, fun c hcm => ?_⟩
    have hlt' : c < s.heap.objs.size := by
      have e' : c = e ∨ c = it := by simpa using hcm
      obtain ⟨old, hE'⟩ := hE
      rcases e' with q | q
      · rw [q]; exact Heap.lt_size hE'
      · rw [q]; obtain ⟨_, e1, _⟩ := h1.obj; exact Heap.lt_size e1
    rw [upd_ne (Nat.ne_of_lt (Nat.lt_of_lt_of_le hlt' hT))]
    exact (hf c hcm).1
  done := by
    intro X hP hw hK hc i pins s σ H E I hf st hg
    subst hP hw hK
    obtain ⟨hE, h1⟩ := st
    obtain ⟨xs, hqx, hend⟩ := hg
    obtain ⟨its, rv, p, _⟩ := Inv.sqk I hqx
    have hh : X.A.in1.handled = none := I.ok.hd hc
    have G := GoesN.enumFrom (elts := elts) (x1 := kk) (pos := tpos) 0 (drawsK (prog := X.prog) (w := X.w) (A := X.A.in1) hh κ it a n1 its.toArray) e hei (by simp [hei, hea]) (by simp)
    have l1 := rv.length
    have ei : i = its.toArray.size := by rw [hend]; simp; omega
    subst ei
    refine G.stops s (fun s1 => Inv X pins σ H s1) E ⟨hE, h1, p⟩ fun h' tk hk htk => ?_
    exact I.turnedL (ch := [e, it]) (fun c o hb q => hk c o hb q) hf
  self := fun A i s Q E st h => let ⟨⟨_, he⟩, _⟩ := st; wpAny_pyIter_enum he h
section
variable {X : Cx} {e e2 : Expr} {ta : TA} {p pos tpos : Pos} {elts : List Expr} {kk : Nat}
def iZipM (K : PySem.W.Frag) (ta : TA) : TI := fun σ H R => ta σ H fun vs H1 => ∃ κ1 κ2 a b xs ys, vs = [.ref a, .ref b] ∧ SqK κ1 K H1 a xs ∧ SqK κ2 K H1 b ys ∧ R (ItzM K κ1 κ2 a b) H1
theorem pi_zipM (hg : Gl X "zip") (hm : X.mg "zip" = none) (ha : PA X [e, e2] ta)
    (hs : starEach [e, e2] X.env = (false, eval e X.env) :: starEach [e2] X.env := by rfl) (hpl : (backTo pos (starEach [e2] X.env)).any (·.1) = false := by rfl) :
    PI X (.Tuple elts kk tpos) (.Call (.Name "zip" p) [e, e2] [] pos) (iZipM X.K ta) := by
  refine ⟨fun pins s σ H R I h => ?_⟩
  refine Call_ (ld_blt I hg hm PyProof.Rows.boot_zip (PyProof.Rows.callWith_type1 (thn (ha.run pos pins s σ H _ I h) fun us s1 ⟨vs, H1, I1, r1, q1⟩ => ?_) hs hpl))
  obtain ⟨κ1, κ2, a, b, xs, ys, ex, hqx, hqy, q⟩ := q1
  subst ex
  cases r1 with
  | cons r rr =>
    cases rr with
    | cons r' rr =>
      cases rr
      cases r
      cases r'
      obtain ⟨its, rv, p1, hl1⟩ := Inv.sqk I1 hqx
      obtain ⟨its2, rv2, p2, hl2⟩ := Inv.sqk I1 hqy
      refine zip_begins2 (beginsK κ1 a its.toArray) (beginsK κ2 b its2.toArray) p1 p2 fun h' hz hTI hTO h1 h2 hsz hk => wpAny_pyIter_zip hz ?_
      have I2 : Inv X pins σ H1 { s1 with heap := h' } := I1.kept (t' := s1.toks) hk
      refine ⟨s1.heap.objs.size + 4, [s1.heap.objs.size + 4, s1.heap.objs.size + 2, s1.heap.objs.size + 3, s1.heap.objs.size, s1.heap.objs.size + 1], _, _, H1, rfl, I2,
        turn_zipM (zip_sep2 (N := s1.heap.objs.size) (fp1 := [a]) (fp2 := [b]) (fun c hc => by rw [List.mem_singleton.mp hc]; exact hl1) (fun c hc => by rw [List.mem_singleton.mp hc]; exact hl2)) (Nat.ne_of_lt hl1) (Nat.ne_of_lt (Nat.lt_succ_of_lt hl2)),
        ⟨hz, hTI, ⟨_, _, hTO⟩, itK_new h1, itK_new h2⟩, fun c hcm => ?_, q⟩
      have e' : c = s1.heap.objs.size + 4 ∨ c = s1.heap.objs.size + 2 ∨ c = s1.heap.objs.size + 3 ∨ c = s1.heap.objs.size ∨ c = s1.heap.objs.size + 1 := by simpa using hcm
      have hle : s1.heap.objs.size ≤ c := by
        rcases e' with z | z | z | z | z
        · rw [z]; exact Nat.le_add_right _ _
        · rw [z]; exact Nat.le_add_right _ _
        · rw [z]; exact Nat.le_add_right _ _
        · rw [z]; exact Nat.le_refl _
        · rw [z]; exact Nat.le_add_right _ _
      exact I1.fpOk hle (I1.hok.fresh hle)
end

theorem meets_enum1 {v : Value} {o : Obj} {H : Heap → Prop} (B : Begins v o H) :
    Meets (Builtin.«enumerate.__new__» ⟨[.type "enumerate", v], []⟩) (fun _ R s => H s.heap ∧
      R (.ok (.ret (.ref (s.heap.push o).objs.size))) { s with heap := (s.heap.push o).push { cls := .type "enumerate", data := .fields #[.none, .bool false, .ref s.heap.objs.size, rawInt 0, .none, .none] } }) :=
  .of_wp fun prog w A R s h => by
    obtain ⟨hp, g, d, tk, os⟩ := s; obtain ⟨h1, h⟩ := h
    have hsub := sub_enumerate
    have q1 : ∀ {A' : Around} {E : Value → Shared → Prop} {Q : Value → Shared → Prop}, Q (.ref hp.objs.size) ⟨hp.push o, g, d, tk, os⟩ → wpAny (model prog w) A' (pyIter v) Q E ⟨hp, g, d, tk, os⟩ :=
      fun q => B.iter prog w _ _ ⟨hp, g, d, tk, os⟩ _ h1 q
    wp_walk using q1
    refine wpAny_stack_any fun st => wpAny_pure ?_
    split
    · rename_i c _ _ _ _ _
      cases (c == Value.type "enumerate")
      · wp_walk using q1
        exact ⟨_, rfl, h⟩
      · wp_walk using q1
        exact ⟨_, rfl, h⟩
    · wp_walk using q1
      exact ⟨_, rfl, h⟩
theorem enum1_begins {prog : Program} {w : World} {A : Around} {E : Value → Shared → Prop} {s : Shared} {v : Value} {o : Obj} {H : Heap → Prop} {Q : Value → Shared → Prop} (B : Begins v o H) (h1 : H s.heap)
    (h : ∀ h', IsEnum h' (s.heap.objs.size + 1) s.heap.objs.size 0 .none → h'.get? s.heap.objs.size = some o → h'.objs.size = s.heap.objs.size + 2 →
      (∀ b o, s.heap.get? b = some o → h'.get? b = some o) → Q (.ref (s.heap.objs.size + 1)) { s with heap := h' }) :
    wpAny (model prog w) A (call (.type "enumerate") [v]) Q E s := by
  refine callType_new F.called_enumerate (by decide) (F.typeCall_enumerate_1 _) (F.newCall_enumerate_1 _) (fun obj => F.args_object_init_2 obj _) F.entry_enumerate_new
    (meets_enum1 B) ⟨h1, ?_⟩
  have hz : (s.heap.push o).objs.size = s.heap.objs.size + 1 := Heap.size_push ..
  show _ ∧ _
  rw [hz]
  have he : IsEnum ((s.heap.push o).push { cls := .type "enumerate", data := .fields #[.none, .bool false, .ref s.heap.objs.size, rawInt 0, .none, .none] }) (s.heap.objs.size + 1) s.heap.objs.size 0 .none := by
    have := Heap.get?_push_size (s.heap.push o) (o := { cls := .type "enumerate", data := .fields #[.none, .bool false, .ref s.heap.objs.size, rawInt 0, .none, .none] }) rfl
    rw [hz] at this; exact this
  refine ⟨⟨_, he, rfl⟩, h _ he (Heap.get?_push_of_some _ (Heap.get?_push_size _ B.free)) (by rw [Heap.size_push, hz]) fun b o x => Heap.get?_push_of_some _ (Heap.get?_push_of_some _ x)⟩
section
variable {X : Cx} {e e2 : Expr} {ta : TA} {p pos tpos : Pos} {elts : List Expr} {kk : Nat}
def iEnumM (K : PySem.W.Frag) (ta : TA) : TI := fun σ H R => ta σ H fun vs H1 => ∃ κ a xs, vs = [.ref a] ∧ SqK κ K H1 a xs ∧ R (ItE K κ a) H1
theorem pi_enumM (hg : Gl X "enumerate") (hm : X.mg "enumerate" = none) (ha : PA X [e] ta) (hs : starEach [e] X.env = [(false, eval e X.env)] := by rfl) :
    PI X (.Tuple elts kk tpos) (.Call (.Name "enumerate" p) [e] [] pos) (iEnumM X.K ta) := by
  refine ⟨fun pins s σ H R I h => ?_⟩
  refine Call_ (ld_blt I hg hm PyProof.Rows.boot_enumerate (PyProof.Rows.callWith_type1 (thn (ha.run pos pins s σ H _ I h) fun us s1 ⟨vs, H1, I1, r1, q1⟩ => ?_) hs rfl))
  obtain ⟨κ, a, xs, ex, hqx, q⟩ := q1
  subst ex
  cases r1 with
  | cons r rr =>
    cases rr
    cases r
    obtain ⟨its, rv, p1, hl1⟩ := Inv.sqk I1 hqx
    refine enum1_begins (beginsK κ a its.toArray) p1 fun h' he h1 hsz hk => wpAny_pyIter_enum he ?_
    have I2 : Inv X pins σ H1 { s1 with heap := h' } := I1.kept (t' := s1.toks) hk
    refine ⟨s1.heap.objs.size + 1, [s1.heap.objs.size + 1, s1.heap.objs.size], _, _, H1, rfl, I2, turn_enumM a (s1.heap.objs.size + 1) s1.heap.objs.size (Nat.ne_of_lt hl1) (Nat.succ_ne_self _) (Nat.ne_of_gt (Nat.lt_succ_of_lt hl1)), ⟨⟨_, by simpa using he⟩, itK_new h1⟩, fun c hcm => ?_, q⟩
    have e' : c = s1.heap.objs.size + 1 ∨ c = s1.heap.objs.size := by simpa using hcm
    have hle : s1.heap.objs.size ≤ c := by
      rcases e' with z | z
      · rw [z]; exact Nat.le_add_right _ _
      · rw [z]; exact Nat.le_refl _
    exact I1.fpOk hle (I1.hok.fresh hle)
end

/-! ### what is walked, by data -/
/-- J gives the data ds: from the heap H0, with M the mutable things of then, whatever is made or changed there in the meantime -/
def ItD (K : PySem.W.Frag) (M : List Addr) (H0 : Hp) (J : It) (ds : List D) : Prop :=
  ∀ (M' : List Addr) (H : Hp), (∀ m ∈ M', m ∈ M ∨ H0 m = none) → (∀ m ∈ M', H m ≠ none) → Keep M' H0 H →
    (∀ i, i < ds.length → J.go i H) ∧ J.stop ds.length H ∧ ∀ i d x H1, ds[i]? = some d → J.yld i H x H1 → Same H H1 ∧ Rep K M' H1 d x
def tI (K : PySem.W.Frag) (mi : MA) : TI := fun σ H R =>
  ∃ F p ws env pot ds pot', SR K F p ws H σ env pot ∧ mi env pot = some (ds, pot') ∧ ∀ J H', SR K F p ws H' σ env pot' → Keep p.toList H H' → ItD K (mset p ws F) H' J ds → R J H'
abbrev EI (X : Cx) (tg e : Expr) (mi : MA) : Prop := PI X tg e (tI X.K mi)
theorem PI.imp {X : Cx} {tg e : Expr} {t t' : TI} (h : PI X tg e t) (i : ∀ σ H R, t' σ H R → t σ H R) : PI X tg e t' := ⟨fun pins s σ H R I hw => h.run pins s σ H R I (i σ H R hw)⟩
section
variable {K : PySem.W.Frag} {M : List Addr} {H0 : Hp} {a b : Addr} {xs ys : List V} {ds es : List D}
/-- of what kind a value is walked -/
def AtK (κ : Kd) (K : PySem.W.Frag) (M : List Addr) (H : Hp) (a : Addr) (xs : List V) : Prop := match κ with
  | .l => LstAt K M H a xs
  | .t => TupAt K M H a xs
theorem AtK.sq {κ : Kd} {H : Hp} (h : AtK κ K M H a xs) : SqK κ K H a xs := by
  cases κ with
  | l => exact LstAt.sq h
  | t => exact TupAt.sq h
theorem AtK.on {κ : Kd} {M' : List Addr} {H : Hp} (h : AtK κ K M H0 a xs) (g : ∀ m ∈ M', m ∈ M ∨ H0 m = none) (k : Keep M' H0 H) : SqK κ K H a xs := by
  cases κ with
  | l => exact ((LstAt.grow g h).keep k fun _ z => z).sq
  | t => exact ((TupAt.grow g h).keep k fun _ z => z).sq
theorem items_at {x : D} {v : V} (h : Rep K M H0 x v) (e : items x = some ds) : ∃ κ a xs, v = .ref a ∧ AtK κ K M H0 a xs ∧ RepL K M H0 ds xs := by
  cases x with
  | tup es => cases e; obtain ⟨a, xs, e1, h1, h2⟩ := h.inv_tup; exact ⟨.t, a, xs, e1, h1, h2⟩
  | lst es => cases e; obtain ⟨a, xs, e1, h1, h2⟩ := h.inv_lst; exact ⟨.l, a, xs, e1, h1, h2⟩
  | _ => cases e
theorem RepL.on {M' : List Addr} {H : Hp} (h : RepL K M H0 ds xs) (g : ∀ m ∈ M', m ∈ M ∨ H0 m = none) (k : Keep M' H0 H) : RepL K M' H ds xs := RepL.keep k (fun _ z => z) ds xs (RepL.grow g ds xs h)
theorem itD_list (h : LstAt K M H0 a xs) (r : RepL K M H0 ds xs) : ItD K M H0 (Itl K a) ds := by
  intro M' H g tr k
  have hs : SqL K H a xs := AtK.on (κ := .l) h g k
  have rr := RepL.on r g k
  have l := r.length
  refine ⟨fun i hi => ⟨xs, xs[i]'(by omega), hs, List.getElem?_eq_getElem _⟩, ⟨xs, hs, by omega⟩, fun i d x H1 e y => ?_⟩
  obtain ⟨rfl, y2⟩ := y
  obtain ⟨x', e1, r1⟩ := rr.at e
  have := y2 xs hs
  rw [e1] at this
  cases this
  exact ⟨Same.refl _, r1⟩
theorem itD_tup (h : TupAt K M H0 a xs) (r : RepL K M H0 ds xs) : ItD K M H0 (Itt K a) ds := by
  intro M' H g tr k
  have hs : SqT K H a xs := AtK.on (κ := .t) h g k
  have rr := RepL.on r g k
  have l := r.length
  refine ⟨fun i hi => ⟨xs, xs[i]'(by omega), hs, List.getElem?_eq_getElem _⟩, ⟨xs, hs, by omega⟩, fun i d x H1 e y => ?_⟩
  obtain ⟨rfl, y2⟩ := y
  obtain ⟨x', e1, r1⟩ := rr.at e
  have := y2 xs hs
  rw [e1] at this
  cases this
  exact ⟨Same.refl _, r1⟩
/-- lo, lo + 1, .., n of them -/
def rng (lo : Int) (n : Nat) : List D := (List.range n).map fun i : Nat => .int (lo + (i : Int))
theorem itD_range (lo : Int) (n : Nat) : ItD K M H0 (Itr lo n) (rng lo n) := by
  intro M' H g tr k
  have l : (rng lo n).length = n := by unfold rng; simp
  rw [l]
  refine ⟨fun i hi => hi, Nat.le_refl _, fun i d x H1 e y => ?_⟩
  obtain ⟨rfl, rfl⟩ := y
  unfold rng at e
  rw [List.getElem?_map] at e
  cases hi : (List.range n)[i]? with
  | none => rw [hi] at e; cases e
  | some j =>
    rw [hi] at e
    obtain ⟨h1, h2⟩ := List.getElem?_eq_some_iff.mp hi
    rw [List.getElem_range] at h2
    subst h2
    cases e
    exact ⟨Same.refl _, rep_int⟩
/-- pairs of items -/
def zipD (ds es : List D) : List D := (ds.zip es).map fun q => .tup [q.1, q.2]
theorem zipD_at {i : Nat} {d : D} : ∀ {ds es : List D} {i : Nat}, (zipD ds es)[i]? = some d → ∃ x y, ds[i]? = some x ∧ es[i]? = some y ∧ d = .tup [x, y] := by
  intro ds es i h
  unfold zipD at h
  rw [List.getElem?_map] at h
  cases hz : (ds.zip es)[i]? with
  | none => rw [hz] at h; cases h
  | some q =>
    rw [hz] at h
    cases h
    obtain ⟨h1, h2⟩ := List.getElem?_zip_eq_some.mp hz
    exact ⟨_, _, h1, h2, rfl⟩
theorem itD_zip {κ1 κ2 : Kd} (h1 : AtK κ1 K M H0 a xs) (r1 : RepL K M H0 ds xs) (h2 : AtK κ2 K M H0 b ys) (r2 : RepL K M H0 es ys) : ItD K M H0 (ItzM K κ1 κ2 a b) (zipD ds es) := by
  intro M' H g tr k
  have s1 := h1.on g k
  have s2 := h2.on g k
  have q1 := RepL.on r1 g k
  have q2 := RepL.on r2 g k
  have l1 := r1.length
  have l2 := r2.length
  have l : (zipD ds es).length = min xs.length ys.length := by unfold zipD; simp; omega
  refine ⟨fun i hi => ⟨xs, ys, s1, s2, by omega⟩, ⟨xs, ys, s1, s2, l⟩, fun i d x H1 e y => ?_⟩
  obtain ⟨T, x1, x2, rfl, nT, rfl, y1, y2⟩ := y
  obtain ⟨d1, d2, e1, e2, rfl⟩ := zipD_at (i := i) e
  obtain ⟨z1, f1, t1⟩ := q1.at e1
  obtain ⟨z2, f2, t2⟩ := q2.at e2
  have g1 := y1 xs s1
  have g2 := y2 ys s2
  rw [f1] at g1
  rw [f2] at g2
  cases g1
  cases g2
  exact ⟨same_upd nT, rep_tup_new nT tr (repL_cons t1 (repL_cons t2 repL_nil))⟩
def enumD (ds : List D) : List D := ds.zipIdx.map fun q => .tup [.int (q.2 : Nat), q.1]
theorem enumD_at {d : D} {ds : List D} {i : Nat} (h : (enumD ds)[i]? = some d) : ∃ x, ds[i]? = some x ∧ d = .tup [.int (i : Nat), x] := by
  unfold enumD at h
  rw [List.getElem?_map, List.getElem?_zipIdx] at h
  cases hz : ds[i]? with
  | none => rw [hz] at h; cases h
  | some q =>
    rw [hz] at h
    refine ⟨q, rfl, ?_⟩
    have h' : some (D.tup [.int ((0 + i : Nat)), q]) = some d := h
    have := Option.some.inj h'
    rw [← this, Nat.zero_add]
theorem itD_enum {κ : Kd} (h1 : AtK κ K M H0 a xs) (r1 : RepL K M H0 ds xs) : ItD K M H0 (ItE K κ a) (enumD ds) := by
  intro M' H g tr k
  have s1 := h1.on g k
  have q1 := RepL.on r1 g k
  have l1 := r1.length
  have l : (enumD ds).length = xs.length := by unfold enumD; simp; omega
  refine ⟨fun i hi => ⟨xs, s1, by omega⟩, ⟨xs, s1, l⟩, fun i d x H1 e y => ?_⟩
  obtain ⟨T, x1, rfl, nT, rfl, y1⟩ := y
  obtain ⟨d1, e1, rfl⟩ := enumD_at e
  obtain ⟨z1, f1, t1⟩ := q1.at e1
  have g1 := y1 xs s1
  rw [f1] at g1
  cases g1
  exact ⟨same_upd nT, rep_tup_new nT tr (repL_cons rep_int (repL_cons t1 repL_nil))⟩
end
section
variable {X : Cx} {tg e e2 a b : Expr} {es : List Expr} {ma mb m : ME} {mr : MA} {p pos tpos : Pos} {elts : List Expr} {kk : Nat}
/-- a list or a tuple, whichever the value is: PI is asked of one kind; lists -/
def iLst (ma : ME) : MA := bnd ma fun x => lft (match x with
  | .lst ds => some ds
  | _ => none)
def iTupl (ma : ME) : MA := bnd ma fun x => lft (match x with
  | .tup ds => some ds
  | _ => none)
theorem i_list (ha : EE X e ma) : EI X tg e (iLst ma) := PI.imp (pi_list ha) fun σ H R h => by
  obtain ⟨F, p, ws, env, pot, ds, pot', S, e, q⟩ := h
  obtain ⟨x, pot1, e1, e2⟩ := bnd_inv e
  obtain ⟨e3, rfl⟩ := lft_inv e2
  refine tG_run S e1 fun v H' S' k r => ?_
  cases x with
  | lst es =>
    cases e3
    obtain ⟨a, xs, rfl, h1, h2⟩ := r.inv_lst
    exact ⟨a, rfl, ⟨xs, h1.sq⟩, q _ H' S' k (itD_list h1 h2)⟩
  | _ => cases e3
theorem i_tup (ha : EE X e ma) : EI X tg e (iTupl ma) := PI.imp (pi_tup ha) fun σ H R h => by
  obtain ⟨F, p, ws, env, pot, ds, pot', S, e, q⟩ := h
  obtain ⟨x, pot1, e1, e2⟩ := bnd_inv e
  obtain ⟨e3, rfl⟩ := lft_inv e2
  refine tG_run S e1 fun v H' S' k r => ?_
  cases x with
  | tup es =>
    cases e3
    obtain ⟨a, xs, rfl, h1, h2⟩ := r.inv_tup
    exact ⟨a, rfl, ⟨xs, h1.sq⟩, q _ H' S' k (itD_tup h1 h2)⟩
  | _ => cases e3
/-- either of both: by what the value turns out to be -/
def iAny (ma : ME) : MA := bnd ma fun x => lft (items x)
theorem i_any (ha : EE X e ma) : EI X tg e (iAny ma) := ⟨fun pins s σ H R I h => by
  obtain ⟨F, p, ws, env, pot, ds, pot', S, e1, q⟩ := h
  obtain ⟨x, pot1, e2, e3⟩ := bnd_inv e1
  obtain ⟨e4, e5⟩ := lft_inv e3
  cases x with
  | lst es =>
    refine (i_list (tg := tg) ha).run pins s σ H R I ⟨F, p, ws, env, pot, ds, pot', S, ?_, q⟩
    unfold iLst bnd
    rw [e2]
    subst e5
    cases e4
    rfl
  | tup es =>
    refine (i_tup (tg := tg) ha).run pins s σ H R I ⟨F, p, ws, env, pot, ds, pot', S, ?_, q⟩
    unfold iTupl bnd
    rw [e2]
    subst e5
    cases e4
    rfl
  | _ => cases e4⟩
def iRng1 (mr : MA) : MA := bnd mr fun ds => lft (match ds with
  | [.int j] => if j ≤ 16777216 ∧ -16777216 ≤ j then some (rng 0 j.toNat) else none
  | _ => none)
def iRng2 (mr : MA) : MA := bnd mr fun ds => lft (match ds with
  | [.int i, .int j] => if j ≤ 16777216 ∧ -16777216 ≤ j ∧ i ≤ 16777216 ∧ -16777216 ≤ i then some (rng i (j - i).toNat) else none
  | _ => none)
theorem i_range1 (hm : X.mg "range" = none) (ha : EE X a ma) (hg : Gl X "range" := by rfl) (na : starEach [a] X.env = (false, eval a X.env) :: starEach [] X.env := by rfl) : EI X tg (.Call (.Name "range" p) [a] [] pos) (iRng1 (aCons ma aNil)) :=
  PI.imp (pi_range1 hg hm (a_cons ha a_nil na) na) fun σ H R h => by
    obtain ⟨F, p, ws, env, pot, ds, pot', S, e, q⟩ := h
    obtain ⟨x, pot1, e1, e2⟩ := bnd_inv e
    obtain ⟨e3, rfl⟩ := lft_inv e2
    refine tG_run S e1 fun vs H' S' k r => ?_
    match x, e3 with
    | [.int j], e3 =>
      dsimp only at e3
      split at e3
      · rename_i hl
        cases e3
        obtain ⟨v, rfl, h1⟩ := r.one
        exact ⟨j, by rw [h1.inv_int], by omega, by omega, q _ H' S' k (itD_range 0 _)⟩
      · cases e3
theorem i_range2 (hm : X.mg "range" = none) (ha : EE X a ma) (hb : EE X b mb) (hg : Gl X "range" := by rfl) (na : starEach [a, b] X.env = (false, eval a X.env) :: starEach [b] X.env := by rfl) (nb : starEach [b] X.env = (false, eval b X.env) :: starEach [] X.env := by rfl) : EI X tg (.Call (.Name "range" p) [a, b] [] pos) (iRng2 (aCons ma (aCons mb aNil))) :=
  PI.imp (pi_range2 hg hm (a_cons ha (a_cons hb a_nil nb) na) (by rw [na, nb]; rfl) nb) fun σ H R h => by
    obtain ⟨F, p, ws, env, pot, ds, pot', S, e, q⟩ := h
    obtain ⟨x, pot1, e1, e2⟩ := bnd_inv e
    obtain ⟨e3, rfl⟩ := lft_inv e2
    refine tG_run S e1 fun vs H' S' k r => ?_
    match x, e3 with
    | [.int i, .int j], e3 =>
      dsimp only at e3
      split at e3
      · rename_i hl
        cases e3
        obtain ⟨v, u, rfl, h1, h2⟩ := r.two
        exact ⟨i, j, by rw [h1.inv_int, h2.inv_int], ⟨by omega, by omega, by omega, by omega⟩, q _ H' S' k (itD_range i _)⟩
      · cases e3
def iZip (mr : MA) : MA := bnd mr fun ds => lft (match ds with
  | [x, y] => (items x).bind fun xs => (items y).map fun ys => zipD xs ys
  | _ => none)
theorem i_zip (hm : X.mg "zip" = none) (ha : EE X a ma) (hb : EE X b mb) (hg : Gl X "zip" := by rfl) (na : starEach [a, b] X.env = (false, eval a X.env) :: starEach [b] X.env := by rfl) (nb : starEach [b] X.env = (false, eval b X.env) :: starEach [] X.env := by rfl) (hpl : (backTo pos (starEach [b] X.env)).any (·.1) = false := by rfl) :
    EI X (.Tuple elts kk tpos) (.Call (.Name "zip" p) [a, b] [] pos) (iZip (aCons ma (aCons mb aNil))) :=
  PI.imp (pi_zipM hg hm (a_cons ha (a_cons hb a_nil nb) na) na hpl) fun σ H R h => by
    obtain ⟨F, p, ws, env, pot, ds, pot', S, e, q⟩ := h
    obtain ⟨x, pot1, e1, e2⟩ := bnd_inv e
    obtain ⟨e3, rfl⟩ := lft_inv e2
    refine tG_run S e1 fun vs H' S' k r => ?_
    match x, e3 with
    | [x, y], e3 =>
      dsimp only at e3
      cases hx : items x with
      | none => rw [hx] at e3; cases e3
      | some xs =>
        rw [hx] at e3
        cases hy : items y with
        | none => rw [hy] at e3; cases e3
        | some ys =>
          rw [hy] at e3
          cases e3
          obtain ⟨v, u, rfl, h1, h2⟩ := r.two
          obtain ⟨κ1, a1, xs1, rfl, k1, r1⟩ := items_at h1 hx
          obtain ⟨κ2, a2, xs2, rfl, k2, r2⟩ := items_at h2 hy
          exact ⟨κ1, κ2, a1, a2, xs1, xs2, rfl, k1.sq, k2.sq, q _ H' S' k (itD_zip k1 r1 k2 r2)⟩
def iEnum (ma : ME) : MA := bnd ma fun x => lft ((items x).map enumD)
theorem i_enum (hm : X.mg "enumerate" = none) (ha : EE X a ma) (hg : Gl X "enumerate" := by rfl) (na : starEach [a] X.env = (false, eval a X.env) :: starEach [] X.env := by rfl) :
    EI X (.Tuple elts kk tpos) (.Call (.Name "enumerate" p) [a] [] pos) (iEnum ma) :=
  PI.imp (pi_enumM hg hm (a_cons ha a_nil na) na) fun σ H R h => by
    obtain ⟨F, p, ws, env, pot, ds, pot', S, e, q⟩ := h
    obtain ⟨x, pot1, e1, e2⟩ := bnd_inv e
    obtain ⟨e3, rfl⟩ := lft_inv e2
    refine tG_run (a := [x]) S (by show aCons ma aNil env pot = some ([x], _); unfold aCons bnd; rw [e1]; rfl) fun vs H' S' k r => ?_
    cases hx : items x with
    | none => rw [hx] at e3; cases e3
    | some xs =>
      rw [hx] at e3
      cases e3
      obtain ⟨v, rfl, h1⟩ := r.one
      obtain ⟨κ1, a1, xs1, rfl, k1, r1⟩ := items_at h1 hx
      exact ⟨κ1, a1, xs1, rfl, k1.sq, q _ H' S' k (itD_enum k1 r1)⟩
end
end DL
set_option Elab.async false
set_option linter.all false
set_option maxRecDepth 100000
set_option maxHeartbeats 4000000
/-! The data layer, part 5: targets, comprehensions, subscripts, slices, isinstance, lists made of others. -/
namespace DL
open PySem PySem.Spec PyProof.Rows L2

/-! ### slots stored -/
section
variable {K : PySem.W.Frag} {M : List Addr} {F : List Addr} {H : Hp} {p : Option Addr} {ws : List (Option Addr)} {σ : L2.St} {env : Env} {pot : Pot}
theorem SlotsOk.upd {b : B} {s : Option V} : ∀ {env : Env} {σ : L2.St} {ws : List (Option Addr)} (i : Nat), SlotsOk K M H p env σ ws → (∀ w, ws[i]? = some w → SlotOk K M H p b s w) → SlotsOk K M H p (env.set i b) (σ.set i s) ws
  | [], σ, ws, i, h, _ => by obtain ⟨rfl, rfl⟩ := h; exact ⟨rfl, rfl⟩
  | c :: bs, σ, ws, 0, h, f => by
    obtain ⟨s', ss, w', wr, rfl, rfl, _, h2⟩ := h
    exact ⟨s, ss, w', wr, rfl, rfl, f w' rfl, h2⟩
  | c :: bs, σ, ws, i + 1, h, f => by
    obtain ⟨s', ss, w', wr, rfl, rfl, h3, h2⟩ := h
    exact ⟨s', ss.set i s, w', wr, rfl, rfl, h3, SlotsOk.upd i h2 fun w e => f w (by simpa using e)⟩
def notOwn (env : Env) (i : Nat) : Bool := match env[i]? with
  | some (.own _) => false
  | _ => true
theorem SlotsOk.noOwn {i : Nat} (h : SlotsOk K M H p env σ ws) (n : notOwn env i = true) : ∀ w, ws[i]? = some w → w = none := by
  intro w e
  have l := h.length
  have hi : i < env.length := by
    obtain ⟨h1, _⟩ := List.getElem?_eq_some_iff.mp e
    omega
  obtain ⟨s, w', e1, e2, h3⟩ := h.at (List.getElem?_eq_getElem hi)
  rw [e] at e2
  cases e2
  unfold notOwn at n
  rw [List.getElem?_eq_getElem hi] at n
  cases hb : env[i] with
  | un => rw [hb] at h3; exact h3
  | val d => rw [hb] at h3; exact h3.1
  | pot => rw [hb] at h3; exact h3.1
  | own ds => rw [hb] at n; cases n
theorem SR.set_val (S : SR K F p ws H σ env pot) {i : Nat} {d : D} {v : V} (n : notOwn env i = true) (r : Rep K (mset p ws F) H d v) : SR K F p ws H (σ.set i (some v)) (env.set i (.val d)) pot where
  slots := S.slots.upd i fun w e => ⟨S.slots.noOwn n w e, v, rfl, r⟩
  pot := S.pot
  nd := S.nd
  dis := S.dis
  frg := S.frg
theorem SR.set_un (S : SR K F p ws H σ env pot) {i : Nat} (n : notOwn env i = true) : SR K F p ws H (σ.set i none) (env.set i .un) pot where
  slots := S.slots.upd i fun w e => S.slots.noOwn n w e
  pot := S.pot
  nd := S.nd
  dis := S.dis
  frg := S.frg
/-- the slots vs forgotten -/
def wipeE (env : Env) : List Nat → Env
  | [] => env
  | v :: vs => (wipeE env vs).set v .un
theorem notOwn_set {i j : Nat} {env : Env} (n : notOwn env i = true) : notOwn (env.set j .un) i = true := by
  unfold notOwn at n ⊢
  by_cases e : j = i
  · subst e
    by_cases hj : j < env.length
    · rw [List.getElem?_set_self hj]
    · rw [List.set_eq_of_length_le (by omega)]; exact n
  · rw [List.getElem?_set_ne e]; exact n
theorem notOwn_wipe {i : Nat} {env : Env} (n : notOwn env i = true) : ∀ vs, notOwn (wipeE env vs) i = true
  | [] => n
  | v :: vs => notOwn_set (notOwn_wipe n vs)
theorem SR.wipe (S : SR K F p ws H σ env pot) : ∀ {vs : List Nat}, (vs.all fun i => notOwn env i) = true → SR K F p ws H (L2.wipe σ vs) (wipeE env vs) pot
  | [], _ => S
  | v :: vs, n => by
    rw [List.all_cons, Bool.and_eq_true] at n
    exact (SR.wipe S n.2).set_un (notOwn_wipe n.1 vs)
theorem wipe_eq {σ σ' : L2.St} {vs : List Nat} (l : σ'.length = σ.length) (h : ∀ j, j ∉ vs → σ'[j]? = σ[j]?) : L2.wipe σ' vs = L2.wipe σ vs := by
  apply List.ext_getElem?
  intro j
  by_cases hj : j ∈ vs
  · have key : ∀ (τ : L2.St) (us : List Nat), j ∈ us → (L2.wipe τ us)[j]? = if j < τ.length then some none else none := by
      intro τ us
      induction us with
      | nil => intro h; cases h
      | cons u us ih =>
        intro hu
        unfold L2.wipe
        by_cases e : u = j
        · subst e
          by_cases hl : u < τ.length
          · rw [List.getElem?_set_self (by rw [L2.wipe_length]; exact hl), if_pos hl]
          · rw [List.getElem?_eq_none (by rw [List.length_set, L2.wipe_length]; omega), if_neg hl]
        · rw [List.getElem?_set_ne e]
          exact ih (by rcases List.mem_cons.mp hu with z | z; exact absurd z.symm e; exact z)
    rw [key _ _ hj, key _ _ hj, l]
  · rw [L2.wipe_out hj, L2.wipe_out hj]
    exact h j hj
end

/-! ### targets -/
abbrev MG := D → Env → Option Env
abbrev MGs := List D → Env → Option Env
def gD (K : PySem.W.Frag) (js : List Nat) (g : MG) : TG := fun v σ H Q => ∃ F p ws env pot d env', SR K F p ws H σ env pot ∧ Rep K (mset p ws F) H d v ∧ g d env = some env' ∧
  ∀ σ', SR K F p ws H σ' env' pot → σ'.length = σ.length → (∀ j, j ∉ js → σ'[j]? = σ[j]?) → Q σ' H
def gDs (K : PySem.W.Frag) (js : List Nat) (g : MGs) : TGs := fun vs σ H Q => ∃ F p ws env pot ds env', SR K F p ws H σ env pot ∧ RepL K (mset p ws F) H ds vs ∧ g ds env = some env' ∧
  ∀ σ', SR K F p ws H σ' env' pot → σ'.length = σ.length → (∀ j, j ∉ js → σ'[j]? = σ[j]?) → Q σ' H
abbrev EG (X : Cx) (tg : Expr) (js : List Nat) (g : MG) : Prop := PG X tg (gD X.K js g)
abbrev EGs (X : Cx) (tgs : List Expr) (js : List Nat) (g : MGs) : Prop := PGs X tgs (gDs X.K js g)
theorem PG.imp {X : Cx} {tg : Expr} {t t' : TG} (h : PG X tg t) (i : ∀ v σ H Q, t' v σ H Q → t v σ H Q) : PG X tg t' := ⟨fun pins s σ H v u Q I r hw => h.run pins s σ H v u Q I r (i v σ H Q hw)⟩
theorem PGs.imp {X : Cx} {tg : List Expr} {t t' : TGs} (h : PGs X tg t) (i : ∀ v σ H Q, t' v σ H Q → t v σ H Q) : PGs X tg t' := ⟨fun pins s σ H v u Q I r hw => h.run pins s σ H v u Q I r (i v σ H Q hw)⟩
def gN (i : Nat) : MG := fun d env => if notOwn env i = true then some (env.set i (.val d)) else none
def gT (g : MGs) : MG := fun d env => match d with
  | .tup ds => g ds env
  | _ => none
def gsNil : MGs := fun ds env => match ds with
  | [] => some env
  | _ => none
def gsCons (g : MG) (gs : MGs) : MGs := fun ds env => match ds with
  | d :: r => (g d env).bind fun env' => gs r env'
  | [] => none
section
variable {X : Cx} {e : Expr} {es : List Expr} {js js' : List Nat} {g : MG} {gs : MGs} {pos : Pos} {x : Str}
theorem g_name (i : Nat) (hN : X.N.Nodup) (hi : X.N[i]? = some x := by rfl) (hx : Loc X.env.scope x := by first | exact Or.inl rfl | exact Or.inr rfl) (hf : X.fn x = true ∨ X.env.scope.names.lookup x = some .local := by first | exact .inl rfl | exact .inr rfl) : EG X (.Name x pos) [i] (gN i) :=
  PG.imp (pg_name hN hi hx hf) fun v σ H Q h => by
    obtain ⟨F, p, ws, env, pot, d, env', S, r, e, q⟩ := h
    unfold gN at e
    split at e
    · rename_i n
      cases e
      exact q _ (S.set_val n r) (by rw [List.length_set]) fun j hj => List.getElem?_set_ne (fun z => hj (by simp [z]))
    · cases e
theorem gs_nil : EGs X [] [] gsNil := PGs.imp pgs_nil fun v σ H Q h => by
  obtain ⟨F, p, ws, env, pot, d, env', S, r, e, q⟩ := h
  cases d with
  | nil => cases e; exact ⟨r.inv_nil, q σ S rfl fun _ _ => rfl⟩
  | cons _ _ => cases e
theorem gs_cons (h1 : EG X e js g) (h2 : EGs X es js' gs) (hs : (assignEach (e :: es) X.env).map (·.2) = assign e X.env :: (assignEach es X.env).map (·.2) := by rfl) : EGs X (e :: es) (js ++ js') (gsCons g gs) :=
  PGs.imp (pgs_cons h1 h2 hs) fun v σ H Q h => by
    obtain ⟨F, p, ws, env, pot, ds, env', S, r, e, q⟩ := h
    cases ds with
    | nil => cases e
    | cons d ds =>
      obtain ⟨x, xr, rfl, r1, r2⟩ := r.inv_cons
      unfold gsCons at e
      dsimp only at e
      cases e1 : g d env with
      | none => rw [e1] at e; cases e
      | some env1 =>
        rw [e1] at e
        refine ⟨x, xr, rfl, F, p, ws, env, pot, d, env1, S, r1, e1, fun σ1 S1 l1 k1 => ⟨F, p, ws, env1, pot, ds, env', S1, r2, e, fun σ2 S2 l2 k2 => ?_⟩⟩
        exact q σ2 S2 (l2.trans l1) fun j hj => (k2 j fun z => hj (List.mem_append_right _ z)).trans (k1 j fun z => hj (List.mem_append_left _ z))
theorem g_tup {k : Nat} {n : Nat} (hc : X.calm = true) (h : EGs X es js gs) (hn : (assignEach es X.env).length = n := by rfl) (hst : (assignEach es X.env).findIdx? (·.1) = none := by rfl)
    (hl : ∀ ds env env', gs ds env = some env' → ds.length = n) : EG X (.Tuple es k pos) js (gT gs) :=
  PG.imp (pg_tup hc h hn hst) fun v σ H Q h => by
    obtain ⟨F, p, ws, env, pot, d, env', S, r, e, q⟩ := h
    cases d with
    | tup ds =>
      obtain ⟨a, xs, rfl, h1, h2⟩ := r.inv_tup
      exact ⟨a, xs, rfl, h1.sq, by rw [h2.length]; exact hl ds env env' e, F, p, ws, env, pot, ds, env', S, h2, e, q⟩
    | _ => cases e
theorem len_nil (ds : List D) (env env' : Env) (h : gsNil ds env = some env') : ds.length = 0 := by
  cases ds with
  | nil => rfl
  | cons _ _ => cases h
theorem len_cons {n : Nat} (h : ∀ ds env env', gs ds env = some env' → ds.length = n) (ds : List D) (env env' : Env) (h' : gsCons g gs ds env = some env') : ds.length = n + 1 := by
  cases ds with
  | nil => cases h'
  | cons d r =>
    unfold gsCons at h'
    dsimp only at h'
    cases e1 : g d env with
    | none => rw [e1] at h'; cases h'
    | some env1 =>
      rw [e1] at h'
      rw [List.length_cons, h r env1 env' h']
end

/-! ### list comprehensions -/
def lcLoop (g : MG) (mt : MT) (me : ME) (env : Env) : List D → Pot → Option (List D × Pot)
  | [], pot => some ([], pot)
  | d :: ds, pot => match g d env with
    | none => none
    | some env' => match mt env' pot with
      | none => none
      | some (false, pot1) => lcLoop g mt me env ds pot1
      | some (true, pot1) => match me env' pot1 with
        | none => none
        | some (x, pot2) => match lcLoop g mt me env ds pot2 with
          | none => none
          | some (xs, pot3) => some (x :: xs, pot3)
def aLc (vs : List Nat) (mi : MA) (g : MG) (mt : MT) (me : ME) : MA := bnd mi fun ds env pot =>
  if (vs.all fun i => notOwn env i) = true ∧ ds.length ≤ 16777216 then lcLoop g mt me (wipeE env vs) ds pot else none
def tYes1 : MT := lft (some true)
abbrev ETs (X : Cx) (ifs : List Expr) (m : MT) : Prop := PTs X ifs (tDT X.K m)
theorem PTs.imp {X : Cx} {es : List Expr} {t t' : TT} (h : PTs X es t) (i : ∀ σ H Q, t' σ H Q → t σ H Q) : PTs X es t' := ⟨fun pins s σ H Q I hw => h.run pins s σ H Q I (i σ H Q hw)⟩
section
variable {X : Cx} {elt tg iter tg1 iter1 e : Expr} {ifs ifs1 : List Expr} {scope : Scope} {own' : List (Str × Nat)} {pos spos py : Pos} {mi mi1 : MA} {g g1 : MG} {mt mt1 : MT} {me : ME} {js js1 : List Nat}
theorem ts_nil : ETs X [] tYes1 := PTs.imp pts_nil fun σ H Q h => by
  obtain ⟨F, p, ws, env, pot, d, pot', S, e, q⟩ := h
  cases e
  exact q true H S (Keep.refl _ _) rfl
theorem ts_one (h : ET X e mt) : ETs X [e] mt := pts_one h
theorem mem_mset_cons {p : Option Addr} {ws : List (Option Addr)} {F : List Addr} {dd m : Addr} : m ∈ mset p ws (dd :: F) ↔ m = dd ∨ m ∈ mset p ws F := by
  unfold mset
  simp only [List.mem_append, List.mem_cons]
  constructor
  · rintro (h | h | h | h)
    · exact .inr (.inl h)
    · exact .inr (.inr (.inl h))
    · exact .inl h
    · exact .inr (.inr (.inr h))
  · rintro (h | h | h | h)
    · exact .inr (.inr (.inl h))
    · exact .inl h
    · exact .inr (.inl h)
    · exact .inr (.inr (.inr h))
/-- one more foreign thing, that was not there -/
theorem SR.more {K : PySem.W.Frag} {F : List Addr} {p : Option Addr} {ws : List (Option Addr)} {H H' : Hp} {σ : L2.St} {env : Env} {pot : Pot} {dd : Addr} (S : SR K F p ws H σ env pot) (n : H dd = none) (s : Same H H') (t : H' dd ≠ none) : SR K (dd :: F) p ws H' σ env pot where
  slots := S.slots.imp fun b sv w h => by
    have gr : ∀ m ∈ mset p ws (dd :: F), m ∈ mset p ws F ∨ H m = none := fun m hm => by
      rcases mem_mset_cons.mp hm with z | z
      · exact .inr (by rw [z]; exact n)
      · exact .inl z
    cases b with
    | un => exact h
    | val d => exact ⟨h.1, let ⟨v, e, r⟩ := h.2; ⟨v, e, (Rep.grow gr _ _ r).same s⟩⟩
    | own ds => exact let ⟨a, xs, e1, e2, e3, r⟩ := h; ⟨a, xs, e1, e2, s _ _ e3, (RepL.grow gr _ _ r).same s⟩
    | pot => exact h
  pot := by
    have gr : ∀ m ∈ mset p ws (dd :: F), m ∈ mset p ws F ∨ H m = none := fun m hm => by
      rcases mem_mset_cons.mp hm with z | z
      · exact .inr (by rw [z]; exact n)
      · exact .inl z
    have q := S.pot
    cases p with
    | none => cases pot with
      | none => trivial
      | some ds => exact q
    | some a => cases pot with
      | none => exact q
      | some ds => exact let ⟨xs, e, r⟩ := q; ⟨xs, s _ _ e, (RepL.grow gr _ _ r).same s⟩
  nd := S.nd
  dis := fun m hm z => by
    rcases List.mem_cons.mp z with z | z
    · obtain ⟨xs, q⟩ := S.slots.trk m hm
      rw [z, n] at q; cases q
    · exact S.dis m hm z
  frg := fun m hm => by
    rcases List.mem_cons.mp hm with z | z
    · rw [z]; exact t
    · intro z2
      cases q : H m with
      | none => exact S.frg m z q
      | some o => rw [s m o q] at z2; cases z2
theorem PotOk.sub {K : PySem.W.Frag} {M M' : List Addr} {H : Hp} {p : Option Addr} {pot : Pot} (g : ∀ m ∈ M', m ∈ M) (h : PotOk K M H p pot) : PotOk K M' H p pot := by
  cases p with
  | none => cases pot with
    | none => trivial
    | some _ => exact h
  | some a => cases pot with
    | none => exact h
    | some ds => exact let ⟨xs, e, r⟩ := h; ⟨xs, e, r.sub g⟩
theorem PotOk.same {K : PySem.W.Frag} {M : List Addr} {H H' : Hp} {p : Option Addr} {pot : Pot} (s : Same H H') (h : PotOk K M H p pot) : PotOk K M H' p pot := by
  cases p with
  | none => cases pot with
    | none => trivial
    | some _ => exact h
  | some a => cases pot with
    | none => exact h
    | some ds => exact let ⟨xs, e, r⟩ := h; ⟨xs, s _ _ e, r.same s⟩
/-- where a comprehension stands behind i items -/
structure LcAt (K : PySem.W.Frag) (F : List Addr) (p : Option Addr) (ws : List (Option Addr)) (H1 : Hp) (σ : L2.St) (env : Env) (vs : List Nat) (dd : Addr) (acc : List D) (H : Hp) (pot : Pot) : Prop where
  sr : SR K (dd :: F) p ws H (L2.wipe σ vs) (wipeE env vs) pot
  at_ : ∃ xs, H dd = some (.lst xs) ∧ RepL K (mset p ws (dd :: F)) H acc xs
  keep : Keep p.toList H1 H
theorem wipe_wipe {σ : L2.St} {vs : List Nat} : L2.wipe (L2.wipe σ vs) vs = L2.wipe σ vs := wipe_eq (by rw [L2.wipe_length]) fun j hj => L2.wipe_out hj
/-- what is left of a turn -/
theorem lc_turn {K : PySem.W.Frag} {F : List Addr} {p : Option Addr} {ws : List (Option Addr)} {H1 H H' : Hp} {σ σ2 : L2.St} {env env' : Env} {vs : List Nat} {dd : Addr} {acc : List D} {pot pot1 : Pot} (L : LcAt K F p ws H1 σ env vs dd acc H pot)
    (S : SR K (dd :: F) p ws H' σ2 env' pot1) (k : Keep p.toList H H') (nD : dd ∉ p.toList) : LcAt K F p ws H1 σ env vs dd acc H' pot1 where
  sr := L.sr.call k S.pot
  at_ := let ⟨xs, e, r⟩ := L.at_; ⟨xs, k _ _ nD e, RepL.keep k sub_p _ _ r⟩
  keep := L.keep.trans k
/-- an item is put behind -/
theorem lc_put {K : PySem.W.Frag} {F : List Addr} {p : Option Addr} {ws : List (Option Addr)} {H1 H : Hp} {σ : L2.St} {env : Env} {vs : List Nat} {dd : Addr} {acc : List D} {pot : Pot} {d : D} {v : V} {xs : List V} (L : LcAt K F p ws H1 σ env vs dd acc H pot) (hD : H dd = some (.lst xs))
    (r : Rep K (mset p ws (dd :: F)) H d v) (nD : dd ∉ mset p ws F) (n1 : H1 dd = none) : LcAt K F p ws H1 σ env vs dd (acc ++ [d]) (upd H dd (.lst (xs ++ [v]))) pot := by
  have k : Keep [dd] H (upd H dd (.lst (xs ++ [v]))) := keep_upd (by simp)
  have sD : ∀ b ∈ [dd], b ∈ mset p ws (dd :: F) := fun b hb => by rw [List.mem_singleton.mp hb]; exact mem_mset_cons.mpr (.inl rfl)
  have ne : ∀ a ∈ mset p ws F, a ≠ dd := fun a ha z => nD (z ▸ ha)
  obtain ⟨xs', e', r'⟩ := L.at_
  rw [hD] at e'
  cases e'
  refine ⟨⟨?_, ?_, L.sr.nd, fun m hm z => ?_, L.sr.dis⟩, ⟨_, upd_same, RepL.append (RepL.keep k sD _ _ r') (repL_cons (Rep.keep k sD _ _ r) repL_nil)⟩, fun b o hb e => ?_⟩
  · have go : ∀ {env : Env} {σ : L2.St} {us : List (Option Addr)}, (∀ a ∈ own us, a ∈ mset p ws F) → SlotsOk K (mset p ws (dd :: F)) H p env σ us → SlotsOk K (mset p ws (dd :: F)) (upd H dd (.lst (xs ++ [v]))) p env σ us := by
      intro env
      induction env with
      | nil => intro σ us _ h; exact h
      | cons b bs ih =>
        intro σ us hk h
        obtain ⟨s, ss, w, wr, e1, e2, h1, h2⟩ := h
        subst e2
        refine ⟨s, ss, w, wr, e1, rfl, ?_, ih (fun a ha => hk a (by
          cases w with
          | none => exact ha
          | some c => exact List.mem_cons_of_mem _ ha)) h2⟩
        cases b with
        | un => exact h1
        | val d => exact ⟨h1.1, let ⟨v, e, r⟩ := h1.2; ⟨v, e, Rep.keep k sD _ _ r⟩⟩
        | own ds =>
          obtain ⟨a, xs', e3, e4, e5, r⟩ := h1
          subst e3
          exact ⟨a, xs', rfl, e4, by rw [upd_ne (ne a (hk a List.mem_cons_self))]; exact e5, RepL.keep k sD _ _ r⟩
        | pot => exact h1
    exact go (fun a ha => by unfold mset; simp [ha]) L.sr.slots
  · have q := L.sr.pot
    cases p with
    | none => cases pot with
      | none => trivial
      | some ds => exact q
    | some a => cases pot with
      | none => exact q
      | some ds =>
        obtain ⟨ys, e, r⟩ := q
        exact ⟨ys, by rw [upd_ne (ne a (mem_p rfl))]; exact e, RepL.keep k sD _ _ r⟩
  · by_cases hm' : m = dd
    · rw [hm', upd_same] at z; cases z
    · rw [upd_ne hm'] at z; exact L.sr.frg m hm z
  · rw [upd_ne (ne_of_none e n1)]
    exact L.keep b o hb e
theorem lc_core' {K : PySem.W.Frag} {vs : List Nat} (hjs : ∀ j ∈ js, j ∈ vs) {σ : L2.St} {H : Hp} {Q : VK} (h : tF K (aLc vs mi g mt me) σ H Q) : tLc (tI K mi) (gD K js g) (tDT K mt) (tD K me) vs σ H Q := by
  obtain ⟨F, p, ws, env, pot, out, pot', S, e, q⟩ := h
  obtain ⟨ds, pot1, e1, e2⟩ := bnd_inv e
  split at e2
  · rename_i hno
    obtain ⟨hno, hlen⟩ := hno
    refine ⟨F, p, ws, env, pot, ds, pot1, S, e1, fun J H1 S1 k1 it dd nD => ?_⟩
    have sm := same_upd (o := HO.lst []) nD
    have nDM : dd ∉ mset p ws F := S1.fresh nD
    have nDp : dd ∉ p.toList := fun z => nDM (sub_p dd z)
    refine ⟨fun i m H => m = ds.length - i ∧ i ≤ ds.length ∧ ∃ acc pot2 out2, LcAt K F p ws H1 σ env vs dd acc H pot2 ∧ lcLoop g mt me (wipeE env vs) (ds.drop i) pot2 = some (out2, pot') ∧ acc ++ out2 = out ∧ acc.length ≤ i, ⟨ds.length, by simp, Nat.zero_le _, [], pot1, out, ⟨?_, ⟨[], upd_same, repL_nil⟩, Keep.same sm⟩, by rw [List.drop_zero]; exact e2, rfl, Nat.zero_le _⟩, ?_⟩
    · exact (S1.wipe hno).more nD sm (by rw [upd_same]; exact fun z => nomatch z)
    rintro i m H2 ⟨rfl, hi, acc, pot2, out2, L, e3, eo, hal⟩
    obtain ⟨xs, hD, rD⟩ := L.at_
    have trk := L.sr.trk
    have gr : ∀ m ∈ mset p ws (dd :: F), m ∈ mset p ws F ∨ H1 m = none := fun m hm => by
      rcases mem_mset_cons.mp hm with z | z
      · exact .inr (by rw [z]; exact nD)
      · exact .inl z
    obtain ⟨hgo, hstop, hyld⟩ := it _ H2 gr trk (L.keep.mono sub_p)
    by_cases hlt : i < ds.length
    · refine .inr ⟨hgo i hlt, fun H' => (ds.length - (i + 1) = ds.length - (i + 1) ∧ i + 1 ≤ ds.length ∧ ∃ acc pot2 out2, LcAt K F p ws H1 σ env vs dd acc H' pot2 ∧ lcLoop g mt me (wipeE env vs) (ds.drop (i + 1)) pot2 = some (out2, pot') ∧ acc ++ out2 = out ∧ acc.length ≤ i + 1), fun H' hN => ⟨ds.length - (i + 1), by omega, hN⟩, fun x H3 hy => ?_⟩
      obtain ⟨sm3, rx⟩ := hyld i _ x H3 (List.getElem?_eq_getElem hlt) hy
      have k23 : Keep p.toList H2 H3 := Keep.same sm3
      have L3 := lc_turn L (L.sr.same sm3) k23 nDp
      rw [List.drop_eq_getElem_cons hlt] at e3
      simp only [lcLoop] at e3
      cases eg : g ds[i] (wipeE env vs) with
      | none => rw [eg] at e3; cases e3
      | some env' =>
        rw [eg] at e3
        dsimp only at e3
        refine ⟨dd :: F, p, ws, wipeE env vs, pot2, ds[i], env', L3.sr, rx, eg, fun σ2 S2 l2 k2 => ⟨?_, ?_⟩⟩
        · have w1 : L2.wipe σ2 vs = L2.wipe (L2.wipe σ vs) vs := wipe_eq l2 fun j hj => k2 j fun z => hj (hjs j z)
          rw [w1, wipe_wipe]
        · cases et : mt env' pot2 with
          | none => rw [et] at e3; cases e3
          | some bq =>
            obtain ⟨b, pot3⟩ := bq
            rw [et] at e3
            refine tG_run S2 et fun b' H4 S4 k4 eb => ?_
            subst eb
            have L4 := lc_turn L3 S4 k4 nDp
            cases b with
            | false =>
              rw [if_neg Bool.false_ne_true]
              exact ⟨rfl, hlt, acc, pot3, out2, L4, e3, eo, by omega⟩
            | true =>
              rw [if_pos rfl]
              dsimp only at e3
              cases ee : me env' pot3 with
              | none => rw [ee] at e3; cases e3
              | some xq =>
                obtain ⟨y, pot4⟩ := xq
                rw [ee] at e3
                dsimp only at e3
                cases el : lcLoop g mt me (wipeE env vs) (ds.drop (i + 1)) pot4 with
                | none => rw [el] at e3; cases e3
                | some oq =>
                  obtain ⟨o3, pot5⟩ := oq
                  rw [el] at e3
                  cases e3
                  refine tG_run S4 ee fun v H5 S5 k5 r5 => ?_
                  have L5 := lc_turn L4 S5 k5 nDp
                  obtain ⟨xs5, hD5, rD5⟩ := L5.at_
                  have hx5 : xs5.length = acc.length := rD5.length
                  refine ⟨xs5, hD5, by rw [hx5, line_eq]; omega, rfl, hlt, acc ++ [y], pot4, o3, lc_put L5 hD5 r5 nDM nD, el, by simpa using eo, by simp; omega⟩
    · have hi' : i = ds.length := by omega
      subst hi'
      rw [List.drop_length] at e3
      cases e3
      rw [List.append_nil] at eo
      subst eo
      refine .inl ⟨hstop, ?_⟩
      have sub : ∀ m ∈ mset p ws F, m ∈ mset p ws (dd :: F) := fun m hm => mem_mset_cons.mpr (.inr hm)
      refine q dd xs H2 (S1.call L.keep (L.sr.pot.sub sub)) (k1.trans L.keep) ?_ nDM hD (rD.sub sub) (fun b hb z => by rw [z, hD] at hb; cases hb) (rD.sub fun m hm => ?_)
      · exact k1.free nDp nD
      · rcases List.mem_cons.mp hm with z | z
        · exact mem_mset_cons.mpr (.inl z)
        · exact sub m z
  · cases e2
/-- [elt for tg in iter if ..] -/
theorem f_lc (hc : X.calm = true) (hN : X.N.Nodup) (hi : EI X tg iter mi) (ok : BlkOk X.N X.env.scope scope own')
    (hg : ∀ (s : Shared) (H : Hp) (C : Addr) (cl : List (Str × Addr)) (fp : List Addr), EG (X.blk s H scope (compEnvC scope cl C X.env) fp) tg js g) (ht : ∀ (s : Shared) (H : Hp) (C : Addr) (cl : List (Str × Addr)) (fp : List Addr), ETs (X.blk s H scope (compEnvC scope cl C X.env) fp) ifs mt)
    (he : ∀ (s : Shared) (H : Hp) (C : Addr) (cl : List (Str × Addr)) (fp : List Addr), EE (X.blk s H scope (compEnvC scope cl C X.env) fp) elt me) (hjs : ∀ j ∈ js, j ∈ own'.map (·.2) := by decide) (hs : ∀ x, foldedSetIterable iter X.env x = pure x := by intro _; rfl) :
    EF X (.ListComp elt [⟨tg, iter, ifs, 0⟩] scope pos) (aLc (own'.map (·.2)) mi g mt me) :=
  PE.imp (pe_lc hc hN hi ok hg ht he hs) fun σ H Q h => lc_core' hjs h
end
end DL
set_option Elab.async false
set_option linter.all false
set_option maxRecDepth 100000
set_option maxHeartbeats 4000000
/-! The data layer, part 6: comprehensions of two clauses; subscripts, slices, isinstance, lists made of others. -/
namespace DL
open PySem PySem.Spec PyProof.Rows L2

def lcLoop2 (g : MG) (mt : MT) (mi1 : MA) (g1 : MG) (mt1 : MT) (me : ME) (vs1 : List Nat) (env : Env) : List D → Pot → Option (List D × Pot)
  | [], pot => some ([], pot)
  | d :: ds, pot => match g d env with
    | none => none
    | some env' => match mt env' pot with
      | none => none
      | some (false, pot1) => lcLoop2 g mt mi1 g1 mt1 me vs1 env ds pot1
      | some (true, pot1) => match mi1 env' pot1 with
        | none => none
        | some (es, pot2) => if (vs1.all fun i => notOwn env' i) = true then (match lcLoop g1 mt1 me (wipeE env' vs1) es pot2 with
          | none => none
          | some (xs, pot3) => match lcLoop2 g mt mi1 g1 mt1 me vs1 env ds pot3 with
            | none => none
            | some (ys, pot4) => some (xs ++ ys, pot4)) else none
def aLc2 (vs vs1 : List Nat) (mi : MA) (g : MG) (mt : MT) (mi1 : MA) (g1 : MG) (mt1 : MT) (me : ME) : MA := bnd mi fun ds env pot =>
  if (vs.all fun i => notOwn env i) = true then (match lcLoop2 g mt mi1 g1 mt1 me vs1 (wipeE env vs) ds pot with
    | none => none
    | some (out, pot') => if out.length ≤ 16777216 then some (out, pot') else none) else none
section
variable {X : Cx} {elt tg iter tg1 iter1 e : Expr} {ifs ifs1 : List Expr} {scope : Scope} {own' : List (Str × Nat)} {pos spos py : Pos} {mi mi1 : MA} {g g1 : MG} {mt mt1 : MT} {me : ME} {js js1 : List Nat}
theorem SR.call2 {K : PySem.W.Frag} {F : List Addr} {p : Option Addr} {ws : List (Option Addr)} {H H' : Hp} {σ : L2.St} {env : Env} {pot pot' : Pot} {dd : Addr} (S : SR K (dd :: F) p ws H σ env pot) (k : Keep (dd :: p.toList) H H') (nd : dd ∉ mset p ws F) (t : H' dd ≠ none) (q : PotOk K (mset p ws (dd :: F)) H' p pot') : SR K (dd :: F) p ws H' σ env pot' where
  slots := by
    have key : ∀ a ∈ own ws, a ∉ dd :: p.toList := fun a ha hb => by
      rcases List.mem_cons.mp hb with z | z
      · exact nd (by rw [← z]; unfold mset; simp [ha])
      · exact (List.nodup_append.mp S.nd).2.2 a z a ha rfl
    have sub : ∀ b ∈ dd :: p.toList, b ∈ mset p ws (dd :: F) := fun b hb => by
      rcases List.mem_cons.mp hb with z | z
      · exact mem_mset_cons.mpr (.inl z)
      · exact sub_p b z
    have go : ∀ {env : Env} {σ : L2.St} {us : List (Option Addr)}, (∀ a ∈ own us, a ∉ dd :: p.toList) → SlotsOk K (mset p ws (dd :: F)) H p env σ us → SlotsOk K (mset p ws (dd :: F)) H' p env σ us := by
      intro env
      induction env with
      | nil => intro σ us _ h; exact h
      | cons b bs ih =>
        intro σ us hk h
        obtain ⟨s, ss, w, wr, e1, e2, h1, h2⟩ := h
        subst e2
        refine ⟨s, ss, w, wr, e1, rfl, ?_, ih (fun a ha => hk a (by
          cases w with
          | none => exact ha
          | some c => exact List.mem_cons_of_mem _ ha)) h2⟩
        cases b with
        | un => exact h1
        | val d => exact ⟨h1.1, let ⟨v, e, r⟩ := h1.2; ⟨v, e, Rep.keep k sub _ _ r⟩⟩
        | own ds =>
          obtain ⟨a, xs, e3, e4, e5, r⟩ := h1
          subst e3
          exact ⟨a, xs, rfl, e4, k _ _ (hk a List.mem_cons_self) e5, RepL.keep k sub _ _ r⟩
        | pot => exact h1
    exact go key S.slots
  pot := q
  nd := S.nd
  dis := S.dis
  frg := fun m hm z => by
    by_cases h1 : m = dd
    · rw [h1] at z; exact t z
    · by_cases hp : m ∈ p.toList
      · cases p with
        | none => cases hp
        | some a =>
          have e : m = a := by simpa using hp
          subst e
          obtain ⟨xs, q'⟩ := q.trk
          rw [q'] at z; cases z
      · cases q' : H m with
        | none => exact S.frg m hm q'
        | some o => rw [k m o (by simp only [List.mem_cons, not_or]; exact ⟨h1, hp⟩) q'] at z; cases z
theorem lc2_core' {K : PySem.W.Frag} {vs vs1 : List Nat} (hjs : ∀ j ∈ js, j ∈ vs) (hjs1 : ∀ j ∈ js1, j ∈ vs1) {σ : L2.St} {H : Hp} {Q : VK} (h : tF K (aLc2 vs vs1 mi g mt mi1 g1 mt1 me) σ H Q) :
    tLc2 (tI K mi) (gD K js g) (tDT K mt) (tI K mi1) (gD K js1 g1) (tDT K mt1) (tD K me) vs vs1 σ H Q := by
  obtain ⟨F, p, ws, env, pot, out, pot', S, e, q⟩ := h
  obtain ⟨ds, pot1, e1, e2⟩ := bnd_inv e
  split at e2
  · rename_i hno
    cases e0 : lcLoop2 g mt mi1 g1 mt1 me vs1 (wipeE env vs) ds pot1 with
    | none => rw [e0] at e2; cases e2
    | some oq =>
    obtain ⟨out', pot''⟩ := oq
    rw [e0] at e2
    dsimp only at e2
    split at e2
    · rename_i hlen
      cases e2
      refine ⟨F, p, ws, env, pot, ds, pot1, S, e1, fun J H1 S1 k1 it dd nD => ?_⟩
      have sm := same_upd (o := HO.lst []) nD
      have nDM : dd ∉ mset p ws F := S1.fresh nD
      have nDp : dd ∉ p.toList := fun z => nDM (sub_p dd z)
      have gr : ∀ m ∈ mset p ws (dd :: F), m ∈ mset p ws F ∨ H1 m = none := fun m hm => by
        rcases mem_mset_cons.mp hm with z | z
        · exact .inr (by rw [z]; exact nD)
        · exact .inl z
      refine ⟨fun i m H => m = ds.length - i ∧ i ≤ ds.length ∧ ∃ acc pot2 out2, LcAt K F p ws H1 σ env vs dd acc H pot2 ∧ lcLoop2 g mt mi1 g1 mt1 me vs1 (wipeE env vs) (ds.drop i) pot2 = some (out2, pot') ∧ acc ++ out2 = out, ⟨ds.length, by simp, Nat.zero_le _, [], pot1, out, ⟨?_, ⟨[], upd_same, repL_nil⟩, Keep.same sm⟩, by rw [List.drop_zero]; exact e0, rfl⟩, ?_⟩
      · exact (S1.wipe hno).more nD sm (by rw [upd_same]; exact fun z => nomatch z)
      rintro i m H2 ⟨rfl, hi, acc, pot2, out2, L, e3, eo⟩
      obtain ⟨xs, hD, rD⟩ := L.at_
      obtain ⟨hgo, hstop, hyld⟩ := it _ H2 gr L.sr.trk (L.keep.mono sub_p)
      by_cases hlt : i < ds.length
      · refine .inr ⟨hgo i hlt, fun H' => (ds.length - (i + 1) = ds.length - (i + 1) ∧ i + 1 ≤ ds.length ∧ ∃ acc pot2 out2, LcAt K F p ws H1 σ env vs dd acc H' pot2 ∧ lcLoop2 g mt mi1 g1 mt1 me vs1 (wipeE env vs) (ds.drop (i + 1)) pot2 = some (out2, pot') ∧ acc ++ out2 = out), fun H' hN => ⟨ds.length - (i + 1), by omega, hN⟩, fun x H3 hy => ?_⟩
        obtain ⟨sm3, rx⟩ := hyld i _ x H3 (List.getElem?_eq_getElem hlt) hy
        have k23 : Keep p.toList H2 H3 := Keep.same sm3
        have L3 := lc_turn L (L.sr.same sm3) k23 nDp
        rw [List.drop_eq_getElem_cons hlt] at e3
        simp only [lcLoop2] at e3
        cases eg : g ds[i] (wipeE env vs) with
        | none => rw [eg] at e3; cases e3
        | some env' =>
          rw [eg] at e3
          dsimp only at e3
          refine ⟨dd :: F, p, ws, wipeE env vs, pot2, ds[i], env', L3.sr, rx, eg, fun σ2 S2 l2 k2 => ⟨?_, ?_⟩⟩
          · have w1 : L2.wipe σ2 vs = L2.wipe (L2.wipe σ vs) vs := wipe_eq l2 fun j hj => k2 j fun z => hj (hjs j z)
            rw [w1, wipe_wipe]
          · cases et : mt env' pot2 with
            | none => rw [et] at e3; cases e3
            | some bq =>
              obtain ⟨b, pot3⟩ := bq
              rw [et] at e3
              refine tG_run S2 et fun b' H4 S4 k4 eb => ?_
              subst eb
              have L4 := lc_turn L3 S4 k4 nDp
              cases b with
              | false =>
                rw [if_neg Bool.false_ne_true]
                exact ⟨rfl, hlt, acc, pot3, out2, L4, e3, eo⟩
              | true =>
                rw [if_pos rfl]
                dsimp only at e3
                cases ei : mi1 env' pot3 with
                | none => rw [ei] at e3; cases e3
                | some iq =>
                  obtain ⟨es, pot4⟩ := iq
                  rw [ei] at e3
                  dsimp only at e3
                  split at e3
                  · rename_i hno1
                    cases el : lcLoop g1 mt1 me (wipeE env' vs1) es pot4 with
                    | none => rw [el] at e3; cases e3
                    | some xq =>
                      obtain ⟨oin, pot5⟩ := xq
                      rw [el] at e3
                      dsimp only at e3
                      cases er : lcLoop2 g mt mi1 g1 mt1 me vs1 (wipeE env vs) (ds.drop (i + 1)) pot5 with
                      | none => rw [er] at e3; cases e3
                      | some yq =>
                        obtain ⟨ys, pot6⟩ := yq
                        rw [er] at e3
                        cases e3
                        refine ⟨dd :: F, p, ws, env', pot3, es, pot4, S4, ei, fun J1 H5 S5 k5 it1 => ?_⟩
                        have L5 := lc_turn L4 S5 k5 nDp
                        obtain ⟨xs5, hD5, rD5⟩ := L5.at_
                        refine ⟨fun j k H => k = es.length - j ∧ j ≤ es.length ∧ ∃ acc2 pot7 o2, LcAt K F p ws H1 σ2 env' vs1 dd acc2 H pot7 ∧ Keep (dd :: p.toList) H5 H ∧ lcLoop g1 mt1 me (wipeE env' vs1) (es.drop j) pot7 = some (o2, pot5) ∧ acc2 ++ o2 = acc ++ oin, ⟨es.length, by simp, Nat.zero_le _, acc, pot4, oin, ⟨S5.wipe hno1, L5.at_, L5.keep⟩, Keep.refl _ _, by rw [List.drop_zero]; exact el, rfl⟩, ?_⟩
                        rintro j k H6 ⟨rfl, hj, acc2, pot7, o2, N, kk, e7, eo2⟩
                        obtain ⟨xs6, hD6, rD6⟩ := N.at_
                        have sub5 : ∀ b ∈ dd :: p.toList, b ∈ mset p ws (dd :: F) := fun b hb => by
                          rcases List.mem_cons.mp hb with z | z
                          · exact mem_mset_cons.mpr (.inl z)
                          · exact sub_p b z
                        obtain ⟨hgo1, hstop1, hyld1⟩ := it1 (mset p ws (dd :: F)) H6 (fun m hm => .inl hm) N.sr.trk (kk.mono sub5)
                        by_cases hlt1 : j < es.length
                        · refine .inr ⟨hgo1 j hlt1, fun H' => (es.length - (j + 1) = es.length - (j + 1) ∧ j + 1 ≤ es.length ∧ ∃ acc2 pot7 o2, LcAt K F p ws H1 σ2 env' vs1 dd acc2 H' pot7 ∧ Keep (dd :: p.toList) H5 H' ∧ lcLoop g1 mt1 me (wipeE env' vs1) (es.drop (j + 1)) pot7 = some (o2, pot5) ∧ acc2 ++ o2 = acc ++ oin), fun H' hN => ⟨es.length - (j + 1), by omega, hN⟩, fun x1 H7 hy1 => ?_⟩
                          obtain ⟨sm7, rx7⟩ := hyld1 j _ x1 H7 (List.getElem?_eq_getElem hlt1) hy1
                          have k67 : Keep p.toList H6 H7 := Keep.same sm7
                          have N7 := lc_turn N (N.sr.same sm7) k67 nDp
                          have kk7 : Keep (dd :: p.toList) H5 H7 := kk.trans (Keep.same sm7)
                          rw [List.drop_eq_getElem_cons hlt1] at e7
                          simp only [lcLoop] at e7
                          cases eg1 : g1 es[j] (wipeE env' vs1) with
                          | none => rw [eg1] at e7; cases e7
                          | some env1 =>
                            rw [eg1] at e7
                            dsimp only at e7
                            refine ⟨dd :: F, p, ws, wipeE env' vs1, pot7, es[j], env1, N7.sr, rx7, eg1, fun σ3 S8 l8 k8 => ⟨?_, ?_⟩⟩
                            · have w1 : L2.wipe σ3 vs1 = L2.wipe (L2.wipe σ2 vs1) vs1 := wipe_eq l8 fun j' hj' => k8 j' fun z => hj' (hjs1 j' z)
                              rw [w1, wipe_wipe]
                            · cases et1 : mt1 env1 pot7 with
                              | none => rw [et1] at e7; cases e7
                              | some bq =>
                                obtain ⟨b1, pot8⟩ := bq
                                rw [et1] at e7
                                refine tG_run S8 et1 fun b1' H9 S9 k9 eb1 => ?_
                                subst eb1
                                have N9 := lc_turn N7 S9 k9 nDp
                                have kk9 : Keep (dd :: p.toList) H5 H9 := kk7.trans (k9.mono fun a ha => List.mem_cons_of_mem _ ha)
                                cases b1 with
                                | false =>
                                  rw [if_neg Bool.false_ne_true]
                                  exact ⟨rfl, hlt1, acc2, pot8, o2, N9, kk9, e7, eo2⟩
                                | true =>
                                  rw [if_pos rfl]
                                  dsimp only at e7
                                  cases ee : me env1 pot8 with
                                  | none => rw [ee] at e7; cases e7
                                  | some xq =>
                                    obtain ⟨y, pot9⟩ := xq
                                    rw [ee] at e7
                                    dsimp only at e7
                                    cases el9 : lcLoop g1 mt1 me (wipeE env' vs1) (es.drop (j + 1)) pot9 with
                                    | none => rw [el9] at e7; cases e7
                                    | some zq =>
                                      obtain ⟨o3, pot10⟩ := zq
                                      rw [el9] at e7
                                      cases e7
                                      refine tG_run S9 ee fun v Ha Sa ka ra => ?_
                                      have Na := lc_turn N9 Sa ka nDp
                                      obtain ⟨xsa, hDa, rDa⟩ := Na.at_
                                      have hxa : xsa.length = acc2.length := rDa.length
                                      have hl : acc2.length < 16777216 := by
                                        have h1 : (acc2 ++ y :: o3).length = (acc ++ oin).length := by rw [eo2]
                                        have h2 : (acc ++ (oin ++ ys)).length = out.length := by rw [eo]
                                        simp only [List.length_append, List.length_cons] at h1 h2
                                        omega
                                      refine ⟨xsa, hDa, by rw [hxa, line_eq]; exact hl, rfl, hlt1, acc2 ++ [y], pot9, o3, lc_put Na hDa ra nDM nD, ?_, el9, by simpa using eo2⟩
                                      exact (kk9.trans (ka.mono fun a ha => List.mem_cons_of_mem _ ha)).trans (keep_upd (by simp))
                        · have hj' : j = es.length := by omega
                          subst hj'
                          rw [List.drop_length] at e7
                          cases e7
                          rw [List.append_nil] at eo2
                          subst eo2
                          refine .inl ⟨hstop1, rfl, hlt, acc ++ oin, pot5, ys, ⟨?_, N.at_, N.keep⟩, er, by simpa using eo⟩
                          exact L5.sr.call2 kk nDM (by rw [hD6]; exact fun z => nomatch z) N.sr.pot
                  · cases e3
      · have hi' : i = ds.length := by omega
        subst hi'
        rw [List.drop_length] at e3
        cases e3
        rw [List.append_nil] at eo
        subst eo
        refine .inl ⟨hstop, ?_⟩
        have sub : ∀ m ∈ mset p ws F, m ∈ mset p ws (dd :: F) := fun m hm => mem_mset_cons.mpr (.inr hm)
        refine q dd xs H2 (S1.call L.keep (L.sr.pot.sub sub)) (k1.trans L.keep) ?_ nDM hD (rD.sub sub) (fun b hb z => by rw [z, hD] at hb; cases hb) (rD.sub fun m hm => ?_)
        · exact k1.free nDp nD
        · rcases List.mem_cons.mp hm with z | z
          · exact mem_mset_cons.mpr (.inl z)
          · exact sub m z
    · cases e2
  · cases e2
theorem f_lc2 {vs1 : List Nat} (hc : X.calm = true) (hN : X.N.Nodup) (hi : EI X tg iter mi) (ok : BlkOk X.N X.env.scope scope own')
    (hg : ∀ (s : Shared) (H : Hp) (C : Addr) (cl : List (Str × Addr)) (fp : List Addr), EG (X.blk s H scope (compEnvC scope cl C X.env) fp) tg js g) (ht : ∀ (s : Shared) (H : Hp) (C : Addr) (cl : List (Str × Addr)) (fp : List Addr), ETs (X.blk s H scope (compEnvC scope cl C X.env) fp) ifs mt)
    (hi1 : ∀ (s : Shared) (H : Hp) (C : Addr) (cl : List (Str × Addr)) (fp : List Addr), EI (X.blk s H scope (compEnvC scope cl C X.env) fp) tg1 iter1 mi1)
    (hg1 : ∀ (s : Shared) (H : Hp) (C : Addr) (cl : List (Str × Addr)) (fp : List Addr), EG (X.blk s H scope (compEnvC scope cl C X.env) fp) tg1 js1 g1) (ht1 : ∀ (s : Shared) (H : Hp) (C : Addr) (cl : List (Str × Addr)) (fp : List Addr), ETs (X.blk s H scope (compEnvC scope cl C X.env) fp) ifs1 mt1)
    (he : ∀ (s : Shared) (H : Hp) (C : Addr) (cl : List (Str × Addr)) (fp : List Addr), EE (X.blk s H scope (compEnvC scope cl C X.env) fp) elt me) (hjs : ∀ j ∈ js, j ∈ own'.map (·.2) := by decide) (hjs1 : ∀ j ∈ js1, j ∈ vs1 := by decide) (hv : ∀ i ∈ vs1, i ∈ own'.map (·.2) := by decide)
    (hs : ∀ x, foldedSetIterable iter X.env x = pure x := by intro _; rfl) (hs1 : ∀ env x, foldedSetIterable iter1 env x = pure x := by intro _ _; rfl) :
    EF X (.ListComp elt [⟨tg, iter, ifs, 0⟩, ⟨tg1, iter1, ifs1, 0⟩] scope pos) (aLc2 (own'.map (·.2)) vs1 mi g mt mi1 g1 mt1 me) :=
  PE.imp (pe_lc2 hc hN hi ok hv hg ht hi1 hg1 ht1 he hs hs1) fun σ H Q h => lc2_core' hjs hjs1 h
end
end DL
set_option Elab.async false
set_option linter.all false
set_option maxRecDepth 100000
set_option maxHeartbeats 4000000
/-! The data layer, part 7: subscripts, slices, isinstance, lists made of others. -/
namespace DL
open PySem PySem.Spec PyProof.Rows L2

section
variable {K : PySem.W.Frag} {M : List Addr} {H : Hp}
theorem RepL.atI {ds : List D} {xs : List V} {i : Int} {d : D} (r : RepL K M H ds xs) (e : L2.atI ds i = some d) : ∃ v, L2.atI xs i = some v ∧ Rep K M H d v := by
  unfold L2.atI at e ⊢
  rw [r.length]
  cases hj : ixN ds.length i with
  | none => rw [hj] at e; cases e
  | some j =>
    rw [hj] at e
    obtain ⟨v, h1, h2⟩ := r.at (show ds[j]? = some d from e)
    exact ⟨v, h1, h2⟩
def fIx : D → D → Option D
  | .tup ds, .int i => L2.atI ds i
  | .lst ds, .int i => L2.atI ds i
  | _, _ => none
theorem ok_fIx : BinOk K (rIx K) fIx := by
  intro M H x y d vx vy Q hM hx hy e q
  cases y with
  | int i =>
    cases x with
    | tup ds =>
      obtain ⟨a, xs, rfl, h1, h2⟩ := hx.inv_tup
      obtain ⟨v, h3, h4⟩ := h2.atI (show L2.atI ds i = some d from e)
      exact .inr (.inl ⟨a, xs, i, v, rfl, hy.inv_int, h1.sq, h3, q v H (Same.refl H) h4⟩)
    | lst ds =>
      obtain ⟨a, xs, rfl, h1, h2⟩ := hx.inv_lst
      obtain ⟨v, h3, h4⟩ := h2.atI (show L2.atI ds i = some d from e)
      exact .inl ⟨a, xs, i, v, rfl, hy.inv_int, h1.sq, h3, q v H (Same.refl H) h4⟩
    | _ => cases e
  | _ => cases x <;> cases e
end
section
variable {X : Cx} {a b c e : Expr} {es : List Expr} {ma mb mc m : ME} {mr : MA} {pos p p2 : Pos} {x : Str} {lo hi : Option Expr}
theorem e_ix (ha : EE X a ma) (hb : EE X b mb) (hs : PlainIx b := by intro _ _; rfl) : EE X (.Subscript a b pos) (d2 fIx ma mb) := PE.imp (pe_ix ix_seq ha hb hs) fun _ _ _ h => bin_imp ok_fIx h
/-- the one list that callers and callees change: read at a place -/
def dPotIx (i : Nat) (mb : ME) : ME := bnd mb fun k env pot => match env[i]?, pot, k with
  | some .pot, some ds, .int z => (match L2.atI ds z with
    | some d => some (d, pot)
    | none => none)
  | _, _, _ => none
theorem e_ixPot (i : Nat) (hb : EE X b mb) (hN : X.N[i]? = some x := by rfl) (hv : Vis X.env.scope x := by first | exact Or.inl rfl | exact Or.inr (Or.inl rfl) | exact Or.inr (Or.inr rfl)) (hd : (x == ("__debug__" : Str)) = false := by decide)
    (hcd : (x == ("__classdict__" : Str)) = false := by decide) (hs : PlainIx b := by intro _ _; rfl) : EE X (.Subscript (.Name x p) b pos) (dPotIx i mb) := PE.imp (pe_ix ix_list (pe_var hN hv hd hcd) hb hs) fun σ H Q h => by
  obtain ⟨F, p, ws, env, pot, d, pot', S, e, q⟩ := h
  obtain ⟨k, pot1, e1, e2⟩ := bnd_inv e
  split at e2
  · rename_i ds z hb1 
    obtain ⟨s, w, h1, h2, h3, a, h4, h5⟩ := S.slots.at hb1
    subst h5
    refine ⟨.ref a, h1, tG_run S e1 fun v H' S' kp r => ?_⟩
    split at e2
    · rename_i d' hd'
      cases e2
      have q' := S'.pot
      subst h4
      obtain ⟨xs, g1, g2⟩ := q'
      obtain ⟨u, g3, g4⟩ := g2.atI hd'
      exact ⟨a, xs, z, u, rfl, r.inv_int, .inl (.inl g1), g3, q u H' S' kp g4⟩
    · cases e2
  · cases e2
/-! ### slices -/
abbrev MO := MM (Option Int)
abbrev tDO (K : PySem.W.Frag) (m : MO) : TO := tG K (fun _ _ _ a b => a = b) m
abbrev EO (X : Cx) (e : Option Expr) (m : MO) : Prop := PO X e (tDO X.K m)
theorem PO.imp {e : Option Expr} {t t' : TO} (h : PO X e t) (i : ∀ σ H Q, t' σ H Q → t σ H Q) : PO X e t' := ⟨fun pins s σ H Q I hw => h.run pins s σ H Q I (i σ H Q hw)⟩
def oNone : MO := lft (some none)
def oSome (m : ME) : MO := bnd m fun x => match x with
  | .int i => lft (some (some i))
  | _ => lft none
theorem o_none : EO X none oNone := PO.imp po_none fun σ H Q h => by
  obtain ⟨F, p, ws, env, pot, d, pot', S, e, q⟩ := h
  cases e
  exact q none H S (Keep.refl _ _) rfl
theorem o_some (ha : EE X a ma) : EO X (some a) (oSome ma) := PO.imp (po_some ha) fun σ H Q h => by
  obtain ⟨F, p, ws, env, pot, d, pot', S, e, q⟩ := h
  obtain ⟨x, pot1, e1, e2⟩ := bnd_inv e
  refine tG_run S e1 fun v H' S' kp r => ?_
  cases x with
  | int i =>
    cases e2
    exact ⟨i, r.inv_int, q _ H' S' kp rfl⟩
  | _ => cases e2
def cutD (ds : List D) (lo hi : Option Int) : List D := (ds.drop (HT.sIx ds.length 0 lo)).take (HT.sIx ds.length ds.length hi - HT.sIx ds.length 0 lo)
theorem RepL.cut {K : PySem.W.Frag} {M : List Addr} {H : Hp} {ds : List D} {xs : List V} (r : RepL K M H ds xs) (lo hi : Option Int) : RepL K M H (cutD ds lo hi) (cutV xs lo hi) := by
  unfold cutD cutV
  rw [r.length]
  exact RepL.take _ (RepL.drop _ r)
def dSl (ma : ME) (ml mh : MO) : ME := bnd ma fun x => bnd ml fun lo => bnd mh fun hi => match x with
  | .tup ds => dC (.tup (cutD ds lo hi))
  | .lst ds => dC (.lst (cutD ds lo hi))
  | _ => lft none
theorem cutD_whole {ds : List D} {lo hi : Option Int} (h : HT.sIx ds.length 0 lo = 0 ∧ HT.sIx ds.length ds.length hi = ds.length) : cutD ds lo hi = ds := by
  unfold cutD
  rw [h.1, h.2]
  simp
theorem e_sl {ml mh : MO} (ha : EE X a ma) (hl : EO X lo ml) (hh : EO X hi mh) : EE X (.Subscript a (.Slice lo hi none p2) pos) (dSl ma ml mh) := PE.imp (pe_slice (SlR.or sl_list sl_tupA) ha hl hh) fun σ H Q h => by
  obtain ⟨F, p, ws, env, pot, d, pot', S, e, q⟩ := h
  obtain ⟨x, pot1, e1, e2⟩ := bnd_inv e
  obtain ⟨l, pot2, e3, e4⟩ := bnd_inv e2
  obtain ⟨h, pot3, e5, e6⟩ := bnd_inv e4
  refine tG_run S e1 fun v H1 S1 k1 r1 => tG_run S1 e3 fun l' H2 S2 k2 r2 => tG_run S2 e5 fun h' H3 S3 k3 r3 => ?_
  subst r2 r3
  have r := Rep.keep (k2.trans k3) (sub_p (ws := ws) (F := F)) _ _ r1
  have kk := k1.trans (k2.trans k3)
  cases x with
  | tup ds =>
    cases e6
    obtain ⟨a, xs, rfl, g1, g2⟩ := r.inv_tup
    refine .inr ⟨a, xs, rfl, g1.sq, fun hw => ?_, fun hw c nc => ?_⟩
    · rw [g2.length] at hw
      rw [cutD_whole hw] at q
      exact q _ H3 S3 kk r
    · exact q _ _ (S3.same (same_upd nc)) (kk.trans (Keep.same (same_upd nc))) (rep_tup_new nc S3.trk (g2.cut l h))
  | lst ds =>
    cases e6
    obtain ⟨a, xs, rfl, g1, g2⟩ := r.inv_lst
    exact .inl ⟨a, xs, rfl, g1.sq, fun c nc => q _ _ (S3.same (same_upd nc)) (kk.trans (Keep.same (same_upd nc))) (rep_lst_new nc S3.trk (g2.cut l h))⟩
  | _ => cases e6
/-! ### isinstance -/
def tyN : D → String
  | .non => "NoneType"
  | .bl _ => "bool"
  | .int _ => "int"
  | .str _ => "str"
  | .tup _ => "tuple"
  | .lst _ => "list"
def isiB (T t : String) : Bool := t == T || (T == "int" && t == "bool")
def isiOk (T : String) : Bool := ["NoneType", "bool", "int", "str", "tuple", "list"].all fun t => decide (kitB t T = some (isiB T t))
theorem tyX_of {K : PySem.W.Frag} {M : List Addr} {H : Hp} {d : D} {v : V} (r : Rep K M H d v) : TyX K H v (.type (tyN d)) := by
  cases d with
  | non => rw [r.inv_non]; exact .base .non
  | bl b => rw [r.inv_bl]; exact .base (.bl b)
  | int i => rw [r.inv_int]; exact .base (.int i)
  | str x => rw [r.inv_str]; exact .base (.str x)
  | tup ds =>
    obtain ⟨a, xs, rfl, h1, h2⟩ := r.inv_tup
    rcases h1 with ⟨_, h | ⟨o, h⟩⟩ | ⟨o, its, n, h, hc, _⟩
    · exact .base (.tup h)
    · exact .fTuple h
    · exact .kTuple h hc
  | lst ds =>
    obtain ⟨a, xs, rfl, h1, h2⟩ := r.inv_lst
    rcases h1 with ⟨_, h | ⟨o, h⟩⟩ | ⟨o, its, n, h, hc, _⟩
    · exact .base (.lst h)
    · exact .base (.frz h)
    · exact .kList h hc
def dIsi (T : String) (ma : ME) : ME := bnd ma fun x => dC (.bl (isiB T (tyN x)))
theorem e_isi {cx : Str} {q1 : Pos} (T : String) (hT : isiOk T = true) (hm : X.mg "isinstance" = none) (hmc : X.mg cx = none) (hbc : bootBuiltins cx = some (.type T)) (ha : EE X a ma) (hg : Gl X "isinstance" := by rfl) (hgc : Gl X cx := by rfl)
    (na : starEach [a, .Name cx q1] X.env = (false, eval a X.env) :: starEach [.Name cx q1] X.env := by rfl) (nb : starEach [.Name cx q1] X.env = (false, eval (.Name cx q1) X.env) :: starEach [] X.env := by rfl) (hpl : (backTo pos (starEach [.Name cx q1] X.env)).any (·.1) = false := by rfl)
    (hn : cx ≠ "__name__" := by decide) (hd : (cx == ("__debug__" : Str)) = false := by decide) :
    EE X (.Call (.Name "isinstance" p) [a, .Name cx q1] [] pos) (dIsi T ma) :=
  PE.imp (pe_callB call_isi hg hm (by decide +kernel) (pa_cons ha (pa_cons (pe_bltn (v := .ty T) hgc hmc hbc rfl hn hd) pa_nil nb) na) (he := na) (hpl := hpl)) fun σ H Q h => by
    obtain ⟨F, p, ws, env, pot, d, pot', S, e, q⟩ := h
    obtain ⟨x, pot1, e1, e2⟩ := bnd_inv e
    cases e2
    refine tG_run S e1 fun v H' S' kp r => ⟨v, .ty T, .type (tyN x), .type T, isiB T (tyN x), rfl, .ty T, tyX_of r, kit_ty ?_, q _ H' S' kp rep_bl⟩
    unfold isiOk at hT
    rw [List.all_eq_true] at hT
    exact of_decide_eq_true (hT (tyN x) (by cases x <;> simp [tyN]))
/-! ### fresh lists made of others -/
def fListOf (ma : ME) : MA := bnd ma fun x => lft (items x)
theorem f_list (hm : X.mg "list" = none) (ha : EE X a ma) (hg : Gl X "list" := by rfl) (na : starEach [a] X.env = (false, eval a X.env) :: starEach [] X.env := by rfl) : EF X (.Call (.Name "list" p) [a] [] pos) (fListOf ma) :=
  PE.imp (pe_callTy call_list_of hg hm (by decide +kernel) (pa_cons ha pa_nil na) (he := na)) fun σ H Q h => by
    obtain ⟨F, p, ws, env, pot, d, pot', S, e, q⟩ := h
    obtain ⟨x, pot1, e1, e2⟩ := bnd_inv e
    obtain ⟨e3, rfl⟩ := lft_inv e2
    refine tG_run S e1 fun v H' S' kp r => ?_
    obtain ⟨κ, b, xs, rfl, h1, h2⟩ := items_at r e3
    refine ⟨b, xs, rfl, ?_, fun l nl => ?_⟩
    · cases κ with
      | l => exact .inl h1.sq
      | t => exact .inr h1.sq
    · have sm := same_upd (o := HO.lst xs) nl
      have nH : H l = none := by
        by_cases hp : l ∈ p.toList
        · exact absurd (sub_p (ws := ws) (F := F) l hp) (S'.fresh nl)
        · exact kp.free hp nl
      exact q l xs _ (S'.same sm) (kp.trans (Keep.same sm)) nH (S'.fresh nl) upd_same (h2.same sm) (fun b hb z => by subst z; rw [upd_same] at hb; cases hb) ((fresh_cons nl h2).same sm)
def fListRg (ma : ME) : MA := bnd ma fun x => lft (match x with
  | .int n => if n ≤ 16777216 ∧ -16777216 ≤ n then some (rng 0 n.toNat) else none
  | _ => none)
theorem rg_rep {K : PySem.W.Frag} {M : List Addr} {H : Hp} (n : Int) : RepL K M H (rng 0 n.toNat) (rgV 0 n) := by
  unfold rng rgV
  rw [show (n - 0).toNat = n.toNat by omega]
  exact repL_map_ints (f := fun i : Nat => 0 + (i : Int)) _
theorem f_listRg {p3 pos3 : Pos} (hc : X.calm = true) (hm : X.mg "list" = none) (hmr : X.mg "range" = none) (ha : EE X a ma) (hg : Gl X "list" := by rfl) (hgr : Gl X "range" := by rfl) (na : starEach [a] X.env = (false, eval a X.env) :: starEach [] X.env := by rfl)
    (nr : starEach [.Call (.Name "range" p3) [a] [] pos3] X.env = (false, eval (.Call (.Name "range" p3) [a] [] pos3) X.env) :: starEach [] X.env := by rfl) : EF X (.Call (.Name "list" p) [.Call (.Name "range" p3) [a] [] pos3] [] pos) (fListRg ma) :=
  PE.imp (pe_listRg hc hg hm (prg_1 hgr hmr ha na) nr) fun σ H Q h => by
    obtain ⟨F, p, ws, env, pot, d, pot', S, e, q⟩ := h
    obtain ⟨x, pot1, e1, e2⟩ := bnd_inv e
    obtain ⟨e3, rfl⟩ := lft_inv e2
    refine tG_run S e1 fun v H' S' kp r => ?_
    cases x with
    | int n =>
      dsimp only at e3
      split at e3
      · rename_i hl
        cases e3
        refine ⟨n, r.inv_int, ⟨by omega, by omega, by omega, by omega, by omega⟩, fun l nl => ?_⟩
        have sm := same_upd (o := HO.lst (rgV 0 n)) nl
        have nH : H l = none := by
          by_cases hp : l ∈ p.toList
          · exact absurd (sub_p (ws := ws) (F := F) l hp) (S'.fresh nl)
          · exact kp.free hp nl
        exact q l _ _ (S'.same sm) (kp.trans (Keep.same sm)) nH (S'.fresh nl) upd_same (rg_rep n) (fun b hb z => by subst z; rw [upd_same] at hb; cases hb) (rg_rep n)
      · cases e3
    | _ => cases e3
end
end DL
set_option Elab.async false
set_option linter.all false
set_option maxRecDepth 100000
set_option maxHeartbeats 4000000
/-! The data layer, part 8: statements. -/
namespace DL
open PySem PySem.Spec PyProof.Rows L2

def flat : D → Bool
  | .tup _ => false
  | .lst _ => false
  | _ => true
def flatP : Pot → Bool
  | none => true
  | some ds => ds.all flat
section
variable {K : PySem.W.Frag} {M M' P F : List Addr} {H H' : Hp} {p : Option Addr}
theorem Rep.flat {d : D} {v : V} (f : flat d = true) (h : Rep K M H d v) : Rep K M' H' d v := by
  cases d with
  | tup _ => cases f
  | lst _ => cases f
  | non => simp only [Rep] at h ⊢; exact h
  | bl _ => simp only [Rep] at h ⊢; exact h
  | int _ => simp only [Rep] at h ⊢; exact h
  | str _ => simp only [Rep] at h ⊢; exact h
theorem RepL.flat : ∀ {ds : List D} {xs : List V}, ds.all DL.flat = true → RepL K M H ds xs → RepL K M' H' ds xs
  | [], xs, _, h => by rw [h.inv_nil]; exact repL_nil
  | d :: ds, xs, f, h => by
    obtain ⟨x, r, rfl, h1, h2⟩ := h.inv_cons
    rw [List.all_cons, Bool.and_eq_true] at f
    exact repL_cons (Rep.flat f.1 h1) (RepL.flat f.2 h2)
theorem PotOk.flat {pot : Pot} (f : flatP pot = true) (h : PotOk K M H p pot) : PotOk K M' H p pot := by
  cases p with
  | none => cases pot with
    | none => trivial
    | some _ => exact h
  | some a => cases pot with
    | none => exact h
    | some ds => exact let ⟨xs, e, r⟩ := h; ⟨xs, e, RepL.flat f r⟩
theorem SlotsOk.keep (k : Keep P H H') (hP : ∀ b ∈ P, b ∈ M) : ∀ {env : Env} {σ : L2.St} {us : List (Option Addr)}, (∀ a ∈ own us, a ∉ P) → SlotsOk K M H p env σ us → SlotsOk K M H' p env σ us
  | [], σ, us, _, h => h
  | b :: bs, σ, us, hk, h => by
    obtain ⟨s, ss, w, wr, e1, e2, h1, h2⟩ := h
    subst e2
    refine ⟨s, ss, w, wr, e1, rfl, ?_, SlotsOk.keep k hP (fun a ha => hk a (by
      cases w with
      | none => exact ha
      | some c => exact List.mem_cons_of_mem _ ha)) h2⟩
    cases b with
    | un => exact h1
    | val d => exact ⟨h1.1, let ⟨v, e, r⟩ := h1.2; ⟨v, e, Rep.keep k hP _ _ r⟩⟩
    | own ds =>
      obtain ⟨a, xs, e3, e4, e5, r⟩ := h1
      subst e3
      exact ⟨a, xs, rfl, e4, k _ _ (hk a List.mem_cons_self) e5, RepL.keep k hP _ _ r⟩
    | pot => exact h1
theorem SlotsOk.grow (g : ∀ m ∈ M', m ∈ M ∨ H m = none) : ∀ {env : Env} {σ : L2.St} {us : List (Option Addr)}, SlotsOk K M H p env σ us → SlotsOk K M' H p env σ us :=
  SlotsOk.imp fun b s w h => by
    cases b with
    | un => exact h
    | val d => exact ⟨h.1, let ⟨v, e, r⟩ := h.2; ⟨v, e, Rep.grow g _ _ r⟩⟩
    | own ds => exact let ⟨a, xs, e1, e2, e3, r⟩ := h; ⟨a, xs, e1, e2, e3, RepL.grow g _ _ r⟩
    | pot => exact h
theorem mem_own_of {ws : List (Option Addr)} {i : Nat} {a : Addr} (h : ws[i]? = some (some a)) : a ∈ own ws := by
  unfold own
  rw [List.mem_filterMap]
  exact ⟨some a, List.mem_of_getElem? h, rfl⟩
theorem SlotsOk.write {a : Addr} {es : List D} {ys : List V} (hM : a ∈ M) (r : RepL K M (L2.upd H a (.lst ys)) es ys) : ∀ {env : Env} {σ : L2.St} {ws : List (Option Addr)} {i : Nat} {ds : List D}, (own ws).Nodup → ws[i]? = some (some a) → env[i]? = some (.own ds) → SlotsOk K M H p env σ ws → SlotsOk K M (L2.upd H a (.lst ys)) p (env.set i (.own es)) σ ws
  | [], _, _, i, _, _, _, e, _ => by simp at e
  | b :: bs, σ, ws, i, ds, nd, hw, e, h => by
    obtain ⟨s, ss, w, wr, rfl, rfl, h1, h2⟩ := h
    have kk : Keep [a] H (L2.upd H a (.lst ys)) := keep_upd (by simp)
    have sM : ∀ b ∈ [a], b ∈ M := fun b hb => by rw [List.mem_singleton.mp hb]; exact hM
    cases i with
    | zero =>
      have e1 : w = some a := by simpa using hw
      have e2 : b = .own ds := by simpa using e
      subst e1 e2
      obtain ⟨a', xs, e3, e4, e5, _⟩ := h1
      cases e3
      rw [own_cons_some, List.nodup_cons] at nd
      exact ⟨s, ss, _, wr, rfl, rfl, ⟨a, ys, rfl, e4, upd_same, r⟩, SlotsOk.keep kk sM (fun c hc z => nd.1 (List.mem_singleton.mp z ▸ hc)) h2⟩
    | succ i =>
      have hw' : wr[i]? = some (some a) := by simpa using hw
      have am := mem_own_of hw'
      have nd' : (own wr).Nodup := by
        cases w with
        | none => exact nd
        | some c => rw [own_cons_some, List.nodup_cons] at nd; exact nd.2
      refine ⟨s, ss, w, wr, rfl, rfl, ?_, SlotsOk.write hM r nd' hw' (by simpa using e) h2⟩
      cases b with
      | un => exact h1
      | val d => exact ⟨h1.1, let ⟨v, e, r⟩ := h1.2; ⟨v, e, Rep.keep kk sM _ _ r⟩⟩
      | pot => exact h1
      | own ds' =>
        obtain ⟨a', xs, e3, e4, e5, r'⟩ := h1
        subst e3
        rw [own_cons_some, List.nodup_cons] at nd
        exact ⟨a', xs, rfl, e4, kk _ _ (fun z => nd.1 (List.mem_singleton.mp z ▸ am)) e5, RepL.keep kk sM _ _ r'⟩
theorem own_set {ws : List (Option Addr)} {i : Nat} {a : Addr} (h : ws[i]? = some none) : (∀ m, m ∈ own (ws.set i (some a)) ↔ m = a ∨ m ∈ own ws) ∧ ((own ws).Nodup → a ∉ own ws → (own (ws.set i (some a))).Nodup) := by
  induction ws generalizing i with
  | nil => simp at h
  | cons w wr ih =>
    cases i with
    | zero =>
      have e : w = none := by simpa using h
      subst e
      rw [List.set_cons_zero, own_cons_some, own_cons_none]
      exact ⟨fun m => List.mem_cons, fun nd na => List.nodup_cons.mpr ⟨na, nd⟩⟩
    | succ i =>
      obtain ⟨h1, h2⟩ := ih (i := i) (by simpa using h)
      rw [List.set_cons_succ]
      cases w with
      | none => rw [own_cons_none, own_cons_none]; exact ⟨h1, h2⟩
      | some c =>
        rw [own_cons_some, own_cons_some]
        refine ⟨fun m => ?_, fun nd na => ?_⟩
        · rw [List.mem_cons, List.mem_cons, h1]
          constructor
          · rintro (z | z | z); exact .inr (.inl z); exact .inl z; exact .inr (.inr z)
          · rintro (z | z | z); exact .inr (.inl z); exact .inl z; exact .inr (.inr z)
        · rw [List.nodup_cons] at nd ⊢
          refine ⟨fun z => ?_, h2 nd.2 fun z => na (List.mem_cons_of_mem _ z)⟩
          rcases (h1 c).mp z with z | z
          · exact na (z ▸ List.mem_cons_self)
          · exact nd.1 z
theorem own_drop {ws : List (Option Addr)} {i : Nat} {a : Addr} (h : ws[i]? = some (some a)) : (∀ m, m ∈ own (ws.set i none) → m ∈ own ws) ∧ ((own ws).Nodup → (own (ws.set i none)).Nodup ∧ a ∉ own (ws.set i none)) := by
  induction ws generalizing i with
  | nil => simp at h
  | cons w wr ih =>
    cases i with
    | zero =>
      have e : w = some a := by simpa using h
      subst e
      rw [List.set_cons_zero, own_cons_some, own_cons_none]
      exact ⟨fun m z => List.mem_cons_of_mem _ z, fun nd => by rw [List.nodup_cons] at nd; exact ⟨nd.2, nd.1⟩⟩
    | succ i =>
      obtain ⟨h1, h2⟩ := ih (i := i) (by simpa using h)
      have am := mem_own_of (show wr[i]? = some (some a) by simpa using h)
      rw [List.set_cons_succ]
      cases w with
      | none => rw [own_cons_none, own_cons_none]; exact ⟨h1, h2⟩
      | some c =>
        rw [own_cons_some, own_cons_some]
        refine ⟨fun m z => ?_, fun nd => ?_⟩
        · rcases List.mem_cons.mp z with z | z
          · exact z ▸ List.mem_cons_self
          · exact List.mem_cons_of_mem _ (h1 m z)
        · rw [List.nodup_cons] at nd
          rw [List.nodup_cons]
          refine ⟨⟨fun z => nd.1 (h1 c z), (h2 nd.2).1⟩, fun z => ?_⟩
          rcases List.mem_cons.mp z with z | z
          · exact nd.1 (z ▸ am)
          · exact (h2 nd.2).2 z
end
section
variable {K : PySem.W.Frag} {F : List Addr} {H H' : Hp} {p p' : Option Addr} {ws ws' : List (Option Addr)} {σ : L2.St} {env : Env} {pot pot' : Pot} {i : Nat} {ds : List D} {a : Addr} {xs : List V}
theorem mem_mset {m : Addr} : m ∈ mset p ws F ↔ m ∈ p.toList ∨ m ∈ own ws ∨ m ∈ F := by unfold mset; simp only [List.mem_append]
/-- a fresh list becomes one's own -/
theorem SR.gain (S0 : SR K F p ws H σ env pot) (S : SR K F p ws H' σ env pot') (k : Keep p.toList H H') (na : H a = none) (nm : a ∉ mset p ws F) (ha : H' a = some (.lst xs)) (r : RepL K (a :: mset p ws F) H' ds xs) (fp : flatP pot' = true) (hi : i < env.length) (n : notOwn env i = true) :
    SR K F p (ws.set i (some a)) H' (σ.set i (some (.ref a))) (env.set i (.own ds)) pot' := by
  have hl := S.slots.length
  have hw : ws[i]? = some none := by
    have e := List.getElem?_eq_getElem (l := ws) (i := i) (by omega)
    rw [e, S.slots.noOwn n _ e]
  obtain ⟨o1, o2⟩ := own_set (a := a) hw
  have mem : ∀ m, m ∈ mset p (ws.set i (some a)) F → m = a ∨ m ∈ mset p ws F := fun m hm => by
    rw [mem_mset, o1] at hm
    rcases hm with z | (z | z) | z
    · exact .inr (mem_mset.mpr (.inl z))
    · exact .inl z
    · exact .inr (mem_mset.mpr (.inr (.inl z)))
    · exact .inr (mem_mset.mpr (.inr (.inr z)))
  have sub : ∀ m ∈ mset p (ws.set i (some a)) F, m ∈ a :: mset p ws F := fun m hm => by
    rcases mem m hm with z | z
    · rw [z]; exact List.mem_cons_self
    · exact List.mem_cons_of_mem _ z
  have nd := List.nodup_append.mp S.nd
  refine ⟨?_, PotOk.flat fp S.pot, ?_, S.frg, fun m hm z => by
    rcases (o1 m).mp hm with y | y
    · exact nm (y ▸ mem_mset.mpr (.inr (.inr z)))
    · exact S.dis m y z⟩
  · have s1 : SlotsOk K (mset p (ws.set i (some a)) F) H p env σ ws := S0.slots.grow fun m hm => (mem m hm).elim (fun z => .inr (z ▸ na)) .inl
    have s2 : SlotsOk K (mset p (ws.set i (some a)) F) H' p env σ ws := s1.keep k sub_p fun c hc z => nd.2.2 c z c hc rfl
    exact s2.set (b := .own ds) ⟨a, xs, rfl, rfl, ha, r.sub sub⟩ i
  · refine List.nodup_append.mpr ⟨nd.1, o2 nd.2.1 fun z => nm (mem_mset.mpr (.inr (.inl z))), fun x hx y hy z => ?_⟩
    subst z
    rcases (o1 x).mp hy with z | z
    · exact nm (z ▸ mem_mset.mpr (.inl hx))
    · exact nd.2.2 x hx x z rfl
/-- one's own list is rewritten -/
theorem SR.write (S : SR K F p ws H σ env pot) (e : env[i]? = some (.own ds)) : ∃ a xs, σ[i]? = some (some (.ref a)) ∧ ws[i]? = some (some a) ∧ H a = some (.lst xs) ∧ RepL K (mset p ws F) H ds xs ∧
    ∀ es ys, RepL K (mset p ws F) H es ys → SR K F p ws (L2.upd H a (.lst ys)) σ (env.set i (.own es)) pot := by
  obtain ⟨s, w, h1, h2, a, xs, rfl, rfl, h3, h4⟩ := S.slots.at e
  refine ⟨a, xs, h1, h2, h3, h4, fun es ys r => ?_⟩
  have ao := mem_own_of h2
  have am : a ∈ mset p ws F := mem_mset.mpr (.inr (.inl ao))
  have kk : Keep [a] H (L2.upd H a (.lst ys)) := keep_upd (by simp)
  have sM : ∀ b ∈ [a], b ∈ mset p ws F := fun b hb => by rw [List.mem_singleton.mp hb]; exact am
  have nd := List.nodup_append.mp S.nd
  refine ⟨SlotsOk.write am (RepL.keep kk sM _ _ r) nd.2.1 h2 e S.slots, ?_, S.nd, fun m hm => ?_, S.dis⟩
  · have q := S.pot
    cases p with
    | none => cases pot with
      | none => trivial
      | some _ => exact q
    | some b => cases pot with
      | none => exact q
      | some ds' =>
        obtain ⟨zs, e1, r1⟩ := q
        exact ⟨zs, kk _ _ (fun z => nd.2.2 b (by simp) a ao (List.mem_singleton.mp z)) e1, RepL.keep kk sM _ _ r1⟩
  · by_cases z : m = a
    · subst z; rw [upd_same]; exact fun q => nomatch q
    · rw [upd_ne z]; exact S.frg m hm
/-- one's own list is changed no more -/
theorem SR.freeze (S : SR K F p ws H σ env pot) (e : env[i]? = some (.own ds)) : ∃ a, SR K F p (ws.set i none) H σ (env.set i (.val (.lst ds))) pot ∧ ws[i]? = some (some a) := by
  obtain ⟨s, w, h1, h2, a, xs, rfl, rfl, h3, h4⟩ := S.slots.at e
  obtain ⟨o1, o2⟩ := own_drop h2
  have nd := List.nodup_append.mp S.nd
  have sub : ∀ m ∈ mset p (ws.set i none) F, m ∈ mset p ws F := fun m hm => by
    rcases mem_mset.mp hm with z | z | z
    · exact mem_mset.mpr (.inl z)
    · exact mem_mset.mpr (.inr (.inl (o1 m z)))
    · exact mem_mset.mpr (.inr (.inr z))
  refine ⟨a, ⟨?_, S.pot.sub sub, List.nodup_append.mpr ⟨nd.1, (o2 nd.2.1).1, fun x hx y hy z => nd.2.2 x hx y (o1 y hy) z⟩, S.frg, fun m hm => S.dis m (o1 m hm)⟩, h2⟩
  have s1 := S.slots.grow (M' := mset p (ws.set i none) F) fun m hm => .inl (sub m hm)
  have s2 := s1.set (b := .val (.lst ds)) (s := some (.ref a)) (w := none) ?_ i
  · rw [show σ.set i (some (.ref a)) = σ from by
      apply List.ext_getElem?
      intro j
      by_cases z : i = j
      · subst z
        rw [List.getElem?_set_self (List.getElem?_eq_some_iff.mp h1).1, h1]
      · rw [List.getElem?_set_ne z]] at s2
    exact s2
  · refine ⟨rfl, .ref a, rfl, ?_⟩
    simp only [Rep]
    refine ⟨a, xs, rfl, .inl ⟨fun hm => ?_, .inl h3⟩, h4.sub sub⟩
    rcases mem_mset.mp hm with z | z | z
    · exact nd.2.2 a z a (mem_own_of h2) rfl
    · exact (o2 nd.2.1).2 z
    · exact S.dis a (mem_own_of h2) z
end
end DL
set_option Elab.async false
set_option linter.all false
set_option maxRecDepth 100000
set_option maxHeartbeats 4000000
/-! The data layer, part 9: statements. -/
namespace DL
open PySem PySem.Spec PyProof.Rows L2

/-- how a statement ends -/
inductive Fl where
  | nx (env : Env) (pot : Pot) | bk (env : Env) (pot : Pot) | ct (env : Env) (pot : Pot) | rt (d : D) (pot : Pot) | rf (ds : List D) (pot : Pot)
abbrev MS := Env → Pot → Option Fl
structure Stp (p : Option Addr) (ws : List (Option Addr)) (H : Hp) (p' : Option Addr) (ws' : List (Option Addr)) (H' : Hp) : Prop where
  keep : Keep (p.toList ++ own ws) H H'
  new : ∀ a ∈ p'.toList ++ own ws', a ∈ p.toList ++ own ws ∨ H a = none
  dom : ∀ b, H' b = none → H b = none
section
variable {p p1 p2 : Option Addr} {ws ws1 ws2 : List (Option Addr)} {H H1 H2 : Hp}
theorem Stp.refl : Stp p ws H p ws H := ⟨Keep.refl _ _, fun a h => .inl h, fun _ h => h⟩
theorem Stp.trans (a : Stp p ws H p1 ws1 H1) (b : Stp p1 ws1 H1 p2 ws2 H2) : Stp p ws H p2 ws2 H2 where
  keep := fun c o n e => b.keep c o (fun z => (a.new c z).elim n fun q => by rw [e] at q; cases q) (a.keep c o n e)
  new := fun c hc => (b.new c hc).elim (a.new c) fun q => .inr (a.dom c q)
  dom := fun c q => a.dom c (b.dom c q)
theorem Stp.ex {K : PySem.W.Frag} {F : List Addr} {σ : L2.St} {env : Env} {pot : Pot} (S : SR K F p ws H1 σ env pot) (k : Keep p.toList H H1) : Stp p ws H p ws H1 where
  keep := k.mono fun a h => List.mem_append_left _ h
  new := fun a h => .inl h
  dom := fun b q => k.free (fun z => S.trk b (sub_p b z) q) q
end
def PostS (sw : Bool) (K : PySem.W.Frag) (F : List Addr) (p : Option Addr) (ws : List (Option Addr)) (H : Hp) (D : Ends) : Fl → Prop
  | .nx env pot => ∀ σ' H' p' ws', SR K F p' ws' H' σ' env pot → Stp p ws H p' ws' H' → (sw = false → p' = p) → D.nx σ' H'
  | .bk env pot => ∀ σ' H' p' ws', SR K F p' ws' H' σ' env pot → Stp p ws H p' ws' H' → (sw = false → p' = p) → D.bk σ' H'
  | .ct env pot => ∀ σ' H' p' ws', SR K F p' ws' H' σ' env pot → Stp p ws H p' ws' H' → (sw = false → p' = p) → D.ct σ' H'
  | .rt d pot => ∀ v H' p' ws', (∀ m ∈ mset p' ws' F, H' m ≠ none) → Rep K (mset p' ws' F) H' d v → PotOk K (mset p' ws' F) H' p' pot → Stp p ws H p' ws' H' → (sw = false → p' = p) → D.rt v H'
  | .rf ds pot => ∀ a xs H' p' ws', (∀ m ∈ mset p' ws' F, H' m ≠ none) → H' a = some (.lst xs) → H a = none → a ∉ mset p' ws' F → RepL K (a :: mset p' ws' F) H' ds xs → PotOk K (mset p' ws' F) H' p' pot → Stp p ws H p' ws' H' → (sw = false → p' = p) → D.rt (.ref a) H'
def tDS (sw : Bool) (K : PySem.W.Frag) (m : MS) : TS := fun D σ H =>
  ∃ F p ws env pot fl, SR K F p ws H σ env pot ∧ m env pot = some fl ∧ PostS sw K F p ws H D fl
theorem PostS.after {sw : Bool} {K : PySem.W.Frag} {F : List Addr} {p p1 : Option Addr} {ws ws1 : List (Option Addr)} {H H1 : Hp} {D : Ends} {fl : Fl} (st : Stp p ws H p1 ws1 H1) (e : sw = false → p1 = p) (h : PostS sw K F p ws H D fl) : PostS sw K F p1 ws1 H1 D fl := by
  cases fl with
  | nx env pot => exact fun σ' H' p' ws' S s e' => h σ' H' p' ws' S (st.trans s) fun z => (e' z).trans (e z)
  | bk env pot => exact fun σ' H' p' ws' S s e' => h σ' H' p' ws' S (st.trans s) fun z => (e' z).trans (e z)
  | ct env pot => exact fun σ' H' p' ws' S s e' => h σ' H' p' ws' S (st.trans s) fun z => (e' z).trans (e z)
  | rt d pot => exact fun v H' p' ws' t r q s e' => h v H' p' ws' t r q (st.trans s) fun z => (e' z).trans (e z)
  | rf ds pot => exact fun a xs H' p' ws' t ha na nm r q s e' => h a xs H' p' ws' t ha (st.dom a na) nm r q (st.trans s) fun z => (e' z).trans (e z)
abbrev ES (sw : Bool) (X : Cx) (st : Stmt) (m : MS) : Prop := PS X st (tDS sw X.K m)
abbrev ESs (sw : Bool) (X : Cx) (sts : List Stmt) (m : MS) : Prop := PSs X sts (tDS sw X.K m)
section
variable {sw : Bool} {X : Cx} {st : Stmt} {sts rest : List Stmt} {t t' : TS} {m m1 m2 : MS} {mt : MT} {me ma : ME} {mr : MA} {mi : MA} {g : MG} {js : List Nat} {e c tg iter : Expr} {pos p1 p2 : Pos} {x y : Str}
theorem PS.imp (h : PS X st t) (i : ∀ D σ H, t' D σ H → t D σ H) : PS X st t' := ⟨fun pins s σ H D I hw => h.run pins s σ H D I (i D σ H hw)⟩
theorem PSs.imp (h : PSs X sts t) (i : ∀ D σ H, t' D σ H → t D σ H) : PSs X sts t' := ⟨fun pins s σ H D I hw => h.run pins s σ H D I (i D σ H hw)⟩
theorem tDS_run {K : PySem.W.Frag} {F : List Addr} {p : Option Addr} {ws : List (Option Addr)} {H : Hp} {σ : L2.St} {env : Env} {pot : Pot} {fl : Fl} {D : Ends} (S : SR K F p ws H σ env pot) (e : m env pot = some fl) (q : PostS sw K F p ws H D fl) : tDS sw K m D σ H := ⟨F, p, ws, env, pot, fl, S, e, q⟩

/-! ### blocks -/
def mNil : MS := fun env pot => some (.nx env pot)
def mSeq (m1 m2 : MS) : MS := fun env pot => match m1 env pot with
  | some (.nx env' pot') => m2 env' pot'
  | o => o
theorem ss_nil : ESs sw X [] mNil := PSs.imp pss_nil fun D σ H h => by
  obtain ⟨F, p, ws, env, pot, fl, S, e, q⟩ := h
  cases e
  exact q σ H p ws S Stp.refl fun _ => rfl
theorem seq_imp {K : PySem.W.Frag} {D : Ends} {σ : L2.St} {H : Hp} (h : tDS sw K (mSeq m1 m2) D σ H) : tSeq (tDS sw K m1) (tDS sw K m2) D σ H := by
  obtain ⟨F, p, ws, env, pot, fl, S, e, q⟩ := h
  unfold mSeq at e
  show tDS sw K m1 { D with nx := tDS sw K m2 D } σ H
  cases e1 : m1 env pot with
  | none => rw [e1] at e; cases e
  | some f1 =>
    rw [e1] at e
    refine tDS_run S e1 ?_
    cases f1 with
    | nx env' pot' => exact fun σ' H' p' ws' S' st z => tDS_run S' e (q.after st z)
    | bk env' pot' => cases e; exact q
    | ct env' pot' => cases e; exact q
    | rt d pot' => cases e; exact q
    | rf d pot' => cases e; exact q
theorem ss_cons (h1 : ES sw X st m1) (h2 : ESs sw X rest m2) : ESs sw X (st :: rest) (mSeq m1 m2) := PSs.imp (pss_cons h1 h2) fun D σ H h => seq_imp h
theorem ss_one (h1 : ES sw X st m) : ESs sw X [st] m := pss_one h1
def mNever : MS := fun _ _ => none
theorem s_never : ES sw X st mNever := PS.imp ps_never fun D σ H h => by
  obtain ⟨F, p, ws, env, pot, fl, S, e, q⟩ := h
  cases e
theorem ss_never : ESs sw X sts mNever := PSs.imp pss_never fun D σ H h => by
  obtain ⟨F, p, ws, env, pot, fl, S, e, q⟩ := h
  cases e
theorem s_pass : ES sw X (.Pass pos) mNil := PS.imp ps_pass fun D σ H h => by
  obtain ⟨F, p, ws, env, pot, fl, S, e, q⟩ := h
  cases e
  exact q σ H p ws S Stp.refl fun _ => rfl
def mBk : MS := fun env pot => some (.bk env pot)
def mCt : MS := fun env pot => some (.ct env pot)
theorem s_break : ES sw X (.Break pos) mBk := PS.imp ps_break fun D σ H h => by
  obtain ⟨F, p, ws, env, pot, fl, S, e, q⟩ := h
  cases e
  exact q σ H p ws S Stp.refl fun _ => rfl
theorem s_continue : ES sw X (.Continue pos) mCt := PS.imp ps_continue fun D σ H h => by
  obtain ⟨F, p, ws, env, pot, fl, S, e, q⟩ := h
  cases e
  exact q σ H p ws S Stp.refl fun _ => rfl
def mIf (mt : MT) (m1 m2 : MS) : MS := fun env pot => match mt env pot with
  | none => none
  | some (true, pot') => m1 env pot'
  | some (false, pot') => m2 env pot'
theorem s_if {a b : List Stmt} (hc : ET X c mt) (ha : ESs sw X a m1) (hb : ESs sw X b m2) : ES sw X (.If c a b pos) (mIf mt m1 m2) := PS.imp (ps_if hc ha hb) fun D σ H h => by
  obtain ⟨F, p, ws, env, pot, fl, S, e, q⟩ := h
  unfold mIf at e
  cases e1 : mt env pot with
  | none => rw [e1] at e; cases e
  | some r =>
    obtain ⟨b, pot'⟩ := r
    rw [e1] at e
    show tDT X.K mt σ H _
    refine tG_run S e1 fun b' H' S' k eb => ?_
    subst eb
    cases b with
    | true => rw [if_pos rfl]; exact tDS_run S' e (q.after (Stp.ex S' k) fun _ => rfl)
    | false => rw [if_neg Bool.false_ne_true]; exact tDS_run S' e (q.after (Stp.ex S' k) fun _ => rfl)
/-! ### return -/
def mRt (me : ME) : MS := fun env pot => match me env pot with
  | some (d, pot') => some (.rt d pot')
  | none => none
theorem s_ret (he : EE X e me) : ES sw X (.Return (some e) pos) (mRt me) := PS.imp (ps_ret he) fun D σ H h => by
  obtain ⟨F, p, ws, env, pot, fl, S, e, q⟩ := h
  unfold mRt at e
  cases e1 : me env pot with
  | none => rw [e1] at e; cases e
  | some r =>
    obtain ⟨d, pot'⟩ := r
    rw [e1] at e
    cases e
    exact tG_run S e1 fun v H' S' k r => q v H' p ws S'.trk r S'.pot (Stp.ex S' k) fun _ => rfl
def mRtN : MS := fun _ pot => some (.rt .non pot)
theorem s_retN : ES sw X (.Return none pos) mRtN := PS.imp ps_retN fun D σ H h => by
  obtain ⟨F, p, ws, env, pot, fl, S, e, q⟩ := h
  cases e
  exact q .non H p ws S.trk rep_non S.pot Stp.refl fun _ => rfl
def mRf (mr : MA) : MS := fun env pot => match mr env pot with
  | some (ds, pot') => some (.rf ds pot')
  | none => none
theorem s_retF (he : EF X e mr) : ES sw X (.Return (some e) pos) (mRf mr) := PS.imp (ps_ret he) fun D σ H h => by
  obtain ⟨F, p, ws, env, pot, fl, S, e, q⟩ := h
  unfold mRf at e
  cases e1 : mr env pot with
  | none => rw [e1] at e; cases e
  | some r =>
    obtain ⟨ds, pot'⟩ := r
    rw [e1] at e
    cases e
    exact ⟨F, p, ws, env, pot, ds, pot', S, e1, fun a xs H' S' k na nm ha r _ r2 => q a xs H' p ws S'.trk ha na nm r2 S'.pot (Stp.ex S' k) fun _ => rfl⟩
/-! ### an expression alone, assignments -/
def mEx (me : ME) : MS := fun env pot => match me env pot with
  | some (_, pot') => some (.nx env pot')
  | none => none
theorem s_expr (he : EE X e me) (hs : swapsWith e none pos.line X.env = pure false := by rfl) : ES sw X (.Expr e pos) (mEx me) := PS.imp (ps_expr he hs) fun D σ H h => by
  obtain ⟨F, p, ws, env, pot, fl, S, e, q⟩ := h
  unfold mEx at e
  cases e1 : me env pot with
  | none => rw [e1] at e; cases e
  | some r =>
    obtain ⟨d, pot'⟩ := r
    rw [e1] at e
    cases e
    exact tG_run S e1 fun v H' S' k r => q σ H' p ws S' (Stp.ex S' k) fun _ => rfl
def mAsg (me : ME) (g : MG) : MS := fun env pot => match me env pot with
  | some (d, pot') => (match g d env with
    | some env' => some (.nx env' pot')
    | none => none)
  | none => none
theorem mAsg_inv {env : Env} {pot : Pot} {fl : Fl} (h : mAsg me g env pot = some fl) : ∃ d pot' env', me env pot = some (d, pot') ∧ g d env = some env' ∧ fl = .nx env' pot' := by
  unfold mAsg at h
  cases e1 : me env pot with
  | none => rw [e1] at h; cases h
  | some r =>
    obtain ⟨d, pot'⟩ := r
    rw [e1] at h
    dsimp only at h
    cases e2 : g d env with
    | none => rw [e2] at h; cases h
    | some env' => rw [e2] at h; cases h; exact ⟨d, pot', env', rfl, e2, rfl⟩
theorem Stp.zero {p : Option Addr} {ws : List (Option Addr)} {H : Hp} : Stp p ws H p ws H := Stp.refl
theorem s_asg (he : EE X e me) (hg : EG X tg js g) (hs : swapsWithSole [tg] e pos.line X.env = pure false := by rfl) (hw : swappedStores [tg] e X.env = pure none := by rfl)
    (h1 : (assignEach [tg] X.env).map (·.2) = [assign tg X.env] := by rfl) : ES sw X (.Assign [tg] e pos) (mAsg me g) := PS.imp (ps_asg he hg hs hw h1) fun D σ H h => by
  obtain ⟨F, p, ws, env, pot, fl, S, e, q⟩ := h
  obtain ⟨d, pot', env', e1, e2, rfl⟩ := mAsg_inv e
  exact tG_run S e1 fun v H' S' k r => ⟨F, p, ws, env, pot', d, env', S', r, e2, fun σ' S2 _ _ => q σ' H' p ws S2 (Stp.ex S' k) fun _ => rfl⟩
theorem setN_imp {K : PySem.W.Frag} {te : TE} {i : Nat} {D : Ends} {σ : L2.St} {H : Hp} (i1 : ∀ σ H Q, tD K me σ H Q → te σ H Q) (h : tDS sw K (mAsg me (gN i)) D σ H) : tAsg te (gName i) D σ H := by
  obtain ⟨F, p, ws, env, pot, fl, S, e, q⟩ := h
  obtain ⟨d, pot', env', e1, e2, rfl⟩ := mAsg_inv e
  refine i1 _ _ _ (tG_run S e1 fun v H' S' k r => ?_)
  unfold gN at e2
  split at e2
  · rename_i n
    cases e2
    exact q _ H' p ws (S'.set_val n r) ⟨(Stp.ex S' k).keep, (Stp.ex S' k).new, (Stp.ex S' k).dom⟩ fun _ => rfl
  · cases e2
theorem s_set (i : Nat) (hN : X.N.Nodup) (he : EE X e me) (hi : X.N[i]? = some x := by rfl) (hx : Loc X.env.scope x := by first | exact Or.inl rfl | exact Or.inr rfl) (hs : swapsWith e (some (.Name x p1)) pos.line X.env = pure false := by rfl) (hf : X.fn x = true ∨ X.env.scope.names.lookup x = some .local := by first | exact .inl rfl | exact .inr rfl) :
    ES sw X (.Assign [.Name x p1] e pos) (mAsg me (gN i)) := PS.imp (ps_set hN hi hx he hs hf) fun D σ H h => setN_imp (fun _ _ _ z => z) h
/-- a fresh list becomes the name's own -/
def mOwn (mr : MA) (i : Nat) : MS := fun env pot => match mr env pot with
  | some (ds, pot') => if notOwn env i = true ∧ flatP pot' = true ∧ i < env.length then some (.nx (env.set i (.own ds)) pot') else none
  | none => none
theorem setO_imp {K : PySem.W.Frag} {te : TE} {i : Nat} {D : Ends} {σ : L2.St} {H : Hp} (i1 : ∀ σ H Q, tF K mr σ H Q → te σ H Q) (h : tDS sw K (mOwn mr i) D σ H) : tAsg te (gName i) D σ H := by
  obtain ⟨F, p, ws, env, pot, fl, S, e, q⟩ := h
  unfold mOwn at e
  cases e1 : mr env pot with
  | none => rw [e1] at e; cases e
  | some r =>
    obtain ⟨ds, pot'⟩ := r
    rw [e1] at e
    dsimp only at e
    split at e
    · rename_i hc
      cases e
      refine i1 _ _ _ ⟨F, p, ws, env, pot, ds, pot', S, e1, fun a xs H' S' k na nm ha r _ r2 => ?_⟩
      have S2 := SR.gain S S' k na nm ha r2 hc.2.1 hc.2.2 hc.1
      have hl := S.slots.length
      have hw : ws[i]? = some none := by
        have e := List.getElem?_eq_getElem (l := ws) (i := i) (by omega)
        rw [e, S.slots.noOwn hc.1 _ e]
      refine q _ H' p (ws.set i (some a)) S2 ⟨(Stp.ex S' k).keep, fun b hb => ?_, (Stp.ex S' k).dom⟩ fun _ => rfl
      rcases List.mem_append.mp hb with z | z
      · exact .inl (List.mem_append_left _ z)
      · rcases ((own_set (a := a) hw).1 b).mp z with y | y
        · exact .inr (y ▸ na)
        · exact .inl (List.mem_append_right _ y)
    · cases e
theorem s_own (i : Nat) (hN : X.N.Nodup) (he : EF X e mr) (hi : X.N[i]? = some x := by rfl) (hx : Loc X.env.scope x := by first | exact Or.inl rfl | exact Or.inr rfl) (hs : swapsWith e (some (.Name x p1)) pos.line X.env = pure false := by rfl) (hf : X.fn x = true ∨ X.env.scope.names.lookup x = some .local := by first | exact .inl rfl | exact .inr rfl) :
    ES sw X (.Assign [.Name x p1] e pos) (mOwn mr i) := PS.imp (ps_set hN hi hx he hs hf) fun D σ H h => setO_imp (fun _ _ _ z => z) h
end
section
variable {sw : Bool} {X : Cx} {elt tg iter tg1 iter1 e : Expr} {ifs ifs1 : List Expr} {scope : Scope} {own' : List (Str × Nat)} {pos spos py : Pos} {mi mi1 : MA} {g g1 : MG} {mt mt1 : MT} {me : ME} {js js1 : List Nat} {y : Str}
theorem lc_dL {K : PySem.W.Frag} {mr : MA} {te : TE} (i1 : ∀ σ H Q, tF K mr σ H Q → te σ H Q) : ∀ σ H Q, tD K (dL mr) σ H Q → te σ H Q := fun σ H Q h => i1 σ H Q (by
  obtain ⟨F, p, ws, env, pot, d, pot', S, e, q⟩ := h
  obtain ⟨ds, pot1, e1, e2⟩ := bnd_inv e
  cases e2
  refine ⟨F, p, ws, env, pot, ds, _, S, e1, fun a xs H' S' kp na nm ha r _ _ => q _ _ S' kp ?_⟩
  simp only [Rep]
  exact ⟨a, xs, rfl, .inl ⟨nm, .inl ha⟩, r⟩)
/-- name = [elt for ..] on one line, the name a local -/
theorem s_setLc (i : Nat) (hc : X.calm = true) (hN : X.N.Nodup) (hsw : swapsWith (.ListComp elt [⟨tg, iter, ifs, 0⟩] scope pos) (some (.Name y py)) spos.line X.env = pure true) (hi : EI X tg iter mi) (ok : BlkOk X.N X.env.scope scope own')
    (hg : ∀ (s : Shared) (H : Hp) (C : Addr) (cl : List (Str × Addr)) (fp : List Addr), EG (X.blk s H scope (compEnvC scope cl C X.env) fp) tg js g) (ht : ∀ (s : Shared) (H : Hp) (C : Addr) (cl : List (Str × Addr)) (fp : List Addr), ETs (X.blk s H scope (compEnvC scope cl C X.env) fp) ifs mt)
    (he : ∀ (s : Shared) (H : Hp) (C : Addr) (cl : List (Str × Addr)) (fp : List Addr), EE (X.blk s H scope (compEnvC scope cl C X.env) fp) elt me) (hjs : ∀ j ∈ js, j ∈ own'.map (·.2) := by decide) (hy : X.N[i]? = some y := by rfl) (hyl : X.env.scope.names.lookup y = some .local := by rfl) (hs : ∀ x, foldedSetIterable iter X.env x = pure x := by intro _; rfl) :
    ES sw X (.Assign [.Name y py] (.ListComp elt [⟨tg, iter, ifs, 0⟩] scope pos) spos) (mAsg (dL (aLc (own'.map (·.2)) mi g mt me)) (gN i)) :=
  PS.imp (ps_setLc hc hN hy hyl hsw hi ok hg ht he hs) fun D σ H h => setN_imp (lc_dL fun σ H Q h => lc_core' hjs h) h
/-- .. as its own -/
theorem s_ownLc (i : Nat) (hc : X.calm = true) (hN : X.N.Nodup) (hsw : swapsWith (.ListComp elt [⟨tg, iter, ifs, 0⟩] scope pos) (some (.Name y py)) spos.line X.env = pure true) (hi : EI X tg iter mi) (ok : BlkOk X.N X.env.scope scope own')
    (hg : ∀ (s : Shared) (H : Hp) (C : Addr) (cl : List (Str × Addr)) (fp : List Addr), EG (X.blk s H scope (compEnvC scope cl C X.env) fp) tg js g) (ht : ∀ (s : Shared) (H : Hp) (C : Addr) (cl : List (Str × Addr)) (fp : List Addr), ETs (X.blk s H scope (compEnvC scope cl C X.env) fp) ifs mt)
    (he : ∀ (s : Shared) (H : Hp) (C : Addr) (cl : List (Str × Addr)) (fp : List Addr), EE (X.blk s H scope (compEnvC scope cl C X.env) fp) elt me) (hjs : ∀ j ∈ js, j ∈ own'.map (·.2) := by decide) (hy : X.N[i]? = some y := by rfl) (hyl : X.env.scope.names.lookup y = some .local := by rfl) (hs : ∀ x, foldedSetIterable iter X.env x = pure x := by intro _; rfl) :
    ES sw X (.Assign [.Name y py] (.ListComp elt [⟨tg, iter, ifs, 0⟩] scope pos) spos) (mOwn (aLc (own'.map (·.2)) mi g mt me) i) :=
  PS.imp (ps_setLc hc hN hy hyl hsw hi ok hg ht he hs) fun D σ H h => setO_imp (fun σ H Q h => lc_core' hjs h) h
end
section
variable {sw : Bool} {X : Cx} {st : Stmt} {sts : List Stmt} {m mb : MS} {mt : MT} {me ma : ME} {mr mi : MA} {g : MG} {js : List Nat} {a b c e tg iter : Expr} {pos px py pt pt2 : Pos} {kt k2 : Nat} {x y : Str} {body : List Stmt}
/-! ### a, b = c, d -/
def mPar (i j : Nat) (mr : MA) : MS := fun env pot => match mr env pot with
  | some ([d1, d2], pot') => if notOwn env i = true ∧ notOwn env j = true then some (.nx ((env.set i (.val d1)).set j (.val d2)) pot') else none
  | _ => none
theorem notOwn_set_val {env : Env} {i j : Nat} {d : D} (h : notOwn env j = true) : notOwn (env.set i (.val d)) j = true := by
  unfold notOwn at h ⊢
  by_cases z : i = j
  · subst z
    by_cases hl : i < env.length
    · rw [List.getElem?_set_self hl]
    · rw [List.set_eq_of_length_le (by omega)]; exact h
  · rw [List.getElem?_set_ne z]; exact h
theorem s_par (i j : Nat) (hc : X.calm = true) (hN : X.N.Nodup) (ha : EA X [a, b] mr) (hij : i ≠ j := by decide) (hi : X.N[i]? = some x := by rfl) (hj : X.N[j]? = some y := by rfl)
    (hx : X.env.scope.names.lookup x = some .local := by rfl) (hy : X.env.scope.names.lookup y = some .local := by rfl)
    (hw : swappedStores [.Tuple [.Name x px, .Name y py] kt pt] (.Tuple [a, b] k2 pt2) X.env = pure (some [x, y]) := by rfl)
    (hs : swapsWithSole [.Tuple [.Name x px, .Name y py] kt pt] (.Tuple [a, b] k2 pt2) pos.line X.env = pure false := by rfl) :
    ES sw X (.Assign [.Tuple [.Name x px, .Name y py] kt pt] (.Tuple [a, b] k2 pt2) pos) (mPar i j mr) := PS.imp (ps_par hc hN hi hj hij hx hy ha hw hs) fun D σ H h => by
  obtain ⟨F, p, ws, env, pot, fl, S, e, q⟩ := h
  unfold mPar at e
  split at e
  · rename_i d1 d2 pot' e1
    split at e
    · rename_i hn
      cases e
      refine tG_run S e1 fun vs H' S' k r => ?_
      obtain ⟨v, vr, rfl, r1, r2⟩ := r.inv_cons
      obtain ⟨w, wr, rfl, r3, r4⟩ := r2.inv_cons
      rw [r4.inv_nil]
      refine ⟨v, w, rfl, ?_⟩
      exact q _ H' p ws ((S'.set_val hn.1 r1).set_val (notOwn_set_val hn.2) r3) (Stp.ex S' k) fun _ => rfl
    · cases e
  · cases e
/-! ### for -/
def forLoop (g : MG) (mb : MS) : List D → MS
  | [], env, pot => some (.nx env pot)
  | d :: ds, env, pot => match g d env with
    | none => none
    | some env1 => match mb env1 pot with
      | some (.nx env2 pot2) => forLoop g mb ds env2 pot2
      | some (.ct env2 pot2) => forLoop g mb ds env2 pot2
      | some (.bk env2 pot2) => some (.nx env2 pot2)
      | some (.rt d pot2) => some (.rt d pot2)
      | some (.rf d pot2) => some (.rf d pot2)
      | none => none
def mFor (mi : MA) (g : MG) (mb : MS) : MS := fun env pot => match mi env pot with
  | none => none
  | some (ds, pot') => forLoop g mb ds env pot'
theorem s_for (hp : PassesOwn (model X.prog X.w) X.A X.env X.xe) (hc : X.calm = true) (hi : EI X tg iter mi) (hg : EG X tg js g) (hb : ESs sw X body mb)
    (hs : ∀ x, foldedSetIterable iter X.env x = pure x := by intro _; rfl) : ES sw X (.For tg iter body [] pos) (mFor mi g mb) := PS.imp (ps_for hp hc hi hg hb hs) fun D σ H h => by
  obtain ⟨F, p, ws, env, pot, fl, S, e, q⟩ := h
  unfold mFor at e
  cases e1 : mi env pot with
  | none => rw [e1] at e; cases e
  | some r =>
    obtain ⟨ds, pot1⟩ := r
    rw [e1] at e
    refine ⟨F, p, ws, env, pot, ds, pot1, S, e1, fun J H1 S1 k1 it => ?_⟩
    have st1 := Stp.ex S1 k1
    refine ⟨fun i m σ' H' => m = ds.length - i ∧ i ≤ ds.length ∧ ∃ p' ws' env' pot', SR X.K F p' ws' H' σ' env' pot' ∧ Stp p ws H1 p' ws' H' ∧ (sw = false → p' = p) ∧ forLoop g mb (ds.drop i) env' pot' = some fl,
      ⟨ds.length, by simp, Nat.zero_le _, p, ws, env, pot1, S1, Stp.refl, fun _ => rfl, by simpa using e⟩, ?_⟩
    rintro i m σ' H' ⟨rfl, hi, p', ws', env', pot', S', st', ep, el⟩
    have M2 : ∀ m ∈ mset p' ws' F, m ∈ mset p ws F ∨ H1 m = none := fun m hm => by
      rcases mem_mset.mp hm with z | z | z
      · rcases st'.new m (List.mem_append_left _ z) with y | y
        · rcases List.mem_append.mp y with y | y
          · exact .inl (mem_mset.mpr (.inl y))
          · exact .inl (mem_mset.mpr (.inr (.inl y)))
        · exact .inr y
      · rcases st'.new m (List.mem_append_right _ z) with y | y
        · rcases List.mem_append.mp y with y | y
          · exact .inl (mem_mset.mpr (.inl y))
          · exact .inl (mem_mset.mpr (.inr (.inl y)))
        · exact .inr y
      · exact .inl (mem_mset.mpr (.inr (.inr z)))
    obtain ⟨go, stop, yld⟩ := it (mset p ws F ++ mset p' ws' F) H' (fun m hm => by
      rcases List.mem_append.mp hm with z | z
      · exact .inl z
      · exact M2 m z) (fun m hm z => by
      rcases List.mem_append.mp hm with y | y
      · exact S1.trk m y (st'.dom m z)
      · exact S'.trk m y z) (st'.keep.mono fun m hm => by
      rcases List.mem_append.mp hm with z | z
      · exact List.mem_append_left _ (mem_mset.mpr (.inl z))
      · exact List.mem_append_left _ (mem_mset.mpr (.inr (.inl z))))
    by_cases hlt : i < ds.length
    · refine .inr ⟨go i hlt, ?_⟩
      rw [List.drop_eq_getElem_cons hlt] at el
      simp only [forLoop] at el
      cases eg : g ds[i] env' with
      | none => rw [eg] at el; cases el
      | some env1 =>
        rw [eg] at el
        dsimp only at el
        refine ⟨fun σ2 H2 => ∃ p2 ws2 env2 pot2, SR X.K F p2 ws2 H2 σ2 env2 pot2 ∧ Stp p ws H1 p2 ws2 H2 ∧ (sw = false → p2 = p) ∧ forLoop g mb (ds.drop (i + 1)) env2 pot2 = some fl, fun σ2 H2 h2 => ⟨ds.length - (i + 1), by omega, rfl, hlt, h2⟩, fun x H2 hy => ?_⟩
        obtain ⟨sm, rx⟩ := yld i ds[i] x H2 (List.getElem?_eq_getElem hlt) hy
        have S2 := S'.same sm
        refine ⟨F, p', ws', env', pot', ds[i], env1, S2, rx.sub fun m hm => List.mem_append_right _ hm, eg, fun σ3 S3 _ _ => ?_⟩
        have st3 : Stp p ws H1 p' ws' H2 := st'.trans (Stp.ex S2 (Keep.same sm))
        cases eb : mb env1 pot' with
        | none => rw [eb] at el; cases el
        | some f =>
          rw [eb] at el
          refine tDS_run S3 eb ?_
          cases f with
          | nx env2 pot2 => exact fun σ4 H4 p4 ws4 S4 st4 e4 => ⟨p4, ws4, env2, pot2, S4, st3.trans st4, fun z => (e4 z).trans (ep z), el⟩
          | ct env2 pot2 => exact fun σ4 H4 p4 ws4 S4 st4 e4 => ⟨p4, ws4, env2, pot2, S4, st3.trans st4, fun z => (e4 z).trans (ep z), el⟩
          | bk env2 pot2 => cases el; exact fun σ4 H4 p4 ws4 S4 st4 e4 => q σ4 H4 p4 ws4 S4 (st1.trans (st3.trans st4)) fun z => (e4 z).trans (ep z)
          | rt d pot2 => cases el; exact q.after (st1.trans st3) ep
          | rf d pot2 => cases el; exact q.after (st1.trans st3) ep
    · have hi' : i = ds.length := by omega
      subst hi'
      rw [List.drop_length] at el
      cases el
      exact .inl ⟨stop, q σ' H' p' ws' S' (st1.trans st') ep⟩
/-! ### while, with fuel -/
def whLoop (mt : MT) (mb : MS) : Nat → MS
  | 0, _, _ => none
  | n + 1, env, pot => match mt env pot with
    | none => none
    | some (false, pot1) => some (.nx env pot1)
    | some (true, pot1) => match mb env pot1 with
      | some (.nx env2 pot2) => whLoop mt mb n env2 pot2
      | some (.ct env2 pot2) => whLoop mt mb n env2 pot2
      | some (.bk env2 pot2) => some (.nx env2 pot2)
      | some (.rt d pot2) => some (.rt d pot2)
      | some (.rf d pot2) => some (.rf d pot2)
      | none => none
def mWh (fu : Env → Pot → Nat) (mt : MT) (mb : MS) : MS := fun env pot => whLoop mt mb (fu env pot) env pot
theorem s_while (fu : Env → Pot → Nat) (hp : PassesOwn (model X.prog X.w) X.A X.env X.xe) (ht : ET X c mt) (hb : ESs sw X body mb) : ES sw X (.While c body [] pos) (mWh fu mt mb) := PS.imp (ps_while hp ht hb) fun D σ H h => by
  obtain ⟨F, p, ws, env, pot, fl, S, e, q⟩ := h
  refine ⟨fun m σ' H' => ∃ p' ws' env' pot', SR X.K F p' ws' H' σ' env' pot' ∧ Stp p ws H p' ws' H' ∧ (sw = false → p' = p) ∧ whLoop mt mb m env' pot' = some fl, ⟨fu env pot, p, ws, env, pot, S, Stp.refl, fun _ => rfl, e⟩, ?_⟩
  rintro m σ' H' ⟨p', ws', env', pot', S', st', ep, el⟩
  cases m with
  | zero => cases el
  | succ m =>
    simp only [whLoop] at el
    cases et : mt env' pot' with
    | none => rw [et] at el; cases el
    | some r =>
      obtain ⟨b, pot1⟩ := r
      rw [et] at el
      show tDT X.K mt σ' H' _
      refine tG_run S' et fun b' H2 S2 k2 eb => ?_
      subst eb
      have st2 := st'.trans (Stp.ex S2 k2)
      cases b with
      | false =>
        rw [if_neg Bool.false_ne_true]
        cases el
        exact q σ' H2 p' ws' S2 st2 ep
      | true =>
        rw [if_pos rfl]
        dsimp only at el
        refine ⟨fun σ3 H3 => ∃ p' ws' env' pot', SR X.K F p' ws' H3 σ3 env' pot' ∧ Stp p ws H p' ws' H3 ∧ (sw = false → p' = p) ∧ whLoop mt mb m env' pot' = some fl, fun σ3 H3 h3 => ⟨m, Nat.lt_succ_self m, h3⟩, ?_⟩
        cases eb : mb env' pot1 with
        | none => rw [eb] at el; cases el
        | some f =>
          rw [eb] at el
          refine tDS_run S2 eb ?_
          cases f with
          | nx env2 pot2 => exact fun σ4 H4 p4 ws4 S4 st4 e4 => ⟨p4, ws4, env2, pot2, S4, st2.trans st4, fun z => (e4 z).trans (ep z), el⟩
          | ct env2 pot2 => exact fun σ4 H4 p4 ws4 S4 st4 e4 => ⟨p4, ws4, env2, pot2, S4, st2.trans st4, fun z => (e4 z).trans (ep z), el⟩
          | bk env2 pot2 => cases el; exact fun σ4 H4 p4 ws4 S4 st4 e4 => q σ4 H4 p4 ws4 S4 (st2.trans st4) fun z => (e4 z).trans (ep z)
          | rt d pot2 => cases el; exact q.after st2 ep
          | rf d pot2 => cases el; exact q.after st2 ep
end
end DL
set_option Elab.async false
set_option linter.all false
set_option maxRecDepth 100000
set_option maxHeartbeats 4000000
/-! The data layer, part 10: one's own lists. -/
namespace DL
open PySem PySem.Spec PyProof.Rows L2

section
variable {sw : Bool} {X : Cx} {st : Stmt} {sts : List Stmt} {m mb : MS} {mt : MT} {me ma mi : ME} {mr : MA} {g : MG} {js : List Nat} {a b c e k tg iter : Expr} {pos px py pt pt2 apos cpos epos : Pos} {x y : Str} {body : List Stmt}
/-- the list of slot i is changed no more -/
def mFrz (i : Nat) (m : MS) : MS := fun env pot => match env[i]? with
  | some (.own ds) => m (env.set i (.val (.lst ds))) pot
  | _ => none
theorem ss_frz (i : Nat) (h : ESs sw X sts m) : ESs sw X sts (mFrz i m) := PSs.imp h fun D σ H h => by
  obtain ⟨F, p, ws, env, pot, fl, S, e, q⟩ := h
  unfold mFrz at e
  split at e
  · rename_i ds e1
    obtain ⟨c, S1, hw⟩ := S.freeze e1
    refine tDS_run S1 e (q.after ⟨Keep.refl _ _, fun b hb => ?_, fun _ z => z⟩ fun _ => rfl)
    rcases List.mem_append.mp hb with z | z
    · exact .inl (List.mem_append_left _ z)
    · exact .inl (List.mem_append_right _ ((own_drop hw).1 b z))
  · cases e
/-- a method of one's own list, its value dropped -/
def OwnOk (r : V → List V → Hp → VK → Prop) (f : List D → D → Option (List D)) (K : PySem.W.Frag) : Prop := ∀ (M : List Addr) (H : Hp) (l : Addr) (xs : List V) (ds : List D) (v : V) (d : D) (es : List D) (Q : VK),
  H l = some (.lst xs) → RepL K M H ds xs → Rep K M H d v → f ds d = some es → (∀ u ys, RepL K M H es ys → Q u (L2.upd H l (.lst ys))) → r (.ref l) [v] H Q
def mMeth (f : List D → D → Option (List D)) (i : Nat) (ma : ME) : MS := fun env pot => match ma env pot with
  | some (d, pot') => (match env[i]? with
    | some (.own ds) => (match f ds d with
      | some es => some (.nx (env.set i (.own es)) pot')
      | none => none)
    | _ => none)
  | none => none
theorem s_meth {id : String} {name : Str} {r : V → List V → Hp → VK → Prop} {f : List D → D → Option (List D)} (i : Nat) (slot : Slot "list" name id) (hty : typeOf (.builtin id) = pure (.type "method_descriptor")) (hm : MtR X id r) (ok : OwnOk r f X.K) (ha : EE X e ma)
    (hN : X.N[i]? = some x := by rfl) (hv : Vis X.env.scope x := by first | exact Or.inl rfl | exact Or.inr (Or.inl rfl) | exact Or.inr (Or.inr rfl))
    (hs : starEach [e] X.env = (false, eval e X.env) :: starEach [] X.env := by rfl)
    (hbase : attributeBase (.Name x px) name X.env (eval (.Name x px) X.env) = eval (.Name x px) X.env := by rfl)
    (hfew : ((backTo cpos (starEach [e] X.env)).all (fun x => !x.1) && (backToKw cpos (keywordEach [] X.env)).all (fun x => x.1.isSome)
      && decide ([e].length + ([] : List Keyword).length + (if ([] : List Keyword).isEmpty then 0 else 1) < 30)) = true := by rfl)
    (hline : (apos.endLine == cpos.line) = true := by rfl) (hd : (x == ("__debug__" : Str)) = false := by decide) (hcd : (x == ("__classdict__" : Str)) = false := by decide)
    (hsw : swapsWith (.Call (.Attribute (.Name x px) name apos) [e] [] cpos) none pos.line X.env = pure false := by rfl) :
    ES sw X (.Expr (.Call (.Attribute (.Name x px) name apos) [e] [] cpos) pos) (mMeth f i ma) :=
  PS.imp (ps_expr (pe_bm PySem.F.plainAttrs_list slot hty hm (pe_var hN hv hd hcd) (pa_cons ha pa_nil hs) hbase hfew hline hs) hsw) fun D σ H h => by
    obtain ⟨F, p, ws, env, pot, fl, S, e, q⟩ := h
    unfold mMeth at e
    split at e
    · rename_i d pot' e1
      split at e
      · rename_i ds e2
        split at e
        · rename_i es e3
          cases e
          obtain ⟨s, w, h1, h2, l, xs, rfl, rfl, h3, h4⟩ := S.slots.at e2
          refine ⟨.ref l, h1, .inl ⟨rfl, xs, SqL.of h3⟩, tG_run S e1 fun v H' S' kp r => ?_⟩
          obtain ⟨l', xs', g1, g2, g3, g4, g5⟩ := S'.write e2
          rw [h2] at g2; cases g2
          refine ok _ H' l xs' ds v d es _ g3 g4 r e3 fun u ys ry => ?_
          refine q σ _ p ws (g5 es ys ry) ((Stp.ex S' kp).trans ⟨keep_upd (List.mem_append_right _ (mem_own_of h2)), fun b hb => .inl hb, fun b hb => ?_⟩) fun _ => rfl
          by_cases z : b = l
          · subst z; rw [upd_same] at hb; cases hb
          · rwa [upd_ne z] at hb
        · cases e
      · cases e
    · cases e
def fAppend (ds : List D) (d : D) : Option (List D) := if ds.length < 16777216 then some (ds ++ [d]) else none
theorem ok_append {K : PySem.W.Frag} : OwnOk rAppend fAppend K := by
  intro M H l xs ds v d es Q h r rv e q
  unfold fAppend at e
  split at e
  · rename_i hl
    cases e
    exact ⟨l, xs, v, rfl, rfl, h, by rw [r.length, line_eq]; exact hl, q _ _ (RepL.append r (repL_cons rv repL_nil))⟩
  · cases e
/-- list.remove, of ints -/
def fRemove (ds : List D) (d : D) : Option (List D) := match intsOf ds, d with
  | some ns, .int k => (match ns.findIdx? (· == k) with
    | some j => some ((ns.eraseIdx j).map D.int)
    | none => none)
  | _, _ => none
theorem intsOf_eq : ∀ {ds : List D} {ns : List Int}, intsOf ds = some ns → ds = ns.map D.int
  | [], ns, h => by cases h; rfl
  | .int i :: ds, ns, h => by
    unfold intsOf at h
    cases e : intsOf ds with
    | none => rw [e] at h; cases h
    | some ms =>
      rw [e] at h
      cases h
      rw [intsOf_eq e]
      rfl
  | .non :: _, _, h => by cases h
  | .bl _ :: _, _, h => by cases h
  | .str _ :: _, _, h => by cases h
  | .tup _ :: _, _, h => by cases h
  | .lst _ :: _, _, h => by cases h
theorem repL_ints_inv {K : PySem.W.Frag} {M : List Addr} {H : Hp} : ∀ {ns : List Int} {xs : List V}, RepL K M H (ns.map D.int) xs → xs = ns.map V.int
  | [], xs, h => h.inv_nil
  | n :: ns, xs, h => by
    obtain ⟨x, r, rfl, h1, h2⟩ := RepL.inv_cons h
    rw [h1.inv_int, repL_ints_inv h2]
    rfl
theorem ok_remove {K : PySem.W.Frag} : OwnOk rRemI fRemove K := by
  intro M H l xs ds v d es Q h r rv e q
  unfold fRemove at e
  split at e
  · rename_i ns k e1
    split at e
    · rename_i j e2
      cases e
      have e3 := intsOf_eq e1
      subst e3
      have e4 := repL_ints_inv r
      subst e4
      rw [List.findIdx?_eq_some_iff_getElem] at e2
      obtain ⟨h1, h2, h3⟩ := e2
      refine ⟨l, ns, k, j, rfl, by rw [rv.inv_int], h, ?_, fun m hm z => ?_, q _ _ (repL_ints _)⟩
      · rw [List.getElem?_eq_getElem h1]
        exact congrArg some (by simpa using h2)
      · have hml : m < ns.length := by omega
        rw [List.getElem?_eq_getElem hml] at z
        exact h3 m hm (by simpa using Option.some.inj z)
    · cases e
  · cases e
theorem s_append (i : Nat) (ha : EE X e ma)
    (hN : X.N[i]? = some x := by rfl) (hv : Vis X.env.scope x := by first | exact Or.inl rfl | exact Or.inr (Or.inl rfl) | exact Or.inr (Or.inr rfl))
    (hs : starEach [e] X.env = (false, eval e X.env) :: starEach [] X.env := by rfl)
    (hbase : attributeBase (.Name x px) "append" X.env (eval (.Name x px) X.env) = eval (.Name x px) X.env := by rfl)
    (hfew : ((backTo cpos (starEach [e] X.env)).all (fun x => !x.1) && (backToKw cpos (keywordEach [] X.env)).all (fun x => x.1.isSome)
      && decide ([e].length + ([] : List Keyword).length + (if ([] : List Keyword).isEmpty then 0 else 1) < 30)) = true := by rfl)
    (hline : (apos.endLine == cpos.line) = true := by rfl) (hd : (x == ("__debug__" : Str)) = false := by decide) (hcd : (x == ("__classdict__" : Str)) = false := by decide)
    (hsw : swapsWith (.Call (.Attribute (.Name x px) "append" apos) [e] [] cpos) none pos.line X.env = pure false := by rfl) :
    ES sw X (.Expr (.Call (.Attribute (.Name x px) "append" apos) [e] [] cpos) pos) (mMeth fAppend i ma) :=
  s_meth i PySem.F.slot_list_append PySem.F.type_list_append mt_append ok_append ha hN hv hs hbase hfew hline hd hcd hsw
theorem s_remove (i : Nat) (ha : EE X e ma)
    (hN : X.N[i]? = some x := by rfl) (hv : Vis X.env.scope x := by first | exact Or.inl rfl | exact Or.inr (Or.inl rfl) | exact Or.inr (Or.inr rfl))
    (hs : starEach [e] X.env = (false, eval e X.env) :: starEach [] X.env := by rfl)
    (hbase : attributeBase (.Name x px) "remove" X.env (eval (.Name x px) X.env) = eval (.Name x px) X.env := by rfl)
    (hfew : ((backTo cpos (starEach [e] X.env)).all (fun x => !x.1) && (backToKw cpos (keywordEach [] X.env)).all (fun x => x.1.isSome)
      && decide ([e].length + ([] : List Keyword).length + (if ([] : List Keyword).isEmpty then 0 else 1) < 30)) = true := by rfl)
    (hline : (apos.endLine == cpos.line) = true := by rfl) (hd : (x == ("__debug__" : Str)) = false := by decide) (hcd : (x == ("__classdict__" : Str)) = false := by decide)
    (hsw : swapsWith (.Call (.Attribute (.Name x px) "remove" apos) [e] [] cpos) none pos.line X.env = pure false := by rfl) :
    ES sw X (.Expr (.Call (.Attribute (.Name x px) "remove" apos) [e] [] cpos) pos) (mMeth fRemove i ma) :=
  s_meth i PySem.F.slot_list_remove PySem.F.type_list_remove mt_remove ok_remove ha hN hv hs hbase hfew hline hd hcd hsw
/-! ### x[k] = e, of one's own list and of the pot -/
def mSetIx (i : Nat) (me mk : ME) : MS := fun env pot => match me env pot with
  | some (d, pot1) => (match mk env pot1 with
    | some (.int z, pot2) => (match env[i]? with
      | some (.own ds) => (match ixN ds.length z with
        | some j => some (.nx (env.set i (.own (ds.set j d))) pot2)
        | none => none)
      | _ => none)
    | _ => none)
  | none => none
theorem Rep.exp {K : PySem.W.Frag} {F : List Addr} {p : Option Addr} {ws : List (Option Addr)} {H H' : Hp} {d : D} {v : V} (k : Keep p.toList H H') (r : Rep K (mset p ws F) H d v) : Rep K (mset p ws F) H' d v := Rep.keep k sub_p _ _ r
theorem s_setIx {mk : ME} (i : Nat) (he : EE X e me) (hk : EE X k mk) (hN : X.N[i]? = some x := by rfl) (hv : Vis X.env.scope x := by first | exact Or.inl rfl | exact Or.inr (Or.inl rfl) | exact Or.inr (Or.inr rfl)) (hd : (x == ("__debug__" : Str)) = false := by decide) (hcd : (x == ("__classdict__" : Str)) = false := by decide)
    (ha : ∀ v, assign (.Subscript (.Name x px) k py) X.env v = (do
      let ov ← holding [v] (eval (.Name x px) X.env)
      let iv ← holding [v, ov] (eval k X.env)
      standAt py
      holding [v, ov, iv] (setItem ov iv v)
      release [v, ov, iv] []) := by intro _; rfl)
    (hs : swapsWithSole [.Subscript (.Name x px) k py] e pos.line X.env = pure false := by rfl) (hw : swappedStores [.Subscript (.Name x px) k py] e X.env = pure none := by rfl)
    (h1 : (assignEach [.Subscript (.Name x px) k py] X.env).map (·.2) = [assign (.Subscript (.Name x px) k py) X.env] := by rfl) :
    ES sw X (.Assign [.Subscript (.Name x px) k py] e pos) (mSetIx i me mk) := PS.imp (ps_asg he (pg_sub (pe_var hN hv hd hcd) hk set_list ha) hs hw h1) fun D σ H h => by
  obtain ⟨F, p, ws, env, pot, fl, S, e, q⟩ := h
  unfold mSetIx at e
  split at e
  · rename_i d pot1 e1
    split at e
    · rename_i z pot2 e2
      split at e
      · rename_i ds e3
        split at e
        · rename_i j e4
          cases e
          obtain ⟨s, w, h1, h2, l, xs, rfl, rfl, h3, h4⟩ := S.slots.at e3
          refine tG_run S e1 fun v H' S' kp r => ⟨.ref l, h1, tG_run S' e2 fun u H2 S2 k2 r2 => ?_⟩
          obtain ⟨l', xs', g1, g2, g3, g4, g5⟩ := S2.write e3
          rw [h2] at g2; cases g2
          refine ⟨l, xs', z, j, rfl, r2.inv_int, g3, by rw [g4.length]; exact e4, ?_⟩
          refine q σ _ p ws (g5 _ _ (g4.set j (r.exp k2))) ((Stp.ex S2 (kp.trans k2)).trans ⟨keep_upd (List.mem_append_right _ (mem_own_of h2)), fun b hb => .inl hb, fun b hb => ?_⟩) fun _ => rfl
          by_cases z : b = l
          · subst z; rw [upd_same] at hb; cases hb
          · rwa [upd_ne z] at hb
        · cases e
      · cases e
    · cases e
  · cases e
def mSetPot (i : Nat) (me mk : ME) : MS := fun env pot => match me env pot with
  | some (d, pot1) => (match mk env pot1 with
    | some (.int z, some ds) => (match env[i]? with
      | some .pot => (match ixN ds.length z with
        | some j => some (.nx env (some (ds.set j d)))
        | none => none)
      | _ => none)
    | _ => none)
  | none => none
theorem s_setPot {mk : ME} (i : Nat) (he : EE X e me) (hk : EE X k mk) (hN : X.N[i]? = some x := by rfl) (hv : Vis X.env.scope x := by first | exact Or.inl rfl | exact Or.inr (Or.inl rfl) | exact Or.inr (Or.inr rfl)) (hd : (x == ("__debug__" : Str)) = false := by decide) (hcd : (x == ("__classdict__" : Str)) = false := by decide)
    (ha : ∀ v, assign (.Subscript (.Name x px) k py) X.env v = (do
      let ov ← holding [v] (eval (.Name x px) X.env)
      let iv ← holding [v, ov] (eval k X.env)
      standAt py
      holding [v, ov, iv] (setItem ov iv v)
      release [v, ov, iv] []) := by intro _; rfl)
    (hs : swapsWithSole [.Subscript (.Name x px) k py] e pos.line X.env = pure false := by rfl) (hw : swappedStores [.Subscript (.Name x px) k py] e X.env = pure none := by rfl)
    (h1 : (assignEach [.Subscript (.Name x px) k py] X.env).map (·.2) = [assign (.Subscript (.Name x px) k py) X.env] := by rfl) :
    ES sw X (.Assign [.Subscript (.Name x px) k py] e pos) (mSetPot i me mk) := PS.imp (ps_asg he (pg_sub (pe_var hN hv hd hcd) hk set_list ha) hs hw h1) fun D σ H h => by
  obtain ⟨F, p, ws, env, pot, fl, S, e, q⟩ := h
  unfold mSetPot at e
  split at e
  · rename_i d pot1 e1
    split at e
    · rename_i z ds e2
      split at e
      · rename_i e3
        split at e
        · rename_i j e4
          cases e
          obtain ⟨s, w, h1, h2, h3, l, hp, rfl⟩ := S.slots.at e3
          subst hp
          refine tG_run S e1 fun v H' S' kp r => ⟨.ref l, h1, tG_run S' e2 fun u H2 S2 k2 r2 => ?_⟩
          obtain ⟨xs', g3, g4⟩ := S2.pot
          have kk : Keep (some l : Option Addr).toList H2 (L2.upd H2 l (.lst (xs'.set j v))) := keep_upd (by simp)
          refine ⟨l, xs', z, j, rfl, r2.inv_int, g3, by rw [g4.length]; exact e4, ?_⟩
          have S3 : SR X.K F (some l) ws (L2.upd H2 l (.lst (xs'.set j v))) σ env (some (ds.set j d)) := S2.call kk ⟨_, upd_same, RepL.keep kk sub_p _ _ (g4.set j (r.exp k2))⟩
          refine q σ _ (some l) ws S3 (Stp.ex S3 ((kp.trans k2).trans kk)) fun _ => rfl
        · cases e
      · cases e
    · cases e
  · cases e
/-! ### one's own list read within an expression -/
/-- x[k] -/
def dOwnIx (i : Nat) (mb : ME) : ME := bnd mb fun k env pot => match env[i]?, k with
  | some (.own ds), .int z => (match L2.atI ds z with
    | some d => some (d, pot)
    | none => none)
  | _, _ => none
theorem e_ixOwn {mb : ME} (i : Nat) (hb : EE X b mb) (hN : X.N[i]? = some x := by rfl) (hv : Vis X.env.scope x := by first | exact Or.inl rfl | exact Or.inr (Or.inl rfl) | exact Or.inr (Or.inr rfl)) (hd : (x == ("__debug__" : Str)) = false := by decide)
    (hcd : (x == ("__classdict__" : Str)) = false := by decide) (hs : PlainIx b := by intro _ _; rfl) : EE X (.Subscript (.Name x px) b pos) (dOwnIx i mb) := PE.imp (pe_ix ix_list (pe_var hN hv hd hcd) hb hs) fun σ H Q h => by
  obtain ⟨F, p, ws, env, pot, d, pot', S, e, q⟩ := h
  obtain ⟨k, pot1, e1, e2⟩ := bnd_inv e
  split at e2
  · rename_i ds z hb1
    obtain ⟨s, w, h1, h2, l, xs, rfl, rfl, h3, h4⟩ := S.slots.at hb1
    refine ⟨.ref l, h1, tG_run S e1 fun v H' S' kp r => ?_⟩
    split at e2
    · rename_i d' hd'
      cases e2
      obtain ⟨l', xs', g1, g2, g3, g4, _⟩ := S'.write hb1
      rw [h2] at g2; cases g2
      obtain ⟨u, g5, g6⟩ := g4.atI hd'
      exact ⟨l, xs', z, u, rfl, r.inv_int, SqL.of g3, g5, q u H' S' kp g6⟩
    · cases e2
  · cases e2
/-- a op x, the answer flat -/
def dOwnR (f : D → D → Option D) (i : Nat) (ma : ME) : ME := bnd ma fun a env pot => match env[i]? with
  | some (.own ds) => (match f a (.lst ds) with
    | some d => if flat d = true then some (d, pot) else none
    | none => none)
  | _ => none
theorem ownR_imp {K : PySem.W.Frag} {r : R2} {f : D → D → Option D} {i : Nat} (hk : BinOk K r f) {σ : L2.St} {H : Hp} {Q : VK} (h : tD K (dOwnR f i ma) σ H Q) : tOp r (tD K ma) (tVar i) σ H Q := by
  obtain ⟨F, p, ws, env, pot, d, pot', S, e, q⟩ := h
  obtain ⟨a, pot1, e1, e2⟩ := bnd_inv e
  split at e2
  · rename_i ds e3
    split at e2
    · rename_i d' e4
      split at e2
      · rename_i fl
        cases e2
        refine tG_run S e1 fun v H' S' kp ra => ?_
        obtain ⟨c, S2, hw⟩ := S'.freeze e3
        obtain ⟨s, w, h1, h2, h3, u, h4, ru⟩ := S2.slots.at (i := i) (b := .val (.lst ds)) (by rw [List.getElem?_set_self (List.getElem?_eq_some_iff.mp e3).1])
        subst h4
        refine ⟨u, h1, ?_⟩
        have sub : ∀ m ∈ mset p (ws.set i none) F, m ∈ mset p ws F := fun m hm => by
          rcases mem_mset.mp hm with z | z | z
          · exact mem_mset.mpr (.inl z)
          · exact mem_mset.mpr (.inr (.inl ((own_drop hw).1 m z)))
          · exact mem_mset.mpr (.inr (.inr z))
        refine hk (mset p (ws.set i none) F) H' a (.lst ds) d v u Q S2.trk (ra.sub sub) ru e4 fun w' H2 sm r2 => ?_
        exact q w' H2 (S'.same sm) (kp.trans (Keep.same sm)) (Rep.flat fl r2)
      · cases e2
    · cases e2
  · cases e2
theorem e_cmpOwn {op : CmpOp} {r : R2} {f : D → D → Option D} (i : Nat) (ho : OpR X (compareOp op) r) (hk : BinOk X.K r f) (ha : EE X a ma) (hm : behindInMarks op (.Name x px) = false := by rfl) (hN : X.N[i]? = some x := by rfl) (hv : Vis X.env.scope x := by first | exact Or.inl rfl | exact Or.inr (Or.inl rfl) | exact Or.inr (Or.inr rfl)) (hd : (x == ("__debug__" : Str)) = false := by decide)
    (hcd : (x == ("__classdict__" : Str)) = false := by decide) : EE X (.Compare a [op] [.Name x px] pos) (dOwnR f i ma) :=
  PE.imp (pe_cmpR ho ha (pe_var hN hv hd hcd) hm) fun σ H Q h => ownR_imp hk h
theorem t_cmpOwn {op : CmpOp} {r : R2} {f : D → D → Option D} (i : Nat) (ho : OpR X (compareOp op) r) (hk : BinOk X.K r f) (ha : EE X a ma) (hm : behindInMarks op (.Name x px) = false := by rfl) (hN : X.N[i]? = some x := by rfl) (hv : Vis X.env.scope x := by first | exact Or.inl rfl | exact Or.inr (Or.inl rfl) | exact Or.inr (Or.inr rfl)) (hd : (x == ("__debug__" : Str)) = false := by decide)
    (hcd : (x == ("__classdict__" : Str)) = false := by decide) : ET X (.Compare a [op] [.Name x px] pos) (dT (dOwnR f i ma)) :=
  PT.imp (pt_cmpR ho ha (pe_var hN hv hd hcd) hm) fun σ H Q h => test_imp (fun _ _ _ => ownR_imp hk) h
/-! ### for x in one's own list: y = e -/
def mForOwn (i : Nat) (g : MG) (mb : MS) : MS := fun env pot => match env[i]? with
  | some (.own ds) => forLoop g mb ds env pot
  | _ => none
theorem gN_keeps {i j : Nat} (n : j ≠ i) (d : D) (env env' : Env) (h : gN j d env = some env') : env'[i]? = env[i]? := by
  unfold gN at h
  split at h
  · cases h; exact List.getElem?_set_ne n
  · cases h
theorem s_forOwn {py2 pos2 : Pos} (i k : Nat) (hp : PassesOwn (model X.prog X.w) X.A X.env X.xe) (hc : X.calm = true) (hND : X.N.Nodup) (hg : EG X tg js g) (he : EE X e me) (hki : k ≠ i := by decide) (hgi : ∀ d env env', g d env = some env' → env'[i]? = env[i]? := by exact gN_keeps (by decide))
    (hN : X.N[i]? = some x := by rfl) (hv : Vis X.env.scope x := by first | exact Or.inl rfl | exact Or.inr (Or.inl rfl) | exact Or.inr (Or.inr rfl)) (hd : (x == ("__debug__" : Str)) = false := by decide)
    (hcd : (x == ("__classdict__" : Str)) = false := by decide) (hs : ∀ z, foldedSetIterable (.Name x px) X.env z = pure z := by intro _; rfl)
    (hy : X.N[k]? = some y := by rfl) (hyl : Loc X.env.scope y := by first | exact Or.inl rfl | exact Or.inr rfl) (hsy : swapsWith e (some (.Name y py2)) pos2.line X.env = pure false := by rfl) (hfy : X.fn y = true ∨ X.env.scope.names.lookup y = some .local := by first | exact .inl rfl | exact .inr rfl) :
    ES sw X (.For tg (.Name x px) [.Assign [.Name y py2] e pos2] [] pos) (mForOwn i g (mAsg me (gN k))) :=
  PS.imp (ps_for hp hc (pi_list (pe_var hN hv hd hcd)) hg (pss_one (ps_set hND hy hyl he hsy hfy)) hs) fun D σ H h => by
    obtain ⟨F, p, ws, env, pot, fl, S, e, q⟩ := h
    unfold mForOwn at e
    split at e
    · rename_i ds e0
      obtain ⟨s, w, h1, h2, l, xs0, rfl, rfl, h3, h4⟩ := S.slots.at e0
      refine ⟨.ref l, h1, l, rfl, ⟨xs0, SqL.of h3⟩, ?_⟩
      refine ⟨fun j m σ' H' => m = ds.length - j ∧ j ≤ ds.length ∧ ∃ env' pot', SR X.K F p ws H' σ' env' pot' ∧ Keep p.toList H H' ∧ env'[i]? = some (.own ds) ∧ forLoop g (mAsg me (gN k)) (ds.drop j) env' pot' = some fl,
        ⟨ds.length, by simp, Nat.zero_le _, env, pot, S, Keep.refl _ _, e0, by simpa using e⟩, ?_⟩
      rintro j m σ' H' ⟨rfl, hj, env', pot', S', k', eo, el⟩
      obtain ⟨s', w', h1', h2', l', xs, rfl, rfl, h3', h4'⟩ := S'.slots.at eo
      rw [h2] at h2'
      cases h2'
      have hxl := h4'.length
      by_cases hlt : j < ds.length
      · refine .inr ⟨⟨xs, xs[j], SqL.of h3', by simp [hxl, hlt]⟩, ?_⟩
        rw [List.drop_eq_getElem_cons hlt] at el
        simp only [forLoop] at el
        cases eg : g ds[j] env' with
        | none => rw [eg] at el; cases el
        | some env1 =>
          rw [eg] at el
          dsimp only at el
          refine ⟨fun σ2 H2 => ∃ env2 pot2, SR X.K F p ws H2 σ2 env2 pot2 ∧ Keep p.toList H H2 ∧ env2[i]? = some (.own ds) ∧ forLoop g (mAsg me (gN k)) (ds.drop (j + 1)) env2 pot2 = some fl, fun σ2 H2 h2 => ⟨ds.length - (j + 1), by omega, rfl, hlt, h2⟩, fun v H2 hy2 => ?_⟩
          obtain ⟨rfl, hy3⟩ := hy2
          obtain ⟨u, g1, g2⟩ := h4'.at (List.getElem?_eq_getElem hlt)
          have e5 := hy3 xs (SqL.of h3')
          rw [g1] at e5
          cases e5
          refine ⟨F, p, ws, env', pot', ds[j], env1, S', g2, eg, fun σ3 S3 _ _ => ?_⟩
          cases em : mAsg me (gN k) env1 pot' with
          | none => rw [em] at el; cases el
          | some f =>
            rw [em] at el
            obtain ⟨d2, pot2, env2, e6, e7, rfl⟩ := mAsg_inv em
            dsimp only at el
            refine tG_run S3 e6 fun v2 H4 S4 k4 r4 => ?_
            have e8 := gN_keeps hki _ _ _ e7
            unfold gN at e7
            split at e7
            · rename_i hn
              cases e7
              exact ⟨_, _, S4.set_val hn r4, k'.trans k4, e8.trans ((hgi _ _ _ eg).trans eo), el⟩
            · cases e7
      · have hj' : j = ds.length := by omega
        subst hj'
        rw [List.drop_length] at el
        cases el
        exact .inl ⟨⟨xs, SqL.of h3', by omega⟩, q σ' H' p ws S' (Stp.ex S' k') fun _ => rfl⟩
    · cases e
theorem e_cOwn {op : CmpOp} {f : D → D → Option D} (i : Nat) (h : CmpOk X op f) (ha : EE X a ma) (hm : behindInMarks op (.Name x px) = false := by rfl) (hN : X.N[i]? = some x := by rfl) (hv : Vis X.env.scope x := by first | exact Or.inl rfl | exact Or.inr (Or.inl rfl) | exact Or.inr (Or.inr rfl)) (hd : (x == ("__debug__" : Str)) = false := by decide)
    (hcd : (x == ("__classdict__" : Str)) = false := by decide) : EE X (.Compare a [op] [.Name x px] pos) (dOwnR f i ma) := let ⟨_, h1, h2⟩ := h.ok; e_cmpOwn i h1 h2 ha hm hN hv hd hcd
theorem t_cOwn {op : CmpOp} {f : D → D → Option D} (i : Nat) (h : CmpOk X op f) (ha : EE X a ma) (hm : behindInMarks op (.Name x px) = false := by rfl) (hN : X.N[i]? = some x := by rfl) (hv : Vis X.env.scope x := by first | exact Or.inl rfl | exact Or.inr (Or.inl rfl) | exact Or.inr (Or.inr rfl)) (hd : (x == ("__debug__" : Str)) = false := by decide)
    (hcd : (x == ("__classdict__" : Str)) = false := by decide) : ET X (.Compare a [op] [.Name x px] pos) (dT (dOwnR f i ma)) := let ⟨_, h1, h2⟩ := h.ok; t_cmpOwn i h1 h2 ha hm hN hv hd hcd
end
end DL
set_option Elab.async false
set_option linter.all false
set_option maxRecDepth 100000
set_option maxHeartbeats 4000000
/-! The data layer, part 11: defs and calls. -/
namespace DL
open PySem PySem.Spec PyProof.Rows L2

abbrev Fn := List B → Pot → Option (D × Pot)
abbrev FnL := List B → Pot → Option (List D × Pot)
def ArgOk (K : PySem.W.Frag) (M : List Addr) (H : Hp) (p : Option Addr) : B → V → Prop
  | .val d, v => Rep K M H d v
  | .pot, v => ∃ a, p = some a ∧ v = .ref a
  | _, _ => False
def ArgsOk (K : PySem.W.Frag) (M : List Addr) (H : Hp) (p : Option Addr) : List B → List V → Prop
  | [], vs => vs = []
  | b :: bs, vs => ∃ v r, vs = v :: r ∧ ArgOk K M H p b v ∧ ArgsOk K M H p bs r
section
variable {K : PySem.W.Frag} {M P F : List Addr} {H H' : Hp} {p : Option Addr}
theorem ArgsOk.keep (k : Keep P H H') (s : ∀ b ∈ P, b ∈ M) : ∀ {bs : List B} {vs : List V}, ArgsOk K M H p bs vs → ArgsOk K M H' p bs vs
  | [], vs, h => h
  | b :: bs, vs, h => by
    obtain ⟨v, r, e, h1, h2⟩ := h
    refine ⟨v, r, e, ?_, ArgsOk.keep k s h2⟩
    cases b with
    | val d => exact Rep.keep k s d v h1
    | pot => exact h1
    | un => exact h1
    | own _ => exact h1
theorem ArgsOk.append : ∀ {bs cs : List B} {vs us : List V}, ArgsOk K M H p bs vs → ArgsOk K M H p cs us → ArgsOk K M H p (bs ++ cs) (vs ++ us)
  | [], cs, vs, us, h, h2 => by rw [show vs = [] from h]; exact h2
  | b :: bs, cs, vs, us, h, h2 => by
    obtain ⟨v, r, rfl, h1, h3⟩ := h
    exact ⟨v, r ++ us, rfl, h1, ArgsOk.append h3 h2⟩
theorem ArgsOk.length : ∀ {bs : List B} {vs : List V}, ArgsOk K M H p bs vs → vs.length = bs.length
  | [], vs, h => by rw [show vs = [] from h]; rfl
  | b :: bs, vs, h => by
    obtain ⟨v, r, rfl, h1, h3⟩ := h
    rw [List.length_cons, List.length_cons, ArgsOk.length h3]
theorem ArgsOk.slots : ∀ {bs : List B} {vs : List V} (n : Nat), ArgsOk K M H p bs vs → SlotsOk K M H p (bs ++ List.replicate n .un) (vs.map some ++ List.replicate n none) (List.replicate (bs.length + n) none)
  | [], vs, n, h => by
    rw [show vs = [] from h]
    simp only [List.nil_append, List.map_nil, List.length_nil, Nat.zero_add]
    induction n with
    | zero => exact ⟨rfl, rfl⟩
    | succ n ih => exact ⟨none, _, none, _, rfl, rfl, rfl, ih⟩
  | b :: bs, vs, n, h => by
    obtain ⟨v, r, rfl, h1, h3⟩ := h
    rw [List.length_cons, Nat.add_right_comm, List.replicate_succ]
    refine ⟨some v, _, none, _, rfl, rfl, ?_, ArgsOk.slots n h3⟩
    cases b with
    | val d => exact ⟨rfl, v, rfl, h1⟩
    | pot =>
      obtain ⟨a, e1, e2⟩ := h1
      exact ⟨rfl, a, e1, by rw [e2]⟩
    | un => exact h1.elim
    | own _ => exact h1.elim
theorem own_replicate (n : Nat) : own (List.replicate n none) = [] := by
  induction n with
  | zero => rfl
  | succ n ih => rw [List.replicate_succ]; exact ih
end
/-- the promise of a def -/
def spF (K : PySem.W.Frag) (n : Nat) (G : Fn) : Sp := fun vs H Q _ => ∃ F p as pot d pot', vs.length = n ∧ ArgsOk K (mset p [] F) H p as vs ∧ PotOk K (mset p [] F) H p pot ∧ (∀ m ∈ F, H m ≠ none) ∧ G as pot = some (d, pot') ∧
  ∀ v H', Rep K (mset p [] F) H' d v → PotOk K (mset p [] F) H' p pot' → Keep p.toList H H' → Q v H'
/-- .. that gives back a fresh list -/
def spL (K : PySem.W.Frag) (n : Nat) (G : FnL) : Sp := fun vs H Q _ => ∃ F p as pot ds pot', vs.length = n ∧ ArgsOk K (mset p [] F) H p as vs ∧ PotOk K (mset p [] F) H p pot ∧ (∀ m ∈ F, H m ≠ none) ∧ G as pot = some (ds, pot') ∧
  ∀ a xs H', H' a = some (.lst xs) → H a = none → a ∉ mset p [] F → RepL K (a :: mset p [] F) H' ds xs → PotOk K (mset p [] F) H' p pot' → Keep p.toList H H' → Q (.ref a) H'
def defn (N : Nat) (m : MS) : Fn := fun as pot => match m (as ++ List.replicate (N - as.length) .un) pot with
  | some (.rt d pot') => some (d, pot')
  | some (.nx _ pot') => some (.non, pot')
  | _ => none
def defL (N : Nat) (m : MS) : FnL := fun as pot => match m (as ++ List.replicate (N - as.length) .un) pot with
  | some (.rf ds pot') => some (ds, pot')
  | _ => none
section
variable {P : Program} {w : World} {K : PySem.W.Frag} {mg : Str → Option Value} {base : Heap} {x qual : Str} {params : Arguments} {body : List Stmt} {scope : Scope} {f : Addr} {fd : FuncData} {N ps : List Str} {k : Nat} {m : MS}
theorem mset_nil {p : Option Addr} {ws : List (Option Addr)} {F : List Addr} : mset p [] (own ws ++ F) = mset p ws F := rfl
theorem mset_rep {p : Option Addr} {n : Nat} {F : List Addr} : mset p (List.replicate n none) F = mset p [] F := by unfold mset; rw [own_replicate]; rfl
theorem start_sr {F : List Addr} {p : Option Addr} {as : List B} {pot : Pot} {vs : List V} {H : Hp} (h : ArgsOk K (mset p [] F) H p as vs) (q : PotOk K (mset p [] F) H p pot) (hF : ∀ m ∈ F, H m ≠ none) : SR K F p (List.replicate (as.length + (N.length - as.length)) none) H (L2.start N vs) (as ++ List.replicate (N.length - as.length) .un) pot where
  slots := by
    unfold L2.start
    rw [h.length, mset_rep]
    exact h.slots _
  pot := by rw [mset_rep]; exact q
  nd := by rw [own_replicate]; cases p <;> simp
  frg := hF
  dis := by rw [own_replicate]; intro m hm; cases hm
theorem msub {p p' : Option Addr} {ws' : List (Option Addr)} {F : List Addr} (e : p' = p) : ∀ m ∈ mset p [] F, m ∈ mset p' ws' F := fun m hm => by
  subst e
  rcases mem_mset.mp hm with z | z | z
  · exact mem_mset.mpr (.inl z)
  · cases z
  · exact mem_mset.mpr (.inr (.inr z))
theorem stp_keep {p p' : Option Addr} {ws' : List (Option Addr)} {n : Nat} {H H' : Hp} (s : Stp p (List.replicate n none) H p' ws' H') : Keep p.toList H H' := by
  have := s.keep
  rw [own_replicate, List.append_nil] at this
  exact this
theorem def_ok (Fd : FunD K x qual params body scope [] [] f fd) (S : FnScope N ps scope)
    (hb : ∀ (cdv : Value) (A : Around) (outer : List PySem.Env) (s : Shared) (H : Hp) (E : XK), Room k (A.deeper (envOfC qual scope s.heap.objs.size f cdv)) → ESs false (cxOf CX0 P w K mg base N qual scope f cdv A outer s H E).nox body m) :
    FnOk P w K mg base CX0 (k + 1) f fd ps (spF K ps.length (defn N.length m)) := by
  refine Fd.ok S (fun vs H Q E h => ?_) (fun cdv A outer s H vs Q E hr h => ⟨tDS false K m, PSs.nox (hb cdv A outer s H E hr), ?_⟩)
  · obtain ⟨F, p, as, pot, d, pot', h1, _⟩ := h
    exact h1
  · obtain ⟨F, p, as, pot, d, pot', h1, h2, h3, h4, h6, q⟩ := h
    unfold defn at h6
    cases e : m (as ++ List.replicate (N.length - as.length) .un) pot with
    | none => rw [e] at h6; cases h6
    | some fl =>
      rw [e] at h6
      refine tDS_run (start_sr h2 h3 h4) e ?_
      cases fl with
      | nx env pot1 =>
        cases h6
        intro σ' H' p' ws' S' st ep
        have ep' := ep rfl
        subst ep'
        exact q .non H' rep_non (S'.pot.sub (msub rfl)) (stp_keep st)
      | rt d1 pot1 =>
        cases h6
        intro v H' p' ws' t r qp st ep
        have ep' := ep rfl
        subst ep'
        exact q v H' (r.sub (msub rfl)) (qp.sub (msub rfl)) (stp_keep st)
      | bk _ _ => cases h6
      | ct _ _ => cases h6
      | rf _ _ => cases h6
theorem defL_ok (Fd : FunD K x qual params body scope [] [] f fd) (S : FnScope N ps scope)
    (hb : ∀ (cdv : Value) (A : Around) (outer : List PySem.Env) (s : Shared) (H : Hp) (E : XK), Room k (A.deeper (envOfC qual scope s.heap.objs.size f cdv)) → ESs false (cxOf CX0 P w K mg base N qual scope f cdv A outer s H E).nox body m) :
    FnOk P w K mg base CX0 (k + 1) f fd ps (spL K ps.length (defL N.length m)) := by
  refine Fd.ok S (fun vs H Q E h => ?_) (fun cdv A outer s H vs Q E hr h => ⟨tDS false K m, PSs.nox (hb cdv A outer s H E hr), ?_⟩)
  · obtain ⟨F, p, as, pot, d, pot', h1, _⟩ := h
    exact h1
  · obtain ⟨F, p, as, pot, d, pot', h1, h2, h3, h4, h6, q⟩ := h
    unfold defL at h6
    cases e : m (as ++ List.replicate (N.length - as.length) .un) pot with
    | none => rw [e] at h6; cases h6
    | some fl =>
      rw [e] at h6
      refine tDS_run (start_sr h2 h3 h4) e ?_
      cases fl with
      | rf d1 pot1 =>
        cases h6
        intro a xs H' p' ws' t ha na nm r qp st ep
        have ep' := ep rfl
        subst ep'
        refine q a xs H' ha na (fun z => nm (msub rfl a z)) (r.sub fun m hm => ?_) (qp.sub (msub rfl)) (stp_keep st)
        rcases List.mem_cons.mp hm with z | z
        · rw [z]; exact List.mem_cons_self
        · exact List.mem_cons_of_mem _ (msub rfl m z)
      | bk _ _ => cases h6
      | ct _ _ => cases h6
      | nx _ _ => cases h6
      | rt _ _ => cases h6
end
/-! ### arguments -/
abbrev MB := MM (List B)
abbrev tDB (K : PySem.W.Frag) (m : MB) : TA := tG K (fun p M H as vs => ArgsOk K M H p as vs) m
abbrev EB (X : Cx) (es : List Expr) (m : MB) : Prop := PA X es (tDB X.K m)
abbrev EK (X : Cx) (kws : List Keyword) (m : MB) : Prop := PK X kws (tDB X.K m)
theorem PK.imp {X : Cx} {kws : List Keyword} {t t' : TA} (h : PK X kws t) (i : ∀ σ H Q, t' σ H Q → t σ H Q) : PK X kws t' := ⟨fun pos pins s σ H Q I hw => h.run pos pins s σ H Q I (i σ H Q hw)⟩
section
variable {X : Cx} {e : Expr} {es : List Expr} {kws : List Keyword} {ma : ME} {mb mk : MB} {x : Str} {p pos kpos : Pos} {nm : Option Str}
def bNil : MB := fun _ pot => some ([], pot)
def bCons (ma : ME) (mr : MB) : MB := bnd ma fun x => bnd mr fun xs => lft (some (.val x :: xs))
def bPot (i : Nat) (mr : MB) : MB := fun env pot => match env[i]? with
  | some .pot => bnd mr (fun xs => lft (some (.pot :: xs))) env pot
  | _ => none
theorem bnil_imp {K : PySem.W.Frag} {σ : L2.St} {H : Hp} {Q : List V → Hp → Prop} (h : tDB K bNil σ H Q) : tNil σ H Q := by
  obtain ⟨F, p, ws, env, pot, d, pot', S, e, q⟩ := h
  cases e
  exact q [] H S (Keep.refl _ _) rfl
theorem bcons_imp {K : PySem.W.Frag} {σ : L2.St} {H : Hp} {Q : List V → Hp → Prop} (h : tDB K (bCons ma mb) σ H Q) : tCons (tD K ma) (tDB K mb) σ H Q := by
  obtain ⟨F, p, ws, env, pot, d, pot', S, e, q⟩ := h
  obtain ⟨x, pot1, e1, e⟩ := bnd_inv e
  obtain ⟨xs, pot2, e2, e⟩ := bnd_inv e
  obtain ⟨e3, rfl⟩ := lft_inv e
  cases e3
  exact tG_run S e1 fun v H' S' kp r => tG_run S' e2 fun vs H2 S2 kp2 r2 => q _ H2 S2 (kp.trans kp2) ⟨v, vs, rfl, Rep.keep kp2 sub_p _ _ r, r2⟩
theorem bpot_imp {K : PySem.W.Frag} {i : Nat} {σ : L2.St} {H : Hp} {Q : List V → Hp → Prop} (h : tDB K (bPot i mb) σ H Q) : tCons (tVar i) (tDB K mb) σ H Q := by
  obtain ⟨F, p, ws, env, pot, d, pot', S, e, q⟩ := h
  unfold bPot at e
  split at e
  · rename_i e0
    obtain ⟨xs, pot2, e2, e⟩ := bnd_inv e
    obtain ⟨e3, rfl⟩ := lft_inv e
    cases e3
    obtain ⟨s, w, h1, h2, h3, a, h4, h5⟩ := S.slots.at e0
    subst h5
    exact ⟨.ref a, h1, tG_run S e2 fun vs H2 S2 kp2 r2 => q _ H2 S2 kp2 ⟨_, vs, rfl, ⟨a, h4, rfl⟩, r2⟩⟩
  · cases e
theorem b_nil : EB X [] bNil := PA.imp pa_nil fun σ H Q h => bnil_imp h
theorem b_cons (ha : EE X e ma) (hr : EB X es mb) (hs : starEach (e :: es) X.env = (false, eval e X.env) :: starEach es X.env := by rfl) : EB X (e :: es) (bCons ma mb) := PA.imp (pa_cons ha hr hs) fun σ H Q h => bcons_imp h
theorem b_pot (i : Nat) (hr : EB X es mb) (hN : X.N[i]? = some x := by rfl) (hv : Vis X.env.scope x := by first | exact Or.inl rfl | exact Or.inr (Or.inl rfl) | exact Or.inr (Or.inr rfl)) (hd : (x == ("__debug__" : Str)) = false := by decide)
    (hcd : (x == ("__classdict__" : Str)) = false := by decide) (hs : starEach (.Name x p :: es) X.env = (false, eval (.Name x p) X.env) :: starEach es X.env := by rfl) : EB X (.Name x p :: es) (bPot i mb) := PA.imp (pa_cons (pe_var hN hv hd hcd) hr hs) fun σ H Q h => bpot_imp h
theorem k_nil : EK X [] bNil := PK.imp pk_nil fun σ H Q h => bnil_imp h
theorem k_cons (ha : EE X e ma) (hr : EK X kws mb) : EK X (⟨nm, e, kpos⟩ :: kws) (bCons ma mb) := PK.imp (pk_cons ha hr) fun σ H Q h => bcons_imp h
end
/-! ### calls -/
def dCall (G : Fn) (mb : MB) : ME := bnd mb fun as _ pot => G as pot
def aCall (G : FnL) (mb : MB) : MA := bnd mb fun as _ pot => G as pot
def dCallK (G : Fn) (mb mk : MB) : ME := bnd mb fun as => bnd mk fun zs _ pot => G (as ++ zs) pot
section
variable {X : Cx} {f : Addr} {fd : FuncData} {ps ks : List Str} {k n : Nat} {e : Expr} {es : List Expr} {kws : List Keyword} {mb mk : MB} {x : Str} {p pos : Pos} {G : Fn} {GL : FnL}
theorem run_call {K : PySem.W.Frag} {F : List Addr} {q : Option Addr} {ws : List (Option Addr)} {H H1 : Hp} {σ : L2.St} {env : Env} {pot1 pot' : Pot} {as : List B} {vs : List V} {d : D} {Q : VK} (S : SR K F q ws H1 σ env pot1) (k1 : Keep q.toList H H1) (r : ArgsOk K (mset q ws F) H1 q as vs) (hl : vs.length = n) (e : G as pot1 = some (d, pot'))
    (hq : ∀ v H', SR K F q ws H' σ env pot' → Keep q.toList H H' → Rep K (mset q ws F) H' d v → Q v H') : spF K n G vs H1 Q E0 := by
  refine ⟨own ws ++ F, q, as, pot1, d, pot', hl, r, S.pot, fun m hm => S.trk m (List.mem_append_right _ hm), e, fun v H' rv qp kk => ?_⟩
  exact hq v H' (S.call kk qp) (k1.trans kk) rv
theorem e_call (Fn : FnOk X.prog X.w X.K X.mg X.base CX0 k f fd ps (spF X.K n G)) (hr : Room k X.A) (hm : X.mg x = some (.ref f)) (hk : PySem.W.keepIn X.K (.ref f) = true) (hb : Binds X.K fd ps []) (ha : EB X (e :: es) mb) (hn : ∀ as env pot pot', mb env pot = some (as, pot') → as.length = n)
    (hg : Gl X x := by rfl) (hdb : (x == ("__debug__" : Str)) = false := by decide) (he : starEach (e :: es) X.env = (false, eval e X.env) :: starEach es X.env := by rfl) (hpl : (backTo pos (starEach es X.env)).any (·.1) = false := by rfl) :
    EE X (.Call (.Name x p) (e :: es) [] pos) (dCall G mb) := PE.imp (pe_call Fn hr hg hm hk hb .nil pass0 ha hdb he hpl) fun σ H Q h => by
  obtain ⟨F, q, ws, env, pot, d, pot', S, e, hq⟩ := h
  obtain ⟨as, pot1, e1, e2⟩ := bnd_inv e
  show tDB X.K mb σ H _
  refine tG_run S e1 fun vs H1 S1 k1 r => ?_
  show spF X.K n G (vs ++ []) H1 Q E0
  rw [List.append_nil]
  exact run_call S1 k1 r (by rw [r.length]; exact hn _ _ _ _ e1) e2 hq
theorem f_call (Fn : FnOk X.prog X.w X.K X.mg X.base CX0 k f fd ps (spL X.K n GL)) (hr : Room k X.A) (hm : X.mg x = some (.ref f)) (hk : PySem.W.keepIn X.K (.ref f) = true) (hb : Binds X.K fd ps []) (ha : EB X (e :: es) mb) (hn : ∀ as env pot pot', mb env pot = some (as, pot') → as.length = n)
    (hg : Gl X x := by rfl) (hdb : (x == ("__debug__" : Str)) = false := by decide) (he : starEach (e :: es) X.env = (false, eval e X.env) :: starEach es X.env := by rfl) (hpl : (backTo pos (starEach es X.env)).any (·.1) = false := by rfl) :
    EF X (.Call (.Name x p) (e :: es) [] pos) (aCall GL mb) := PE.imp (pe_call Fn hr hg hm hk hb .nil pass0 ha hdb he hpl) fun σ H Q h => by
  obtain ⟨F, q, ws, env, pot, d, pot', S, e, hq⟩ := h
  obtain ⟨as, pot1, e1, e2⟩ := bnd_inv e
  show tDB X.K mb σ H _
  refine tG_run S e1 fun vs H1 S1 k1 r => ?_
  show spL X.K n GL (vs ++ []) H1 Q E0
  rw [List.append_nil]
  refine ⟨own ws ++ F, q, as, pot1, d, pot', by rw [r.length]; exact hn _ _ _ _ e1, r, S1.pot, fun m hm => S1.trk m (List.mem_append_right _ hm), e2, fun a xs H' ha na nm r2 qp kk => ?_⟩
  have nH : H a = none := by
    by_cases hp : a ∈ q.toList
    · exact absurd (sub_p (ws := ws) (F := F) a hp) (S1.fresh na)
    · exact k1.free hp na
  exact hq a xs H' (S1.call kk qp) (k1.trans kk) nH nm ha (r2.sub fun m hm => List.mem_cons_of_mem _ hm) (fun b hb z => by subst z; rw [ha] at hb; cases hb) r2
/-- f(k = v, ..): all by keywords, in the parameters' order -/
def KB0 (K : PySem.W.Frag) (fd : FuncData) (ps : List Str) : Prop := ∀ (s : Shared) (ws : List Value), ws.length = ps.length → BindsTo s fd ⟨[], ps.zip ws⟩ (ps.zip ws)
theorem KB0.of {K : PySem.W.Frag} {x qual : Str} {params : Arguments} {body : List Stmt} {scope : Scope} (F : FunD K x qual params body scope [] [] f fd)
    (h : ∀ (kV doc pm : Value) (an : Option Addr) (cdv ct : Value) (ws : List Value), ws.length = ps.length → bindArgs (PySem.W.fnOf x qual params body scope .none kV doc pm an cdv ct) ⟨[], ps.zip ws⟩ = pure (ps.zip ws)) : KB0 K fd ps := by
  obtain ⟨oc, od, dV, kV, doc, pm, an, cdv, ct, osl, rfl, lk, hcd, hD, hK⟩ := F.ex
  rcases hD with ⟨_, rfl⟩ | ⟨e, _⟩
  · exact fun s ws hl => .of_eq (h kV doc pm an cdv ct ws hl)
  · exact absurd rfl e
theorem e_callK (Fn : FnOk X.prog X.w X.K X.mg X.base CX0 k f fd ps (spF X.K n G)) (hr : Room k X.A) (hm : X.mg x = some (.ref f)) (hk : PySem.W.keepIn X.K (.ref f) = true) (hb : KB0 X.K fd ps) (ha : EK X kws mb) (hn : ∀ as env pot pot', mb env pot = some (as, pot') → as.length = n) (hnp : ps.length = n := by rfl)
    (hg : Gl X x := by rfl) (hall : (backToKw pos (keywordEach kws X.env)).all (·.1.isSome) = true := by rfl) (hks : (backToKw pos (keywordEach kws X.env)).filterMap (·.1) = ps := by rfl)
    (hdb : (x == ("__debug__" : Str)) = false := by decide) (hpl : ((backTo pos (starEach [] X.env)).any (·.1) || (backToKw pos (keywordEach kws X.env)).any (·.1.isNone)) = false := by rfl) :
    EE X (.Call (.Name x p) [] kws pos) (dCall G mb) := by
  have h0 : PE X (.Call (.Name x p) [] kws pos) (fun σ H Q => tDB X.K mb σ H fun vs H1 => spF X.K n G vs H1 Q E0) := by
    refine ⟨fun pins s σ H Q I h => ?_⟩
    refine wpAny_Call_Name_kw (ld_glob I hg hm ?_ hdb)
    refine PySem.W.callWith_KW0 (h₀ := X.base) I.ok.mod.kin hk hall (thn (ha.run pos pins s σ H _ I h) fun ws s2 ⟨zs, H2, I2, rz, q2⟩ => ⟨I2.kIn, ?_⟩) hpl
    rw [hks]
    have hl : zs.length = n := by obtain ⟨F, p, as, pot, d, pot', h1, _⟩ := q2; exact h1
    refine wpAny_call (codeAny_mono (Fn.run X.A X.stack s2 H2 ⟨[], ps.zip ws⟩ ws zs Q E0 hr I2.env0 (hb s2 ws (by rw [← rz.length, hl, hnp])) rz q2) fun r s' hq => ?_)
    cases r with
    | error e => exact pass0 (X := X) pins σ H2 s2 e s' I2 hq
    | ok fl =>
      cases fl with
      | ret u => exact I2.after hq
      | next => exact False.elim hq
      | brk => exact False.elim hq
      | cont => exact False.elim hq
  refine PE.imp h0 fun σ H Q h => ?_
  obtain ⟨F, q, ws, env, pot, d, pot', S, e, hq⟩ := h
  obtain ⟨as, pot1, e1, e2⟩ := bnd_inv e
  show tDB X.K mb σ H _
  exact tG_run S e1 fun vs H1 S1 k1 r => run_call S1 k1 r (by rw [r.length]; exact hn _ _ _ _ e1) e2 hq
/-- how many arguments -/
theorem nb_nil (as : List B) (env : Env) (pot pot' : Pot) (h : bNil env pot = some (as, pot')) : as.length = 0 := by cases h; rfl
theorem nb_cons {ma : ME} {mr : MB} {n : Nat} (i : ∀ as env pot pot', mr env pot = some (as, pot') → as.length = n) (as : List B) (env : Env) (pot pot' : Pot) (h : bCons ma mr env pot = some (as, pot')) : as.length = n + 1 := by
  obtain ⟨x, pot1, e1, e⟩ := bnd_inv h
  obtain ⟨xs, pot2, e2, e⟩ := bnd_inv e
  obtain ⟨e3, rfl⟩ := lft_inv e
  cases e3
  rw [List.length_cons, i _ _ _ _ e2]
theorem nb_pot {j : Nat} {mr : MB} {n : Nat} (i : ∀ as env pot pot', mr env pot = some (as, pot') → as.length = n) (as : List B) (env : Env) (pot pot' : Pot) (h : bPot j mr env pot = some (as, pot')) : as.length = n + 1 := by
  unfold bPot at h
  split at h
  · obtain ⟨xs, pot2, e2, e⟩ := bnd_inv h
    obtain ⟨e3, rfl⟩ := lft_inv e
    cases e3
    rw [List.length_cons, i _ _ _ _ e2]
  · cases h
end
/-! ### a new pot (the law alone) -/
def isPot : B → Bool
  | .pot => true
  | _ => false
def mPot (mr : MA) (i : Nat) : MS := fun env pot => match mr env pot with
  | some (ds, pot') => if notOwn env i = true ∧ flatP pot' = true ∧ i < env.length ∧ ((env.set i .un).all fun b => !isPot b) = true then some (.nx (env.set i .pot) (some ds)) else none
  | none => none
section
variable {K : PySem.W.Frag} {M M' F : List Addr} {H H' : Hp} {p p' : Option Addr} {ws : List (Option Addr)} {σ : L2.St} {env : Env} {pot pot' : Pot} {i : Nat} {ds : List D} {a : Addr} {xs : List V}
theorem SlotsOk.noPot : ∀ {env : Env} {σ : L2.St} {ws : List (Option Addr)}, (env.all fun b => !isPot b) = true → SlotsOk K M H p env σ ws → SlotsOk K M H p' env σ ws
  | [], σ, ws, _, h => h
  | b :: bs, σ, ws, n, h => by
    rw [List.all_cons, Bool.and_eq_true] at n
    obtain ⟨s, ss, w, wr, e1, e2, h1, h2⟩ := h
    refine ⟨s, ss, w, wr, e1, e2, ?_, SlotsOk.noPot n.2 h2⟩
    cases b with
    | pot => cases n.1
    | un => exact h1
    | val d => exact h1
    | own _ => exact h1
theorem SR.newPot (S0 : SR K F p ws H σ env pot) (S : SR K F p ws H' σ env pot') (k : Keep p.toList H H') (na : H a = none) (nm : a ∉ mset p ws F) (ha : H' a = some (.lst xs)) (r : RepL K (a :: mset p ws F) H' ds xs) (hi : i < env.length) (n : notOwn env i = true) (np : ((env.set i .un).all fun b => !isPot b) = true) :
    SR K F (some a) ws H' (σ.set i (some (.ref a))) (env.set i .pot) (some ds) := by
  have mem : ∀ m, m ∈ mset (some a) ws F → m = a ∨ m ∈ mset p ws F := fun m hm => by
    rcases mem_mset.mp hm with z | z
    · exact .inl (by simpa using z)
    · exact .inr (mem_mset.mpr (.inr z))
  have sub : ∀ m ∈ mset (some a) ws F, m ∈ a :: mset p ws F := fun m hm => by
    rcases mem m hm with z | z
    · rw [z]; exact List.mem_cons_self
    · exact List.mem_cons_of_mem _ z
  have nd := List.nodup_append.mp S.nd
  -- the slots at H, the old pot still among what is avoided
  have s1 : SlotsOk K (a :: mset p ws F) H p env σ ws := S0.slots.grow fun m hm => (List.mem_cons.mp hm).elim (fun z => .inr (z ▸ na)) .inl
  have s2 : SlotsOk K (a :: mset p ws F) H' p env σ ws := s1.keep k (fun b hb => List.mem_cons_of_mem _ (sub_p b hb)) fun c hc z => nd.2.2 c z c hc rfl
  have s3 : SlotsOk K (mset (some a) ws F) H' p env σ ws := s2.grow fun m hm => .inl (sub m hm)
  have s4 : SlotsOk K (mset (some a) ws F) H' p (env.set i .un) (σ.set i (some (.ref a))) ws := s3.upd (b := .un) i fun w e => s3.noOwn n w e
  have s5 : SlotsOk K (mset (some a) ws F) H' (some a) (env.set i .un) (σ.set i (some (.ref a))) ws := s4.noPot np
  have s6 := s5.upd (b := .pot) (s := some (.ref a)) i fun w e => ⟨s3.noOwn n w e, a, rfl, rfl⟩
  rw [List.set_set, List.set_set] at s6
  refine ⟨s6, ⟨xs, ha, r.sub sub⟩, List.nodup_cons.mpr ⟨fun z => nm (mem_mset.mpr (.inr (.inl z))), nd.2.1⟩, S.frg, S.dis⟩
theorem s_pot {X : Cx} {e : Expr} {mr : MA} {pos p1 : Pos} {x : Str} (i : Nat) (hN : X.N.Nodup) (he : EF X e mr) (hi : X.N[i]? = some x := by rfl) (hx : Loc X.env.scope x := by first | exact Or.inl rfl | exact Or.inr rfl) (hs : swapsWith e (some (.Name x p1)) pos.line X.env = pure false := by rfl) (hf : X.fn x = true ∨ X.env.scope.names.lookup x = some .local := by first | exact .inl rfl | exact .inr rfl) :
    ES true X (.Assign [.Name x p1] e pos) (mPot mr i) := PS.imp (ps_set hN hi hx he hs hf) fun D σ H h => by
  obtain ⟨F, p, ws, env, pot, fl, S, e, q⟩ := h
  unfold mPot at e
  cases e1 : mr env pot with
  | none => rw [e1] at e; cases e
  | some r =>
    obtain ⟨ds, pot'⟩ := r
    rw [e1] at e
    dsimp only at e
    split at e
    · rename_i hc
      cases e
      refine ⟨F, p, ws, env, pot, ds, pot', S, e1, fun a xs H' S' k na nm ha r _ r2 => ?_⟩
      refine q _ H' (some a) ws (SR.newPot S S' k na nm ha r2 hc.2.2.1 hc.1 hc.2.2.2) ⟨(Stp.ex S' k).keep, fun b hb => ?_, (Stp.ex S' k).dom⟩ fun z => nomatch z
      rcases List.mem_append.mp hb with z | z
      · exact .inr (by rw [show b = a by simpa using z]; exact na)
      · exact .inl (List.mem_append_right _ z)
    · cases e
end
end DL
set_option Elab.async false
set_option linter.all false
set_option maxRecDepth 100000
set_option maxHeartbeats 4000000
/-! The data layer, part 12: defs by name, constants, the law. -/
namespace DL
open PySem PySem.Spec PyProof.Rows L2

/-- name = [elt for .. for ..] on one line, the name a local -/
theorem s_setLc2 {sw : Bool} {X : Cx} {elt tg iter tg1 iter1 : Expr} {ifs ifs1 : List Expr} {scope : Scope} {own' : List (Str × Nat)} {pos spos py : Pos} {mi mi1 : MA} {g g1 : MG} {mt mt1 : MT} {me : ME} {js js1 : List Nat} {y : Str} {vs1 : List Nat} (i : Nat)
    (hc : X.calm = true) (hN : X.N.Nodup) (hsw : swapsWith (.ListComp elt [⟨tg, iter, ifs, 0⟩, ⟨tg1, iter1, ifs1, 0⟩] scope pos) (some (.Name y py)) spos.line X.env = pure true) (hi : EI X tg iter mi) (ok : BlkOk X.N X.env.scope scope own')
    (hg : ∀ (s : Shared) (H : Hp) (C : Addr) (cl : List (Str × Addr)) (fp : List Addr), EG (X.blk s H scope (compEnvC scope cl C X.env) fp) tg js g) (ht : ∀ (s : Shared) (H : Hp) (C : Addr) (cl : List (Str × Addr)) (fp : List Addr), ETs (X.blk s H scope (compEnvC scope cl C X.env) fp) ifs mt)
    (hi1 : ∀ (s : Shared) (H : Hp) (C : Addr) (cl : List (Str × Addr)) (fp : List Addr), EI (X.blk s H scope (compEnvC scope cl C X.env) fp) tg1 iter1 mi1)
    (hg1 : ∀ (s : Shared) (H : Hp) (C : Addr) (cl : List (Str × Addr)) (fp : List Addr), EG (X.blk s H scope (compEnvC scope cl C X.env) fp) tg1 js1 g1) (ht1 : ∀ (s : Shared) (H : Hp) (C : Addr) (cl : List (Str × Addr)) (fp : List Addr), ETs (X.blk s H scope (compEnvC scope cl C X.env) fp) ifs1 mt1)
    (he : ∀ (s : Shared) (H : Hp) (C : Addr) (cl : List (Str × Addr)) (fp : List Addr), EE (X.blk s H scope (compEnvC scope cl C X.env) fp) elt me) (hjs : ∀ j ∈ js, j ∈ own'.map (·.2) := by decide) (hjs1 : ∀ j ∈ js1, j ∈ vs1 := by decide) (hv : ∀ i ∈ vs1, i ∈ own'.map (·.2) := by decide)
    (hy : X.N[i]? = some y := by rfl) (hyl : X.env.scope.names.lookup y = some .local := by rfl) (hs : ∀ x, foldedSetIterable iter X.env x = pure x := by intro _; rfl) (hs1 : ∀ env x, foldedSetIterable iter1 env x = pure x := by intro _ _; rfl) :
    ES sw X (.Assign [.Name y py] (.ListComp elt [⟨tg, iter, ifs, 0⟩, ⟨tg1, iter1, ifs1, 0⟩] scope pos) spos) (mAsg (dL (aLc2 (own'.map (·.2)) vs1 mi g mt mi1 g1 mt1 me)) (gN i)) :=
  PS.imp (ps_setLc2 hc hN hy hyl hsw hi ok hv hg ht hi1 hg1 ht1 he hs hs1) fun D σ H h => setN_imp (lc_dL fun σ H Q h => lc2_core' hjs hjs1 h) h
/-- a def of the module, as callers see it -/
structure Cal (P : Program) (w : World) (K : PySem.W.Frag) (mg : Str → Option Value) (base : Heap) (k : Nat) (x : Str) (ps : List Str) (G : Fn) : Prop where
  ex : ∃ f fd, mg x = some (.ref f) ∧ PySem.W.keepIn K (.ref f) = true ∧ FnOk P w K mg base CX0 k f fd ps (spF K ps.length G) ∧ Binds K fd ps [] ∧ KB0 K fd ps
structure CalL (P : Program) (w : World) (K : PySem.W.Frag) (mg : Str → Option Value) (base : Heap) (k : Nat) (x : Str) (ps : List Str) (G : FnL) : Prop where
  ex : ∃ f fd, mg x = some (.ref f) ∧ PySem.W.keepIn K (.ref f) = true ∧ FnOk P w K mg base CX0 k f fd ps (spL K ps.length G) ∧ Binds K fd ps []
section
variable {X : Cx} {ps : List Str} {k j : Nat} {e : Expr} {es : List Expr} {kws : List Keyword} {mb : MB} {x : Str} {p pos : Pos} {G : Fn} {GL : FnL}
theorem e_cl (c : Cal X.prog X.w X.K X.mg X.base k x ps G) (hr : Room j X.A) (hk : k ≤ j) (ha : EB X (e :: es) mb) (hn : ∀ as env pot pot', mb env pot = some (as, pot') → as.length = ps.length)
    (hg : Gl X x := by rfl) (hdb : (x == ("__debug__" : Str)) = false := by decide) (he : starEach (e :: es) X.env = (false, eval e X.env) :: starEach es X.env := by rfl) (hpl : (backTo pos (starEach es X.env)).any (·.1) = false := by rfl) :
    EE X (.Call (.Name x p) (e :: es) [] pos) (dCall G mb) := by
  obtain ⟨f, fd, h1, h2, h3, h4, _⟩ := c.ex
  exact e_call h3 (hr.mono hk) h1 h2 h4 ha hn hg hdb he hpl
theorem e_clK (c : Cal X.prog X.w X.K X.mg X.base k x ps G) (hr : Room j X.A) (hk : k ≤ j) (ha : EK X kws mb) (hn : ∀ as env pot pot', mb env pot = some (as, pot') → as.length = ps.length)
    (hg : Gl X x := by rfl) (hall : (backToKw pos (keywordEach kws X.env)).all (·.1.isSome) = true := by rfl) (hks : (backToKw pos (keywordEach kws X.env)).filterMap (·.1) = ps := by rfl)
    (hdb : (x == ("__debug__" : Str)) = false := by decide) (hpl : ((backTo pos (starEach [] X.env)).any (·.1) || (backToKw pos (keywordEach kws X.env)).any (·.1.isNone)) = false := by rfl) :
    EE X (.Call (.Name x p) [] kws pos) (dCall G mb) := by
  obtain ⟨f, fd, h1, h2, h3, h4, h5⟩ := c.ex
  exact e_callK h3 (hr.mono hk) h1 h2 h5 ha hn rfl hg hall hks hdb hpl
theorem f_cl (c : CalL X.prog X.w X.K X.mg X.base k x ps GL) (hr : Room j X.A) (hk : k ≤ j) (ha : EB X (e :: es) mb) (hn : ∀ as env pot pot', mb env pot = some (as, pot') → as.length = ps.length)
    (hg : Gl X x := by rfl) (hdb : (x == ("__debug__" : Str)) = false := by decide) (he : starEach (e :: es) X.env = (false, eval e X.env) :: starEach es X.env := by rfl) (hpl : (backTo pos (starEach es X.env)).any (·.1) = false := by rfl) :
    EF X (.Call (.Name x p) (e :: es) [] pos) (aCall GL mb) := by
  obtain ⟨f, fd, h1, h2, h3, h4⟩ := c.ex
  exact f_call h3 (hr.mono hk) h1 h2 h4 ha hn hg hdb he hpl
end
section
variable {P : Program} {w : World} {K : PySem.W.Frag} {mg : Str → Option Value} {base : Heap} {x qual : Str} {params : Arguments} {body : List Stmt} {scope : Scope} {N ps : List Str} {k : Nat} {m : MS}
theorem cal_ok (Fd : ∃ fd, FunD K x qual params body scope [] [] (He.ga K x) fd) (hm : mg x = some (.ref (He.ga K x))) (S : FnScope N ps scope)
    (hb1 : ∀ (kV doc pm : Value) (an : Option Addr) (cdv ct : Value) (us : List Value), us.length = ps.length → bindArgs (PySem.W.fnOf x qual params body scope .none kV doc pm an cdv ct) ⟨us, []⟩ = pure (ps.zip us))
    (hb2 : ∀ (kV doc pm : Value) (an : Option Addr) (cdv ct : Value) (ws : List Value), ws.length = ps.length → bindArgs (PySem.W.fnOf x qual params body scope .none kV doc pm an cdv ct) ⟨[], ps.zip ws⟩ = pure (ps.zip ws))
    (hb : ∀ (f : Addr) (cdv : Value) (A : Around) (outer : List PySem.Env) (s : Shared) (H : Hp) (E : XK), Room k (A.deeper (envOfC qual scope s.heap.objs.size f cdv)) → ESs false (cxOf CX0 P w K mg base N qual scope f cdv A outer s H E).nox body m) :
    Cal P w K mg base (k + 1) x ps (defn N.length m) := by
  obtain ⟨fd, F⟩ := Fd
  exact ⟨_, fd, hm, F.kp, def_ok F S (hb _), F.bindsN hb1, KB0.of F hb2⟩
theorem calL_ok (Fd : ∃ fd, FunD K x qual params body scope [] [] (He.ga K x) fd) (hm : mg x = some (.ref (He.ga K x))) (S : FnScope N ps scope)
    (hb1 : ∀ (kV doc pm : Value) (an : Option Addr) (cdv ct : Value) (us : List Value), us.length = ps.length → bindArgs (PySem.W.fnOf x qual params body scope .none kV doc pm an cdv ct) ⟨us, []⟩ = pure (ps.zip us))
    (hb : ∀ (f : Addr) (cdv : Value) (A : Around) (outer : List PySem.Env) (s : Shared) (H : Hp) (E : XK), Room k (A.deeper (envOfC qual scope s.heap.objs.size f cdv)) → ESs false (cxOf CX0 P w K mg base N qual scope f cdv A outer s H E).nox body m) :
    CalL P w K mg base (k + 1) x ps (defL N.length m) := by
  obtain ⟨fd, F⟩ := Fd
  exact ⟨_, fd, hm, F.kp, defL_ok F S (hb _), F.bindsN hb1⟩
/-! ### the module's constants -/
theorem gl_int {i : Int} (h : ∃ t, mg x = some (.int i t)) : GlD K mg x (.int i) := by
  obtain ⟨t, e⟩ := h
  exact ⟨.int i, _, e, ⟨t, rfl⟩, fun _ _ => rep_int⟩
theorem gl_tup {vs : List He.Dv} {ds : List D} (hm : mg x = some (.ref (He.ga K x))) (h : He.tupB K x vs = true) (r : ∀ M H, RepL K M H ds (vs.map (He.Dv.v K))) : GlD K mg x (.tup ds) := by
  refine ⟨.ref (He.ga K x), _, hm, rfl, fun M H => ?_⟩
  simp only [Rep]
  refine ⟨_, _, rfl, .inr ?_, r M H⟩
  rcases He.tupB_ok h (fun _ => none) with z | z
  · exact absurd rfl (Rd.some z)
  · exact z
/-! ### the law -/
def spLaw (K : PySem.W.Frag) (most : Nat) : Sp := fun vs H Q _ => ∃ (a : Addr) (ns : List Int), vs = [.ref a] ∧ ns.length ≤ most ∧ SqL K H a (ns.map V.int) ∧ ∀ H', Q (.bl true) H'
theorem law_ok {f : Addr} {fd : FuncData} {most : Nat} (Fd : FunD K x qual params body scope [] [] f fd) (S : FnScope N ["script"] scope)
    (hb : ∀ (cdv : Value) (A : Around) (outer : List PySem.Env) (s : Shared) (H : Hp) (E : XK), Room k (A.deeper (envOfC qual scope s.heap.objs.size f cdv)) → ESs true (cxOf CX0 P w K mg base N qual scope f cdv A outer s H E).nox body m)
    (hm : ∀ ns : List Int, ns.length ≤ most → ∃ pot', m (.val (.lst (ns.map D.int)) :: List.replicate (N.length - 1) .un) none = some (.rt (.bl true) pot')) :
    FnOk P w K mg base CX0 (k + 1) f fd ["script"] (spLaw K most) := by
  refine Fd.ok S (fun vs H Q E h => ?_) (fun cdv A outer s H vs Q E hr h => ⟨tDS true K m, PSs.nox (hb cdv A outer s H E hr), ?_⟩)
  · obtain ⟨a, ns, rfl, _⟩ := h
    rfl
  · obtain ⟨a, ns, rfl, hl, hS, hQ⟩ := h
    obtain ⟨pot', e⟩ := hm ns hl
    have ha : ArgsOk K (mset none [] []) H none [.val (.lst (ns.map D.int))] [.ref a] := by
      refine ⟨_, _, rfl, ?_, rfl⟩
      show Rep K _ H (.lst (ns.map D.int)) (.ref a)
      simp only [Rep]
      refine ⟨a, _, rfl, ?_, repL_ints ns⟩
      rcases hS with h | h
      · exact .inl ⟨(fun z => by cases z), h⟩
      · exact .inr h
    refine tDS_run (start_sr (N := N) ha (pot := none) trivial (fun m hm => nomatch hm)) e ?_
    intro v H' p' ws' t r qp st ep
    rw [r.inv_bl]
    exact hQ H'
end
end DL
set_option Elab.async false
set_option linter.all false
set_option maxRecDepth 100000
set_option maxHeartbeats 4000000
namespace K47
open PySem PySem.Spec PyProof.Rows L2 DL
def top (i : Nat) : Stmt := PySem.Challenge.pw_themomentitturned_k47_whole_sums_within.main.body.getD i (.Pass ⟨0, 0, 0, 0⟩)
structure Facts (K : PySem.W.Frag) (mg : Str → Option Value) : Prop where
  b_abs : mg "abs" = none
  b_all : mg "all" = none
  b_any : mg "any" = none
  b_bool : mg "bool" = none
  b_enumerate : mg "enumerate" = none
  b_int : mg "int" = none
  b_isinstance : mg "isinstance" = none
  b_len : mg "len" = none
  b_list : mg "list" = none
  b_max : mg "max" = none
  b_min : mg "min" = none
  b_range : mg "range" = none
  b_sum : mg "sum" = none
  b_tuple : mg "tuple" = none
  b_zip : mg "zip" = none
  g_LEAST_SIGNS : GlD K mg "LEAST_SIGNS" (.int 2)
  g_MOST_SIGNS_TOLD : GlD K mg "MOST_SIGNS_TOLD" (.int 6)
  g_ONE : GlD K mg "ONE" (.tup [(.int 1), (.int 1)])
  g_ZERO : GlD K mg "ZERO" (.tup [(.int 0), (.int 1)])
def fuI (i : Nat) : DL.Env → Pot → Nat := fun env _ => match env[i]? with
  | some (.val (.int z)) => z.natAbs + 2
  | _ => 0
/-! ### _law_cells -/
abbrev N__law_cells : List Str := ["script", "most"]
def m__law_cells : MS := (mRt (dL (fListRg (dB bMax (aCons (dC (.int 1)) (aCons (dB bMin (aCons (dV 1) (aCons (dB bLen (aCons (dV 0) aNil)) aNil))) aNil))))))
def G__law_cells : DL.Fn := defn N__law_cells.length m__law_cells
/-! ### _law_pot -/
abbrev N__law_pot : List Str := ["script", "place", "cell", "own", "small"]
def m__law_pot : MS := (mSeq (mAsg (dIf (dT (d2 cLt (dV 1) (dB bLen (aCons (dV 0) aNil)))) (d2 fIx (dV 0) (dV 1)) (d2 fAdd (d2 fAdd (d2 iMod (dB bSum (aCons (dSl (dV 0) oNone (oSome (dC (.int 1)))) aNil)) (dC (.int 1000003))) (d2 fMul (dC (.int 65490)) (dV 1))) (dC (.int 20980)))) (gN 2))
  (mSeq (mAsg (d2 fMul (d2 iMod (dB bInt (aCons (dB bAbs (aCons (dV 2) aNil)) aNil)) (d2 iPow (d2 iPow (dC (.int 10)) (dC (.int 60))) (dC (.int 5)))) (dB bInt (aCons (d2 cGe (dB bAbs (aCons (dV 2) aNil)) (d2 iPow (dC (.int 10)) (dC (.int 18)))) aNil))) (gN 3))
  (mSeq (mAsg (d2 iMod (dB bInt (aCons (dV 2) aNil)) (dC (.int 2305843009213693951))) (gN 4))
  (mRf (aLen (aCons (dV 3) (aCons (d2 iMod (dB bInt (aCons (d2 fAdd (d2 fAdd (d2 fMul (dV 4) (dC (.int 493060))) (d2 fMul (d2 fMul (dC (.int 64934)) (dV 1)) (dV 1))) (dC (.int 40002))) aNil)) (dC (.int 2305843009213693921))) (aCons (dC (.int 0)) aNil))))))))
def G__law_pot : FnL := defL N__law_pot.length m__law_pot
/-! ### _law_take -/
abbrev N__law_take : List Str := ["pot", "upto", "digit", "prime", "blend"]
def m__law_take : MS := (mSeq (mIf (dT (d2 cGt (dPotIx 0 (dC (.int 0))) (dC (.int 0)))) (mSeq (mAsg (d2 iMod (dB bInt (aCons (dPotIx 0 (dC (.int 0))) aNil)) (dV 1)) (gN 2))
  (mSeq (mSetPot 0 (d2 iDiv (dPotIx 0 (dC (.int 0))) (dV 1)) (dC (.int 0)))
  (mRt (dV 2)))) mNil)
  (mSeq (mSetPot 0 (d2 fAdd (dPotIx 0 (dC (.int 2))) (dC (.int 1))) (dC (.int 2)))
  (mSeq (mAsg (d2 fIx (dL (aLen (aCons (dC (.int 2147483647)) (aCons (dC (.int 2147483629)) (aCons (dC (.int 2147483587)) (aCons (dC (.int 2147483579)) (aCons (dC (.int 2147483563)) aNil))))))) (d2 iMod (dB bInt (aCons (dPotIx 0 (dC (.int 2))) aNil)) (dC (.int 5)))) (gN 3))
  (mSeq (mAsg (d2 iMod (dB bInt (aCons (d2 iPow (dB bInt (aCons (d2 fAdd (d2 fAdd (dPotIx 0 (dC (.int 1))) (d2 fMul (d2 fMul (dC (.int 159820)) (dPotIx 0 (dC (.int 2)))) (dPotIx 0 (dC (.int 2))))) (dC (.int 12660))) aNil)) (dC (.int 3))) aNil)) (dV 3)) (gN 4))
  (mSeq (mAsg (d2 iMod (dB bInt (aCons (d2 fMul (dV 4) (d2 fAdd (d2 iMod (dB bInt (aCons (dV 4) aNil)) (dC (.int 42852))) (d2 fMul (dC (.int 7968)) (dPotIx 0 (dC (.int 2)))))) aNil)) (dC (.int 2305843009213693907))) (gN 4))
  (mRt (d2 iMod (dB bInt (aCons (d2 iDiv (dV 4) (dC (.int 13464))) aNil)) (dV 1))))))))
def G__law_take : DL.Fn := defn N__law_take.length m__law_take
/-! ### _law_cut -/
abbrev N__law_cut : List Str := ["top", "low", "one", "other"]
def m__law_cut : MS := (mSeq (mPar 2 3 (aCons (dB bAbs (aCons (dV 0) aNil)) (aCons (dV 1) aNil)))
  (mSeq (mWh (fuI 3) (dT (d2 cNe (dV 3) (dC (.int 0)))) (mPar 2 3 (aCons (dV 3) (aCons (d2 iMod (dV 2) (dV 3)) aNil))))
  (mRt (dTup (aCons (dB bInt (aCons (d2 iDiv (dV 0) (dV 2)) aNil)) (aCons (dB bInt (aCons (d2 iDiv (dV 1) (dV 2)) aNil)) aNil))))))
def G__law_cut : DL.Fn := defn N__law_cut.length m__law_cut
/-! ### _law_chances -/
abbrev N__law_chances : List Str := ["pot", "signs", "holes", "weights", "sign", "one"]
def Ce__law_chances_1 : ME := (d2 fIx (dL (aLen (aCons (dC (.int 1)) (aCons (dC (.int 1)) (aCons (dC (.int 2)) (aCons (dC (.int 3)) (aCons (dC (.int 5)) (aCons (d2 fAdd (dC (.int 1)) (dCall G__law_take (bPot 0 (bCons (dC (.int 9)) bNil)))) aNil)))))))) (dCall G__law_take (bPot 0 (bCons (dC (.int 6)) bNil))))
def Ce__law_chances_2 : ME := (dCall G__law_cut (bCons (dV 5) (bCons (dB bSum (aCons (dV 3) aNil)) bNil)))
def m__law_chances : MS := (mSeq (mOwn (aLc [4] (iRng1 (aCons (dV 1) aNil)) (gN 4) tYes1 Ce__law_chances_1) 3)
  (mSeq (mIf (tAnd2 (dT (dV 2)) (dT (d2 cEq (dCall G__law_take (bPot 0 (bCons (dC (.int 3)) bNil))) (dC (.int 0))))) (mSetIx 3 (dC (.int 0)) (dCall G__law_take (bPot 0 (bCons (dV 1) bNil)))) mNil)
  (mFrz 3 (mRt (dB bTuple (aCons (dL (aLc [5] (iAny (dV 3)) (gN 5) tYes1 Ce__law_chances_2)) aNil))))))
def G__law_chances : DL.Fn := defn N__law_chances.length m__law_chances
/-! ### _law_added -/
abbrev N__law_added : List Str := ["one", "other"]
def m__law_added : MS := (mRt (dCall G__law_cut (bCons (d2 fAdd (d2 fMul (d2 fIx (dV 0) (dC (.int 0))) (d2 fIx (dV 1) (dC (.int 1)))) (d2 fMul (d2 fIx (dV 1) (dC (.int 0))) (d2 fIx (dV 0) (dC (.int 1))))) (bCons (d2 fMul (d2 fIx (dV 0) (dC (.int 1))) (d2 fIx (dV 1) (dC (.int 1)))) bNil))))
def G__law_added : DL.Fn := defn N__law_added.length m__law_added
/-! ### _law_total -/
abbrev N__law_total : List Str := ["some", "found", "one"]
def Lb__law_total_1 : MS := (mAsg (dCall G__law_added (bCons (dV 1) (bCons (dV 2) bNil))) (gN 1))
def m__law_total : MS := (mSeq (mAsg (dTup (aCons (dC (.int 0)) (aCons (dC (.int 1)) aNil))) (gN 1))
  (mSeq (mFor (iAny (dV 0)) (gN 2) Lb__law_total_1)
  (mRt (dV 1))))
def G__law_total : DL.Fn := defn N__law_total.length m__law_total
/-! ### _law_less -/
abbrev N__law_less : List Str := ["one", "other"]
def m__law_less : MS := (mRt (dCall G__law_cut (bCons (d2 iSub (d2 fMul (d2 fIx (dV 0) (dC (.int 0))) (d2 fIx (dV 1) (dC (.int 1)))) (d2 fMul (d2 fIx (dV 1) (dC (.int 0))) (d2 fIx (dV 0) (dC (.int 1))))) (bCons (d2 fMul (d2 fIx (dV 0) (dC (.int 1))) (d2 fIx (dV 1) (dC (.int 1)))) bNil))))
def G__law_less : DL.Fn := defn N__law_less.length m__law_less
/-! ### _law_is_below -/
abbrev N__law_is_below : List Str := ["one", "other"]
def m__law_is_below : MS := (mRt (d2 cLt (d2 fMul (d2 fIx (dV 0) (dC (.int 0))) (d2 fIx (dV 1) (dC (.int 1)))) (d2 fMul (d2 fIx (dV 1) (dC (.int 0))) (d2 fIx (dV 0) (dC (.int 1))))))
def G__law_is_below : DL.Fn := defn N__law_is_below.length m__law_is_below
/-! ### _law_tight -/
abbrev N__law_tight : List Str := ["pairs", "found", "lows", "highs", "low", "high", "least", "most"]
def Lb__law_tight_3 : MS := (mSeq (mAsg (dCall G__law_added (bCons (dCall G__law_less (bCons (dTup (aCons (dC (.int 1)) (aCons (dC (.int 1)) aNil))) (bCons (dV 3) bNil))) (bCons (dV 5) bNil))) (gN 6))
  (mSeq (mAsg (dCall G__law_added (bCons (dCall G__law_less (bCons (dTup (aCons (dC (.int 1)) (aCons (dC (.int 1)) aNil))) (bCons (dV 2) bNil))) (bCons (dV 4) bNil))) (gN 7))
  (mMeth fAppend 1 (dTup (aCons (dIf (dT (dCall G__law_is_below (bCons (dV 4) (bCons (dV 6) bNil)))) (dV 6) (dV 4)) (aCons (dIf (dT (dCall G__law_is_below (bCons (dV 7) (bCons (dV 5) bNil)))) (dV 7) (dV 5)) aNil))))))
def m__law_tight : MS := (mSeq (mOwn (aLen aNil) 1)
  (mSeq (mPar 2 3 (aCons (dCall G__law_total (bCons (dL (aLc [4, 5] (iAny (dV 0)) (gT (gsCons (gN 4) (gsCons (gN 5) gsNil))) tYes1 (dV 4))) bNil)) (aCons (dCall G__law_total (bCons (dL (aLc [4, 5] (iAny (dV 0)) (gT (gsCons (gN 4) (gsCons (gN 5) gsNil))) tYes1 (dV 5))) bNil)) aNil)))
  (mSeq (mFor (iAny (dV 0)) (gT (gsCons (gN 4) (gsCons (gN 5) gsNil))) Lb__law_tight_3)
  (mFrz 1 (mRt (dB bTuple (aCons (dV 1) aNil)))))))
def G__law_tight : DL.Fn := defn N__law_tight.length m__law_tight
/-! ### _law_of -/
abbrev N__law_of : List Str := ["pot", "some"]
def m__law_of : MS := (mRt (d2 fIx (dV 1) (dCall G__law_take (bPot 0 (bCons (dB bLen (aCons (dV 1) aNil)) bNil)))))
def G__law_of : DL.Fn := defn N__law_of.length m__law_of
/-! ### _law_bounds -/
abbrev N__law_bounds : List Str := ["pot", "chances", "pairs", "one", "by", "low", "high"]
def Lb__law_bounds_1 : MS := (mSeq (mAsg (dL (aLen (aCons (dTup (aCons (dC (.int 0)) (aCons (dC (.int 1)) aNil))) (aCons (dTup (aCons (dC (.int 1)) (aCons (dC (.int 12)) aNil))) (aCons (dTup (aCons (dC (.int 1)) (aCons (dC (.int 6)) aNil))) (aCons (dTup (aCons (dC (.int 1)) (aCons (dC (.int 4)) aNil))) (aCons (dTup (aCons (dC (.int 1)) (aCons (dC (.int 3)) aNil))) aNil))))))) (gN 4))
  (mSeq (mPar 5 6 (aCons (dCall G__law_less (bCons (dV 3) (bCons (dCall G__law_of (bPot 0 (bCons (dV 4) bNil))) bNil))) (aCons (dCall G__law_added (bCons (dV 3) (bCons (dCall G__law_of (bPot 0 (bCons (dV 4) bNil))) bNil))) aNil)))
  (mMeth fAppend 2 (dTup (aCons (dIf (dT (d2 cGt (d2 fIx (dV 5) (dC (.int 0))) (dC (.int 0)))) (dV 5) (dTup (aCons (dC (.int 0)) (aCons (dC (.int 1)) aNil)))) (aCons (dIf (dT (dCall G__law_is_below (bCons (dV 6) (bCons (dTup (aCons (dC (.int 1)) (aCons (dC (.int 1)) aNil))) bNil)))) (dV 6) (dTup (aCons (dC (.int 1)) (aCons (dC (.int 1)) aNil)))) aNil))))))
def m__law_bounds : MS := (mSeq (mOwn (aLen aNil) 2)
  (mSeq (mFor (iAny (dV 1)) (gN 3) Lb__law_bounds_1)
  (mFrz 2 (mRt (dCall G__law_tight (bCons (dV 2) bNil))))))
def G__law_bounds : DL.Fn := defn N__law_bounds.length m__law_bounds
/-! ### common -/
abbrev N_common : List Str := ["one", "other"]
def m_common : MS := (mSeq (mPar 0 1 (aCons (dB bAbs (aCons (dV 0) aNil)) (aCons (dB bAbs (aCons (dV 1) aNil)) aNil)))
  (mSeq (mWh (fuI 1) (dT (d2 cGt (dV 1) (dC (.int 0)))) (mPar 0 1 (aCons (dV 1) (aCons (d2 iMod (dV 0) (dV 1)) aNil))))
  (mRt (dV 0))))
def G_common : DL.Fn := defn N_common.length m_common
/-! ### reduced -/
abbrev N_reduced : List Str := ["top", "low", "by"]
def m_reduced : MS := (mSeq (mAsg (dCall G_common (bCons (dV 0) (bCons (dV 1) bNil))) (gN 2))
  (mSeq (mAsg (dIf (dT (d2 cGt (dV 1) (dC (.int 0)))) (dV 2) (d2 iSub (dC (.int 0)) (dV 2))) (gN 2))
  (mRt (dTup (aCons (d2 iDiv (dV 0) (dV 2)) (aCons (d2 iDiv (dV 1) (dV 2)) aNil))))))
def G_reduced : DL.Fn := defn N_reduced.length m_reduced
/-! ### sum_of -/
abbrev N_sum_of : List Str := ["some", "top", "low", "one"]
def Lb_sum_of_1 : MS := (mIf (dT (d2 cEq (d2 fIx (dV 3) (dC (.int 1))) (dV 2))) (mAsg (d2 fAdd (dV 1) (d2 fIx (dV 3) (dC (.int 0)))) (gN 1)) (mAsg (dCall G_reduced (bCons (d2 fAdd (d2 fMul (dV 1) (d2 fIx (dV 3) (dC (.int 1)))) (d2 fMul (d2 fIx (dV 3) (dC (.int 0))) (dV 2))) (bCons (d2 fMul (dV 2) (d2 fIx (dV 3) (dC (.int 1)))) bNil))) (gT (gsCons (gN 1) (gsCons (gN 2) gsNil)))))
def m_sum_of : MS := (mSeq (mAsg (dTup (aCons (dC (.int 0)) (aCons (dC (.int 1)) aNil))) (gT (gsCons (gN 1) (gsCons (gN 2) gsNil))))
  (mSeq (mFor (iAny (dV 0)) (gN 3) Lb_sum_of_1)
  (mRt (dCall G_reduced (bCons (dV 1) (bCons (dV 2) bNil))))))
def G_sum_of : DL.Fn := defn N_sum_of.length m_sum_of
/-! ### dot_of -/
abbrev N_dot_of : List Str := ["one", "other", "pairs", "mine", "its"]
def Ct_dot_of_1 : MT := (tAnd2 (dT (d2 cNe (d2 fIx (dV 3) (dC (.int 0))) (dC (.int 0)))) (dT (d2 cNe (d2 fIx (dV 4) (dC (.int 0))) (dC (.int 0)))))
def Ce_dot_of_1 : ME := (dTup (aCons (dV 3) (aCons (dV 4) aNil)))
def Ce_dot_of_2 : ME := (dTup (aCons (d2 fMul (d2 fIx (dV 3) (dC (.int 0))) (d2 fIx (dV 4) (dC (.int 0)))) (aCons (d2 fMul (d2 fIx (dV 3) (dC (.int 1))) (d2 fIx (dV 4) (dC (.int 1)))) aNil)))
def m_dot_of : MS := (mSeq (mAsg (dL (aLc [3, 4] (iZip (aCons (dV 0) (aCons (dV 1) aNil))) (gT (gsCons (gN 3) (gsCons (gN 4) gsNil))) Ct_dot_of_1 Ce_dot_of_1)) (gN 2))
  (mRt (dCall G_sum_of (bCons (dL (aLc [3, 4] (iAny (dV 2)) (gT (gsCons (gN 3) (gsCons (gN 4) gsNil))) tYes1 Ce_dot_of_2)) bNil))))
def G_dot_of : DL.Fn := defn N_dot_of.length m_dot_of
/-! ### is_less -/
abbrev N_is_less : List Str := ["one", "other"]
def m_is_less : MS := (mRt (d2 cLt (d2 fMul (d2 fIx (dV 0) (dC (.int 0))) (d2 fIx (dV 1) (dC (.int 1)))) (d2 fMul (d2 fIx (dV 1) (dC (.int 0))) (d2 fIx (dV 0) (dC (.int 1))))))
def G_is_less : DL.Fn := defn N_is_less.length m_is_less
/-! ### greatest_by -/
abbrev N_greatest_by : List Str := ["laws", "numbers", "best", "chances", "own"]
def Lb_greatest_by_1 : MS := (mSeq (mAsg (dCall G_dot_of (bCons (dV 3) (bCons (dV 1) bNil))) (gN 4))
  (mIf (tOr2 (dT (d2 cIs (dV 2) (dC .non))) (dT (dCall G_is_less (bCons (d2 fIx (dV 2) (dC (.int 0))) (bCons (dV 4) bNil))))) (mAsg (dTup (aCons (dV 4) (aCons (dV 3) aNil))) (gN 2)) mNil))
def m_greatest_by : MS := (mSeq (mAsg (dC .non) (gN 2))
  (mSeq (mFor (iAny (dV 0)) (gN 3) Lb_greatest_by_1)
  (mRt (dV 2))))
def G_greatest_by : DL.Fn := defn N_greatest_by.length m_greatest_by
/-! ### difference -/
abbrev N_difference : List Str := ["one", "other"]
def m_difference : MS := (mRt (dCall G_reduced (bCons (d2 iSub (d2 fMul (d2 fIx (dV 0) (dC (.int 0))) (d2 fIx (dV 1) (dC (.int 1)))) (d2 fMul (d2 fIx (dV 1) (dC (.int 0))) (d2 fIx (dV 0) (dC (.int 1))))) (bCons (d2 fMul (d2 fIx (dV 0) (dC (.int 1))) (d2 fIx (dV 1) (dC (.int 1)))) bNil))))
def G_difference : DL.Fn := defn N_difference.length m_difference
/-! ### lies_within -/
abbrev N_lies_within : List Str := ["bounds", "chances", "one", "pair"]
def Ce_lies_within_1 : ME := (dOr2 (dCall G_is_less (bCons (dV 2) (bCons (d2 fIx (dV 3) (dC (.int 0))) bNil))) (dCall G_is_less (bCons (d2 fIx (dV 3) (dC (.int 1))) (bCons (dV 2) bNil))))
def m_lies_within : MS := (mRt (dNot1 (dB bAny (aCons (dL (aLc [2, 3] (iZip (aCons (dV 1) (aCons (dV 0) aNil))) (gT (gsCons (gN 2) (gsCons (gN 3) gsNil))) tYes1 Ce_lies_within_1)) aNil))))
def G_lies_within : DL.Fn := defn N_lies_within.length m_lies_within
/-! ### corners_within -/
abbrev N_corners_within : List Str := ["bounds", "found", "free", "rows", "sign", "pair", "some", "row", "own", "chances", "one"]
def Ce_corners_within_1 : ME := (dTup (aStar (dV 7) (aCons (dV 10) aNil)))
def Lb_corners_within_2 : MS := (mSeq (mAsg (dIf (dT (d2 cEq (dV 4) (dV 2))) (dL (aLen (aCons (dC (.tup [(.int 0), (.int 1)])) aNil))) (dIf (dT (d2 cEq (d2 fIx (dV 5) (dC (.int 0))) (d2 fIx (dV 5) (dC (.int 1))))) (dL (aLen (aCons (d2 fIx (dV 5) (dC (.int 0))) aNil))) (dL (fListOf (dV 5))))) (gN 6))
  (mAsg (dL (aLc2 [7, 10] [10] (iAny (dV 3)) (gN 7) tYes1 (iAny (dV 6)) (gN 10) tYes1 Ce_corners_within_1)) (gN 3)))
def Lb_corners_within_3 : MS := (mSeq (mAsg (dCall G_difference (bCons (dC (.tup [(.int 1), (.int 1)])) (bCons (dCall G_sum_of (bCons (dV 7) bNil)) bNil))) (gN 8))
  (mSeq (mAsg (dTup (aStar (dSl (dV 7) oNone (oSome (dV 2))) (aCons (dV 8) (aStar (dSl (dV 7) (oSome (d2 fAdd (dV 2) (dC (.int 1)))) oNone) aNil)))) (gN 9))
  (mIf (tAnd2 (dT (dCall G_lies_within (bCons (dV 0) (bCons (dV 9) bNil)))) (dT (dOwnR cNotIn 1 (dV 9)))) (mMeth fAppend 1 (dV 9)) mNil)))
def Lb_corners_within_4 : MS := (mSeq (mAsg (dL (aLen (aCons (dTup aNil) aNil))) (gN 3))
  (mSeq (mFor (iEnum (dV 0)) (gT (gsCons (gN 4) (gsCons (gN 5) gsNil))) Lb_corners_within_2)
  (mFor (iAny (dV 3)) (gN 7) Lb_corners_within_3)))
def m_corners_within : MS := (mSeq (mOwn (aLen aNil) 1)
  (mSeq (mFor (iRng1 (aCons (dB bLen (aCons (dV 0) aNil)) aNil)) (gN 2) Lb_corners_within_4)
  (mFrz 1 (mRt (dV 1)))))
def G_corners_within : DL.Fn := defn N_corners_within.length m_corners_within
/-! ### greatest_told -/
abbrev N_greatest_told : List Str := ["bounds", "numbers"]
def m_greatest_told : MS := (mRt (dCall G_greatest_by (bCons (dCall G_corners_within (bCons (dV 0) bNil)) (bCons (dV 1) bNil))))
def G_greatest_told : DL.Fn := defn N_greatest_told.length m_greatest_told
/-! ### is_integer -/
abbrev N_is_integer : List Str := ["value"]
def m_is_integer : MS := (mRt (dAnd2 (dIsi "int" (dV 0)) (dNot1 (dIsi "bool" (dV 0)))))
def G_is_integer : DL.Fn := defn N_is_integer.length m_is_integer
/-! ### is_told_fraction -/
abbrev N_is_told_fraction : List Str := ["value", "part"]
def Ce_is_told_fraction_1 : ME := (dCall G_is_integer (bCons (dV 1) bNil))
def m_is_told_fraction : MS := (mSeq (mIf (tOr2 (tNot1 (dT (dIsi "tuple" (dV 0)))) (tOr2 (dT (d2 cNe (dB bLen (aCons (dV 0) aNil)) (dC (.int 2)))) (tNot1 (dT (dB bAll (aCons (dL (aLc [1] (iAny (dV 0)) (gN 1) tYes1 Ce_is_told_fraction_1)) aNil)))))) (mRt (dC (.bl false))) mNil)
  (mRt (dAnd2 (d2 cGt (d2 fIx (dV 0) (dC (.int 1))) (dC (.int 0))) (d2 cEq (dCall G_common (bCons (d2 fIx (dV 0) (dC (.int 0))) (bCons (d2 fIx (dV 0) (dC (.int 1))) bNil))) (dC (.int 1))))))
def G_is_told_fraction : DL.Fn := defn N_is_told_fraction.length m_is_told_fraction
/-! ### is_fraction -/
abbrev N_is_fraction : List Str := ["value"]
def m_is_fraction : MS := (mRt (dCall G_is_told_fraction (bCons (dV 0) bNil)))
def G_is_fraction : DL.Fn := defn N_is_fraction.length m_is_fraction
/-! ### are_pairs_of -/
abbrev N_are_pairs_of : List Str := ["value", "signs", "pair", "one"]
def Ce_are_pairs_of_1 : ME := (dAnd2 (dIsi "tuple" (dV 2)) (d2 cEq (dB bLen (aCons (dV 2) aNil)) (dC (.int 2))))
def Ce_are_pairs_of_2 : ME := (dCall G_is_fraction (bCons (dV 3) bNil))
def Ce_are_pairs_of_3 : ME := (dB bAll (aCons (dL (aLc [3] (iAny (dV 2)) (gN 3) tYes1 Ce_are_pairs_of_2)) aNil))
def m_are_pairs_of : MS := (mSeq (mIf (tOr2 (tNot1 (dT (dIsi "tuple" (dV 0)))) (dT (d2 cNe (dB bLen (aCons (dV 0) aNil)) (dV 1)))) (mRt (dC (.bl false))) mNil)
  (mSeq (mIf (tNot1 (dT (dB bAll (aCons (dL (aLc [2] (iAny (dV 0)) (gN 2) tYes1 Ce_are_pairs_of_1)) aNil)))) (mRt (dC (.bl false))) mNil)
  (mRt (dB bAll (aCons (dL (aLc [2] (iAny (dV 0)) (gN 2) tYes1 Ce_are_pairs_of_3)) aNil)))))
def G_are_pairs_of : DL.Fn := defn N_are_pairs_of.length m_are_pairs_of
/-! ### lows_and_highs -/
abbrev N_lows_and_highs : List Str := ["pairs", "pair"]
def Ce_lows_and_highs_1 : ME := (d2 fIx (dV 1) (dC (.int 1)))
def Ce_lows_and_highs_2 : ME := (d2 fIx (dV 1) (dC (.int 0)))
def m_lows_and_highs : MS := (mRt (dTup (aCons (dCall G_sum_of (bCons (dL (aLc [1] (iAny (dV 0)) (gN 1) tYes1 Ce_lows_and_highs_2)) bNil)) (aCons (dCall G_sum_of (bCons (dL (aLc [1] (iAny (dV 0)) (gN 1) tYes1 Ce_lows_and_highs_1)) bNil)) aNil))))
def G_lows_and_highs : DL.Fn := defn N_lows_and_highs.length m_lows_and_highs
/-! ### narrowed -/
abbrev N_narrowed : List Str := ["pairs", "some", "low", "high", "found", "mine", "its", "least", "most", "pair"]
def Ce_narrowed_1 : ME := (dTup (aCons (dIf (dT (d2 cGe (d2 fIx (d2 fIx (dV 9) (dC (.int 0))) (dC (.int 0))) (dC (.int 0)))) (d2 fIx (dV 9) (dC (.int 0))) (dTup (aCons (dC (.int 0)) (aCons (dC (.int 1)) aNil)))) (aCons (dIf (dT (dCall G_is_less (bCons (dC (.tup [(.int 1), (.int 1)])) (bCons (d2 fIx (dV 9) (dC (.int 1))) bNil)))) (dC (.tup [(.int 1), (.int 1)])) (d2 fIx (dV 9) (dC (.int 1)))) aNil)))
def Ce_narrowed_2 : ME := (dCall G_is_less (bCons (d2 fIx (dV 9) (dC (.int 1))) (bCons (d2 fIx (dV 9) (dC (.int 0))) bNil)))
def Lb_narrowed_3 : MS := (mSeq (mPar 7 8 (aCons (dCall G_difference (bCons (dC (.tup [(.int 1), (.int 1)])) (bCons (dCall G_difference (bCons (dV 3) (bCons (dV 6) bNil))) bNil))) (aCons (dCall G_difference (bCons (dC (.tup [(.int 1), (.int 1)])) (bCons (dCall G_difference (bCons (dV 2) (bCons (dV 5) bNil))) bNil))) aNil)))
  (mMeth fAppend 4 (dTup (aCons (dIf (dT (dCall G_is_less (bCons (dV 5) (bCons (dV 7) bNil)))) (dV 7) (dV 5)) (aCons (dIf (dT (dCall G_is_less (bCons (dV 8) (bCons (dV 6) bNil)))) (dV 8) (dV 6)) aNil)))))
def m_narrowed : MS := (mSeq (mAsg (dL (aLc [9] (iAny (dV 0)) (gN 9) tYes1 Ce_narrowed_1)) (gN 1))
  (mSeq (mAsg (dCall G_lows_and_highs (bCons (dV 1) bNil)) (gT (gsCons (gN 2) (gsCons (gN 3) gsNil))))
  (mSeq (mIf (tOr2 (dT (dB bAny (aCons (dL (aLc [9] (iAny (dV 1)) (gN 9) tYes1 Ce_narrowed_2)) aNil))) (tOr2 (dT (dCall G_is_less (bCons (dC (.tup [(.int 1), (.int 1)])) (bCons (dV 2) bNil)))) (dT (dCall G_is_less (bCons (dV 3) (bCons (dC (.tup [(.int 1), (.int 1)])) bNil)))))) (mRt (dC .non)) mNil)
  (mSeq (mOwn (aLen aNil) 4)
  (mSeq (mFor (iAny (dV 1)) (gT (gsCons (gN 5) (gsCons (gN 6) gsNil))) Lb_narrowed_3)
  (mFrz 4 (mRt (dB bTuple (aCons (dV 4) aNil)))))))))
def G_narrowed : DL.Fn := defn N_narrowed.length m_narrowed
/-! ### is_bounds_of -/
abbrev N_is_bounds_of : List Str := ["value", "signs"]
def m_is_bounds_of : MS := (mRt (dAnd2 (dCall G_are_pairs_of (bCons (dV 0) (bCons (dV 1) bNil))) (d2 cEq (dCall G_narrowed (bCons (dV 0) bNil)) (dV 0))))
def G_is_bounds_of : DL.Fn := defn N_is_bounds_of.length m_is_bounds_of
/-! ### is_any_bounds -/
abbrev N_is_any_bounds : List Str := ["value"]
def m_is_any_bounds : MS := (mSeq (mIf (tOr2 (tNot1 (dT (dIsi "tuple" (dV 0)))) (tNot1 (dT (dChain cLe cLe (dC (.int 2)) (dB bLen (aCons (dV 0) aNil)) (dC (.int 6)))))) (mRt (dC (.bl false))) mNil)
  (mRt (dCall G_is_bounds_of (bCons (dV 0) (bCons (dB bLen (aCons (dV 0) aNil)) bNil)))))
def G_is_any_bounds : DL.Fn := defn N_is_any_bounds.length m_is_any_bounds
/-! ### are_fractions -/
abbrev N_are_fractions : List Str := ["value", "many", "one"]
def Ce_are_fractions_1 : ME := (dCall G_is_told_fraction (bCons (dV 2) bNil))
def m_are_fractions : MS := (mRt (dAnd2 (dIsi "tuple" (dV 0)) (dAnd2 (d2 cEq (dB bLen (aCons (dV 0) aNil)) (dV 1)) (dB bAll (aCons (dL (aLc [2] (iAny (dV 0)) (gN 2) tYes1 Ce_are_fractions_1)) aNil)))))
def G_are_fractions : DL.Fn := defn N_are_fractions.length m_are_fractions
/-! ### greatest_sum -/
abbrev N_greatest_sum : List Str := ["bounds", "numbers"]
def m_greatest_sum : MS := (mSeq (mIf (tNot1 (dT (dCall G_is_any_bounds (bCons (dV 0) bNil)))) mNever mNil)
  (mSeq (mIf (tNot1 (dT (dCall G_are_fractions (bCons (dV 1) (bCons (dB bLen (aCons (dV 0) aNil)) bNil))))) mNever mNil)
  (mRt (dCall G_greatest_told (bCons (dV 0) (bCons (dV 1) bNil))))))
def G_greatest_sum : DL.Fn := defn N_greatest_sum.length m_greatest_sum
/-! ### tight_bounds -/
abbrev N_tight_bounds : List Str := ["pairs"]
def m_tight_bounds : MS := (mSeq (mIf (tOr2 (tNot1 (dT (dIsi "tuple" (dV 0)))) (tNot1 (dT (dChain cLe cLe (dC (.int 2)) (dB bLen (aCons (dV 0) aNil)) (dC (.int 6)))))) mNever mNil)
  (mSeq (mIf (tNot1 (dT (dCall G_are_pairs_of (bCons (dV 0) (bCons (dB bLen (aCons (dV 0) aNil)) bNil))))) mNever mNil)
  (mRt (dCall G_narrowed (bCons (dV 0) bNil)))))
def G_tight_bounds : DL.Fn := defn N_tight_bounds.length m_tight_bounds
/-! ### is_between -/
abbrev N_is_between : List Str := ["value", "low", "high"]
def m_is_between : MS := (mRt (dAnd2 (dCall G_is_integer (bCons (dV 0) bNil)) (dChain cLe cLe (dV 1) (dV 0) (dV 2))))
def G_is_between : DL.Fn := defn N_is_between.length m_is_between
/-! ### checked_signs -/
abbrev N_checked_signs : List Str := ["signs"]
def m_checked_signs : MS := (mIf (tNot1 (dT (dCall G_is_between (bCons (dV 0) (bCons (dC (.int 2)) (bCons (dC (.int 6)) bNil)))))) mNever mNil)
def G_checked_signs : DL.Fn := defn N_checked_signs.length m_checked_signs
/-! ### is_bounds -/
abbrev N_is_bounds : List Str := ["value", "signs"]
def m_is_bounds : MS := (mSeq (mEx (dCall G_checked_signs (bCons (dV 1) bNil)))
  (mRt (dCall G_is_bounds_of (bCons (dV 0) (bCons (dV 1) bNil)))))
def G_is_bounds : DL.Fn := defn N_is_bounds.length m_is_bounds
/-! ### _law_are_ends_right -/
abbrev N__law_are_ends_right : List Str := ["pot", "bounds", "signs", "sign", "single", "minus", "low", "at", "lows", "wide", "place", "pair"]
def Ce__law_are_ends_right_1 : ME := (dTup (aCons (dB bInt (aCons (d2 cEq (dV 7) (dV 3)) aNil)) (aCons (dC (.int 1)) aNil)))
def Ce__law_are_ends_right_2 : ME := (dTup (aCons (d2 iSub (dC (.int 0)) (dB bInt (aCons (d2 cEq (dV 7) (dV 3)) aNil))) (aCons (dC (.int 1)) aNil)))
def Lb__law_are_ends_right_3 : MS := (mSeq (mAsg (dB bTuple (aCons (dL (aLc [7] (iRng1 (aCons (dV 2) aNil)) (gN 7) tYes1 Ce__law_are_ends_right_1)) aNil)) (gN 4))
  (mSeq (mAsg (dB bTuple (aCons (dL (aLc [7] (iRng1 (aCons (dV 2) aNil)) (gN 7) tYes1 Ce__law_are_ends_right_2)) aNil)) (gN 5))
  (mSeq (mAsg (d2 fIx (dCall G_greatest_sum (bCons (dV 1) (bCons (dV 5) bNil))) (dC (.int 0))) (gN 6))
  (mIf (tOr2 (dT (d2 cNe (d2 fIx (dCall G_greatest_sum (bCons (dV 1) (bCons (dV 4) bNil))) (dC (.int 0))) (d2 fIx (d2 fIx (dV 1) (dV 3)) (dC (.int 1))))) (dT (d2 cNe (dTup (aCons (d2 iSub (dC (.int 0)) (d2 fIx (dV 6) (dC (.int 0)))) (aCons (d2 fIx (dV 6) (dC (.int 1))) aNil))) (d2 fIx (d2 fIx (dV 1) (dV 3)) (dC (.int 0)))))) (mRt (dC (.bl false))) mNil))))
def Ct__law_are_ends_right_4 : MT := (dT (d2 cNe (dV 10) (dV 7)))
def Ce__law_are_ends_right_4 : ME := (d2 fIx (dV 11) (dC (.int 0)))
def m__law_are_ends_right : MS := (mSeq (mFor (iRng1 (aCons (dV 2) aNil)) (gN 3) Lb__law_are_ends_right_3)
  (mSeq (mIf (tOr2 (dT (d2 cNe (dCall G_tight_bounds (bCons (dV 1) bNil)) (dV 1))) (dT (d2 cIsNot (dCall G_is_bounds (bCons (dV 1) (bCons (dV 2) bNil))) (dC (.bl true))))) (mRt (dC (.bl false))) mNil)
  (mSeq (mAsg (dCall G__law_take (bPot 0 (bCons (dV 2) bNil))) (gN 7))
  (mSeq (mAsg (dCall G__law_total (bCons (dL (aLc [10, 11] (iEnum (dV 1)) (gT (gsCons (gN 10) (gsCons (gN 11) gsNil))) Ct__law_are_ends_right_4 Ce__law_are_ends_right_4)) bNil)) (gN 8))
  (mSeq (mAsg (dTup (aCons (d2 fIx (d2 fIx (dV 1) (dV 7)) (dC (.int 0))) (aCons (dCall G__law_added (bCons (dCall G__law_less (bCons (dTup (aCons (dC (.int 1)) (aCons (dC (.int 1)) aNil))) (bCons (dV 8) bNil))) (bCons (dTup (aCons (dC (.int 1)) (aCons (dC (.int 3)) aNil))) bNil))) aNil))) (gN 9))
  (mSeq (mIf (tAnd2 (dT (d2 cEq (d2 fIx (d2 fIx (dV 1) (dV 7)) (dC (.int 1))) (dCall G__law_less (bCons (dTup (aCons (dC (.int 1)) (aCons (dC (.int 1)) aNil))) (bCons (dV 8) bNil))))) (dT (d2 cNe (dCall G_tight_bounds (bCons (d2 fAdd (d2 fAdd (dSl (dV 1) oNone (oSome (dV 7))) (dTup (aCons (dV 9) aNil))) (dSl (dV 1) (oSome (d2 fAdd (dV 7) (dC (.int 1)))) oNone)) bNil)) (dV 1)))) (mRt (dC (.bl false))) mNil)
  (mRt (dAnd2 (d2 cIs (dCall G_tight_bounds (bCons (d2 fMul (dTup (aCons (dTup (aCons (dTup (aCons (dC (.int 0)) (aCons (dC (.int 1)) aNil))) (aCons (dTup (aCons (dC (.int 1)) (aCons (dC (.int 9)) aNil))) aNil))) aNil)) (dV 2)) bNil)) (dC .non)) (d2 cIs (dCall G_tight_bounds (bCons (d2 fMul (dTup (aCons (dTup (aCons (dTup (aCons (dC (.int 9)) (aCons (dC (.int 10)) aNil))) (aCons (dTup (aCons (dC (.int 1)) (aCons (dC (.int 1)) aNil))) aNil))) aNil)) (dV 2)) bNil)) (dC .non))))))))))
def G__law_are_ends_right : DL.Fn := defn N__law_are_ends_right.length m__law_are_ends_right
/-! ### checked_bounds -/
abbrev N_checked_bounds : List Str := ["bounds"]
def m_checked_bounds : MS := (mIf (tNot1 (dT (dCall G_is_any_bounds (bCons (dV 0) bNil)))) mNever mNil)
def G_checked_bounds : DL.Fn := defn N_checked_bounds.length m_checked_bounds
/-! ### is_bet_of -/
abbrev N_is_bet_of : List Str := ["value", "signs", "one"]
def Ce_is_bet_of_1 : ME := (d2 cGe (d2 fIx (dV 2) (dC (.int 0))) (dC (.int 0)))
def m_is_bet_of : MS := (mRt (dAnd2 (dCall G_are_fractions (bCons (dV 0) (bCons (dV 1) bNil))) (dB bAll (aCons (dL (aLc [2] (iAny (dV 0)) (gN 2) tYes1 Ce_is_bet_of_1)) aNil))))
def G_is_bet_of : DL.Fn := defn N_is_bet_of.length m_is_bet_of
/-! ### checked_bet -/
abbrev N_checked_bet : List Str := ["bounds", "bet"]
def m_checked_bet : MS := (mSeq (mEx (dCall G_checked_bounds (bCons (dV 0) bNil)))
  (mIf (tNot1 (dT (dCall G_is_bet_of (bCons (dV 1) (bCons (dB bLen (aCons (dV 0) aNil)) bNil))))) mNever mNil))
def G_checked_bet : DL.Fn := defn N_checked_bet.length m_checked_bet
/-! ### is_fair_for -/
abbrev N_is_fair_for : List Str := ["bounds", "bet"]
def m_is_fair_for : MS := (mRt (dNot1 (dCall G_is_less (bCons (dC (.tup [(.int 1), (.int 1)])) (bCons (d2 fIx (dCall G_greatest_told (bCons (dV 0) (bCons (dV 1) bNil))) (dC (.int 0))) bNil)))))
def G_is_fair_for : DL.Fn := defn N_is_fair_for.length m_is_fair_for
/-! ### is_fair -/
abbrev N_is_fair : List Str := ["bounds", "bet"]
def m_is_fair : MS := (mSeq (mEx (dCall G_checked_bet (bCons (dV 0) (bCons (dV 1) bNil))))
  (mRt (dCall G_is_fair_for (bCons (dV 0) (bCons (dV 1) bNil)))))
def G_is_fair : DL.Fn := defn N_is_fair.length m_is_fair
/-! ### _law_is_within -/
abbrev N__law_is_within : List Str := ["law", "bounds", "one", "low", "high"]
def Ce__law_is_within_1 : ME := (dOr2 (dCall G__law_is_below (bCons (dV 2) (bCons (dV 3) bNil))) (dCall G__law_is_below (bCons (dV 4) (bCons (dV 2) bNil))))
def m__law_is_within : MS := (mRt (dNot1 (dB bAny (aCons (dL (aLc [2, 3, 4] (iZip (aCons (dV 0) (aCons (dV 1) aNil))) (gT (gsCons (gN 2) (gsCons (gT (gsCons (gN 3) (gsCons (gN 4) gsNil))) gsNil))) tYes1 Ce__law_is_within_1)) aNil))))
def G__law_is_within : DL.Fn := defn N__law_is_within.length m__law_is_within
/-! ### is_law_of -/
abbrev N_is_law_of : List Str := ["value", "signs", "one"]
def Ce_is_law_of_1 : ME := (dCall G_is_fraction (bCons (dV 2) bNil))
def Ce_is_law_of_2 : ME := (d2 cGe (d2 fIx (dV 2) (dC (.int 0))) (dC (.int 0)))
def m_is_law_of : MS := (mSeq (mIf (tOr2 (tNot1 (dT (dIsi "tuple" (dV 0)))) (tOr2 (dT (d2 cNe (dB bLen (aCons (dV 0) aNil)) (dV 1))) (tNot1 (dT (dB bAll (aCons (dL (aLc [2] (iAny (dV 0)) (gN 2) tYes1 Ce_is_law_of_1)) aNil)))))) (mRt (dC (.bl false))) mNil)
  (mRt (dAnd2 (dB bAll (aCons (dL (aLc [2] (iAny (dV 0)) (gN 2) tYes1 Ce_is_law_of_2)) aNil)) (d2 cEq (dCall G_sum_of (bCons (dV 0) bNil)) (dC (.tup [(.int 1), (.int 1)]))))))
def G_is_law_of : DL.Fn := defn N_is_law_of.length m_is_law_of
/-! ### is_any_law -/
abbrev N_is_any_law : List Str := ["value"]
def m_is_any_law : MS := (mRt (dAnd2 (dIsi "tuple" (dV 0)) (dAnd2 (dChain cLe cLe (dC (.int 2)) (dB bLen (aCons (dV 0) aNil)) (dC (.int 6))) (dCall G_is_law_of (bCons (dV 0) (bCons (dB bLen (aCons (dV 0) aNil)) bNil))))))
def G_is_any_law : DL.Fn := defn N_is_any_law.length m_is_any_law
/-! ### added -/
abbrev N_added : List Str := ["one", "other"]
def m_added : MS := (mRt (dCall G_reduced (bCons (d2 fAdd (d2 fMul (d2 fIx (dV 0) (dC (.int 0))) (d2 fIx (dV 1) (dC (.int 1)))) (d2 fMul (d2 fIx (dV 1) (dC (.int 0))) (d2 fIx (dV 0) (dC (.int 1))))) (bCons (d2 fMul (d2 fIx (dV 0) (dC (.int 1))) (d2 fIx (dV 1) (dC (.int 1)))) bNil))))
def G_added : DL.Fn := defn N_added.length m_added
/-! ### product_of -/
abbrev N_product_of : List Str := ["one", "other"]
def m_product_of : MS := (mRt (dCall G_reduced (bCons (d2 fMul (d2 fIx (dV 0) (dC (.int 0))) (d2 fIx (dV 1) (dC (.int 0)))) (bCons (d2 fMul (d2 fIx (dV 0) (dC (.int 1))) (d2 fIx (dV 1) (dC (.int 1)))) bNil))))
def G_product_of : DL.Fn := defn N_product_of.length m_product_of
/-! ### mixed_law -/
abbrev N_mixed_law : List Str := ["one", "other", "share", "rest", "mine", "its"]
def Ce_mixed_law_1 : ME := (dCall G_added (bCons (dCall G_product_of (bCons (dV 3) (bCons (dV 4) bNil))) (bCons (dCall G_product_of (bCons (dV 2) (bCons (dV 5) bNil))) bNil)))
def m_mixed_law : MS := (mSeq (mIf (tNot1 (dT (dCall G_is_any_law (bCons (dV 0) bNil)))) mNever mNil)
  (mSeq (mIf (tNot1 (dT (dCall G_is_law_of (bCons (dV 1) (bCons (dB bLen (aCons (dV 0) aNil)) bNil))))) mNever mNil)
  (mSeq (mIf (tOr2 (tNot1 (dT (dCall G_is_fraction (bCons (dV 2) bNil)))) (tOr2 (dT (d2 cLt (d2 fIx (dV 2) (dC (.int 0))) (dC (.int 0)))) (dT (dCall G_is_less (bCons (dC (.tup [(.int 1), (.int 1)])) (bCons (dV 2) bNil)))))) mNever mNil)
  (mSeq (mAsg (dCall G_difference (bCons (dC (.tup [(.int 1), (.int 1)])) (bCons (dV 2) bNil))) (gN 3))
  (mRt (dB bTuple (aCons (dL (aLc [4, 5] (iZip (aCons (dV 0) (aCons (dV 1) aNil))) (gT (gsCons (gN 4) (gsCons (gN 5) gsNil))) tYes1 Ce_mixed_law_1)) aNil)))))))
def G_mixed_law : DL.Fn := defn N_mixed_law.length m_mixed_law
/-! ### _law_numbers -/
abbrev N__law_numbers : List Str := ["pot", "signs", "sign"]
def Ce__law_numbers_1 : ME := (dCall G__law_cut (bCons (d2 iSub (dCall G__law_take (bPot 0 (bCons (dC (.int 13)) bNil))) (dC (.int 6))) (bCons (d2 fAdd (dC (.int 1)) (dCall G__law_take (bPot 0 (bCons (dC (.int 4)) bNil)))) bNil)))
def m__law_numbers : MS := (mRt (dB bTuple (aCons (dL (aLc [2] (iRng1 (aCons (dV 1) aNil)) (gN 2) tYes1 Ce__law_numbers_1)) aNil)))
def G__law_numbers : DL.Fn := defn N__law_numbers.length m__law_numbers
/-! ### is_law -/
abbrev N_is_law : List Str := ["value", "signs"]
def m_is_law : MS := (mSeq (mEx (dCall G_checked_signs (bCons (dV 1) bNil)))
  (mRt (dCall G_is_law_of (bCons (dV 0) (bCons (dV 1) bNil)))))
def G_is_law : DL.Fn := defn N_is_law.length m_is_law
/-! ### _law_times -/
abbrev N__law_times : List Str := ["one", "other"]
def m__law_times : MS := (mRt (dCall G__law_cut (bCons (d2 fMul (d2 fIx (dV 0) (dC (.int 0))) (d2 fIx (dV 1) (dC (.int 0)))) (bCons (d2 fMul (d2 fIx (dV 0) (dC (.int 1))) (d2 fIx (dV 1) (dC (.int 1)))) bNil))))
def G__law_times : DL.Fn := defn N__law_times.length m__law_times
/-! ### _law_sum -/
abbrev N__law_sum : List Str := ["law", "numbers", "one", "number"]
def Ce__law_sum_1 : ME := (dCall G__law_times (bCons (dV 2) (bCons (dV 3) bNil)))
def m__law_sum : MS := (mRt (dCall G__law_total (bCons (dL (aLc [2, 3] (iZip (aCons (dV 0) (aCons (dV 1) aNil))) (gT (gsCons (gN 2) (gsCons (gN 3) gsNil))) tYes1 Ce__law_sum_1)) bNil)))
def G__law_sum : DL.Fn := defn N__law_sum.length m__law_sum
/-! ### _law_best -/
abbrev N__law_best : List Str := ["bounds", "numbers", "left", "total", "low", "high", "number", "places", "lap", "most", "place", "room", "more"]
def Lb__law_best_1 : MS := (mPar 2 3 (aCons (dCall G__law_less (bCons (dV 2) (bCons (dV 4) bNil))) (aCons (dCall G__law_added (bCons (dV 3) (bCons (dCall G__law_times (bCons (dV 4) (bCons (dV 6) bNil))) bNil))) aNil)))
def Le__law_best_1 : ME := (dIf (dT (dCall G__law_is_below (bCons (d2 fIx (dV 1) (dV 9)) (bCons (d2 fIx (dV 1) (dV 10)) bNil)))) (dV 10) (dV 9))
def Lb__law_best_2 : MS := (mSeq (mAsg (dOwnIx 7 (dC (.int 0))) (gN 9))
  (mSeq (mForOwn 7 (gN 10) (mAsg Le__law_best_1 (gN 9)))
  (mSeq (mMeth fRemove 7 (dV 9))
  (mSeq (mAsg (dCall G__law_less (bCons (d2 fIx (d2 fIx (dV 0) (dV 9)) (dC (.int 1))) (bCons (d2 fIx (d2 fIx (dV 0) (dV 9)) (dC (.int 0))) bNil))) (gN 11))
  (mSeq (mAsg (dIf (dT (dCall G__law_is_below (bCons (dV 11) (bCons (dV 2) bNil)))) (dV 11) (dV 2)) (gN 12))
  (mPar 2 3 (aCons (dCall G__law_less (bCons (dV 2) (bCons (dV 12) bNil))) (aCons (dCall G__law_added (bCons (dV 3) (bCons (dCall G__law_times (bCons (dV 12) (bCons (d2 fIx (dV 1) (dV 9)) bNil))) bNil))) aNil))))))))
def m__law_best : MS := (mSeq (mAsg (dTup (aCons (dTup (aCons (dC (.int 1)) (aCons (dC (.int 1)) aNil))) (aCons (dTup (aCons (dC (.int 0)) (aCons (dC (.int 1)) aNil))) aNil))) (gT (gsCons (gN 2) (gsCons (gN 3) gsNil))))
  (mSeq (mFor (iZip (aCons (dV 0) (aCons (dV 1) aNil))) (gT (gsCons (gT (gsCons (gN 4) (gsCons (gN 5) gsNil))) (gsCons (gN 6) gsNil))) Lb__law_best_1)
  (mSeq (mOwn (fListRg (dB bLen (aCons (dV 1) aNil))) 7)
  (mSeq (mFor (iRng1 (aCons (dB bLen (aCons (dV 1) aNil)) aNil)) (gN 8) Lb__law_best_2)
  (mRt (dV 3))))))
def G__law_best : DL.Fn := defn N__law_best.length m__law_best
/-! ### _law_are_sums_right -/
abbrev N__law_are_sums_right : List Str := ["pot", "bounds", "signs", "one", "other", "by", "told", "total", "law", "numbers", "both", "moved", "share", "between", "rest", "some", "mine", "its", "number"]
def Ce__law_are_sums_right_1 : ME := (dCall G_greatest_sum (bCons (dV 1) (bCons (dV 9) bNil)))
def Lb__law_are_sums_right_2 : MS := (mSeq (mIf (tOr2 (dT (d2 cNe (dV 7) (dCall G__law_best (bCons (dV 1) (bCons (dV 9) bNil))))) (tOr2 (dT (d2 cNe (dCall G__law_sum (bCons (dV 8) (bCons (dV 9) bNil))) (dV 7))) (tNot1 (dT (dCall G__law_is_within (bCons (dV 8) (bCons (dV 1) bNil))))))) (mRt (dC (.bl false))) mNil)
  (mIf (dT (d2 cIsNot (dCall G_is_law (bCons (dV 8) (bCons (dV 2) bNil))) (dC (.bl true)))) (mRt (dC (.bl false))) mNil))
def Ce__law_are_sums_right_3 : ME := (dCall G__law_added (bCons (dV 16) (bCons (dV 17) bNil)))
def Ce__law_are_sums_right_4 : ME := (dCall G__law_added (bCons (dCall G__law_times (bCons (dV 5) (bCons (dV 18) bNil))) (bCons (dTup (aCons (dC (.int 3)) (aCons (dC (.int 2)) aNil))) bNil)))
def Ce__law_are_sums_right_5 : ME := (dTup (aCons (dCall G__law_times (bCons (dV 14) (bCons (dV 16) bNil))) (aCons (dCall G__law_times (bCons (dV 12) (bCons (dV 17) bNil))) aNil)))
def Ce__law_are_sums_right_6 : ME := (dCall G__law_added (bCons (dV 16) (bCons (dV 17) bNil)))
def m__law_are_sums_right : MS := (mSeq (mPar 3 4 (aCons (dCall G__law_numbers (bPot 0 (bCons (dV 2) bNil))) (aCons (dCall G__law_numbers (bPot 0 (bCons (dV 2) bNil))) aNil)))
  (mSeq (mAsg (dCall G__law_cut (bCons (d2 fAdd (dC (.int 1)) (dCall G__law_take (bPot 0 (bCons (dC (.int 6)) bNil)))) (bCons (d2 fAdd (dC (.int 1)) (dCall G__law_take (bPot 0 (bCons (dC (.int 3)) bNil)))) bNil))) (gN 5))
  (mSeq (mAsg (dL (aLc [9] (iAny (dTup (aCons (dV 3) (aCons (dV 4) aNil)))) (gN 9) tYes1 Ce__law_are_sums_right_1)) (gN 6))
  (mSeq (mFor (iZip (aCons (dV 6) (aCons (dTup (aCons (dV 3) (aCons (dV 4) aNil))) aNil))) (gT (gsCons (gT (gsCons (gN 7) (gsCons (gN 8) gsNil))) (gsCons (gN 9) gsNil))) Lb__law_are_sums_right_2)
  (mSeq (mAsg (dB bTuple (aCons (dL (aLc [16, 17] (iZip (aCons (dV 3) (aCons (dV 4) aNil))) (gT (gsCons (gN 16) (gsCons (gN 17) gsNil))) tYes1 Ce__law_are_sums_right_3)) aNil)) (gN 10))
  (mSeq (mIf (dT (dCall G__law_is_below (bCons (dCall G__law_added (bCons (d2 fIx (d2 fIx (dV 6) (dC (.int 0))) (dC (.int 0))) (bCons (d2 fIx (d2 fIx (dV 6) (dC (.int 1))) (dC (.int 0))) bNil))) (bCons (d2 fIx (dCall G_greatest_sum (bCons (dV 1) (bCons (dV 10) bNil))) (dC (.int 0))) bNil)))) (mRt (dC (.bl false))) mNil)
  (mSeq (mAsg (dB bTuple (aCons (dL (aLc [18] (iAny (dV 3)) (gN 18) tYes1 Ce__law_are_sums_right_4)) aNil)) (gN 11))
  (mSeq (mIf (dT (d2 cNe (d2 fIx (dCall G_greatest_sum (bCons (dV 1) (bCons (dV 11) bNil))) (dC (.int 0))) (dCall G__law_added (bCons (dCall G__law_times (bCons (dV 5) (bCons (d2 fIx (d2 fIx (dV 6) (dC (.int 0))) (dC (.int 0))) bNil))) (bCons (dTup (aCons (dC (.int 3)) (aCons (dC (.int 2)) aNil))) bNil))))) (mRt (dC (.bl false))) mNil)
  (mSeq (mAsg (dCall G__law_cut (bCons (dCall G__law_take (bPot 0 (bCons (dC (.int 5)) bNil))) (bCons (dC (.int 4)) bNil))) (gN 12))
  (mSeq (mAsg (dCall G_mixed_law (bCons (d2 fIx (d2 fIx (dV 6) (dC (.int 0))) (dC (.int 1))) (bCons (d2 fIx (d2 fIx (dV 6) (dC (.int 1))) (dC (.int 1))) (bCons (dV 12) bNil)))) (gN 13))
  (mSeq (mIf (tOr2 (tNot1 (dT (dCall G__law_is_within (bCons (dV 13) (bCons (dV 1) bNil))))) (dT (dCall G__law_is_below (bCons (d2 fIx (d2 fIx (dV 6) (dC (.int 0))) (dC (.int 0))) (bCons (dCall G__law_sum (bCons (dV 13) (bCons (dV 3) bNil))) bNil))))) (mRt (dC (.bl false))) mNil)
  (mSeq (mAsg (dCall G__law_less (bCons (dTup (aCons (dC (.int 1)) (aCons (dC (.int 1)) aNil))) (bCons (dV 12) bNil))) (gN 14))
  (mSeq (mAsg (dL (aLc [16, 17] (iZip (aCons (d2 fIx (d2 fIx (dV 6) (dC (.int 0))) (dC (.int 1))) (aCons (d2 fIx (d2 fIx (dV 6) (dC (.int 1))) (dC (.int 1))) aNil))) (gT (gsCons (gN 16) (gsCons (gN 17) gsNil))) tYes1 Ce__law_are_sums_right_5)) (gN 15))
  (mRt (d2 cEq (dV 13) (dB bTuple (aCons (dL (aLc [16, 17] (iAny (dV 15)) (gT (gsCons (gN 16) (gsCons (gN 17) gsNil))) tYes1 Ce__law_are_sums_right_6)) aNil)))))))))))))))))
def G__law_are_sums_right : DL.Fn := defn N__law_are_sums_right.length m__law_are_sums_right
/-! ### _law_right -/
abbrev N__law_right : List Str := ["pot", "signs", "chances", "bounds", "bet", "sign"]
def Ce__law_right_1 : ME := (dCall G__law_cut (bCons (dCall G__law_take (bPot 0 (bCons (dC (.int 7)) bNil))) (bCons (d2 fAdd (dC (.int 1)) (dCall G__law_take (bPot 0 (bCons (dC (.int 4)) bNil)))) bNil)))
def m__law_right : MS := (mSeq (mAsg (d2 fAdd (dC (.int 2)) (dCall G__law_take (bPot 0 (bCons (dC (.int 5)) bNil)))) (gN 1))
  (mSeq (mAsg (dCall G__law_chances (bPot 0 (bCons (dV 1) (bCons (dC (.bl true)) bNil)))) (gN 2))
  (mSeq (mAsg (dCall G__law_bounds (bPot 0 (bCons (dV 2) bNil))) (gN 3))
  (mSeq (mIf (tOr2 (tNot1 (dT (dCall G__law_is_within (bCons (dV 2) (bCons (dV 3) bNil))))) (tNot1 (dT (dCall G__law_are_sums_right (bPot 0 (bCons (dV 3) (bCons (dV 1) bNil))))))) (mRt (dC (.bl false))) mNil)
  (mSeq (mAsg (dB bTuple (aCons (dL (aLc [5] (iRng1 (aCons (dV 1) aNil)) (gN 5) tYes1 Ce__law_right_1)) aNil)) (gN 4))
  (mSeq (mIf (dT (d2 cNe (dCall G_is_fair (bCons (dV 3) (bCons (dV 4) bNil))) (dNot1 (dCall G__law_is_below (bCons (dTup (aCons (dC (.int 1)) (aCons (dC (.int 1)) aNil))) (bCons (d2 fIx (dCall G_greatest_sum (bCons (dV 3) (bCons (dV 4) bNil))) (dC (.int 0))) bNil)))))) (mRt (dC (.bl false))) mNil)
  (mRt (dCall G__law_are_ends_right (bPot 0 (bCons (dV 3) (bCons (dV 1) bNil)))))))))))
def G__law_right : DL.Fn := defn N__law_right.length m__law_right
/-! ### law -/
abbrev N_law : List Str := ["script", "place", "pot", "lap"]
def Ce_law_1 : ME := (dCall G__law_right (bPot 2 bNil))
def Lb_law_2 : MS := (mSeq (mPot (aCall G__law_pot (bCons (dV 0) (bCons (dV 1) bNil))) 2)
  (mIf (tNot1 (dT (dB bAll (aCons (dL (aLc [3] (iRng1 (aCons (dC (.int 3)) aNil)) (gN 3) tYes1 Ce_law_1)) aNil)))) (mRt (dC (.bl false))) mNil))
def m_law : MS := (mSeq (mFor (iAny (dCall G__law_cells (bCons (dV 0) (bCons (dC (.int 3)) bNil)))) (gN 1) Lb_law_2)
  (mRt (dC (.bl true))))
section
variable {P : Program} {w : World} {K : PySem.W.Frag} {mg : Str → Option Value} {base : Heap}
abbrev st__law_cells : Stmt := top 56
theorem nd__law_cells : N__law_cells.Nodup := by decide +kernel
theorem sc__law_cells : FnScope N__law_cells ["script", "most"] (defScope st__law_cells) := ⟨rfl, rfl, rfl, nd__law_cells, rfl, by decide +kernel, by decide +kernel⟩
theorem b__law_cells (c : Facts K mg)  (f : Addr) (cdv : Value) (A : Around) (outer : List PySem.Env) (s : Shared) (H : Hp) (E : XK) (hr : Room 0 (A.deeper (envOfC "_law_cells" (defScope st__law_cells) s.heap.objs.size f cdv))) :
    ESs false (cxOf CX0 P w K mg base N__law_cells "_law_cells" (defScope st__law_cells) f cdv A outer s H E).nox (defBody st__law_cells) m__law_cells := by
  have hN := nd__law_cells
  exact (ss_one (s_ret (e_ofF (f_listRg rfl c.b_list c.b_range (e_max2 rfl c.b_max e_int (e_min2 rfl c.b_min (e_v 1) (e_len c.b_len (e_v 0))))))))
theorem k__law_cells (c : Facts K mg)  (Fd : ∃ fd, FunD K "_law_cells" "_law_cells" (defArgs st__law_cells) (defBody st__law_cells) (defScope st__law_cells) [] [] (He.ga K "_law_cells") fd) (hm : mg "_law_cells" = some (.ref (He.ga K "_law_cells"))) : Cal P w K mg base 1 "_law_cells" ["script", "most"] G__law_cells :=
  cal_ok Fd hm sc__law_cells (fun _ _ _ _ _ _ us hl => match us, hl with | [_, _], _ => rfl) (fun _ _ _ _ _ _ us hl => match us, hl with | [_, _], _ => rfl) (fun f cdv A outer s H E hr => b__law_cells c  f cdv A outer s H E hr)
abbrev st__law_pot : Stmt := top 52
theorem nd__law_pot : N__law_pot.Nodup := by decide +kernel
theorem sc__law_pot : FnScope N__law_pot ["script", "place"] (defScope st__law_pot) := ⟨rfl, rfl, rfl, nd__law_pot, rfl, by decide +kernel, by decide +kernel⟩
theorem b__law_pot (c : Facts K mg)  (f : Addr) (cdv : Value) (A : Around) (outer : List PySem.Env) (s : Shared) (H : Hp) (E : XK) (hr : Room 0 (A.deeper (envOfC "_law_pot" (defScope st__law_pot) s.heap.objs.size f cdv))) :
    ESs false (cxOf CX0 P w K mg base N__law_pot "_law_pot" (defScope st__law_pot) f cdv A outer s H E).nox (defBody st__law_pot) m__law_pot := by
  have hN := nd__law_pot
  exact (ss_cons (s_set 2 hN (e_if (t_c c_lt (e_v 1) (e_len c.b_len (e_v 0))) (e_ix (e_v 0) (e_v 1)) (e_add (e_add (e_mod (e_sum rfl c.b_sum (e_sl (e_v 0) o_none (o_some e_int))) e_int) (e_mul e_int (e_v 1))) e_int)))
  (ss_cons (s_set 3 hN (e_mul (e_mod (e_toInt c.b_int (e_abs c.b_abs (e_v 2))) (e_pow (e_pow e_int e_int) e_int)) (e_toInt c.b_int (e_c c_ge (e_abs c.b_abs (e_v 2)) (e_pow e_int e_int)))))
  (ss_cons (s_set 4 hN (e_mod (e_toInt c.b_int (e_v 2)) e_int))
  (ss_one (s_retF (f_lst (a_cons (e_v 3) (a_cons (e_mod (e_toInt c.b_int (e_add (e_add (e_mul (e_v 4) e_int) (e_mul (e_mul e_int (e_v 1)) (e_v 1))) e_int)) e_int) (a_cons e_int a_nil)))))))))
theorem k__law_pot (c : Facts K mg)  (Fd : ∃ fd, FunD K "_law_pot" "_law_pot" (defArgs st__law_pot) (defBody st__law_pot) (defScope st__law_pot) [] [] (He.ga K "_law_pot") fd) (hm : mg "_law_pot" = some (.ref (He.ga K "_law_pot"))) : CalL P w K mg base 1 "_law_pot" ["script", "place"] G__law_pot :=
  calL_ok Fd hm sc__law_pot (fun _ _ _ _ _ _ us hl => match us, hl with | [_, _], _ => rfl) (fun f cdv A outer s H E hr => b__law_pot c  f cdv A outer s H E hr)
abbrev st__law_take : Stmt := top 53
theorem nd__law_take : N__law_take.Nodup := by decide +kernel
theorem sc__law_take : FnScope N__law_take ["pot", "upto"] (defScope st__law_take) := ⟨rfl, rfl, rfl, nd__law_take, rfl, by decide +kernel, by decide +kernel⟩
theorem b__law_take (c : Facts K mg)  (f : Addr) (cdv : Value) (A : Around) (outer : List PySem.Env) (s : Shared) (H : Hp) (E : XK) (hr : Room 0 (A.deeper (envOfC "_law_take" (defScope st__law_take) s.heap.objs.size f cdv))) :
    ESs false (cxOf CX0 P w K mg base N__law_take "_law_take" (defScope st__law_take) f cdv A outer s H E).nox (defBody st__law_take) m__law_take := by
  have hN := nd__law_take
  exact (ss_cons (s_if (t_c c_gt (e_ixPot 0 e_int) e_int) (ss_cons (s_set 2 hN (e_mod (e_toInt c.b_int (e_ixPot 0 e_int)) (e_v 1)))
  (ss_cons (s_setPot 0 (e_div (e_ixPot 0 e_int) (e_v 1)) e_int)
  (ss_one (s_ret (e_v 2))))) ss_nil)
  (ss_cons (s_setPot 0 (e_add (e_ixPot 0 e_int) e_int) e_int)
  (ss_cons (s_set 3 hN (e_ix (e_ofF (f_lst (a_cons e_int (a_cons e_int (a_cons e_int (a_cons e_int (a_cons e_int a_nil))))))) (e_mod (e_toInt c.b_int (e_ixPot 0 e_int)) e_int)))
  (ss_cons (s_set 4 hN (e_mod (e_toInt c.b_int (e_pow (e_toInt c.b_int (e_add (e_add (e_ixPot 0 e_int) (e_mul (e_mul e_int (e_ixPot 0 e_int)) (e_ixPot 0 e_int))) e_int)) e_int)) (e_v 3)))
  (ss_cons (s_set 4 hN (e_mod (e_toInt c.b_int (e_mul (e_v 4) (e_add (e_mod (e_toInt c.b_int (e_v 4)) e_int) (e_mul e_int (e_ixPot 0 e_int))))) e_int))
  (ss_one (s_ret (e_mod (e_toInt c.b_int (e_div (e_v 4) e_int)) (e_v 1)))))))))
theorem k__law_take (c : Facts K mg)  (Fd : ∃ fd, FunD K "_law_take" "_law_take" (defArgs st__law_take) (defBody st__law_take) (defScope st__law_take) [] [] (He.ga K "_law_take") fd) (hm : mg "_law_take" = some (.ref (He.ga K "_law_take"))) : Cal P w K mg base 1 "_law_take" ["pot", "upto"] G__law_take :=
  cal_ok Fd hm sc__law_take (fun _ _ _ _ _ _ us hl => match us, hl with | [_, _], _ => rfl) (fun _ _ _ _ _ _ us hl => match us, hl with | [_, _], _ => rfl) (fun f cdv A outer s H E hr => b__law_take c  f cdv A outer s H E hr)
abbrev st__law_cut : Stmt := top 57
theorem nd__law_cut : N__law_cut.Nodup := by decide +kernel
theorem sc__law_cut : FnScope N__law_cut ["top", "low"] (defScope st__law_cut) := ⟨rfl, rfl, rfl, nd__law_cut, rfl, by decide +kernel, by decide +kernel⟩
theorem b__law_cut (c : Facts K mg)  (f : Addr) (cdv : Value) (A : Around) (outer : List PySem.Env) (s : Shared) (H : Hp) (E : XK) (hr : Room 0 (A.deeper (envOfC "_law_cut" (defScope st__law_cut) s.heap.objs.size f cdv))) :
    ESs false (cxOf CX0 P w K mg base N__law_cut "_law_cut" (defScope st__law_cut) f cdv A outer s H E).nox (defBody st__law_cut) m__law_cut := by
  have hN := nd__law_cut
  exact (ss_cons (s_par 2 3 rfl hN (a_cons (e_abs c.b_abs (e_v 0)) (a_cons (e_v 1) a_nil)))
  (ss_cons (s_while (fuI 3) PassesOwn.never (t_c (c_ne hr) (e_v 3) e_int) (ss_one (s_par 2 3 rfl hN (a_cons (e_v 3) (a_cons (e_mod (e_v 2) (e_v 3)) a_nil)))))
  (ss_one (s_ret (e_tup (a_cons (e_toInt c.b_int (e_div (e_v 0) (e_v 2))) (a_cons (e_toInt c.b_int (e_div (e_v 1) (e_v 2))) a_nil)))))))
theorem k__law_cut (c : Facts K mg)  (Fd : ∃ fd, FunD K "_law_cut" "_law_cut" (defArgs st__law_cut) (defBody st__law_cut) (defScope st__law_cut) [] [] (He.ga K "_law_cut") fd) (hm : mg "_law_cut" = some (.ref (He.ga K "_law_cut"))) : Cal P w K mg base 1 "_law_cut" ["top", "low"] G__law_cut :=
  cal_ok Fd hm sc__law_cut (fun _ _ _ _ _ _ us hl => match us, hl with | [_, _], _ => rfl) (fun _ _ _ _ _ _ us hl => match us, hl with | [_, _], _ => rfl) (fun f cdv A outer s H E hr => b__law_cut c  f cdv A outer s H E hr)
abbrev st__law_chances : Stmt := top 63
theorem nd__law_chances : N__law_chances.Nodup := by decide +kernel
theorem sc__law_chances : FnScope N__law_chances ["pot", "signs", "holes"] (defScope st__law_chances) := ⟨rfl, rfl, rfl, nd__law_chances, rfl, by decide +kernel, by decide +kernel⟩
theorem b__law_chances (c : Facts K mg) (h__law_take : Cal P w K mg base 1 "_law_take" ["pot", "upto"] G__law_take) (h__law_cut : Cal P w K mg base 1 "_law_cut" ["top", "low"] G__law_cut) (f : Addr) (cdv : Value) (A : Around) (outer : List PySem.Env) (s : Shared) (H : Hp) (E : XK) (hr : Room 1 (A.deeper (envOfC "_law_chances" (defScope st__law_chances) s.heap.objs.size f cdv))) :
    ESs false (cxOf CX0 P w K mg base N__law_chances "_law_chances" (defScope st__law_chances) f cdv A outer s H E).nox (defBody st__law_chances) m__law_chances := by
  have hN := nd__law_chances
  exact (ss_cons (s_own 3 hN (f_lc (own' := [("sign", 4)]) rfl hN (i_range1 c.b_range (e_v 1)) (blkOk_by (by kernel_rfl)) (fun _ _ _ _ _ => (g_name 4 hN)) (fun _ _ _ _ _ => ts_nil) (fun _ _ _ _ _ => (e_ix (e_ofF (f_lst (a_cons e_int (a_cons e_int (a_cons e_int (a_cons e_int (a_cons e_int (a_cons (e_add e_int (e_cl h__law_take hr (by decide) (b_pot 0 (b_cons e_int b_nil)) (nb_pot (nb_cons nb_nil)))) a_nil)))))))) (e_cl h__law_take hr (by decide) (b_pot 0 (b_cons e_int b_nil)) (nb_pot (nb_cons nb_nil)))))))
  (ss_cons (s_if (w_pt (w_and (t_val (e_v 2)) (w_and1 (t_c (c_eq hr) (e_cl h__law_take hr (by decide) (b_pot 0 (b_cons e_int b_nil)) (nb_pot (nb_cons nb_nil))) e_int)))) (ss_one (s_setIx 3 e_int (e_cl h__law_take hr (by decide) (b_pot 0 (b_cons (e_v 1) b_nil)) (nb_pot (nb_cons nb_nil))))) ss_nil)
  (ss_frz 3 (ss_one (s_ret (e_tuple c.b_tuple (e_ofF (f_lc (own' := [("one", 5)]) rfl hN (i_any (e_v 3)) (blkOk_by (by kernel_rfl)) (fun _ _ _ _ _ => (g_name 5 hN)) (fun _ _ _ _ _ => ts_nil) (fun _ _ _ _ _ => (e_cl h__law_cut hr (by decide) (b_cons (e_v 5) (b_cons (e_sum rfl c.b_sum (e_v 3)) b_nil)) (nb_cons (nb_cons nb_nil))))))))))))
theorem k__law_chances (c : Facts K mg) (h__law_take : Cal P w K mg base 1 "_law_take" ["pot", "upto"] G__law_take) (h__law_cut : Cal P w K mg base 1 "_law_cut" ["top", "low"] G__law_cut) (Fd : ∃ fd, FunD K "_law_chances" "_law_chances" (defArgs st__law_chances) (defBody st__law_chances) (defScope st__law_chances) [] [] (He.ga K "_law_chances") fd) (hm : mg "_law_chances" = some (.ref (He.ga K "_law_chances"))) : Cal P w K mg base 2 "_law_chances" ["pot", "signs", "holes"] G__law_chances :=
  cal_ok Fd hm sc__law_chances (fun _ _ _ _ _ _ us hl => match us, hl with | [_, _, _], _ => rfl) (fun _ _ _ _ _ _ us hl => match us, hl with | [_, _, _], _ => rfl) (fun f cdv A outer s H E hr => b__law_chances c h__law_take h__law_cut f cdv A outer s H E hr)
abbrev st__law_added : Stmt := top 58
theorem nd__law_added : N__law_added.Nodup := by decide +kernel
theorem sc__law_added : FnScope N__law_added ["one", "other"] (defScope st__law_added) := ⟨rfl, rfl, rfl, nd__law_added, rfl, by decide +kernel, by decide +kernel⟩
theorem b__law_added (c : Facts K mg) (h__law_cut : Cal P w K mg base 1 "_law_cut" ["top", "low"] G__law_cut) (f : Addr) (cdv : Value) (A : Around) (outer : List PySem.Env) (s : Shared) (H : Hp) (E : XK) (hr : Room 1 (A.deeper (envOfC "_law_added" (defScope st__law_added) s.heap.objs.size f cdv))) :
    ESs false (cxOf CX0 P w K mg base N__law_added "_law_added" (defScope st__law_added) f cdv A outer s H E).nox (defBody st__law_added) m__law_added := by
  have hN := nd__law_added
  exact (ss_one (s_ret (e_cl h__law_cut hr (by decide) (b_cons (e_add (e_mul (e_ix (e_v 0) e_int) (e_ix (e_v 1) e_int)) (e_mul (e_ix (e_v 1) e_int) (e_ix (e_v 0) e_int))) (b_cons (e_mul (e_ix (e_v 0) e_int) (e_ix (e_v 1) e_int)) b_nil)) (nb_cons (nb_cons nb_nil)))))
theorem k__law_added (c : Facts K mg) (h__law_cut : Cal P w K mg base 1 "_law_cut" ["top", "low"] G__law_cut) (Fd : ∃ fd, FunD K "_law_added" "_law_added" (defArgs st__law_added) (defBody st__law_added) (defScope st__law_added) [] [] (He.ga K "_law_added") fd) (hm : mg "_law_added" = some (.ref (He.ga K "_law_added"))) : Cal P w K mg base 2 "_law_added" ["one", "other"] G__law_added :=
  cal_ok Fd hm sc__law_added (fun _ _ _ _ _ _ us hl => match us, hl with | [_, _], _ => rfl) (fun _ _ _ _ _ _ us hl => match us, hl with | [_, _], _ => rfl) (fun f cdv A outer s H E hr => b__law_added c h__law_cut f cdv A outer s H E hr)
abbrev st__law_total : Stmt := top 62
theorem nd__law_total : N__law_total.Nodup := by decide +kernel
theorem sc__law_total : FnScope N__law_total ["some"] (defScope st__law_total) := ⟨rfl, rfl, rfl, nd__law_total, rfl, by decide +kernel, by decide +kernel⟩
theorem b__law_total (c : Facts K mg) (h__law_added : Cal P w K mg base 2 "_law_added" ["one", "other"] G__law_added) (f : Addr) (cdv : Value) (A : Around) (outer : List PySem.Env) (s : Shared) (H : Hp) (E : XK) (hr : Room 2 (A.deeper (envOfC "_law_total" (defScope st__law_total) s.heap.objs.size f cdv))) :
    ESs false (cxOf CX0 P w K mg base N__law_total "_law_total" (defScope st__law_total) f cdv A outer s H E).nox (defBody st__law_total) m__law_total := by
  have hN := nd__law_total
  exact (ss_cons (s_set 1 hN (e_tup (a_cons e_int (a_cons e_int a_nil))))
  (ss_cons (s_for PassesOwn.never rfl (i_any (e_v 0)) (g_name 2 hN) (ss_one (s_set 1 hN (e_cl h__law_added hr (by decide) (b_cons (e_v 1) (b_cons (e_v 2) b_nil)) (nb_cons (nb_cons nb_nil))))))
  (ss_one (s_ret (e_v 1)))))
theorem k__law_total (c : Facts K mg) (h__law_added : Cal P w K mg base 2 "_law_added" ["one", "other"] G__law_added) (Fd : ∃ fd, FunD K "_law_total" "_law_total" (defArgs st__law_total) (defBody st__law_total) (defScope st__law_total) [] [] (He.ga K "_law_total") fd) (hm : mg "_law_total" = some (.ref (He.ga K "_law_total"))) : Cal P w K mg base 3 "_law_total" ["some"] G__law_total :=
  cal_ok Fd hm sc__law_total (fun _ _ _ _ _ _ us hl => match us, hl with | [_], _ => rfl) (fun _ _ _ _ _ _ us hl => match us, hl with | [_], _ => rfl) (fun f cdv A outer s H E hr => b__law_total c h__law_added f cdv A outer s H E hr)
abbrev st__law_less : Stmt := top 59
theorem nd__law_less : N__law_less.Nodup := by decide +kernel
theorem sc__law_less : FnScope N__law_less ["one", "other"] (defScope st__law_less) := ⟨rfl, rfl, rfl, nd__law_less, rfl, by decide +kernel, by decide +kernel⟩
theorem b__law_less (c : Facts K mg) (h__law_cut : Cal P w K mg base 1 "_law_cut" ["top", "low"] G__law_cut) (f : Addr) (cdv : Value) (A : Around) (outer : List PySem.Env) (s : Shared) (H : Hp) (E : XK) (hr : Room 1 (A.deeper (envOfC "_law_less" (defScope st__law_less) s.heap.objs.size f cdv))) :
    ESs false (cxOf CX0 P w K mg base N__law_less "_law_less" (defScope st__law_less) f cdv A outer s H E).nox (defBody st__law_less) m__law_less := by
  have hN := nd__law_less
  exact (ss_one (s_ret (e_cl h__law_cut hr (by decide) (b_cons (e_sub (e_mul (e_ix (e_v 0) e_int) (e_ix (e_v 1) e_int)) (e_mul (e_ix (e_v 1) e_int) (e_ix (e_v 0) e_int))) (b_cons (e_mul (e_ix (e_v 0) e_int) (e_ix (e_v 1) e_int)) b_nil)) (nb_cons (nb_cons nb_nil)))))
theorem k__law_less (c : Facts K mg) (h__law_cut : Cal P w K mg base 1 "_law_cut" ["top", "low"] G__law_cut) (Fd : ∃ fd, FunD K "_law_less" "_law_less" (defArgs st__law_less) (defBody st__law_less) (defScope st__law_less) [] [] (He.ga K "_law_less") fd) (hm : mg "_law_less" = some (.ref (He.ga K "_law_less"))) : Cal P w K mg base 2 "_law_less" ["one", "other"] G__law_less :=
  cal_ok Fd hm sc__law_less (fun _ _ _ _ _ _ us hl => match us, hl with | [_, _], _ => rfl) (fun _ _ _ _ _ _ us hl => match us, hl with | [_, _], _ => rfl) (fun f cdv A outer s H E hr => b__law_less c h__law_cut f cdv A outer s H E hr)
abbrev st__law_is_below : Stmt := top 61
theorem nd__law_is_below : N__law_is_below.Nodup := by decide +kernel
theorem sc__law_is_below : FnScope N__law_is_below ["one", "other"] (defScope st__law_is_below) := ⟨rfl, rfl, rfl, nd__law_is_below, rfl, by decide +kernel, by decide +kernel⟩
theorem b__law_is_below (c : Facts K mg)  (f : Addr) (cdv : Value) (A : Around) (outer : List PySem.Env) (s : Shared) (H : Hp) (E : XK) (hr : Room 0 (A.deeper (envOfC "_law_is_below" (defScope st__law_is_below) s.heap.objs.size f cdv))) :
    ESs false (cxOf CX0 P w K mg base N__law_is_below "_law_is_below" (defScope st__law_is_below) f cdv A outer s H E).nox (defBody st__law_is_below) m__law_is_below := by
  have hN := nd__law_is_below
  exact (ss_one (s_ret (e_c c_lt (e_mul (e_ix (e_v 0) e_int) (e_ix (e_v 1) e_int)) (e_mul (e_ix (e_v 1) e_int) (e_ix (e_v 0) e_int)))))
theorem k__law_is_below (c : Facts K mg)  (Fd : ∃ fd, FunD K "_law_is_below" "_law_is_below" (defArgs st__law_is_below) (defBody st__law_is_below) (defScope st__law_is_below) [] [] (He.ga K "_law_is_below") fd) (hm : mg "_law_is_below" = some (.ref (He.ga K "_law_is_below"))) : Cal P w K mg base 1 "_law_is_below" ["one", "other"] G__law_is_below :=
  cal_ok Fd hm sc__law_is_below (fun _ _ _ _ _ _ us hl => match us, hl with | [_, _], _ => rfl) (fun _ _ _ _ _ _ us hl => match us, hl with | [_, _], _ => rfl) (fun f cdv A outer s H E hr => b__law_is_below c  f cdv A outer s H E hr)
abbrev st__law_tight : Stmt := top 65
theorem nd__law_tight : N__law_tight.Nodup := by decide +kernel
theorem sc__law_tight : FnScope N__law_tight ["pairs"] (defScope st__law_tight) := ⟨rfl, rfl, rfl, nd__law_tight, rfl, by decide +kernel, by decide +kernel⟩
theorem b__law_tight (c : Facts K mg) (h__law_added : Cal P w K mg base 2 "_law_added" ["one", "other"] G__law_added) (h__law_total : Cal P w K mg base 3 "_law_total" ["some"] G__law_total) (h__law_less : Cal P w K mg base 2 "_law_less" ["one", "other"] G__law_less) (h__law_is_below : Cal P w K mg base 1 "_law_is_below" ["one", "other"] G__law_is_below) (f : Addr) (cdv : Value) (A : Around) (outer : List PySem.Env) (s : Shared) (H : Hp) (E : XK) (hr : Room 3 (A.deeper (envOfC "_law_tight" (defScope st__law_tight) s.heap.objs.size f cdv))) :
    ESs false (cxOf CX0 P w K mg base N__law_tight "_law_tight" (defScope st__law_tight) f cdv A outer s H E).nox (defBody st__law_tight) m__law_tight := by
  have hN := nd__law_tight
  exact (ss_cons (s_own 1 hN (f_lst a_nil))
  (ss_cons (s_par 2 3 rfl hN (a_cons (e_cl h__law_total hr (by decide) (b_cons (e_ofF (f_lc (own' := [("low", 4), ("high", 5)]) rfl hN (i_any (e_v 0)) (blkOk_by (by kernel_rfl)) (fun _ _ _ _ _ => (g_tup rfl (gs_cons (g_name 4 hN) (gs_cons (g_name 5 hN) gs_nil)) (hl := (len_cons (len_cons len_nil))))) (fun _ _ _ _ _ => ts_nil) (fun _ _ _ _ _ => (e_v 4)))) b_nil) (nb_cons nb_nil)) (a_cons (e_cl h__law_total hr (by decide) (b_cons (e_ofF (f_lc (own' := [("low", 4), ("high", 5)]) rfl hN (i_any (e_v 0)) (blkOk_by (by kernel_rfl)) (fun _ _ _ _ _ => (g_tup rfl (gs_cons (g_name 4 hN) (gs_cons (g_name 5 hN) gs_nil)) (hl := (len_cons (len_cons len_nil))))) (fun _ _ _ _ _ => ts_nil) (fun _ _ _ _ _ => (e_v 5)))) b_nil) (nb_cons nb_nil)) a_nil)))
  (ss_cons (s_for PassesOwn.never rfl (i_any (e_v 0)) (g_tup rfl (gs_cons (g_name 4 hN) (gs_cons (g_name 5 hN) gs_nil)) (hl := (len_cons (len_cons len_nil)))) (ss_cons (s_set 6 hN (e_cl h__law_added hr (by decide) (b_cons (e_cl h__law_less hr (by decide) (b_cons (e_tup (a_cons e_int (a_cons e_int a_nil))) (b_cons (e_v 3) b_nil)) (nb_cons (nb_cons nb_nil))) (b_cons (e_v 5) b_nil)) (nb_cons (nb_cons nb_nil))))
  (ss_cons (s_set 7 hN (e_cl h__law_added hr (by decide) (b_cons (e_cl h__law_less hr (by decide) (b_cons (e_tup (a_cons e_int (a_cons e_int a_nil))) (b_cons (e_v 2) b_nil)) (nb_cons (nb_cons nb_nil))) (b_cons (e_v 4) b_nil)) (nb_cons (nb_cons nb_nil))))
  (ss_one (s_append 1 (e_tup (a_cons (e_if (t_val (e_cl h__law_is_below hr (by decide) (b_cons (e_v 4) (b_cons (e_v 6) b_nil)) (nb_cons (nb_cons nb_nil)))) (e_v 6) (e_v 4)) (a_cons (e_if (t_val (e_cl h__law_is_below hr (by decide) (b_cons (e_v 7) (b_cons (e_v 5) b_nil)) (nb_cons (nb_cons nb_nil)))) (e_v 7) (e_v 5)) a_nil))))))))
  (ss_frz 1 (ss_one (s_ret (e_tuple c.b_tuple (e_v 1))))))))
theorem k__law_tight (c : Facts K mg) (h__law_added : Cal P w K mg base 2 "_law_added" ["one", "other"] G__law_added) (h__law_total : Cal P w K mg base 3 "_law_total" ["some"] G__law_total) (h__law_less : Cal P w K mg base 2 "_law_less" ["one", "other"] G__law_less) (h__law_is_below : Cal P w K mg base 1 "_law_is_below" ["one", "other"] G__law_is_below) (Fd : ∃ fd, FunD K "_law_tight" "_law_tight" (defArgs st__law_tight) (defBody st__law_tight) (defScope st__law_tight) [] [] (He.ga K "_law_tight") fd) (hm : mg "_law_tight" = some (.ref (He.ga K "_law_tight"))) : Cal P w K mg base 4 "_law_tight" ["pairs"] G__law_tight :=
  cal_ok Fd hm sc__law_tight (fun _ _ _ _ _ _ us hl => match us, hl with | [_], _ => rfl) (fun _ _ _ _ _ _ us hl => match us, hl with | [_], _ => rfl) (fun f cdv A outer s H E hr => b__law_tight c h__law_added h__law_total h__law_less h__law_is_below f cdv A outer s H E hr)
abbrev st__law_of : Stmt := top 54
theorem nd__law_of : N__law_of.Nodup := by decide +kernel
theorem sc__law_of : FnScope N__law_of ["pot", "some"] (defScope st__law_of) := ⟨rfl, rfl, rfl, nd__law_of, rfl, by decide +kernel, by decide +kernel⟩
theorem b__law_of (c : Facts K mg) (h__law_take : Cal P w K mg base 1 "_law_take" ["pot", "upto"] G__law_take) (f : Addr) (cdv : Value) (A : Around) (outer : List PySem.Env) (s : Shared) (H : Hp) (E : XK) (hr : Room 1 (A.deeper (envOfC "_law_of" (defScope st__law_of) s.heap.objs.size f cdv))) :
    ESs false (cxOf CX0 P w K mg base N__law_of "_law_of" (defScope st__law_of) f cdv A outer s H E).nox (defBody st__law_of) m__law_of := by
  have hN := nd__law_of
  exact (ss_one (s_ret (e_ix (e_v 1) (e_cl h__law_take hr (by decide) (b_pot 0 (b_cons (e_len c.b_len (e_v 1)) b_nil)) (nb_pot (nb_cons nb_nil))))))
theorem k__law_of (c : Facts K mg) (h__law_take : Cal P w K mg base 1 "_law_take" ["pot", "upto"] G__law_take) (Fd : ∃ fd, FunD K "_law_of" "_law_of" (defArgs st__law_of) (defBody st__law_of) (defScope st__law_of) [] [] (He.ga K "_law_of") fd) (hm : mg "_law_of" = some (.ref (He.ga K "_law_of"))) : Cal P w K mg base 2 "_law_of" ["pot", "some"] G__law_of :=
  cal_ok Fd hm sc__law_of (fun _ _ _ _ _ _ us hl => match us, hl with | [_, _], _ => rfl) (fun _ _ _ _ _ _ us hl => match us, hl with | [_, _], _ => rfl) (fun f cdv A outer s H E hr => b__law_of c h__law_take f cdv A outer s H E hr)
abbrev st__law_bounds : Stmt := top 64
theorem nd__law_bounds : N__law_bounds.Nodup := by decide +kernel
theorem sc__law_bounds : FnScope N__law_bounds ["pot", "chances"] (defScope st__law_bounds) := ⟨rfl, rfl, rfl, nd__law_bounds, rfl, by decide +kernel, by decide +kernel⟩
theorem b__law_bounds (c : Facts K mg) (h__law_added : Cal P w K mg base 2 "_law_added" ["one", "other"] G__law_added) (h__law_less : Cal P w K mg base 2 "_law_less" ["one", "other"] G__law_less) (h__law_is_below : Cal P w K mg base 1 "_law_is_below" ["one", "other"] G__law_is_below) (h__law_tight : Cal P w K mg base 4 "_law_tight" ["pairs"] G__law_tight) (h__law_of : Cal P w K mg base 2 "_law_of" ["pot", "some"] G__law_of) (f : Addr) (cdv : Value) (A : Around) (outer : List PySem.Env) (s : Shared) (H : Hp) (E : XK) (hr : Room 4 (A.deeper (envOfC "_law_bounds" (defScope st__law_bounds) s.heap.objs.size f cdv))) :
    ESs false (cxOf CX0 P w K mg base N__law_bounds "_law_bounds" (defScope st__law_bounds) f cdv A outer s H E).nox (defBody st__law_bounds) m__law_bounds := by
  have hN := nd__law_bounds
  exact (ss_cons (s_own 2 hN (f_lst a_nil))
  (ss_cons (s_for PassesOwn.never rfl (i_any (e_v 1)) (g_name 3 hN) (ss_cons (s_set 4 hN (e_ofF (f_lst (a_cons (e_tup (a_cons e_int (a_cons e_int a_nil))) (a_cons (e_tup (a_cons e_int (a_cons e_int a_nil))) (a_cons (e_tup (a_cons e_int (a_cons e_int a_nil))) (a_cons (e_tup (a_cons e_int (a_cons e_int a_nil))) (a_cons (e_tup (a_cons e_int (a_cons e_int a_nil))) a_nil))))))))
  (ss_cons (s_par 5 6 rfl hN (a_cons (e_cl h__law_less hr (by decide) (b_cons (e_v 3) (b_cons (e_cl h__law_of hr (by decide) (b_pot 0 (b_cons (e_v 4) b_nil)) (nb_pot (nb_cons nb_nil))) b_nil)) (nb_cons (nb_cons nb_nil))) (a_cons (e_cl h__law_added hr (by decide) (b_cons (e_v 3) (b_cons (e_cl h__law_of hr (by decide) (b_pot 0 (b_cons (e_v 4) b_nil)) (nb_pot (nb_cons nb_nil))) b_nil)) (nb_cons (nb_cons nb_nil))) a_nil)))
  (ss_one (s_append 2 (e_tup (a_cons (e_if (t_c c_gt (e_ix (e_v 5) e_int) e_int) (e_v 5) (e_tup (a_cons e_int (a_cons e_int a_nil)))) (a_cons (e_if (t_val (e_cl h__law_is_below hr (by decide) (b_cons (e_v 6) (b_cons (e_tup (a_cons e_int (a_cons e_int a_nil))) b_nil)) (nb_cons (nb_cons nb_nil)))) (e_v 6) (e_tup (a_cons e_int (a_cons e_int a_nil)))) a_nil))))))))
  (ss_frz 2 (ss_one (s_ret (e_cl h__law_tight hr (by decide) (b_cons (e_v 2) b_nil) (nb_cons nb_nil)))))))
theorem k__law_bounds (c : Facts K mg) (h__law_added : Cal P w K mg base 2 "_law_added" ["one", "other"] G__law_added) (h__law_less : Cal P w K mg base 2 "_law_less" ["one", "other"] G__law_less) (h__law_is_below : Cal P w K mg base 1 "_law_is_below" ["one", "other"] G__law_is_below) (h__law_tight : Cal P w K mg base 4 "_law_tight" ["pairs"] G__law_tight) (h__law_of : Cal P w K mg base 2 "_law_of" ["pot", "some"] G__law_of) (Fd : ∃ fd, FunD K "_law_bounds" "_law_bounds" (defArgs st__law_bounds) (defBody st__law_bounds) (defScope st__law_bounds) [] [] (He.ga K "_law_bounds") fd) (hm : mg "_law_bounds" = some (.ref (He.ga K "_law_bounds"))) : Cal P w K mg base 5 "_law_bounds" ["pot", "chances"] G__law_bounds :=
  cal_ok Fd hm sc__law_bounds (fun _ _ _ _ _ _ us hl => match us, hl with | [_, _], _ => rfl) (fun _ _ _ _ _ _ us hl => match us, hl with | [_, _], _ => rfl) (fun f cdv A outer s H E hr => b__law_bounds c h__law_added h__law_less h__law_is_below h__law_tight h__law_of f cdv A outer s H E hr)
abbrev st_common : Stmt := top 12
theorem nd_common : N_common.Nodup := by decide +kernel
theorem sc_common : FnScope N_common ["one", "other"] (defScope st_common) := ⟨rfl, rfl, rfl, nd_common, rfl, by decide +kernel, by decide +kernel⟩
theorem b_common (c : Facts K mg)  (f : Addr) (cdv : Value) (A : Around) (outer : List PySem.Env) (s : Shared) (H : Hp) (E : XK) (hr : Room 0 (A.deeper (envOfC "common" (defScope st_common) s.heap.objs.size f cdv))) :
    ESs false (cxOf CX0 P w K mg base N_common "common" (defScope st_common) f cdv A outer s H E).nox (defBody st_common) m_common := by
  have hN := nd_common
  exact (ss_cons (s_par 0 1 rfl hN (a_cons (e_abs c.b_abs (e_v 0)) (a_cons (e_abs c.b_abs (e_v 1)) a_nil)))
  (ss_cons (s_while (fuI 1) PassesOwn.never (t_c c_gt (e_v 1) e_int) (ss_one (s_par 0 1 rfl hN (a_cons (e_v 1) (a_cons (e_mod (e_v 0) (e_v 1)) a_nil)))))
  (ss_one (s_ret (e_v 0)))))
theorem k_common (c : Facts K mg)  (Fd : ∃ fd, FunD K "common" "common" (defArgs st_common) (defBody st_common) (defScope st_common) [] [] (He.ga K "common") fd) (hm : mg "common" = some (.ref (He.ga K "common"))) : Cal P w K mg base 1 "common" ["one", "other"] G_common :=
  cal_ok Fd hm sc_common (fun _ _ _ _ _ _ us hl => match us, hl with | [_, _], _ => rfl) (fun _ _ _ _ _ _ us hl => match us, hl with | [_, _], _ => rfl) (fun f cdv A outer s H E hr => b_common c  f cdv A outer s H E hr)
abbrev st_reduced : Stmt := top 13
theorem nd_reduced : N_reduced.Nodup := by decide +kernel
theorem sc_reduced : FnScope N_reduced ["top", "low"] (defScope st_reduced) := ⟨rfl, rfl, rfl, nd_reduced, rfl, by decide +kernel, by decide +kernel⟩
theorem b_reduced (c : Facts K mg) (h_common : Cal P w K mg base 1 "common" ["one", "other"] G_common) (f : Addr) (cdv : Value) (A : Around) (outer : List PySem.Env) (s : Shared) (H : Hp) (E : XK) (hr : Room 1 (A.deeper (envOfC "reduced" (defScope st_reduced) s.heap.objs.size f cdv))) :
    ESs false (cxOf CX0 P w K mg base N_reduced "reduced" (defScope st_reduced) f cdv A outer s H E).nox (defBody st_reduced) m_reduced := by
  have hN := nd_reduced
  exact (ss_cons (s_set 2 hN (e_cl h_common hr (by decide) (b_cons (e_v 0) (b_cons (e_v 1) b_nil)) (nb_cons (nb_cons nb_nil))))
  (ss_cons (s_set 2 hN (e_if (t_c c_gt (e_v 1) e_int) (e_v 2) (e_sub e_int (e_v 2))))
  (ss_one (s_ret (e_tup (a_cons (e_div (e_v 0) (e_v 2)) (a_cons (e_div (e_v 1) (e_v 2)) a_nil)))))))
theorem k_reduced (c : Facts K mg) (h_common : Cal P w K mg base 1 "common" ["one", "other"] G_common) (Fd : ∃ fd, FunD K "reduced" "reduced" (defArgs st_reduced) (defBody st_reduced) (defScope st_reduced) [] [] (He.ga K "reduced") fd) (hm : mg "reduced" = some (.ref (He.ga K "reduced"))) : Cal P w K mg base 2 "reduced" ["top", "low"] G_reduced :=
  cal_ok Fd hm sc_reduced (fun _ _ _ _ _ _ us hl => match us, hl with | [_, _], _ => rfl) (fun _ _ _ _ _ _ us hl => match us, hl with | [_, _], _ => rfl) (fun f cdv A outer s H E hr => b_reduced c h_common f cdv A outer s H E hr)
abbrev st_sum_of : Stmt := top 17
theorem nd_sum_of : N_sum_of.Nodup := by decide +kernel
theorem sc_sum_of : FnScope N_sum_of ["some"] (defScope st_sum_of) := ⟨rfl, rfl, rfl, nd_sum_of, rfl, by decide +kernel, by decide +kernel⟩
theorem b_sum_of (c : Facts K mg) (h_reduced : Cal P w K mg base 2 "reduced" ["top", "low"] G_reduced) (f : Addr) (cdv : Value) (A : Around) (outer : List PySem.Env) (s : Shared) (H : Hp) (E : XK) (hr : Room 2 (A.deeper (envOfC "sum_of" (defScope st_sum_of) s.heap.objs.size f cdv))) :
    ESs false (cxOf CX0 P w K mg base N_sum_of "sum_of" (defScope st_sum_of) f cdv A outer s H E).nox (defBody st_sum_of) m_sum_of := by
  have hN := nd_sum_of
  exact (ss_cons (s_asg (e_tup (a_cons e_int (a_cons e_int a_nil))) (g_tup rfl (gs_cons (g_name 1 hN) (gs_cons (g_name 2 hN) gs_nil)) (hl := (len_cons (len_cons len_nil)))))
  (ss_cons (s_for PassesOwn.never rfl (i_any (e_v 0)) (g_name 3 hN) (ss_one (s_if (t_c (c_eq hr) (e_ix (e_v 3) e_int) (e_v 2)) (ss_one (s_set 1 hN (e_add (e_v 1) (e_ix (e_v 3) e_int)))) (ss_one (s_asg (e_cl h_reduced hr (by decide) (b_cons (e_add (e_mul (e_v 1) (e_ix (e_v 3) e_int)) (e_mul (e_ix (e_v 3) e_int) (e_v 2))) (b_cons (e_mul (e_v 2) (e_ix (e_v 3) e_int)) b_nil)) (nb_cons (nb_cons nb_nil))) (g_tup rfl (gs_cons (g_name 1 hN) (gs_cons (g_name 2 hN) gs_nil)) (hl := (len_cons (len_cons len_nil)))))))))
  (ss_one (s_ret (e_cl h_reduced hr (by decide) (b_cons (e_v 1) (b_cons (e_v 2) b_nil)) (nb_cons (nb_cons nb_nil)))))))
theorem k_sum_of (c : Facts K mg) (h_reduced : Cal P w K mg base 2 "reduced" ["top", "low"] G_reduced) (Fd : ∃ fd, FunD K "sum_of" "sum_of" (defArgs st_sum_of) (defBody st_sum_of) (defScope st_sum_of) [] [] (He.ga K "sum_of") fd) (hm : mg "sum_of" = some (.ref (He.ga K "sum_of"))) : Cal P w K mg base 3 "sum_of" ["some"] G_sum_of :=
  cal_ok Fd hm sc_sum_of (fun _ _ _ _ _ _ us hl => match us, hl with | [_], _ => rfl) (fun _ _ _ _ _ _ us hl => match us, hl with | [_], _ => rfl) (fun f cdv A outer s H E hr => b_sum_of c h_reduced f cdv A outer s H E hr)
abbrev st_dot_of : Stmt := top 18
theorem nd_dot_of : N_dot_of.Nodup := by decide +kernel
theorem sc_dot_of : FnScope N_dot_of ["one", "other"] (defScope st_dot_of) := ⟨rfl, rfl, rfl, nd_dot_of, rfl, by decide +kernel, by decide +kernel⟩
theorem b_dot_of (c : Facts K mg) (h_sum_of : Cal P w K mg base 3 "sum_of" ["some"] G_sum_of) (f : Addr) (cdv : Value) (A : Around) (outer : List PySem.Env) (s : Shared) (H : Hp) (E : XK) (hr : Room 3 (A.deeper (envOfC "dot_of" (defScope st_dot_of) s.heap.objs.size f cdv))) :
    ESs false (cxOf CX0 P w K mg base N_dot_of "dot_of" (defScope st_dot_of) f cdv A outer s H E).nox (defBody st_dot_of) m_dot_of := by
  have hN := nd_dot_of
  exact (ss_cons (s_setLc (own' := [("mine", 3), ("its", 4)]) 2 rfl hN (sw_true rfl rfl rfl (by kernel_rfl)) (i_zip c.b_zip (e_v 0) (e_v 1) rfl) (blkOk_by (by kernel_rfl)) (fun _ _ _ _ _ => (g_tup rfl (gs_cons (g_name 3 hN) (gs_cons (g_name 4 hN) gs_nil)) (hl := (len_cons (len_cons len_nil))))) (fun _ _ _ _ _ => (ts_one (w_pt (w_and (t_c (c_ne hr) (e_ix (e_v 3) e_int) e_int) (w_and1 (t_c (c_ne hr) (e_ix (e_v 4) e_int) e_int)))))) (fun _ _ _ _ _ => (e_tup (a_cons (e_v 3) (a_cons (e_v 4) a_nil)))))
  (ss_one (s_ret (e_cl h_sum_of hr (by decide) (b_cons (e_ofF (f_lc (own' := [("mine", 3), ("its", 4)]) rfl hN (i_any (e_v 2)) (blkOk_by (by kernel_rfl)) (fun _ _ _ _ _ => (g_tup rfl (gs_cons (g_name 3 hN) (gs_cons (g_name 4 hN) gs_nil)) (hl := (len_cons (len_cons len_nil))))) (fun _ _ _ _ _ => ts_nil) (fun _ _ _ _ _ => (e_tup (a_cons (e_mul (e_ix (e_v 3) e_int) (e_ix (e_v 4) e_int)) (a_cons (e_mul (e_ix (e_v 3) e_int) (e_ix (e_v 4) e_int)) a_nil)))))) b_nil) (nb_cons nb_nil)))))
theorem k_dot_of (c : Facts K mg) (h_sum_of : Cal P w K mg base 3 "sum_of" ["some"] G_sum_of) (Fd : ∃ fd, FunD K "dot_of" "dot_of" (defArgs st_dot_of) (defBody st_dot_of) (defScope st_dot_of) [] [] (He.ga K "dot_of") fd) (hm : mg "dot_of" = some (.ref (He.ga K "dot_of"))) : Cal P w K mg base 4 "dot_of" ["one", "other"] G_dot_of :=
  cal_ok Fd hm sc_dot_of (fun _ _ _ _ _ _ us hl => match us, hl with | [_, _], _ => rfl) (fun _ _ _ _ _ _ us hl => match us, hl with | [_, _], _ => rfl) (fun f cdv A outer s H E hr => b_dot_of c h_sum_of f cdv A outer s H E hr)
abbrev st_is_less : Stmt := top 19
theorem nd_is_less : N_is_less.Nodup := by decide +kernel
theorem sc_is_less : FnScope N_is_less ["one", "other"] (defScope st_is_less) := ⟨rfl, rfl, rfl, nd_is_less, rfl, by decide +kernel, by decide +kernel⟩
theorem b_is_less (c : Facts K mg)  (f : Addr) (cdv : Value) (A : Around) (outer : List PySem.Env) (s : Shared) (H : Hp) (E : XK) (hr : Room 0 (A.deeper (envOfC "is_less" (defScope st_is_less) s.heap.objs.size f cdv))) :
    ESs false (cxOf CX0 P w K mg base N_is_less "is_less" (defScope st_is_less) f cdv A outer s H E).nox (defBody st_is_less) m_is_less := by
  have hN := nd_is_less
  exact (ss_one (s_ret (e_c c_lt (e_mul (e_ix (e_v 0) e_int) (e_ix (e_v 1) e_int)) (e_mul (e_ix (e_v 1) e_int) (e_ix (e_v 0) e_int)))))
theorem k_is_less (c : Facts K mg)  (Fd : ∃ fd, FunD K "is_less" "is_less" (defArgs st_is_less) (defBody st_is_less) (defScope st_is_less) [] [] (He.ga K "is_less") fd) (hm : mg "is_less" = some (.ref (He.ga K "is_less"))) : Cal P w K mg base 1 "is_less" ["one", "other"] G_is_less :=
  cal_ok Fd hm sc_is_less (fun _ _ _ _ _ _ us hl => match us, hl with | [_, _], _ => rfl) (fun _ _ _ _ _ _ us hl => match us, hl with | [_, _], _ => rfl) (fun f cdv A outer s H E hr => b_is_less c  f cdv A outer s H E hr)
abbrev st_greatest_by : Stmt := top 41
theorem nd_greatest_by : N_greatest_by.Nodup := by decide +kernel
theorem sc_greatest_by : FnScope N_greatest_by ["laws", "numbers"] (defScope st_greatest_by) := ⟨rfl, rfl, rfl, nd_greatest_by, rfl, by decide +kernel, by decide +kernel⟩
theorem b_greatest_by (c : Facts K mg) (h_dot_of : Cal P w K mg base 4 "dot_of" ["one", "other"] G_dot_of) (h_is_less : Cal P w K mg base 1 "is_less" ["one", "other"] G_is_less) (f : Addr) (cdv : Value) (A : Around) (outer : List PySem.Env) (s : Shared) (H : Hp) (E : XK) (hr : Room 4 (A.deeper (envOfC "greatest_by" (defScope st_greatest_by) s.heap.objs.size f cdv))) :
    ESs false (cxOf CX0 P w K mg base N_greatest_by "greatest_by" (defScope st_greatest_by) f cdv A outer s H E).nox (defBody st_greatest_by) m_greatest_by := by
  have hN := nd_greatest_by
  exact (ss_cons (s_set 2 hN e_non)
  (ss_cons (s_for PassesOwn.never rfl (i_any (e_v 0)) (g_name 3 hN) (ss_cons (s_set 4 hN (e_cl h_dot_of hr (by decide) (b_cons (e_v 3) (b_cons (e_v 1) b_nil)) (nb_cons (nb_cons nb_nil))))
  (ss_one (s_if (w_pt (w_or (t_c c_is (e_v 2) e_non) (w_or1 (t_val (e_cl h_is_less hr (by decide) (b_cons (e_ix (e_v 2) e_int) (b_cons (e_v 4) b_nil)) (nb_cons (nb_cons nb_nil))))))) (ss_one (s_set 2 hN (e_tup (a_cons (e_v 4) (a_cons (e_v 3) a_nil))))) ss_nil))))
  (ss_one (s_ret (e_v 2)))))
theorem k_greatest_by (c : Facts K mg) (h_dot_of : Cal P w K mg base 4 "dot_of" ["one", "other"] G_dot_of) (h_is_less : Cal P w K mg base 1 "is_less" ["one", "other"] G_is_less) (Fd : ∃ fd, FunD K "greatest_by" "greatest_by" (defArgs st_greatest_by) (defBody st_greatest_by) (defScope st_greatest_by) [] [] (He.ga K "greatest_by") fd) (hm : mg "greatest_by" = some (.ref (He.ga K "greatest_by"))) : Cal P w K mg base 5 "greatest_by" ["laws", "numbers"] G_greatest_by :=
  cal_ok Fd hm sc_greatest_by (fun _ _ _ _ _ _ us hl => match us, hl with | [_, _], _ => rfl) (fun _ _ _ _ _ _ us hl => match us, hl with | [_, _], _ => rfl) (fun f cdv A outer s H E hr => b_greatest_by c h_dot_of h_is_less f cdv A outer s H E hr)
abbrev st_difference : Stmt := top 15
theorem nd_difference : N_difference.Nodup := by decide +kernel
theorem sc_difference : FnScope N_difference ["one", "other"] (defScope st_difference) := ⟨rfl, rfl, rfl, nd_difference, rfl, by decide +kernel, by decide +kernel⟩
theorem b_difference (c : Facts K mg) (h_reduced : Cal P w K mg base 2 "reduced" ["top", "low"] G_reduced) (f : Addr) (cdv : Value) (A : Around) (outer : List PySem.Env) (s : Shared) (H : Hp) (E : XK) (hr : Room 2 (A.deeper (envOfC "difference" (defScope st_difference) s.heap.objs.size f cdv))) :
    ESs false (cxOf CX0 P w K mg base N_difference "difference" (defScope st_difference) f cdv A outer s H E).nox (defBody st_difference) m_difference := by
  have hN := nd_difference
  exact (ss_one (s_ret (e_cl h_reduced hr (by decide) (b_cons (e_sub (e_mul (e_ix (e_v 0) e_int) (e_ix (e_v 1) e_int)) (e_mul (e_ix (e_v 1) e_int) (e_ix (e_v 0) e_int))) (b_cons (e_mul (e_ix (e_v 0) e_int) (e_ix (e_v 1) e_int)) b_nil)) (nb_cons (nb_cons nb_nil)))))
theorem k_difference (c : Facts K mg) (h_reduced : Cal P w K mg base 2 "reduced" ["top", "low"] G_reduced) (Fd : ∃ fd, FunD K "difference" "difference" (defArgs st_difference) (defBody st_difference) (defScope st_difference) [] [] (He.ga K "difference") fd) (hm : mg "difference" = some (.ref (He.ga K "difference"))) : Cal P w K mg base 3 "difference" ["one", "other"] G_difference :=
  cal_ok Fd hm sc_difference (fun _ _ _ _ _ _ us hl => match us, hl with | [_, _], _ => rfl) (fun _ _ _ _ _ _ us hl => match us, hl with | [_, _], _ => rfl) (fun f cdv A outer s H E hr => b_difference c h_reduced f cdv A outer s H E hr)
abbrev st_lies_within : Stmt := top 39
theorem nd_lies_within : N_lies_within.Nodup := by decide +kernel
theorem sc_lies_within : FnScope N_lies_within ["bounds", "chances"] (defScope st_lies_within) := ⟨rfl, rfl, rfl, nd_lies_within, rfl, by decide +kernel, by decide +kernel⟩
theorem b_lies_within (c : Facts K mg) (h_is_less : Cal P w K mg base 1 "is_less" ["one", "other"] G_is_less) (f : Addr) (cdv : Value) (A : Around) (outer : List PySem.Env) (s : Shared) (H : Hp) (E : XK) (hr : Room 1 (A.deeper (envOfC "lies_within" (defScope st_lies_within) s.heap.objs.size f cdv))) :
    ESs false (cxOf CX0 P w K mg base N_lies_within "lies_within" (defScope st_lies_within) f cdv A outer s H E).nox (defBody st_lies_within) m_lies_within := by
  have hN := nd_lies_within
  exact (ss_one (s_ret (e_not (e_any rfl c.b_any (e_ofF (f_lc (own' := [("one", 2), ("pair", 3)]) rfl hN (i_zip c.b_zip (e_v 1) (e_v 0) rfl) (blkOk_by (by kernel_rfl)) (fun _ _ _ _ _ => (g_tup rfl (gs_cons (g_name 2 hN) (gs_cons (g_name 3 hN) gs_nil)) (hl := (len_cons (len_cons len_nil))))) (fun _ _ _ _ _ => ts_nil) (fun _ _ _ _ _ => (e_or (e_cl h_is_less hr (by decide) (b_cons (e_v 2) (b_cons (e_ix (e_v 3) e_int) b_nil)) (nb_cons (nb_cons nb_nil))) (e_one (e_cl h_is_less hr (by decide) (b_cons (e_ix (e_v 3) e_int) (b_cons (e_v 2) b_nil)) (nb_cons (nb_cons nb_nil))))))))))))
theorem k_lies_within (c : Facts K mg) (h_is_less : Cal P w K mg base 1 "is_less" ["one", "other"] G_is_less) (Fd : ∃ fd, FunD K "lies_within" "lies_within" (defArgs st_lies_within) (defBody st_lies_within) (defScope st_lies_within) [] [] (He.ga K "lies_within") fd) (hm : mg "lies_within" = some (.ref (He.ga K "lies_within"))) : Cal P w K mg base 2 "lies_within" ["bounds", "chances"] G_lies_within :=
  cal_ok Fd hm sc_lies_within (fun _ _ _ _ _ _ us hl => match us, hl with | [_, _], _ => rfl) (fun _ _ _ _ _ _ us hl => match us, hl with | [_, _], _ => rfl) (fun f cdv A outer s H E hr => b_lies_within c h_is_less f cdv A outer s H E hr)
abbrev st_corners_within : Stmt := top 40
theorem nd_corners_within : N_corners_within.Nodup := by decide +kernel
theorem sc_corners_within : FnScope N_corners_within ["bounds"] (defScope st_corners_within) := ⟨rfl, rfl, rfl, nd_corners_within, rfl, by decide +kernel, by decide +kernel⟩
theorem b_corners_within (c : Facts K mg) (h_sum_of : Cal P w K mg base 3 "sum_of" ["some"] G_sum_of) (h_difference : Cal P w K mg base 3 "difference" ["one", "other"] G_difference) (h_lies_within : Cal P w K mg base 2 "lies_within" ["bounds", "chances"] G_lies_within) (f : Addr) (cdv : Value) (A : Around) (outer : List PySem.Env) (s : Shared) (H : Hp) (E : XK) (hr : Room 3 (A.deeper (envOfC "corners_within" (defScope st_corners_within) s.heap.objs.size f cdv))) :
    ESs false (cxOf CX0 P w K mg base N_corners_within "corners_within" (defScope st_corners_within) f cdv A outer s H E).nox (defBody st_corners_within) m_corners_within := by
  have hN := nd_corners_within
  exact (ss_cons (s_own 1 hN (f_lst a_nil))
  (ss_cons (s_for PassesOwn.never rfl (i_range1 c.b_range (e_len c.b_len (e_v 0))) (g_name 2 hN) (ss_cons (s_set 3 hN (e_ofF (f_lst (a_cons (e_tup a_nil) a_nil))))
  (ss_cons (s_for PassesOwn.never rfl (i_enum c.b_enumerate (e_v 0)) (g_tup rfl (gs_cons (g_name 4 hN) (gs_cons (g_name 5 hN) gs_nil)) (hl := (len_cons (len_cons len_nil)))) (ss_cons (s_set 6 hN (e_if (t_c (c_eq hr) (e_v 4) (e_v 2)) (e_ofF (f_lst (a_cons (e_glob c.g_ZERO) a_nil))) (e_if (t_c (c_eq hr) (e_ix (e_v 5) e_int) (e_ix (e_v 5) e_int)) (e_ofF (f_lst (a_cons (e_ix (e_v 5) e_int) a_nil))) (e_ofF (f_list c.b_list (e_v 5))))))
  (ss_one (s_setLc2 3 (own' := [("row", 7), ("one", 10)]) (vs1 := [10]) rfl hN (sw_true rfl rfl rfl (by kernel_rfl)) (i_any (e_v 3)) (blkOk_by (by kernel_rfl)) (fun _ _ _ _ _ => (g_name 7 hN)) (fun _ _ _ _ _ => ts_nil) (fun _ _ _ _ _ => (i_any (e_v 6))) (fun _ _ _ _ _ => (g_name 10 hN)) (fun _ _ _ _ _ => ts_nil) (fun _ _ _ _ _ => (e_tup (a_star (e_v 7) (a_cons (e_v 10) a_nil))))))))
  (ss_one (s_for PassesOwn.never rfl (i_any (e_v 3)) (g_name 7 hN) (ss_cons (s_set 8 hN (e_cl h_difference hr (by decide) (b_cons (e_glob c.g_ONE) (b_cons (e_cl h_sum_of hr (by decide) (b_cons (e_v 7) b_nil) (nb_cons nb_nil)) b_nil)) (nb_cons (nb_cons nb_nil))))
  (ss_cons (s_set 9 hN (e_tup (a_star (e_sl (e_v 7) o_none (o_some (e_v 2))) (a_cons (e_v 8) (a_star (e_sl (e_v 7) (o_some (e_add (e_v 2) e_int)) o_none) a_nil)))))
  (ss_one (s_if (w_pt (w_and (t_val (e_cl h_lies_within hr (by decide) (b_cons (e_v 0) (b_cons (e_v 9) b_nil)) (nb_cons (nb_cons nb_nil)))) (w_and1 (t_cOwn 1 (c_notIn hr) (e_v 9))))) (ss_one (s_append 1 (e_v 9))) ss_nil)))))))))
  (ss_frz 1 (ss_one (s_ret (e_v 1))))))
theorem k_corners_within (c : Facts K mg) (h_sum_of : Cal P w K mg base 3 "sum_of" ["some"] G_sum_of) (h_difference : Cal P w K mg base 3 "difference" ["one", "other"] G_difference) (h_lies_within : Cal P w K mg base 2 "lies_within" ["bounds", "chances"] G_lies_within) (Fd : ∃ fd, FunD K "corners_within" "corners_within" (defArgs st_corners_within) (defBody st_corners_within) (defScope st_corners_within) [] [] (He.ga K "corners_within") fd) (hm : mg "corners_within" = some (.ref (He.ga K "corners_within"))) : Cal P w K mg base 4 "corners_within" ["bounds"] G_corners_within :=
  cal_ok Fd hm sc_corners_within (fun _ _ _ _ _ _ us hl => match us, hl with | [_], _ => rfl) (fun _ _ _ _ _ _ us hl => match us, hl with | [_], _ => rfl) (fun f cdv A outer s H E hr => b_corners_within c h_sum_of h_difference h_lies_within f cdv A outer s H E hr)
abbrev st_greatest_told : Stmt := top 42
theorem nd_greatest_told : N_greatest_told.Nodup := by decide +kernel
theorem sc_greatest_told : FnScope N_greatest_told ["bounds", "numbers"] (defScope st_greatest_told) := ⟨rfl, rfl, rfl, nd_greatest_told, rfl, by decide +kernel, by decide +kernel⟩
theorem b_greatest_told (c : Facts K mg) (h_greatest_by : Cal P w K mg base 5 "greatest_by" ["laws", "numbers"] G_greatest_by) (h_corners_within : Cal P w K mg base 4 "corners_within" ["bounds"] G_corners_within) (f : Addr) (cdv : Value) (A : Around) (outer : List PySem.Env) (s : Shared) (H : Hp) (E : XK) (hr : Room 5 (A.deeper (envOfC "greatest_told" (defScope st_greatest_told) s.heap.objs.size f cdv))) :
    ESs false (cxOf CX0 P w K mg base N_greatest_told "greatest_told" (defScope st_greatest_told) f cdv A outer s H E).nox (defBody st_greatest_told) m_greatest_told := by
  have hN := nd_greatest_told
  exact (ss_one (s_ret (e_cl h_greatest_by hr (by decide) (b_cons (e_cl h_corners_within hr (by decide) (b_cons (e_v 0) b_nil) (nb_cons nb_nil)) (b_cons (e_v 1) b_nil)) (nb_cons (nb_cons nb_nil)))))
theorem k_greatest_told (c : Facts K mg) (h_greatest_by : Cal P w K mg base 5 "greatest_by" ["laws", "numbers"] G_greatest_by) (h_corners_within : Cal P w K mg base 4 "corners_within" ["bounds"] G_corners_within) (Fd : ∃ fd, FunD K "greatest_told" "greatest_told" (defArgs st_greatest_told) (defBody st_greatest_told) (defScope st_greatest_told) [] [] (He.ga K "greatest_told") fd) (hm : mg "greatest_told" = some (.ref (He.ga K "greatest_told"))) : Cal P w K mg base 6 "greatest_told" ["bounds", "numbers"] G_greatest_told :=
  cal_ok Fd hm sc_greatest_told (fun _ _ _ _ _ _ us hl => match us, hl with | [_, _], _ => rfl) (fun _ _ _ _ _ _ us hl => match us, hl with | [_, _], _ => rfl) (fun f cdv A outer s H E hr => b_greatest_told c h_greatest_by h_corners_within f cdv A outer s H E hr)
abbrev st_is_integer : Stmt := top 7
theorem nd_is_integer : N_is_integer.Nodup := by decide +kernel
theorem sc_is_integer : FnScope N_is_integer ["value"] (defScope st_is_integer) := ⟨rfl, rfl, rfl, nd_is_integer, rfl, by decide +kernel, by decide +kernel⟩
theorem b_is_integer (c : Facts K mg)  (f : Addr) (cdv : Value) (A : Around) (outer : List PySem.Env) (s : Shared) (H : Hp) (E : XK) (hr : Room 0 (A.deeper (envOfC "is_integer" (defScope st_is_integer) s.heap.objs.size f cdv))) :
    ESs false (cxOf CX0 P w K mg base N_is_integer "is_integer" (defScope st_is_integer) f cdv A outer s H E).nox (defBody st_is_integer) m_is_integer := by
  have hN := nd_is_integer
  exact (ss_one (s_ret (e_and (e_isi "int" (by decide +kernel) c.b_isinstance c.b_int (by decide +kernel) (e_v 0)) (e_one (e_not (e_isi "bool" (by decide +kernel) c.b_isinstance c.b_bool (by decide +kernel) (e_v 0)))))))
theorem k_is_integer (c : Facts K mg)  (Fd : ∃ fd, FunD K "is_integer" "is_integer" (defArgs st_is_integer) (defBody st_is_integer) (defScope st_is_integer) [] [] (He.ga K "is_integer") fd) (hm : mg "is_integer" = some (.ref (He.ga K "is_integer"))) : Cal P w K mg base 1 "is_integer" ["value"] G_is_integer :=
  cal_ok Fd hm sc_is_integer (fun _ _ _ _ _ _ us hl => match us, hl with | [_], _ => rfl) (fun _ _ _ _ _ _ us hl => match us, hl with | [_], _ => rfl) (fun f cdv A outer s H E hr => b_is_integer c  f cdv A outer s H E hr)
abbrev st_is_told_fraction : Stmt := top 20
theorem nd_is_told_fraction : N_is_told_fraction.Nodup := by decide +kernel
theorem sc_is_told_fraction : FnScope N_is_told_fraction ["value"] (defScope st_is_told_fraction) := ⟨rfl, rfl, rfl, nd_is_told_fraction, rfl, by decide +kernel, by decide +kernel⟩
theorem b_is_told_fraction (c : Facts K mg) (h_common : Cal P w K mg base 1 "common" ["one", "other"] G_common) (h_is_integer : Cal P w K mg base 1 "is_integer" ["value"] G_is_integer) (f : Addr) (cdv : Value) (A : Around) (outer : List PySem.Env) (s : Shared) (H : Hp) (E : XK) (hr : Room 1 (A.deeper (envOfC "is_told_fraction" (defScope st_is_told_fraction) s.heap.objs.size f cdv))) :
    ESs false (cxOf CX0 P w K mg base N_is_told_fraction "is_told_fraction" (defScope st_is_told_fraction) f cdv A outer s H E).nox (defBody st_is_told_fraction) m_is_told_fraction := by
  have hN := nd_is_told_fraction
  exact (ss_cons (s_if (w_pt (w_or (t_not (t_val (e_isi "tuple" (by decide +kernel) c.b_isinstance c.b_tuple (by decide +kernel) (e_v 0)))) (w_or (t_c (c_ne hr) (e_len c.b_len (e_v 0)) e_int) (w_or1 (t_not (t_val (e_all rfl c.b_all (e_ofF (f_lc (own' := [("part", 1)]) rfl hN (i_any (e_v 0)) (blkOk_by (by kernel_rfl)) (fun _ _ _ _ _ => (g_name 1 hN)) (fun _ _ _ _ _ => ts_nil) (fun _ _ _ _ _ => (e_cl h_is_integer hr (by decide) (b_cons (e_v 1) b_nil) (nb_cons nb_nil)))))))))))) (ss_one (s_ret e_bl)) ss_nil)
  (ss_one (s_ret (e_and (e_c c_gt (e_ix (e_v 0) e_int) e_int) (e_one (e_c (c_eq hr) (e_cl h_common hr (by decide) (b_cons (e_ix (e_v 0) e_int) (b_cons (e_ix (e_v 0) e_int) b_nil)) (nb_cons (nb_cons nb_nil))) e_int))))))
theorem k_is_told_fraction (c : Facts K mg) (h_common : Cal P w K mg base 1 "common" ["one", "other"] G_common) (h_is_integer : Cal P w K mg base 1 "is_integer" ["value"] G_is_integer) (Fd : ∃ fd, FunD K "is_told_fraction" "is_told_fraction" (defArgs st_is_told_fraction) (defBody st_is_told_fraction) (defScope st_is_told_fraction) [] [] (He.ga K "is_told_fraction") fd) (hm : mg "is_told_fraction" = some (.ref (He.ga K "is_told_fraction"))) : Cal P w K mg base 2 "is_told_fraction" ["value"] G_is_told_fraction :=
  cal_ok Fd hm sc_is_told_fraction (fun _ _ _ _ _ _ us hl => match us, hl with | [_], _ => rfl) (fun _ _ _ _ _ _ us hl => match us, hl with | [_], _ => rfl) (fun f cdv A outer s H E hr => b_is_told_fraction c h_common h_is_integer f cdv A outer s H E hr)
abbrev st_is_fraction : Stmt := top 22
theorem nd_is_fraction : N_is_fraction.Nodup := by decide +kernel
theorem sc_is_fraction : FnScope N_is_fraction ["value"] (defScope st_is_fraction) := ⟨rfl, rfl, rfl, nd_is_fraction, rfl, by decide +kernel, by decide +kernel⟩
theorem b_is_fraction (c : Facts K mg) (h_is_told_fraction : Cal P w K mg base 2 "is_told_fraction" ["value"] G_is_told_fraction) (f : Addr) (cdv : Value) (A : Around) (outer : List PySem.Env) (s : Shared) (H : Hp) (E : XK) (hr : Room 2 (A.deeper (envOfC "is_fraction" (defScope st_is_fraction) s.heap.objs.size f cdv))) :
    ESs false (cxOf CX0 P w K mg base N_is_fraction "is_fraction" (defScope st_is_fraction) f cdv A outer s H E).nox (defBody st_is_fraction) m_is_fraction := by
  have hN := nd_is_fraction
  exact (ss_one (s_ret (e_cl h_is_told_fraction hr (by decide) (b_cons (e_v 0) b_nil) (nb_cons nb_nil))))
theorem k_is_fraction (c : Facts K mg) (h_is_told_fraction : Cal P w K mg base 2 "is_told_fraction" ["value"] G_is_told_fraction) (Fd : ∃ fd, FunD K "is_fraction" "is_fraction" (defArgs st_is_fraction) (defBody st_is_fraction) (defScope st_is_fraction) [] [] (He.ga K "is_fraction") fd) (hm : mg "is_fraction" = some (.ref (He.ga K "is_fraction"))) : Cal P w K mg base 3 "is_fraction" ["value"] G_is_fraction :=
  cal_ok Fd hm sc_is_fraction (fun _ _ _ _ _ _ us hl => match us, hl with | [_], _ => rfl) (fun _ _ _ _ _ _ us hl => match us, hl with | [_], _ => rfl) (fun f cdv A outer s H E hr => b_is_fraction c h_is_told_fraction f cdv A outer s H E hr)
abbrev st_are_pairs_of : Stmt := top 29
theorem nd_are_pairs_of : N_are_pairs_of.Nodup := by decide +kernel
theorem sc_are_pairs_of : FnScope N_are_pairs_of ["value", "signs"] (defScope st_are_pairs_of) := ⟨rfl, rfl, rfl, nd_are_pairs_of, rfl, by decide +kernel, by decide +kernel⟩
theorem b_are_pairs_of (c : Facts K mg) (h_is_fraction : Cal P w K mg base 3 "is_fraction" ["value"] G_is_fraction) (f : Addr) (cdv : Value) (A : Around) (outer : List PySem.Env) (s : Shared) (H : Hp) (E : XK) (hr : Room 3 (A.deeper (envOfC "are_pairs_of" (defScope st_are_pairs_of) s.heap.objs.size f cdv))) :
    ESs false (cxOf CX0 P w K mg base N_are_pairs_of "are_pairs_of" (defScope st_are_pairs_of) f cdv A outer s H E).nox (defBody st_are_pairs_of) m_are_pairs_of := by
  have hN := nd_are_pairs_of
  exact (ss_cons (s_if (w_pt (w_or (t_not (t_val (e_isi "tuple" (by decide +kernel) c.b_isinstance c.b_tuple (by decide +kernel) (e_v 0)))) (w_or1 (t_c (c_ne hr) (e_len c.b_len (e_v 0)) (e_v 1))))) (ss_one (s_ret e_bl)) ss_nil)
  (ss_cons (s_if (t_not (t_val (e_all rfl c.b_all (e_ofF (f_lc (own' := [("pair", 2)]) rfl hN (i_any (e_v 0)) (blkOk_by (by kernel_rfl)) (fun _ _ _ _ _ => (g_name 2 hN)) (fun _ _ _ _ _ => ts_nil) (fun _ _ _ _ _ => (e_and (e_isi "tuple" (by decide +kernel) c.b_isinstance c.b_tuple (by decide +kernel) (e_v 2)) (e_one (e_c (c_eq hr) (e_len c.b_len (e_v 2)) e_int))))))))) (ss_one (s_ret e_bl)) ss_nil)
  (ss_one (s_ret (e_all rfl c.b_all (e_ofF (f_lc (own' := [("pair", 2)]) rfl hN (i_any (e_v 0)) (blkOk_by (by kernel_rfl)) (fun _ _ _ _ _ => (g_name 2 hN)) (fun _ _ _ _ _ => ts_nil) (fun _ _ _ _ _ => (e_all rfl c.b_all (e_ofF (f_lc (own' := [("one", 3)]) rfl hN (i_any (e_v 2)) (blkOk_by (by kernel_rfl)) (fun _ _ _ _ _ => (g_name 3 hN)) (fun _ _ _ _ _ => ts_nil) (fun _ _ _ _ _ => (e_cl h_is_fraction hr (by decide) (b_cons (e_v 3) b_nil) (nb_cons nb_nil))))))))))))))
theorem k_are_pairs_of (c : Facts K mg) (h_is_fraction : Cal P w K mg base 3 "is_fraction" ["value"] G_is_fraction) (Fd : ∃ fd, FunD K "are_pairs_of" "are_pairs_of" (defArgs st_are_pairs_of) (defBody st_are_pairs_of) (defScope st_are_pairs_of) [] [] (He.ga K "are_pairs_of") fd) (hm : mg "are_pairs_of" = some (.ref (He.ga K "are_pairs_of"))) : Cal P w K mg base 4 "are_pairs_of" ["value", "signs"] G_are_pairs_of :=
  cal_ok Fd hm sc_are_pairs_of (fun _ _ _ _ _ _ us hl => match us, hl with | [_, _], _ => rfl) (fun _ _ _ _ _ _ us hl => match us, hl with | [_, _], _ => rfl) (fun f cdv A outer s H E hr => b_are_pairs_of c h_is_fraction f cdv A outer s H E hr)
abbrev st_lows_and_highs : Stmt := top 30
theorem nd_lows_and_highs : N_lows_and_highs.Nodup := by decide +kernel
theorem sc_lows_and_highs : FnScope N_lows_and_highs ["pairs"] (defScope st_lows_and_highs) := ⟨rfl, rfl, rfl, nd_lows_and_highs, rfl, by decide +kernel, by decide +kernel⟩
theorem b_lows_and_highs (c : Facts K mg) (h_sum_of : Cal P w K mg base 3 "sum_of" ["some"] G_sum_of) (f : Addr) (cdv : Value) (A : Around) (outer : List PySem.Env) (s : Shared) (H : Hp) (E : XK) (hr : Room 3 (A.deeper (envOfC "lows_and_highs" (defScope st_lows_and_highs) s.heap.objs.size f cdv))) :
    ESs false (cxOf CX0 P w K mg base N_lows_and_highs "lows_and_highs" (defScope st_lows_and_highs) f cdv A outer s H E).nox (defBody st_lows_and_highs) m_lows_and_highs := by
  have hN := nd_lows_and_highs
  exact (ss_one (s_ret (e_tup (a_cons (e_cl h_sum_of hr (by decide) (b_cons (e_ofF (f_lc (own' := [("pair", 1)]) rfl hN (i_any (e_v 0)) (blkOk_by (by kernel_rfl)) (fun _ _ _ _ _ => (g_name 1 hN)) (fun _ _ _ _ _ => ts_nil) (fun _ _ _ _ _ => (e_ix (e_v 1) e_int)))) b_nil) (nb_cons nb_nil)) (a_cons (e_cl h_sum_of hr (by decide) (b_cons (e_ofF (f_lc (own' := [("pair", 1)]) rfl hN (i_any (e_v 0)) (blkOk_by (by kernel_rfl)) (fun _ _ _ _ _ => (g_name 1 hN)) (fun _ _ _ _ _ => ts_nil) (fun _ _ _ _ _ => (e_ix (e_v 1) e_int)))) b_nil) (nb_cons nb_nil)) a_nil)))))
theorem k_lows_and_highs (c : Facts K mg) (h_sum_of : Cal P w K mg base 3 "sum_of" ["some"] G_sum_of) (Fd : ∃ fd, FunD K "lows_and_highs" "lows_and_highs" (defArgs st_lows_and_highs) (defBody st_lows_and_highs) (defScope st_lows_and_highs) [] [] (He.ga K "lows_and_highs") fd) (hm : mg "lows_and_highs" = some (.ref (He.ga K "lows_and_highs"))) : Cal P w K mg base 4 "lows_and_highs" ["pairs"] G_lows_and_highs :=
  cal_ok Fd hm sc_lows_and_highs (fun _ _ _ _ _ _ us hl => match us, hl with | [_], _ => rfl) (fun _ _ _ _ _ _ us hl => match us, hl with | [_], _ => rfl) (fun f cdv A outer s H E hr => b_lows_and_highs c h_sum_of f cdv A outer s H E hr)
abbrev st_narrowed : Stmt := top 32
theorem nd_narrowed : N_narrowed.Nodup := by decide +kernel
theorem sc_narrowed : FnScope N_narrowed ["pairs"] (defScope st_narrowed) := ⟨rfl, rfl, rfl, nd_narrowed, rfl, by decide +kernel, by decide +kernel⟩
theorem b_narrowed (c : Facts K mg) (h_is_less : Cal P w K mg base 1 "is_less" ["one", "other"] G_is_less) (h_difference : Cal P w K mg base 3 "difference" ["one", "other"] G_difference) (h_lows_and_highs : Cal P w K mg base 4 "lows_and_highs" ["pairs"] G_lows_and_highs) (f : Addr) (cdv : Value) (A : Around) (outer : List PySem.Env) (s : Shared) (H : Hp) (E : XK) (hr : Room 4 (A.deeper (envOfC "narrowed" (defScope st_narrowed) s.heap.objs.size f cdv))) :
    ESs false (cxOf CX0 P w K mg base N_narrowed "narrowed" (defScope st_narrowed) f cdv A outer s H E).nox (defBody st_narrowed) m_narrowed := by
  have hN := nd_narrowed
  exact (ss_cons (s_setLc (own' := [("pair", 9)]) 1 rfl hN (sw_true rfl rfl rfl (by kernel_rfl)) (i_any (e_v 0)) (blkOk_by (by kernel_rfl)) (fun _ _ _ _ _ => (g_name 9 hN)) (fun _ _ _ _ _ => ts_nil) (fun _ _ _ _ _ => (e_tup (a_cons (e_if (t_c c_ge (e_ix (e_ix (e_v 9) e_int) e_int) e_int) (e_ix (e_v 9) e_int) (e_tup (a_cons e_int (a_cons e_int a_nil)))) (a_cons (e_if (t_val (e_cl h_is_less hr (by decide) (b_cons (e_glob c.g_ONE) (b_cons (e_ix (e_v 9) e_int) b_nil)) (nb_cons (nb_cons nb_nil)))) (e_glob c.g_ONE) (e_ix (e_v 9) e_int)) a_nil)))))
  (ss_cons (s_asg (e_cl h_lows_and_highs hr (by decide) (b_cons (e_v 1) b_nil) (nb_cons nb_nil)) (g_tup rfl (gs_cons (g_name 2 hN) (gs_cons (g_name 3 hN) gs_nil)) (hl := (len_cons (len_cons len_nil)))))
  (ss_cons (s_if (w_pt (w_or (t_val (e_any rfl c.b_any (e_ofF (f_lc (own' := [("pair", 9)]) rfl hN (i_any (e_v 1)) (blkOk_by (by kernel_rfl)) (fun _ _ _ _ _ => (g_name 9 hN)) (fun _ _ _ _ _ => ts_nil) (fun _ _ _ _ _ => (e_cl h_is_less hr (by decide) (b_cons (e_ix (e_v 9) e_int) (b_cons (e_ix (e_v 9) e_int) b_nil)) (nb_cons (nb_cons nb_nil)))))))) (w_or (t_val (e_cl h_is_less hr (by decide) (b_cons (e_glob c.g_ONE) (b_cons (e_v 2) b_nil)) (nb_cons (nb_cons nb_nil)))) (w_or1 (t_val (e_cl h_is_less hr (by decide) (b_cons (e_v 3) (b_cons (e_glob c.g_ONE) b_nil)) (nb_cons (nb_cons nb_nil)))))))) (ss_one (s_ret e_non)) ss_nil)
  (ss_cons (s_own 4 hN (f_lst a_nil))
  (ss_cons (s_for PassesOwn.never rfl (i_any (e_v 1)) (g_tup rfl (gs_cons (g_name 5 hN) (gs_cons (g_name 6 hN) gs_nil)) (hl := (len_cons (len_cons len_nil)))) (ss_cons (s_par 7 8 rfl hN (a_cons (e_cl h_difference hr (by decide) (b_cons (e_glob c.g_ONE) (b_cons (e_cl h_difference hr (by decide) (b_cons (e_v 3) (b_cons (e_v 6) b_nil)) (nb_cons (nb_cons nb_nil))) b_nil)) (nb_cons (nb_cons nb_nil))) (a_cons (e_cl h_difference hr (by decide) (b_cons (e_glob c.g_ONE) (b_cons (e_cl h_difference hr (by decide) (b_cons (e_v 2) (b_cons (e_v 5) b_nil)) (nb_cons (nb_cons nb_nil))) b_nil)) (nb_cons (nb_cons nb_nil))) a_nil)))
  (ss_one (s_append 4 (e_tup (a_cons (e_if (t_val (e_cl h_is_less hr (by decide) (b_cons (e_v 5) (b_cons (e_v 7) b_nil)) (nb_cons (nb_cons nb_nil)))) (e_v 7) (e_v 5)) (a_cons (e_if (t_val (e_cl h_is_less hr (by decide) (b_cons (e_v 8) (b_cons (e_v 6) b_nil)) (nb_cons (nb_cons nb_nil)))) (e_v 8) (e_v 6)) a_nil)))))))
  (ss_frz 4 (ss_one (s_ret (e_tuple c.b_tuple (e_v 4))))))))))
theorem k_narrowed (c : Facts K mg) (h_is_less : Cal P w K mg base 1 "is_less" ["one", "other"] G_is_less) (h_difference : Cal P w K mg base 3 "difference" ["one", "other"] G_difference) (h_lows_and_highs : Cal P w K mg base 4 "lows_and_highs" ["pairs"] G_lows_and_highs) (Fd : ∃ fd, FunD K "narrowed" "narrowed" (defArgs st_narrowed) (defBody st_narrowed) (defScope st_narrowed) [] [] (He.ga K "narrowed") fd) (hm : mg "narrowed" = some (.ref (He.ga K "narrowed"))) : Cal P w K mg base 5 "narrowed" ["pairs"] G_narrowed :=
  cal_ok Fd hm sc_narrowed (fun _ _ _ _ _ _ us hl => match us, hl with | [_], _ => rfl) (fun _ _ _ _ _ _ us hl => match us, hl with | [_], _ => rfl) (fun f cdv A outer s H E hr => b_narrowed c h_is_less h_difference h_lows_and_highs f cdv A outer s H E hr)
abbrev st_is_bounds_of : Stmt := top 31
theorem nd_is_bounds_of : N_is_bounds_of.Nodup := by decide +kernel
theorem sc_is_bounds_of : FnScope N_is_bounds_of ["value", "signs"] (defScope st_is_bounds_of) := ⟨rfl, rfl, rfl, nd_is_bounds_of, rfl, by decide +kernel, by decide +kernel⟩
theorem b_is_bounds_of (c : Facts K mg) (h_are_pairs_of : Cal P w K mg base 4 "are_pairs_of" ["value", "signs"] G_are_pairs_of) (h_narrowed : Cal P w K mg base 5 "narrowed" ["pairs"] G_narrowed) (f : Addr) (cdv : Value) (A : Around) (outer : List PySem.Env) (s : Shared) (H : Hp) (E : XK) (hr : Room 5 (A.deeper (envOfC "is_bounds_of" (defScope st_is_bounds_of) s.heap.objs.size f cdv))) :
    ESs false (cxOf CX0 P w K mg base N_is_bounds_of "is_bounds_of" (defScope st_is_bounds_of) f cdv A outer s H E).nox (defBody st_is_bounds_of) m_is_bounds_of := by
  have hN := nd_is_bounds_of
  exact (ss_one (s_ret (e_and (e_cl h_are_pairs_of hr (by decide) (b_cons (e_v 0) (b_cons (e_v 1) b_nil)) (nb_cons (nb_cons nb_nil))) (e_one (e_c (c_eq hr) (e_cl h_narrowed hr (by decide) (b_cons (e_v 0) b_nil) (nb_cons nb_nil)) (e_v 0))))))
theorem k_is_bounds_of (c : Facts K mg) (h_are_pairs_of : Cal P w K mg base 4 "are_pairs_of" ["value", "signs"] G_are_pairs_of) (h_narrowed : Cal P w K mg base 5 "narrowed" ["pairs"] G_narrowed) (Fd : ∃ fd, FunD K "is_bounds_of" "is_bounds_of" (defArgs st_is_bounds_of) (defBody st_is_bounds_of) (defScope st_is_bounds_of) [] [] (He.ga K "is_bounds_of") fd) (hm : mg "is_bounds_of" = some (.ref (He.ga K "is_bounds_of"))) : Cal P w K mg base 6 "is_bounds_of" ["value", "signs"] G_is_bounds_of :=
  cal_ok Fd hm sc_is_bounds_of (fun _ _ _ _ _ _ us hl => match us, hl with | [_, _], _ => rfl) (fun _ _ _ _ _ _ us hl => match us, hl with | [_, _], _ => rfl) (fun f cdv A outer s H E hr => b_is_bounds_of c h_are_pairs_of h_narrowed f cdv A outer s H E hr)
abbrev st_is_any_bounds : Stmt := top 38
theorem nd_is_any_bounds : N_is_any_bounds.Nodup := by decide +kernel
theorem sc_is_any_bounds : FnScope N_is_any_bounds ["value"] (defScope st_is_any_bounds) := ⟨rfl, rfl, rfl, nd_is_any_bounds, rfl, by decide +kernel, by decide +kernel⟩
theorem b_is_any_bounds (c : Facts K mg) (h_is_bounds_of : Cal P w K mg base 6 "is_bounds_of" ["value", "signs"] G_is_bounds_of) (f : Addr) (cdv : Value) (A : Around) (outer : List PySem.Env) (s : Shared) (H : Hp) (E : XK) (hr : Room 6 (A.deeper (envOfC "is_any_bounds" (defScope st_is_any_bounds) s.heap.objs.size f cdv))) :
    ESs false (cxOf CX0 P w K mg base N_is_any_bounds "is_any_bounds" (defScope st_is_any_bounds) f cdv A outer s H E).nox (defBody st_is_any_bounds) m_is_any_bounds := by
  have hN := nd_is_any_bounds
  exact (ss_cons (s_if (w_pt (w_or (t_not (t_val (e_isi "tuple" (by decide +kernel) c.b_isinstance c.b_tuple (by decide +kernel) (e_v 0)))) (w_or1 (t_not (t_cc c_le c_le (e_glob c.g_LEAST_SIGNS) (e_len c.b_len (e_v 0)) (e_glob c.g_MOST_SIGNS_TOLD)))))) (ss_one (s_ret e_bl)) ss_nil)
  (ss_one (s_ret (e_cl h_is_bounds_of hr (by decide) (b_cons (e_v 0) (b_cons (e_len c.b_len (e_v 0)) b_nil)) (nb_cons (nb_cons nb_nil))))))
theorem k_is_any_bounds (c : Facts K mg) (h_is_bounds_of : Cal P w K mg base 6 "is_bounds_of" ["value", "signs"] G_is_bounds_of) (Fd : ∃ fd, FunD K "is_any_bounds" "is_any_bounds" (defArgs st_is_any_bounds) (defBody st_is_any_bounds) (defScope st_is_any_bounds) [] [] (He.ga K "is_any_bounds") fd) (hm : mg "is_any_bounds" = some (.ref (He.ga K "is_any_bounds"))) : Cal P w K mg base 7 "is_any_bounds" ["value"] G_is_any_bounds :=
  cal_ok Fd hm sc_is_any_bounds (fun _ _ _ _ _ _ us hl => match us, hl with | [_], _ => rfl) (fun _ _ _ _ _ _ us hl => match us, hl with | [_], _ => rfl) (fun f cdv A outer s H E hr => b_is_any_bounds c h_is_bounds_of f cdv A outer s H E hr)
abbrev st_are_fractions : Stmt := top 21
theorem nd_are_fractions : N_are_fractions.Nodup := by decide +kernel
theorem sc_are_fractions : FnScope N_are_fractions ["value", "many"] (defScope st_are_fractions) := ⟨rfl, rfl, rfl, nd_are_fractions, rfl, by decide +kernel, by decide +kernel⟩
theorem b_are_fractions (c : Facts K mg) (h_is_told_fraction : Cal P w K mg base 2 "is_told_fraction" ["value"] G_is_told_fraction) (f : Addr) (cdv : Value) (A : Around) (outer : List PySem.Env) (s : Shared) (H : Hp) (E : XK) (hr : Room 2 (A.deeper (envOfC "are_fractions" (defScope st_are_fractions) s.heap.objs.size f cdv))) :
    ESs false (cxOf CX0 P w K mg base N_are_fractions "are_fractions" (defScope st_are_fractions) f cdv A outer s H E).nox (defBody st_are_fractions) m_are_fractions := by
  have hN := nd_are_fractions
  exact (ss_one (s_ret (e_and (e_isi "tuple" (by decide +kernel) c.b_isinstance c.b_tuple (by decide +kernel) (e_v 0)) (e_and (e_c (c_eq hr) (e_len c.b_len (e_v 0)) (e_v 1)) (e_one (e_all rfl c.b_all (e_ofF (f_lc (own' := [("one", 2)]) rfl hN (i_any (e_v 0)) (blkOk_by (by kernel_rfl)) (fun _ _ _ _ _ => (g_name 2 hN)) (fun _ _ _ _ _ => ts_nil) (fun _ _ _ _ _ => (e_cl h_is_told_fraction hr (by decide) (b_cons (e_v 2) b_nil) (nb_cons nb_nil)))))))))))
theorem k_are_fractions (c : Facts K mg) (h_is_told_fraction : Cal P w K mg base 2 "is_told_fraction" ["value"] G_is_told_fraction) (Fd : ∃ fd, FunD K "are_fractions" "are_fractions" (defArgs st_are_fractions) (defBody st_are_fractions) (defScope st_are_fractions) [] [] (He.ga K "are_fractions") fd) (hm : mg "are_fractions" = some (.ref (He.ga K "are_fractions"))) : Cal P w K mg base 3 "are_fractions" ["value", "many"] G_are_fractions :=
  cal_ok Fd hm sc_are_fractions (fun _ _ _ _ _ _ us hl => match us, hl with | [_, _], _ => rfl) (fun _ _ _ _ _ _ us hl => match us, hl with | [_, _], _ => rfl) (fun f cdv A outer s H E hr => b_are_fractions c h_is_told_fraction f cdv A outer s H E hr)
abbrev st_greatest_sum : Stmt := top 44
theorem nd_greatest_sum : N_greatest_sum.Nodup := by decide +kernel
theorem sc_greatest_sum : FnScope N_greatest_sum ["bounds", "numbers"] (defScope st_greatest_sum) := ⟨rfl, rfl, rfl, nd_greatest_sum, rfl, by decide +kernel, by decide +kernel⟩
theorem b_greatest_sum (c : Facts K mg) (h_greatest_told : Cal P w K mg base 6 "greatest_told" ["bounds", "numbers"] G_greatest_told) (h_is_any_bounds : Cal P w K mg base 7 "is_any_bounds" ["value"] G_is_any_bounds) (h_are_fractions : Cal P w K mg base 3 "are_fractions" ["value", "many"] G_are_fractions) (f : Addr) (cdv : Value) (A : Around) (outer : List PySem.Env) (s : Shared) (H : Hp) (E : XK) (hr : Room 7 (A.deeper (envOfC "greatest_sum" (defScope st_greatest_sum) s.heap.objs.size f cdv))) :
    ESs false (cxOf CX0 P w K mg base N_greatest_sum "greatest_sum" (defScope st_greatest_sum) f cdv A outer s H E).nox (defBody st_greatest_sum) m_greatest_sum := by
  have hN := nd_greatest_sum
  exact (ss_cons (s_if (t_not (t_val (e_cl h_is_any_bounds hr (by decide) (b_cons (e_v 0) b_nil) (nb_cons nb_nil)))) (ss_one s_never) ss_nil)
  (ss_cons (s_if (t_not (t_val (e_cl h_are_fractions hr (by decide) (b_cons (e_v 1) (b_cons (e_len c.b_len (e_v 0)) b_nil)) (nb_cons (nb_cons nb_nil))))) (ss_one s_never) ss_nil)
  (ss_one (s_ret (e_cl h_greatest_told hr (by decide) (b_cons (e_v 0) (b_cons (e_v 1) b_nil)) (nb_cons (nb_cons nb_nil)))))))
theorem k_greatest_sum (c : Facts K mg) (h_greatest_told : Cal P w K mg base 6 "greatest_told" ["bounds", "numbers"] G_greatest_told) (h_is_any_bounds : Cal P w K mg base 7 "is_any_bounds" ["value"] G_is_any_bounds) (h_are_fractions : Cal P w K mg base 3 "are_fractions" ["value", "many"] G_are_fractions) (Fd : ∃ fd, FunD K "greatest_sum" "greatest_sum" (defArgs st_greatest_sum) (defBody st_greatest_sum) (defScope st_greatest_sum) [] [] (He.ga K "greatest_sum") fd) (hm : mg "greatest_sum" = some (.ref (He.ga K "greatest_sum"))) : Cal P w K mg base 8 "greatest_sum" ["bounds", "numbers"] G_greatest_sum :=
  cal_ok Fd hm sc_greatest_sum (fun _ _ _ _ _ _ us hl => match us, hl with | [_, _], _ => rfl) (fun _ _ _ _ _ _ us hl => match us, hl with | [_, _], _ => rfl) (fun f cdv A outer s H E hr => b_greatest_sum c h_greatest_told h_is_any_bounds h_are_fractions f cdv A outer s H E hr)
abbrev st_tight_bounds : Stmt := top 36
theorem nd_tight_bounds : N_tight_bounds.Nodup := by decide +kernel
theorem sc_tight_bounds : FnScope N_tight_bounds ["pairs"] (defScope st_tight_bounds) := ⟨rfl, rfl, rfl, nd_tight_bounds, rfl, by decide +kernel, by decide +kernel⟩
theorem b_tight_bounds (c : Facts K mg) (h_are_pairs_of : Cal P w K mg base 4 "are_pairs_of" ["value", "signs"] G_are_pairs_of) (h_narrowed : Cal P w K mg base 5 "narrowed" ["pairs"] G_narrowed) (f : Addr) (cdv : Value) (A : Around) (outer : List PySem.Env) (s : Shared) (H : Hp) (E : XK) (hr : Room 5 (A.deeper (envOfC "tight_bounds" (defScope st_tight_bounds) s.heap.objs.size f cdv))) :
    ESs false (cxOf CX0 P w K mg base N_tight_bounds "tight_bounds" (defScope st_tight_bounds) f cdv A outer s H E).nox (defBody st_tight_bounds) m_tight_bounds := by
  have hN := nd_tight_bounds
  exact (ss_cons (s_if (w_pt (w_or (t_not (t_val (e_isi "tuple" (by decide +kernel) c.b_isinstance c.b_tuple (by decide +kernel) (e_v 0)))) (w_or1 (t_not (t_cc c_le c_le (e_glob c.g_LEAST_SIGNS) (e_len c.b_len (e_v 0)) (e_glob c.g_MOST_SIGNS_TOLD)))))) (ss_one s_never) ss_nil)
  (ss_cons (s_if (t_not (t_val (e_cl h_are_pairs_of hr (by decide) (b_cons (e_v 0) (b_cons (e_len c.b_len (e_v 0)) b_nil)) (nb_cons (nb_cons nb_nil))))) (ss_one s_never) ss_nil)
  (ss_one (s_ret (e_cl h_narrowed hr (by decide) (b_cons (e_v 0) b_nil) (nb_cons nb_nil))))))
theorem k_tight_bounds (c : Facts K mg) (h_are_pairs_of : Cal P w K mg base 4 "are_pairs_of" ["value", "signs"] G_are_pairs_of) (h_narrowed : Cal P w K mg base 5 "narrowed" ["pairs"] G_narrowed) (Fd : ∃ fd, FunD K "tight_bounds" "tight_bounds" (defArgs st_tight_bounds) (defBody st_tight_bounds) (defScope st_tight_bounds) [] [] (He.ga K "tight_bounds") fd) (hm : mg "tight_bounds" = some (.ref (He.ga K "tight_bounds"))) : Cal P w K mg base 6 "tight_bounds" ["pairs"] G_tight_bounds :=
  cal_ok Fd hm sc_tight_bounds (fun _ _ _ _ _ _ us hl => match us, hl with | [_], _ => rfl) (fun _ _ _ _ _ _ us hl => match us, hl with | [_], _ => rfl) (fun f cdv A outer s H E hr => b_tight_bounds c h_are_pairs_of h_narrowed f cdv A outer s H E hr)
abbrev st_is_between : Stmt := top 8
theorem nd_is_between : N_is_between.Nodup := by decide +kernel
theorem sc_is_between : FnScope N_is_between ["value", "low", "high"] (defScope st_is_between) := ⟨rfl, rfl, rfl, nd_is_between, rfl, by decide +kernel, by decide +kernel⟩
theorem b_is_between (c : Facts K mg) (h_is_integer : Cal P w K mg base 1 "is_integer" ["value"] G_is_integer) (f : Addr) (cdv : Value) (A : Around) (outer : List PySem.Env) (s : Shared) (H : Hp) (E : XK) (hr : Room 1 (A.deeper (envOfC "is_between" (defScope st_is_between) s.heap.objs.size f cdv))) :
    ESs false (cxOf CX0 P w K mg base N_is_between "is_between" (defScope st_is_between) f cdv A outer s H E).nox (defBody st_is_between) m_is_between := by
  have hN := nd_is_between
  exact (ss_one (s_ret (e_and (e_cl h_is_integer hr (by decide) (b_cons (e_v 0) b_nil) (nb_cons nb_nil)) (e_one (e_cc c_le c_le (e_v 1) (e_v 0) (e_v 2))))))
theorem k_is_between (c : Facts K mg) (h_is_integer : Cal P w K mg base 1 "is_integer" ["value"] G_is_integer) (Fd : ∃ fd, FunD K "is_between" "is_between" (defArgs st_is_between) (defBody st_is_between) (defScope st_is_between) [] [] (He.ga K "is_between") fd) (hm : mg "is_between" = some (.ref (He.ga K "is_between"))) : Cal P w K mg base 2 "is_between" ["value", "low", "high"] G_is_between :=
  cal_ok Fd hm sc_is_between (fun _ _ _ _ _ _ us hl => match us, hl with | [_, _, _], _ => rfl) (fun _ _ _ _ _ _ us hl => match us, hl with | [_, _, _], _ => rfl) (fun f cdv A outer s H E hr => b_is_between c h_is_integer f cdv A outer s H E hr)
abbrev st_checked_signs : Stmt := top 26
theorem nd_checked_signs : N_checked_signs.Nodup := by decide +kernel
theorem sc_checked_signs : FnScope N_checked_signs ["signs"] (defScope st_checked_signs) := ⟨rfl, rfl, rfl, nd_checked_signs, rfl, by decide +kernel, by decide +kernel⟩
theorem b_checked_signs (c : Facts K mg) (h_is_between : Cal P w K mg base 2 "is_between" ["value", "low", "high"] G_is_between) (f : Addr) (cdv : Value) (A : Around) (outer : List PySem.Env) (s : Shared) (H : Hp) (E : XK) (hr : Room 2 (A.deeper (envOfC "checked_signs" (defScope st_checked_signs) s.heap.objs.size f cdv))) :
    ESs false (cxOf CX0 P w K mg base N_checked_signs "checked_signs" (defScope st_checked_signs) f cdv A outer s H E).nox (defBody st_checked_signs) m_checked_signs := by
  have hN := nd_checked_signs
  exact (ss_one (s_if (t_not (t_val (e_cl h_is_between hr (by decide) (b_cons (e_v 0) (b_cons (e_glob c.g_LEAST_SIGNS) (b_cons (e_glob c.g_MOST_SIGNS_TOLD) b_nil))) (nb_cons (nb_cons (nb_cons nb_nil)))))) (ss_one s_never) ss_nil))
theorem k_checked_signs (c : Facts K mg) (h_is_between : Cal P w K mg base 2 "is_between" ["value", "low", "high"] G_is_between) (Fd : ∃ fd, FunD K "checked_signs" "checked_signs" (defArgs st_checked_signs) (defBody st_checked_signs) (defScope st_checked_signs) [] [] (He.ga K "checked_signs") fd) (hm : mg "checked_signs" = some (.ref (He.ga K "checked_signs"))) : Cal P w K mg base 3 "checked_signs" ["signs"] G_checked_signs :=
  cal_ok Fd hm sc_checked_signs (fun _ _ _ _ _ _ us hl => match us, hl with | [_], _ => rfl) (fun _ _ _ _ _ _ us hl => match us, hl with | [_], _ => rfl) (fun f cdv A outer s H E hr => b_checked_signs c h_is_between f cdv A outer s H E hr)
abbrev st_is_bounds : Stmt := top 34
theorem nd_is_bounds : N_is_bounds.Nodup := by decide +kernel
theorem sc_is_bounds : FnScope N_is_bounds ["value", "signs"] (defScope st_is_bounds) := ⟨rfl, rfl, rfl, nd_is_bounds, rfl, by decide +kernel, by decide +kernel⟩
theorem b_is_bounds (c : Facts K mg) (h_is_bounds_of : Cal P w K mg base 6 "is_bounds_of" ["value", "signs"] G_is_bounds_of) (h_checked_signs : Cal P w K mg base 3 "checked_signs" ["signs"] G_checked_signs) (f : Addr) (cdv : Value) (A : Around) (outer : List PySem.Env) (s : Shared) (H : Hp) (E : XK) (hr : Room 6 (A.deeper (envOfC "is_bounds" (defScope st_is_bounds) s.heap.objs.size f cdv))) :
    ESs false (cxOf CX0 P w K mg base N_is_bounds "is_bounds" (defScope st_is_bounds) f cdv A outer s H E).nox (defBody st_is_bounds) m_is_bounds := by
  have hN := nd_is_bounds
  exact (ss_cons (s_expr (e_cl h_checked_signs hr (by decide) (b_cons (e_v 1) b_nil) (nb_cons nb_nil)))
  (ss_one (s_ret (e_cl h_is_bounds_of hr (by decide) (b_cons (e_v 0) (b_cons (e_v 1) b_nil)) (nb_cons (nb_cons nb_nil))))))
theorem k_is_bounds (c : Facts K mg) (h_is_bounds_of : Cal P w K mg base 6 "is_bounds_of" ["value", "signs"] G_is_bounds_of) (h_checked_signs : Cal P w K mg base 3 "checked_signs" ["signs"] G_checked_signs) (Fd : ∃ fd, FunD K "is_bounds" "is_bounds" (defArgs st_is_bounds) (defBody st_is_bounds) (defScope st_is_bounds) [] [] (He.ga K "is_bounds") fd) (hm : mg "is_bounds" = some (.ref (He.ga K "is_bounds"))) : Cal P w K mg base 7 "is_bounds" ["value", "signs"] G_is_bounds :=
  cal_ok Fd hm sc_is_bounds (fun _ _ _ _ _ _ us hl => match us, hl with | [_, _], _ => rfl) (fun _ _ _ _ _ _ us hl => match us, hl with | [_, _], _ => rfl) (fun f cdv A outer s H E hr => b_is_bounds c h_is_bounds_of h_checked_signs f cdv A outer s H E hr)
abbrev st__law_are_ends_right : Stmt := top 71
theorem nd__law_are_ends_right : N__law_are_ends_right.Nodup := by decide +kernel
theorem sc__law_are_ends_right : FnScope N__law_are_ends_right ["pot", "bounds", "signs"] (defScope st__law_are_ends_right) := ⟨rfl, rfl, rfl, nd__law_are_ends_right, rfl, by decide +kernel, by decide +kernel⟩
theorem b__law_are_ends_right (c : Facts K mg) (h__law_take : Cal P w K mg base 1 "_law_take" ["pot", "upto"] G__law_take) (h__law_added : Cal P w K mg base 2 "_law_added" ["one", "other"] G__law_added) (h__law_total : Cal P w K mg base 3 "_law_total" ["some"] G__law_total) (h__law_less : Cal P w K mg base 2 "_law_less" ["one", "other"] G__law_less) (h_greatest_sum : Cal P w K mg base 8 "greatest_sum" ["bounds", "numbers"] G_greatest_sum) (h_tight_bounds : Cal P w K mg base 6 "tight_bounds" ["pairs"] G_tight_bounds) (h_is_bounds : Cal P w K mg base 7 "is_bounds" ["value", "signs"] G_is_bounds) (f : Addr) (cdv : Value) (A : Around) (outer : List PySem.Env) (s : Shared) (H : Hp) (E : XK) (hr : Room 8 (A.deeper (envOfC "_law_are_ends_right" (defScope st__law_are_ends_right) s.heap.objs.size f cdv))) :
    ESs false (cxOf CX0 P w K mg base N__law_are_ends_right "_law_are_ends_right" (defScope st__law_are_ends_right) f cdv A outer s H E).nox (defBody st__law_are_ends_right) m__law_are_ends_right := by
  have hN := nd__law_are_ends_right
  exact (ss_cons (s_for PassesOwn.never rfl (i_range1 c.b_range (e_v 2)) (g_name 3 hN) (ss_cons (s_set 4 hN (e_tuple c.b_tuple (e_ofF (f_lc (own' := [("at", 7)]) rfl hN (i_range1 c.b_range (e_v 2)) (blkOk_by (by kernel_rfl)) (fun _ _ _ _ _ => (g_name 7 hN)) (fun _ _ _ _ _ => ts_nil) (fun _ _ _ _ _ => (e_tup (a_cons (e_toInt c.b_int (e_c (c_eq hr) (e_v 7) (e_v 3))) (a_cons e_int a_nil))))))))
  (ss_cons (s_set 5 hN (e_tuple c.b_tuple (e_ofF (f_lc (own' := [("at", 7)]) rfl hN (i_range1 c.b_range (e_v 2)) (blkOk_by (by kernel_rfl)) (fun _ _ _ _ _ => (g_name 7 hN)) (fun _ _ _ _ _ => ts_nil) (fun _ _ _ _ _ => (e_tup (a_cons (e_sub e_int (e_toInt c.b_int (e_c (c_eq hr) (e_v 7) (e_v 3)))) (a_cons e_int a_nil))))))))
  (ss_cons (s_set 6 hN (e_ix (e_cl h_greatest_sum hr (by decide) (b_cons (e_v 1) (b_cons (e_v 5) b_nil)) (nb_cons (nb_cons nb_nil))) e_int))
  (ss_one (s_if (w_pt (w_or (t_c (c_ne hr) (e_ix (e_cl h_greatest_sum hr (by decide) (b_cons (e_v 1) (b_cons (e_v 4) b_nil)) (nb_cons (nb_cons nb_nil))) e_int) (e_ix (e_ix (e_v 1) (e_v 3)) e_int)) (w_or1 (t_c (c_ne hr) (e_tup (a_cons (e_sub e_int (e_ix (e_v 6) e_int)) (a_cons (e_ix (e_v 6) e_int) a_nil))) (e_ix (e_ix (e_v 1) (e_v 3)) e_int))))) (ss_one (s_ret e_bl)) ss_nil))))))
  (ss_cons (s_if (w_pt (w_or (t_c (c_ne hr) (e_clK h_tight_bounds hr (by decide) (k_cons (e_v 1) k_nil) (nb_cons nb_nil)) (e_v 1)) (w_or1 (t_c c_isNot (e_clK h_is_bounds hr (by decide) (k_cons (e_v 1) (k_cons (e_v 2) k_nil)) (nb_cons (nb_cons nb_nil))) e_bl)))) (ss_one (s_ret e_bl)) ss_nil)
  (ss_cons (s_set 7 hN (e_cl h__law_take hr (by decide) (b_pot 0 (b_cons (e_v 2) b_nil)) (nb_pot (nb_cons nb_nil))))
  (ss_cons (s_set 8 hN (e_cl h__law_total hr (by decide) (b_cons (e_ofF (f_lc (own' := [("place", 10), ("pair", 11)]) rfl hN (i_enum c.b_enumerate (e_v 1)) (blkOk_by (by kernel_rfl)) (fun _ _ _ _ _ => (g_tup rfl (gs_cons (g_name 10 hN) (gs_cons (g_name 11 hN) gs_nil)) (hl := (len_cons (len_cons len_nil))))) (fun _ _ _ _ _ => (ts_one (t_c (c_ne hr) (e_v 10) (e_v 7)))) (fun _ _ _ _ _ => (e_ix (e_v 11) e_int)))) b_nil) (nb_cons nb_nil)))
  (ss_cons (s_set 9 hN (e_tup (a_cons (e_ix (e_ix (e_v 1) (e_v 7)) e_int) (a_cons (e_cl h__law_added hr (by decide) (b_cons (e_cl h__law_less hr (by decide) (b_cons (e_tup (a_cons e_int (a_cons e_int a_nil))) (b_cons (e_v 8) b_nil)) (nb_cons (nb_cons nb_nil))) (b_cons (e_tup (a_cons e_int (a_cons e_int a_nil))) b_nil)) (nb_cons (nb_cons nb_nil))) a_nil))))
  (ss_cons (s_if (w_pt (w_and (t_c (c_eq hr) (e_ix (e_ix (e_v 1) (e_v 7)) e_int) (e_cl h__law_less hr (by decide) (b_cons (e_tup (a_cons e_int (a_cons e_int a_nil))) (b_cons (e_v 8) b_nil)) (nb_cons (nb_cons nb_nil)))) (w_and1 (t_c (c_ne hr) (e_cl h_tight_bounds hr (by decide) (b_cons (e_add (e_add (e_sl (e_v 1) o_none (o_some (e_v 7))) (e_tup (a_cons (e_v 9) a_nil))) (e_sl (e_v 1) (o_some (e_add (e_v 7) e_int)) o_none)) b_nil) (nb_cons nb_nil)) (e_v 1))))) (ss_one (s_ret e_bl)) ss_nil)
  (ss_one (s_ret (e_and (e_c c_is (e_cl h_tight_bounds hr (by decide) (b_cons (e_mul (e_tup (a_cons (e_tup (a_cons (e_tup (a_cons e_int (a_cons e_int a_nil))) (a_cons (e_tup (a_cons e_int (a_cons e_int a_nil))) a_nil))) a_nil)) (e_v 2)) b_nil) (nb_cons nb_nil)) e_non) (e_one (e_c c_is (e_cl h_tight_bounds hr (by decide) (b_cons (e_mul (e_tup (a_cons (e_tup (a_cons (e_tup (a_cons e_int (a_cons e_int a_nil))) (a_cons (e_tup (a_cons e_int (a_cons e_int a_nil))) a_nil))) a_nil)) (e_v 2)) b_nil) (nb_cons nb_nil)) e_non)))))))))))
theorem k__law_are_ends_right (c : Facts K mg) (h__law_take : Cal P w K mg base 1 "_law_take" ["pot", "upto"] G__law_take) (h__law_added : Cal P w K mg base 2 "_law_added" ["one", "other"] G__law_added) (h__law_total : Cal P w K mg base 3 "_law_total" ["some"] G__law_total) (h__law_less : Cal P w K mg base 2 "_law_less" ["one", "other"] G__law_less) (h_greatest_sum : Cal P w K mg base 8 "greatest_sum" ["bounds", "numbers"] G_greatest_sum) (h_tight_bounds : Cal P w K mg base 6 "tight_bounds" ["pairs"] G_tight_bounds) (h_is_bounds : Cal P w K mg base 7 "is_bounds" ["value", "signs"] G_is_bounds) (Fd : ∃ fd, FunD K "_law_are_ends_right" "_law_are_ends_right" (defArgs st__law_are_ends_right) (defBody st__law_are_ends_right) (defScope st__law_are_ends_right) [] [] (He.ga K "_law_are_ends_right") fd) (hm : mg "_law_are_ends_right" = some (.ref (He.ga K "_law_are_ends_right"))) : Cal P w K mg base 9 "_law_are_ends_right" ["pot", "bounds", "signs"] G__law_are_ends_right :=
  cal_ok Fd hm sc__law_are_ends_right (fun _ _ _ _ _ _ us hl => match us, hl with | [_, _, _], _ => rfl) (fun _ _ _ _ _ _ us hl => match us, hl with | [_, _, _], _ => rfl) (fun f cdv A outer s H E hr => b__law_are_ends_right c h__law_take h__law_added h__law_total h__law_less h_greatest_sum h_tight_bounds h_is_bounds f cdv A outer s H E hr)
abbrev st_checked_bounds : Stmt := top 47
theorem nd_checked_bounds : N_checked_bounds.Nodup := by decide +kernel
theorem sc_checked_bounds : FnScope N_checked_bounds ["bounds"] (defScope st_checked_bounds) := ⟨rfl, rfl, rfl, nd_checked_bounds, rfl, by decide +kernel, by decide +kernel⟩
theorem b_checked_bounds (c : Facts K mg) (h_is_any_bounds : Cal P w K mg base 7 "is_any_bounds" ["value"] G_is_any_bounds) (f : Addr) (cdv : Value) (A : Around) (outer : List PySem.Env) (s : Shared) (H : Hp) (E : XK) (hr : Room 7 (A.deeper (envOfC "checked_bounds" (defScope st_checked_bounds) s.heap.objs.size f cdv))) :
    ESs false (cxOf CX0 P w K mg base N_checked_bounds "checked_bounds" (defScope st_checked_bounds) f cdv A outer s H E).nox (defBody st_checked_bounds) m_checked_bounds := by
  have hN := nd_checked_bounds
  exact (ss_one (s_if (t_not (t_val (e_cl h_is_any_bounds hr (by decide) (b_cons (e_v 0) b_nil) (nb_cons nb_nil)))) (ss_one s_never) ss_nil))
theorem k_checked_bounds (c : Facts K mg) (h_is_any_bounds : Cal P w K mg base 7 "is_any_bounds" ["value"] G_is_any_bounds) (Fd : ∃ fd, FunD K "checked_bounds" "checked_bounds" (defArgs st_checked_bounds) (defBody st_checked_bounds) (defScope st_checked_bounds) [] [] (He.ga K "checked_bounds") fd) (hm : mg "checked_bounds" = some (.ref (He.ga K "checked_bounds"))) : Cal P w K mg base 8 "checked_bounds" ["bounds"] G_checked_bounds :=
  cal_ok Fd hm sc_checked_bounds (fun _ _ _ _ _ _ us hl => match us, hl with | [_], _ => rfl) (fun _ _ _ _ _ _ us hl => match us, hl with | [_], _ => rfl) (fun f cdv A outer s H E hr => b_checked_bounds c h_is_any_bounds f cdv A outer s H E hr)
abbrev st_is_bet_of : Stmt := top 46
theorem nd_is_bet_of : N_is_bet_of.Nodup := by decide +kernel
theorem sc_is_bet_of : FnScope N_is_bet_of ["value", "signs"] (defScope st_is_bet_of) := ⟨rfl, rfl, rfl, nd_is_bet_of, rfl, by decide +kernel, by decide +kernel⟩
theorem b_is_bet_of (c : Facts K mg) (h_are_fractions : Cal P w K mg base 3 "are_fractions" ["value", "many"] G_are_fractions) (f : Addr) (cdv : Value) (A : Around) (outer : List PySem.Env) (s : Shared) (H : Hp) (E : XK) (hr : Room 3 (A.deeper (envOfC "is_bet_of" (defScope st_is_bet_of) s.heap.objs.size f cdv))) :
    ESs false (cxOf CX0 P w K mg base N_is_bet_of "is_bet_of" (defScope st_is_bet_of) f cdv A outer s H E).nox (defBody st_is_bet_of) m_is_bet_of := by
  have hN := nd_is_bet_of
  exact (ss_one (s_ret (e_and (e_cl h_are_fractions hr (by decide) (b_cons (e_v 0) (b_cons (e_v 1) b_nil)) (nb_cons (nb_cons nb_nil))) (e_one (e_all rfl c.b_all (e_ofF (f_lc (own' := [("one", 2)]) rfl hN (i_any (e_v 0)) (blkOk_by (by kernel_rfl)) (fun _ _ _ _ _ => (g_name 2 hN)) (fun _ _ _ _ _ => ts_nil) (fun _ _ _ _ _ => (e_c c_ge (e_ix (e_v 2) e_int) e_int)))))))))
theorem k_is_bet_of (c : Facts K mg) (h_are_fractions : Cal P w K mg base 3 "are_fractions" ["value", "many"] G_are_fractions) (Fd : ∃ fd, FunD K "is_bet_of" "is_bet_of" (defArgs st_is_bet_of) (defBody st_is_bet_of) (defScope st_is_bet_of) [] [] (He.ga K "is_bet_of") fd) (hm : mg "is_bet_of" = some (.ref (He.ga K "is_bet_of"))) : Cal P w K mg base 4 "is_bet_of" ["value", "signs"] G_is_bet_of :=
  cal_ok Fd hm sc_is_bet_of (fun _ _ _ _ _ _ us hl => match us, hl with | [_, _], _ => rfl) (fun _ _ _ _ _ _ us hl => match us, hl with | [_, _], _ => rfl) (fun f cdv A outer s H E hr => b_is_bet_of c h_are_fractions f cdv A outer s H E hr)
abbrev st_checked_bet : Stmt := top 48
theorem nd_checked_bet : N_checked_bet.Nodup := by decide +kernel
theorem sc_checked_bet : FnScope N_checked_bet ["bounds", "bet"] (defScope st_checked_bet) := ⟨rfl, rfl, rfl, nd_checked_bet, rfl, by decide +kernel, by decide +kernel⟩
theorem b_checked_bet (c : Facts K mg) (h_checked_bounds : Cal P w K mg base 8 "checked_bounds" ["bounds"] G_checked_bounds) (h_is_bet_of : Cal P w K mg base 4 "is_bet_of" ["value", "signs"] G_is_bet_of) (f : Addr) (cdv : Value) (A : Around) (outer : List PySem.Env) (s : Shared) (H : Hp) (E : XK) (hr : Room 8 (A.deeper (envOfC "checked_bet" (defScope st_checked_bet) s.heap.objs.size f cdv))) :
    ESs false (cxOf CX0 P w K mg base N_checked_bet "checked_bet" (defScope st_checked_bet) f cdv A outer s H E).nox (defBody st_checked_bet) m_checked_bet := by
  have hN := nd_checked_bet
  exact (ss_cons (s_expr (e_cl h_checked_bounds hr (by decide) (b_cons (e_v 0) b_nil) (nb_cons nb_nil)))
  (ss_one (s_if (t_not (t_val (e_cl h_is_bet_of hr (by decide) (b_cons (e_v 1) (b_cons (e_len c.b_len (e_v 0)) b_nil)) (nb_cons (nb_cons nb_nil))))) (ss_one s_never) ss_nil)))
theorem k_checked_bet (c : Facts K mg) (h_checked_bounds : Cal P w K mg base 8 "checked_bounds" ["bounds"] G_checked_bounds) (h_is_bet_of : Cal P w K mg base 4 "is_bet_of" ["value", "signs"] G_is_bet_of) (Fd : ∃ fd, FunD K "checked_bet" "checked_bet" (defArgs st_checked_bet) (defBody st_checked_bet) (defScope st_checked_bet) [] [] (He.ga K "checked_bet") fd) (hm : mg "checked_bet" = some (.ref (He.ga K "checked_bet"))) : Cal P w K mg base 9 "checked_bet" ["bounds", "bet"] G_checked_bet :=
  cal_ok Fd hm sc_checked_bet (fun _ _ _ _ _ _ us hl => match us, hl with | [_, _], _ => rfl) (fun _ _ _ _ _ _ us hl => match us, hl with | [_, _], _ => rfl) (fun f cdv A outer s H E hr => b_checked_bet c h_checked_bounds h_is_bet_of f cdv A outer s H E hr)
abbrev st_is_fair_for : Stmt := top 49
theorem nd_is_fair_for : N_is_fair_for.Nodup := by decide +kernel
theorem sc_is_fair_for : FnScope N_is_fair_for ["bounds", "bet"] (defScope st_is_fair_for) := ⟨rfl, rfl, rfl, nd_is_fair_for, rfl, by decide +kernel, by decide +kernel⟩
theorem b_is_fair_for (c : Facts K mg) (h_is_less : Cal P w K mg base 1 "is_less" ["one", "other"] G_is_less) (h_greatest_told : Cal P w K mg base 6 "greatest_told" ["bounds", "numbers"] G_greatest_told) (f : Addr) (cdv : Value) (A : Around) (outer : List PySem.Env) (s : Shared) (H : Hp) (E : XK) (hr : Room 6 (A.deeper (envOfC "is_fair_for" (defScope st_is_fair_for) s.heap.objs.size f cdv))) :
    ESs false (cxOf CX0 P w K mg base N_is_fair_for "is_fair_for" (defScope st_is_fair_for) f cdv A outer s H E).nox (defBody st_is_fair_for) m_is_fair_for := by
  have hN := nd_is_fair_for
  exact (ss_one (s_ret (e_not (e_cl h_is_less hr (by decide) (b_cons (e_glob c.g_ONE) (b_cons (e_ix (e_cl h_greatest_told hr (by decide) (b_cons (e_v 0) (b_cons (e_v 1) b_nil)) (nb_cons (nb_cons nb_nil))) e_int) b_nil)) (nb_cons (nb_cons nb_nil))))))
theorem k_is_fair_for (c : Facts K mg) (h_is_less : Cal P w K mg base 1 "is_less" ["one", "other"] G_is_less) (h_greatest_told : Cal P w K mg base 6 "greatest_told" ["bounds", "numbers"] G_greatest_told) (Fd : ∃ fd, FunD K "is_fair_for" "is_fair_for" (defArgs st_is_fair_for) (defBody st_is_fair_for) (defScope st_is_fair_for) [] [] (He.ga K "is_fair_for") fd) (hm : mg "is_fair_for" = some (.ref (He.ga K "is_fair_for"))) : Cal P w K mg base 7 "is_fair_for" ["bounds", "bet"] G_is_fair_for :=
  cal_ok Fd hm sc_is_fair_for (fun _ _ _ _ _ _ us hl => match us, hl with | [_, _], _ => rfl) (fun _ _ _ _ _ _ us hl => match us, hl with | [_, _], _ => rfl) (fun f cdv A outer s H E hr => b_is_fair_for c h_is_less h_greatest_told f cdv A outer s H E hr)
abbrev st_is_fair : Stmt := top 50
theorem nd_is_fair : N_is_fair.Nodup := by decide +kernel
theorem sc_is_fair : FnScope N_is_fair ["bounds", "bet"] (defScope st_is_fair) := ⟨rfl, rfl, rfl, nd_is_fair, rfl, by decide +kernel, by decide +kernel⟩
theorem b_is_fair (c : Facts K mg) (h_checked_bet : Cal P w K mg base 9 "checked_bet" ["bounds", "bet"] G_checked_bet) (h_is_fair_for : Cal P w K mg base 7 "is_fair_for" ["bounds", "bet"] G_is_fair_for) (f : Addr) (cdv : Value) (A : Around) (outer : List PySem.Env) (s : Shared) (H : Hp) (E : XK) (hr : Room 9 (A.deeper (envOfC "is_fair" (defScope st_is_fair) s.heap.objs.size f cdv))) :
    ESs false (cxOf CX0 P w K mg base N_is_fair "is_fair" (defScope st_is_fair) f cdv A outer s H E).nox (defBody st_is_fair) m_is_fair := by
  have hN := nd_is_fair
  exact (ss_cons (s_expr (e_cl h_checked_bet hr (by decide) (b_cons (e_v 0) (b_cons (e_v 1) b_nil)) (nb_cons (nb_cons nb_nil))))
  (ss_one (s_ret (e_cl h_is_fair_for hr (by decide) (b_cons (e_v 0) (b_cons (e_v 1) b_nil)) (nb_cons (nb_cons nb_nil))))))
theorem k_is_fair (c : Facts K mg) (h_checked_bet : Cal P w K mg base 9 "checked_bet" ["bounds", "bet"] G_checked_bet) (h_is_fair_for : Cal P w K mg base 7 "is_fair_for" ["bounds", "bet"] G_is_fair_for) (Fd : ∃ fd, FunD K "is_fair" "is_fair" (defArgs st_is_fair) (defBody st_is_fair) (defScope st_is_fair) [] [] (He.ga K "is_fair") fd) (hm : mg "is_fair" = some (.ref (He.ga K "is_fair"))) : Cal P w K mg base 10 "is_fair" ["bounds", "bet"] G_is_fair :=
  cal_ok Fd hm sc_is_fair (fun _ _ _ _ _ _ us hl => match us, hl with | [_, _], _ => rfl) (fun _ _ _ _ _ _ us hl => match us, hl with | [_, _], _ => rfl) (fun f cdv A outer s H E hr => b_is_fair c h_checked_bet h_is_fair_for f cdv A outer s H E hr)
abbrev st__law_is_within : Stmt := top 67
theorem nd__law_is_within : N__law_is_within.Nodup := by decide +kernel
theorem sc__law_is_within : FnScope N__law_is_within ["law", "bounds"] (defScope st__law_is_within) := ⟨rfl, rfl, rfl, nd__law_is_within, rfl, by decide +kernel, by decide +kernel⟩
theorem b__law_is_within (c : Facts K mg) (h__law_is_below : Cal P w K mg base 1 "_law_is_below" ["one", "other"] G__law_is_below) (f : Addr) (cdv : Value) (A : Around) (outer : List PySem.Env) (s : Shared) (H : Hp) (E : XK) (hr : Room 1 (A.deeper (envOfC "_law_is_within" (defScope st__law_is_within) s.heap.objs.size f cdv))) :
    ESs false (cxOf CX0 P w K mg base N__law_is_within "_law_is_within" (defScope st__law_is_within) f cdv A outer s H E).nox (defBody st__law_is_within) m__law_is_within := by
  have hN := nd__law_is_within
  exact (ss_one (s_ret (e_not (e_any rfl c.b_any (e_ofF (f_lc (own' := [("one", 2), ("low", 3), ("high", 4)]) rfl hN (i_zip c.b_zip (e_v 0) (e_v 1) rfl) (blkOk_by (by kernel_rfl)) (fun _ _ _ _ _ => (g_tup rfl (gs_cons (g_name 2 hN) (gs_cons (g_tup rfl (gs_cons (g_name 3 hN) (gs_cons (g_name 4 hN) gs_nil)) (hl := (len_cons (len_cons len_nil)))) gs_nil)) (hl := (len_cons (len_cons len_nil))))) (fun _ _ _ _ _ => ts_nil) (fun _ _ _ _ _ => (e_or (e_cl h__law_is_below hr (by decide) (b_cons (e_v 2) (b_cons (e_v 3) b_nil)) (nb_cons (nb_cons nb_nil))) (e_one (e_cl h__law_is_below hr (by decide) (b_cons (e_v 4) (b_cons (e_v 2) b_nil)) (nb_cons (nb_cons nb_nil))))))))))))
theorem k__law_is_within (c : Facts K mg) (h__law_is_below : Cal P w K mg base 1 "_law_is_below" ["one", "other"] G__law_is_below) (Fd : ∃ fd, FunD K "_law_is_within" "_law_is_within" (defArgs st__law_is_within) (defBody st__law_is_within) (defScope st__law_is_within) [] [] (He.ga K "_law_is_within") fd) (hm : mg "_law_is_within" = some (.ref (He.ga K "_law_is_within"))) : Cal P w K mg base 2 "_law_is_within" ["law", "bounds"] G__law_is_within :=
  cal_ok Fd hm sc__law_is_within (fun _ _ _ _ _ _ us hl => match us, hl with | [_, _], _ => rfl) (fun _ _ _ _ _ _ us hl => match us, hl with | [_, _], _ => rfl) (fun f cdv A outer s H E hr => b__law_is_within c h__law_is_below f cdv A outer s H E hr)
abbrev st_is_law_of : Stmt := top 27
theorem nd_is_law_of : N_is_law_of.Nodup := by decide +kernel
theorem sc_is_law_of : FnScope N_is_law_of ["value", "signs"] (defScope st_is_law_of) := ⟨rfl, rfl, rfl, nd_is_law_of, rfl, by decide +kernel, by decide +kernel⟩
theorem b_is_law_of (c : Facts K mg) (h_sum_of : Cal P w K mg base 3 "sum_of" ["some"] G_sum_of) (h_is_fraction : Cal P w K mg base 3 "is_fraction" ["value"] G_is_fraction) (f : Addr) (cdv : Value) (A : Around) (outer : List PySem.Env) (s : Shared) (H : Hp) (E : XK) (hr : Room 3 (A.deeper (envOfC "is_law_of" (defScope st_is_law_of) s.heap.objs.size f cdv))) :
    ESs false (cxOf CX0 P w K mg base N_is_law_of "is_law_of" (defScope st_is_law_of) f cdv A outer s H E).nox (defBody st_is_law_of) m_is_law_of := by
  have hN := nd_is_law_of
  exact (ss_cons (s_if (w_pt (w_or (t_not (t_val (e_isi "tuple" (by decide +kernel) c.b_isinstance c.b_tuple (by decide +kernel) (e_v 0)))) (w_or (t_c (c_ne hr) (e_len c.b_len (e_v 0)) (e_v 1)) (w_or1 (t_not (t_val (e_all rfl c.b_all (e_ofF (f_lc (own' := [("one", 2)]) rfl hN (i_any (e_v 0)) (blkOk_by (by kernel_rfl)) (fun _ _ _ _ _ => (g_name 2 hN)) (fun _ _ _ _ _ => ts_nil) (fun _ _ _ _ _ => (e_cl h_is_fraction hr (by decide) (b_cons (e_v 2) b_nil) (nb_cons nb_nil)))))))))))) (ss_one (s_ret e_bl)) ss_nil)
  (ss_one (s_ret (e_and (e_all rfl c.b_all (e_ofF (f_lc (own' := [("one", 2)]) rfl hN (i_any (e_v 0)) (blkOk_by (by kernel_rfl)) (fun _ _ _ _ _ => (g_name 2 hN)) (fun _ _ _ _ _ => ts_nil) (fun _ _ _ _ _ => (e_c c_ge (e_ix (e_v 2) e_int) e_int))))) (e_one (e_c (c_eq hr) (e_cl h_sum_of hr (by decide) (b_cons (e_v 0) b_nil) (nb_cons nb_nil)) (e_glob c.g_ONE)))))))
theorem k_is_law_of (c : Facts K mg) (h_sum_of : Cal P w K mg base 3 "sum_of" ["some"] G_sum_of) (h_is_fraction : Cal P w K mg base 3 "is_fraction" ["value"] G_is_fraction) (Fd : ∃ fd, FunD K "is_law_of" "is_law_of" (defArgs st_is_law_of) (defBody st_is_law_of) (defScope st_is_law_of) [] [] (He.ga K "is_law_of") fd) (hm : mg "is_law_of" = some (.ref (He.ga K "is_law_of"))) : Cal P w K mg base 4 "is_law_of" ["value", "signs"] G_is_law_of :=
  cal_ok Fd hm sc_is_law_of (fun _ _ _ _ _ _ us hl => match us, hl with | [_, _], _ => rfl) (fun _ _ _ _ _ _ us hl => match us, hl with | [_, _], _ => rfl) (fun f cdv A outer s H E hr => b_is_law_of c h_sum_of h_is_fraction f cdv A outer s H E hr)
abbrev st_is_any_law : Stmt := top 28
theorem nd_is_any_law : N_is_any_law.Nodup := by decide +kernel
theorem sc_is_any_law : FnScope N_is_any_law ["value"] (defScope st_is_any_law) := ⟨rfl, rfl, rfl, nd_is_any_law, rfl, by decide +kernel, by decide +kernel⟩
theorem b_is_any_law (c : Facts K mg) (h_is_law_of : Cal P w K mg base 4 "is_law_of" ["value", "signs"] G_is_law_of) (f : Addr) (cdv : Value) (A : Around) (outer : List PySem.Env) (s : Shared) (H : Hp) (E : XK) (hr : Room 4 (A.deeper (envOfC "is_any_law" (defScope st_is_any_law) s.heap.objs.size f cdv))) :
    ESs false (cxOf CX0 P w K mg base N_is_any_law "is_any_law" (defScope st_is_any_law) f cdv A outer s H E).nox (defBody st_is_any_law) m_is_any_law := by
  have hN := nd_is_any_law
  exact (ss_one (s_ret (e_and (e_isi "tuple" (by decide +kernel) c.b_isinstance c.b_tuple (by decide +kernel) (e_v 0)) (e_and (e_cc c_le c_le (e_glob c.g_LEAST_SIGNS) (e_len c.b_len (e_v 0)) (e_glob c.g_MOST_SIGNS_TOLD)) (e_one (e_cl h_is_law_of hr (by decide) (b_cons (e_v 0) (b_cons (e_len c.b_len (e_v 0)) b_nil)) (nb_cons (nb_cons nb_nil))))))))
theorem k_is_any_law (c : Facts K mg) (h_is_law_of : Cal P w K mg base 4 "is_law_of" ["value", "signs"] G_is_law_of) (Fd : ∃ fd, FunD K "is_any_law" "is_any_law" (defArgs st_is_any_law) (defBody st_is_any_law) (defScope st_is_any_law) [] [] (He.ga K "is_any_law") fd) (hm : mg "is_any_law" = some (.ref (He.ga K "is_any_law"))) : Cal P w K mg base 5 "is_any_law" ["value"] G_is_any_law :=
  cal_ok Fd hm sc_is_any_law (fun _ _ _ _ _ _ us hl => match us, hl with | [_], _ => rfl) (fun _ _ _ _ _ _ us hl => match us, hl with | [_], _ => rfl) (fun f cdv A outer s H E hr => b_is_any_law c h_is_law_of f cdv A outer s H E hr)
abbrev st_added : Stmt := top 14
theorem nd_added : N_added.Nodup := by decide +kernel
theorem sc_added : FnScope N_added ["one", "other"] (defScope st_added) := ⟨rfl, rfl, rfl, nd_added, rfl, by decide +kernel, by decide +kernel⟩
theorem b_added (c : Facts K mg) (h_reduced : Cal P w K mg base 2 "reduced" ["top", "low"] G_reduced) (f : Addr) (cdv : Value) (A : Around) (outer : List PySem.Env) (s : Shared) (H : Hp) (E : XK) (hr : Room 2 (A.deeper (envOfC "added" (defScope st_added) s.heap.objs.size f cdv))) :
    ESs false (cxOf CX0 P w K mg base N_added "added" (defScope st_added) f cdv A outer s H E).nox (defBody st_added) m_added := by
  have hN := nd_added
  exact (ss_one (s_ret (e_cl h_reduced hr (by decide) (b_cons (e_add (e_mul (e_ix (e_v 0) e_int) (e_ix (e_v 1) e_int)) (e_mul (e_ix (e_v 1) e_int) (e_ix (e_v 0) e_int))) (b_cons (e_mul (e_ix (e_v 0) e_int) (e_ix (e_v 1) e_int)) b_nil)) (nb_cons (nb_cons nb_nil)))))
theorem k_added (c : Facts K mg) (h_reduced : Cal P w K mg base 2 "reduced" ["top", "low"] G_reduced) (Fd : ∃ fd, FunD K "added" "added" (defArgs st_added) (defBody st_added) (defScope st_added) [] [] (He.ga K "added") fd) (hm : mg "added" = some (.ref (He.ga K "added"))) : Cal P w K mg base 3 "added" ["one", "other"] G_added :=
  cal_ok Fd hm sc_added (fun _ _ _ _ _ _ us hl => match us, hl with | [_, _], _ => rfl) (fun _ _ _ _ _ _ us hl => match us, hl with | [_, _], _ => rfl) (fun f cdv A outer s H E hr => b_added c h_reduced f cdv A outer s H E hr)
abbrev st_product_of : Stmt := top 16
theorem nd_product_of : N_product_of.Nodup := by decide +kernel
theorem sc_product_of : FnScope N_product_of ["one", "other"] (defScope st_product_of) := ⟨rfl, rfl, rfl, nd_product_of, rfl, by decide +kernel, by decide +kernel⟩
theorem b_product_of (c : Facts K mg) (h_reduced : Cal P w K mg base 2 "reduced" ["top", "low"] G_reduced) (f : Addr) (cdv : Value) (A : Around) (outer : List PySem.Env) (s : Shared) (H : Hp) (E : XK) (hr : Room 2 (A.deeper (envOfC "product_of" (defScope st_product_of) s.heap.objs.size f cdv))) :
    ESs false (cxOf CX0 P w K mg base N_product_of "product_of" (defScope st_product_of) f cdv A outer s H E).nox (defBody st_product_of) m_product_of := by
  have hN := nd_product_of
  exact (ss_one (s_ret (e_cl h_reduced hr (by decide) (b_cons (e_mul (e_ix (e_v 0) e_int) (e_ix (e_v 1) e_int)) (b_cons (e_mul (e_ix (e_v 0) e_int) (e_ix (e_v 1) e_int)) b_nil)) (nb_cons (nb_cons nb_nil)))))
theorem k_product_of (c : Facts K mg) (h_reduced : Cal P w K mg base 2 "reduced" ["top", "low"] G_reduced) (Fd : ∃ fd, FunD K "product_of" "product_of" (defArgs st_product_of) (defBody st_product_of) (defScope st_product_of) [] [] (He.ga K "product_of") fd) (hm : mg "product_of" = some (.ref (He.ga K "product_of"))) : Cal P w K mg base 3 "product_of" ["one", "other"] G_product_of :=
  cal_ok Fd hm sc_product_of (fun _ _ _ _ _ _ us hl => match us, hl with | [_, _], _ => rfl) (fun _ _ _ _ _ _ us hl => match us, hl with | [_, _], _ => rfl) (fun f cdv A outer s H E hr => b_product_of c h_reduced f cdv A outer s H E hr)
abbrev st_mixed_law : Stmt := top 35
theorem nd_mixed_law : N_mixed_law.Nodup := by decide +kernel
theorem sc_mixed_law : FnScope N_mixed_law ["one", "other", "share"] (defScope st_mixed_law) := ⟨rfl, rfl, rfl, nd_mixed_law, rfl, by decide +kernel, by decide +kernel⟩
theorem b_mixed_law (c : Facts K mg) (h_is_less : Cal P w K mg base 1 "is_less" ["one", "other"] G_is_less) (h_difference : Cal P w K mg base 3 "difference" ["one", "other"] G_difference) (h_is_fraction : Cal P w K mg base 3 "is_fraction" ["value"] G_is_fraction) (h_is_law_of : Cal P w K mg base 4 "is_law_of" ["value", "signs"] G_is_law_of) (h_is_any_law : Cal P w K mg base 5 "is_any_law" ["value"] G_is_any_law) (h_added : Cal P w K mg base 3 "added" ["one", "other"] G_added) (h_product_of : Cal P w K mg base 3 "product_of" ["one", "other"] G_product_of) (f : Addr) (cdv : Value) (A : Around) (outer : List PySem.Env) (s : Shared) (H : Hp) (E : XK) (hr : Room 5 (A.deeper (envOfC "mixed_law" (defScope st_mixed_law) s.heap.objs.size f cdv))) :
    ESs false (cxOf CX0 P w K mg base N_mixed_law "mixed_law" (defScope st_mixed_law) f cdv A outer s H E).nox (defBody st_mixed_law) m_mixed_law := by
  have hN := nd_mixed_law
  exact (ss_cons (s_if (t_not (t_val (e_cl h_is_any_law hr (by decide) (b_cons (e_v 0) b_nil) (nb_cons nb_nil)))) (ss_one s_never) ss_nil)
  (ss_cons (s_if (t_not (t_val (e_cl h_is_law_of hr (by decide) (b_cons (e_v 1) (b_cons (e_len c.b_len (e_v 0)) b_nil)) (nb_cons (nb_cons nb_nil))))) (ss_one s_never) ss_nil)
  (ss_cons (s_if (w_pt (w_or (t_not (t_val (e_cl h_is_fraction hr (by decide) (b_cons (e_v 2) b_nil) (nb_cons nb_nil)))) (w_or (t_c c_lt (e_ix (e_v 2) e_int) e_int) (w_or1 (t_val (e_cl h_is_less hr (by decide) (b_cons (e_glob c.g_ONE) (b_cons (e_v 2) b_nil)) (nb_cons (nb_cons nb_nil)))))))) (ss_one s_never) ss_nil)
  (ss_cons (s_set 3 hN (e_cl h_difference hr (by decide) (b_cons (e_glob c.g_ONE) (b_cons (e_v 2) b_nil)) (nb_cons (nb_cons nb_nil))))
  (ss_one (s_ret (e_tuple c.b_tuple (e_ofF (f_lc (own' := [("mine", 4), ("its", 5)]) rfl hN (i_zip c.b_zip (e_v 0) (e_v 1) rfl) (blkOk_by (by kernel_rfl)) (fun _ _ _ _ _ => (g_tup rfl (gs_cons (g_name 4 hN) (gs_cons (g_name 5 hN) gs_nil)) (hl := (len_cons (len_cons len_nil))))) (fun _ _ _ _ _ => ts_nil) (fun _ _ _ _ _ => (e_cl h_added hr (by decide) (b_cons (e_cl h_product_of hr (by decide) (b_cons (e_v 3) (b_cons (e_v 4) b_nil)) (nb_cons (nb_cons nb_nil))) (b_cons (e_cl h_product_of hr (by decide) (b_cons (e_v 2) (b_cons (e_v 5) b_nil)) (nb_cons (nb_cons nb_nil))) b_nil)) (nb_cons (nb_cons nb_nil)))))))))))))
theorem k_mixed_law (c : Facts K mg) (h_is_less : Cal P w K mg base 1 "is_less" ["one", "other"] G_is_less) (h_difference : Cal P w K mg base 3 "difference" ["one", "other"] G_difference) (h_is_fraction : Cal P w K mg base 3 "is_fraction" ["value"] G_is_fraction) (h_is_law_of : Cal P w K mg base 4 "is_law_of" ["value", "signs"] G_is_law_of) (h_is_any_law : Cal P w K mg base 5 "is_any_law" ["value"] G_is_any_law) (h_added : Cal P w K mg base 3 "added" ["one", "other"] G_added) (h_product_of : Cal P w K mg base 3 "product_of" ["one", "other"] G_product_of) (Fd : ∃ fd, FunD K "mixed_law" "mixed_law" (defArgs st_mixed_law) (defBody st_mixed_law) (defScope st_mixed_law) [] [] (He.ga K "mixed_law") fd) (hm : mg "mixed_law" = some (.ref (He.ga K "mixed_law"))) : Cal P w K mg base 6 "mixed_law" ["one", "other", "share"] G_mixed_law :=
  cal_ok Fd hm sc_mixed_law (fun _ _ _ _ _ _ us hl => match us, hl with | [_, _, _], _ => rfl) (fun _ _ _ _ _ _ us hl => match us, hl with | [_, _, _], _ => rfl) (fun f cdv A outer s H E hr => b_mixed_law c h_is_less h_difference h_is_fraction h_is_law_of h_is_any_law h_added h_product_of f cdv A outer s H E hr)
abbrev st__law_numbers : Stmt := top 68
theorem nd__law_numbers : N__law_numbers.Nodup := by decide +kernel
theorem sc__law_numbers : FnScope N__law_numbers ["pot", "signs"] (defScope st__law_numbers) := ⟨rfl, rfl, rfl, nd__law_numbers, rfl, by decide +kernel, by decide +kernel⟩
theorem b__law_numbers (c : Facts K mg) (h__law_take : Cal P w K mg base 1 "_law_take" ["pot", "upto"] G__law_take) (h__law_cut : Cal P w K mg base 1 "_law_cut" ["top", "low"] G__law_cut) (f : Addr) (cdv : Value) (A : Around) (outer : List PySem.Env) (s : Shared) (H : Hp) (E : XK) (hr : Room 1 (A.deeper (envOfC "_law_numbers" (defScope st__law_numbers) s.heap.objs.size f cdv))) :
    ESs false (cxOf CX0 P w K mg base N__law_numbers "_law_numbers" (defScope st__law_numbers) f cdv A outer s H E).nox (defBody st__law_numbers) m__law_numbers := by
  have hN := nd__law_numbers
  exact (ss_one (s_ret (e_tuple c.b_tuple (e_ofF (f_lc (own' := [("sign", 2)]) rfl hN (i_range1 c.b_range (e_v 1)) (blkOk_by (by kernel_rfl)) (fun _ _ _ _ _ => (g_name 2 hN)) (fun _ _ _ _ _ => ts_nil) (fun _ _ _ _ _ => (e_cl h__law_cut hr (by decide) (b_cons (e_sub (e_cl h__law_take hr (by decide) (b_pot 0 (b_cons e_int b_nil)) (nb_pot (nb_cons nb_nil))) e_int) (b_cons (e_add e_int (e_cl h__law_take hr (by decide) (b_pot 0 (b_cons e_int b_nil)) (nb_pot (nb_cons nb_nil)))) b_nil)) (nb_cons (nb_cons nb_nil)))))))))
theorem k__law_numbers (c : Facts K mg) (h__law_take : Cal P w K mg base 1 "_law_take" ["pot", "upto"] G__law_take) (h__law_cut : Cal P w K mg base 1 "_law_cut" ["top", "low"] G__law_cut) (Fd : ∃ fd, FunD K "_law_numbers" "_law_numbers" (defArgs st__law_numbers) (defBody st__law_numbers) (defScope st__law_numbers) [] [] (He.ga K "_law_numbers") fd) (hm : mg "_law_numbers" = some (.ref (He.ga K "_law_numbers"))) : Cal P w K mg base 2 "_law_numbers" ["pot", "signs"] G__law_numbers :=
  cal_ok Fd hm sc__law_numbers (fun _ _ _ _ _ _ us hl => match us, hl with | [_, _], _ => rfl) (fun _ _ _ _ _ _ us hl => match us, hl with | [_, _], _ => rfl) (fun f cdv A outer s H E hr => b__law_numbers c h__law_take h__law_cut f cdv A outer s H E hr)
abbrev st_is_law : Stmt := top 33
theorem nd_is_law : N_is_law.Nodup := by decide +kernel
theorem sc_is_law : FnScope N_is_law ["value", "signs"] (defScope st_is_law) := ⟨rfl, rfl, rfl, nd_is_law, rfl, by decide +kernel, by decide +kernel⟩
theorem b_is_law (c : Facts K mg) (h_checked_signs : Cal P w K mg base 3 "checked_signs" ["signs"] G_checked_signs) (h_is_law_of : Cal P w K mg base 4 "is_law_of" ["value", "signs"] G_is_law_of) (f : Addr) (cdv : Value) (A : Around) (outer : List PySem.Env) (s : Shared) (H : Hp) (E : XK) (hr : Room 4 (A.deeper (envOfC "is_law" (defScope st_is_law) s.heap.objs.size f cdv))) :
    ESs false (cxOf CX0 P w K mg base N_is_law "is_law" (defScope st_is_law) f cdv A outer s H E).nox (defBody st_is_law) m_is_law := by
  have hN := nd_is_law
  exact (ss_cons (s_expr (e_cl h_checked_signs hr (by decide) (b_cons (e_v 1) b_nil) (nb_cons nb_nil)))
  (ss_one (s_ret (e_cl h_is_law_of hr (by decide) (b_cons (e_v 0) (b_cons (e_v 1) b_nil)) (nb_cons (nb_cons nb_nil))))))
theorem k_is_law (c : Facts K mg) (h_checked_signs : Cal P w K mg base 3 "checked_signs" ["signs"] G_checked_signs) (h_is_law_of : Cal P w K mg base 4 "is_law_of" ["value", "signs"] G_is_law_of) (Fd : ∃ fd, FunD K "is_law" "is_law" (defArgs st_is_law) (defBody st_is_law) (defScope st_is_law) [] [] (He.ga K "is_law") fd) (hm : mg "is_law" = some (.ref (He.ga K "is_law"))) : Cal P w K mg base 5 "is_law" ["value", "signs"] G_is_law :=
  cal_ok Fd hm sc_is_law (fun _ _ _ _ _ _ us hl => match us, hl with | [_, _], _ => rfl) (fun _ _ _ _ _ _ us hl => match us, hl with | [_, _], _ => rfl) (fun f cdv A outer s H E hr => b_is_law c h_checked_signs h_is_law_of f cdv A outer s H E hr)
abbrev st__law_times : Stmt := top 60
theorem nd__law_times : N__law_times.Nodup := by decide +kernel
theorem sc__law_times : FnScope N__law_times ["one", "other"] (defScope st__law_times) := ⟨rfl, rfl, rfl, nd__law_times, rfl, by decide +kernel, by decide +kernel⟩
theorem b__law_times (c : Facts K mg) (h__law_cut : Cal P w K mg base 1 "_law_cut" ["top", "low"] G__law_cut) (f : Addr) (cdv : Value) (A : Around) (outer : List PySem.Env) (s : Shared) (H : Hp) (E : XK) (hr : Room 1 (A.deeper (envOfC "_law_times" (defScope st__law_times) s.heap.objs.size f cdv))) :
    ESs false (cxOf CX0 P w K mg base N__law_times "_law_times" (defScope st__law_times) f cdv A outer s H E).nox (defBody st__law_times) m__law_times := by
  have hN := nd__law_times
  exact (ss_one (s_ret (e_cl h__law_cut hr (by decide) (b_cons (e_mul (e_ix (e_v 0) e_int) (e_ix (e_v 1) e_int)) (b_cons (e_mul (e_ix (e_v 0) e_int) (e_ix (e_v 1) e_int)) b_nil)) (nb_cons (nb_cons nb_nil)))))
theorem k__law_times (c : Facts K mg) (h__law_cut : Cal P w K mg base 1 "_law_cut" ["top", "low"] G__law_cut) (Fd : ∃ fd, FunD K "_law_times" "_law_times" (defArgs st__law_times) (defBody st__law_times) (defScope st__law_times) [] [] (He.ga K "_law_times") fd) (hm : mg "_law_times" = some (.ref (He.ga K "_law_times"))) : Cal P w K mg base 2 "_law_times" ["one", "other"] G__law_times :=
  cal_ok Fd hm sc__law_times (fun _ _ _ _ _ _ us hl => match us, hl with | [_, _], _ => rfl) (fun _ _ _ _ _ _ us hl => match us, hl with | [_, _], _ => rfl) (fun f cdv A outer s H E hr => b__law_times c h__law_cut f cdv A outer s H E hr)
abbrev st__law_sum : Stmt := top 66
theorem nd__law_sum : N__law_sum.Nodup := by decide +kernel
theorem sc__law_sum : FnScope N__law_sum ["law", "numbers"] (defScope st__law_sum) := ⟨rfl, rfl, rfl, nd__law_sum, rfl, by decide +kernel, by decide +kernel⟩
theorem b__law_sum (c : Facts K mg) (h__law_total : Cal P w K mg base 3 "_law_total" ["some"] G__law_total) (h__law_times : Cal P w K mg base 2 "_law_times" ["one", "other"] G__law_times) (f : Addr) (cdv : Value) (A : Around) (outer : List PySem.Env) (s : Shared) (H : Hp) (E : XK) (hr : Room 3 (A.deeper (envOfC "_law_sum" (defScope st__law_sum) s.heap.objs.size f cdv))) :
    ESs false (cxOf CX0 P w K mg base N__law_sum "_law_sum" (defScope st__law_sum) f cdv A outer s H E).nox (defBody st__law_sum) m__law_sum := by
  have hN := nd__law_sum
  exact (ss_one (s_ret (e_cl h__law_total hr (by decide) (b_cons (e_ofF (f_lc (own' := [("one", 2), ("number", 3)]) rfl hN (i_zip c.b_zip (e_v 0) (e_v 1) rfl) (blkOk_by (by kernel_rfl)) (fun _ _ _ _ _ => (g_tup rfl (gs_cons (g_name 2 hN) (gs_cons (g_name 3 hN) gs_nil)) (hl := (len_cons (len_cons len_nil))))) (fun _ _ _ _ _ => ts_nil) (fun _ _ _ _ _ => (e_cl h__law_times hr (by decide) (b_cons (e_v 2) (b_cons (e_v 3) b_nil)) (nb_cons (nb_cons nb_nil)))))) b_nil) (nb_cons nb_nil))))
theorem k__law_sum (c : Facts K mg) (h__law_total : Cal P w K mg base 3 "_law_total" ["some"] G__law_total) (h__law_times : Cal P w K mg base 2 "_law_times" ["one", "other"] G__law_times) (Fd : ∃ fd, FunD K "_law_sum" "_law_sum" (defArgs st__law_sum) (defBody st__law_sum) (defScope st__law_sum) [] [] (He.ga K "_law_sum") fd) (hm : mg "_law_sum" = some (.ref (He.ga K "_law_sum"))) : Cal P w K mg base 4 "_law_sum" ["law", "numbers"] G__law_sum :=
  cal_ok Fd hm sc__law_sum (fun _ _ _ _ _ _ us hl => match us, hl with | [_, _], _ => rfl) (fun _ _ _ _ _ _ us hl => match us, hl with | [_, _], _ => rfl) (fun f cdv A outer s H E hr => b__law_sum c h__law_total h__law_times f cdv A outer s H E hr)
abbrev st__law_best : Stmt := top 69
theorem nd__law_best : N__law_best.Nodup := by decide +kernel
theorem sc__law_best : FnScope N__law_best ["bounds", "numbers"] (defScope st__law_best) := ⟨rfl, rfl, rfl, nd__law_best, rfl, by decide +kernel, by decide +kernel⟩
theorem b__law_best (c : Facts K mg) (h__law_added : Cal P w K mg base 2 "_law_added" ["one", "other"] G__law_added) (h__law_less : Cal P w K mg base 2 "_law_less" ["one", "other"] G__law_less) (h__law_is_below : Cal P w K mg base 1 "_law_is_below" ["one", "other"] G__law_is_below) (h__law_times : Cal P w K mg base 2 "_law_times" ["one", "other"] G__law_times) (f : Addr) (cdv : Value) (A : Around) (outer : List PySem.Env) (s : Shared) (H : Hp) (E : XK) (hr : Room 2 (A.deeper (envOfC "_law_best" (defScope st__law_best) s.heap.objs.size f cdv))) :
    ESs false (cxOf CX0 P w K mg base N__law_best "_law_best" (defScope st__law_best) f cdv A outer s H E).nox (defBody st__law_best) m__law_best := by
  have hN := nd__law_best
  exact (ss_cons (s_asg (e_tup (a_cons (e_tup (a_cons e_int (a_cons e_int a_nil))) (a_cons (e_tup (a_cons e_int (a_cons e_int a_nil))) a_nil))) (g_tup rfl (gs_cons (g_name 2 hN) (gs_cons (g_name 3 hN) gs_nil)) (hl := (len_cons (len_cons len_nil)))))
  (ss_cons (s_for PassesOwn.never rfl (i_zip c.b_zip (e_v 0) (e_v 1) rfl) (g_tup rfl (gs_cons (g_tup rfl (gs_cons (g_name 4 hN) (gs_cons (g_name 5 hN) gs_nil)) (hl := (len_cons (len_cons len_nil)))) (gs_cons (g_name 6 hN) gs_nil)) (hl := (len_cons (len_cons len_nil)))) (ss_one (s_par 2 3 rfl hN (a_cons (e_cl h__law_less hr (by decide) (b_cons (e_v 2) (b_cons (e_v 4) b_nil)) (nb_cons (nb_cons nb_nil))) (a_cons (e_cl h__law_added hr (by decide) (b_cons (e_v 3) (b_cons (e_cl h__law_times hr (by decide) (b_cons (e_v 4) (b_cons (e_v 6) b_nil)) (nb_cons (nb_cons nb_nil))) b_nil)) (nb_cons (nb_cons nb_nil))) a_nil)))))
  (ss_cons (s_own 7 hN (f_listRg rfl c.b_list c.b_range (e_len c.b_len (e_v 1))))
  (ss_cons (s_for PassesOwn.never rfl (i_range1 c.b_range (e_len c.b_len (e_v 1))) (g_name 8 hN) (ss_cons (s_set 9 hN (e_ixOwn 7 e_int))
  (ss_cons (s_forOwn 7 9 PassesOwn.never rfl hN (g_name 10 hN) (e_if (t_val (e_cl h__law_is_below hr (by decide) (b_cons (e_ix (e_v 1) (e_v 9)) (b_cons (e_ix (e_v 1) (e_v 10)) b_nil)) (nb_cons (nb_cons nb_nil)))) (e_v 10) (e_v 9)))
  (ss_cons (s_remove 7 (e_v 9))
  (ss_cons (s_set 11 hN (e_cl h__law_less hr (by decide) (b_cons (e_ix (e_ix (e_v 0) (e_v 9)) e_int) (b_cons (e_ix (e_ix (e_v 0) (e_v 9)) e_int) b_nil)) (nb_cons (nb_cons nb_nil))))
  (ss_cons (s_set 12 hN (e_if (t_val (e_cl h__law_is_below hr (by decide) (b_cons (e_v 11) (b_cons (e_v 2) b_nil)) (nb_cons (nb_cons nb_nil)))) (e_v 11) (e_v 2)))
  (ss_one (s_par 2 3 rfl hN (a_cons (e_cl h__law_less hr (by decide) (b_cons (e_v 2) (b_cons (e_v 12) b_nil)) (nb_cons (nb_cons nb_nil))) (a_cons (e_cl h__law_added hr (by decide) (b_cons (e_v 3) (b_cons (e_cl h__law_times hr (by decide) (b_cons (e_v 12) (b_cons (e_ix (e_v 1) (e_v 9)) b_nil)) (nb_cons (nb_cons nb_nil))) b_nil)) (nb_cons (nb_cons nb_nil))) a_nil))))))))))
  (ss_one (s_ret (e_v 3)))))))
theorem k__law_best (c : Facts K mg) (h__law_added : Cal P w K mg base 2 "_law_added" ["one", "other"] G__law_added) (h__law_less : Cal P w K mg base 2 "_law_less" ["one", "other"] G__law_less) (h__law_is_below : Cal P w K mg base 1 "_law_is_below" ["one", "other"] G__law_is_below) (h__law_times : Cal P w K mg base 2 "_law_times" ["one", "other"] G__law_times) (Fd : ∃ fd, FunD K "_law_best" "_law_best" (defArgs st__law_best) (defBody st__law_best) (defScope st__law_best) [] [] (He.ga K "_law_best") fd) (hm : mg "_law_best" = some (.ref (He.ga K "_law_best"))) : Cal P w K mg base 3 "_law_best" ["bounds", "numbers"] G__law_best :=
  cal_ok Fd hm sc__law_best (fun _ _ _ _ _ _ us hl => match us, hl with | [_, _], _ => rfl) (fun _ _ _ _ _ _ us hl => match us, hl with | [_, _], _ => rfl) (fun f cdv A outer s H E hr => b__law_best c h__law_added h__law_less h__law_is_below h__law_times f cdv A outer s H E hr)
abbrev st__law_are_sums_right : Stmt := top 70
theorem nd__law_are_sums_right : N__law_are_sums_right.Nodup := by decide +kernel
theorem sc__law_are_sums_right : FnScope N__law_are_sums_right ["pot", "bounds", "signs"] (defScope st__law_are_sums_right) := ⟨rfl, rfl, rfl, nd__law_are_sums_right, rfl, by decide +kernel, by decide +kernel⟩
theorem b__law_are_sums_right (c : Facts K mg) (h__law_take : Cal P w K mg base 1 "_law_take" ["pot", "upto"] G__law_take) (h__law_cut : Cal P w K mg base 1 "_law_cut" ["top", "low"] G__law_cut) (h__law_added : Cal P w K mg base 2 "_law_added" ["one", "other"] G__law_added) (h__law_less : Cal P w K mg base 2 "_law_less" ["one", "other"] G__law_less) (h__law_is_below : Cal P w K mg base 1 "_law_is_below" ["one", "other"] G__law_is_below) (h_greatest_sum : Cal P w K mg base 8 "greatest_sum" ["bounds", "numbers"] G_greatest_sum) (h__law_is_within : Cal P w K mg base 2 "_law_is_within" ["law", "bounds"] G__law_is_within) (h_mixed_law : Cal P w K mg base 6 "mixed_law" ["one", "other", "share"] G_mixed_law) (h__law_numbers : Cal P w K mg base 2 "_law_numbers" ["pot", "signs"] G__law_numbers) (h_is_law : Cal P w K mg base 5 "is_law" ["value", "signs"] G_is_law) (h__law_times : Cal P w K mg base 2 "_law_times" ["one", "other"] G__law_times) (h__law_sum : Cal P w K mg base 4 "_law_sum" ["law", "numbers"] G__law_sum) (h__law_best : Cal P w K mg base 3 "_law_best" ["bounds", "numbers"] G__law_best) (f : Addr) (cdv : Value) (A : Around) (outer : List PySem.Env) (s : Shared) (H : Hp) (E : XK) (hr : Room 8 (A.deeper (envOfC "_law_are_sums_right" (defScope st__law_are_sums_right) s.heap.objs.size f cdv))) :
    ESs false (cxOf CX0 P w K mg base N__law_are_sums_right "_law_are_sums_right" (defScope st__law_are_sums_right) f cdv A outer s H E).nox (defBody st__law_are_sums_right) m__law_are_sums_right := by
  have hN := nd__law_are_sums_right
  exact (ss_cons (s_par 3 4 rfl hN (a_cons (e_cl h__law_numbers hr (by decide) (b_pot 0 (b_cons (e_v 2) b_nil)) (nb_pot (nb_cons nb_nil))) (a_cons (e_cl h__law_numbers hr (by decide) (b_pot 0 (b_cons (e_v 2) b_nil)) (nb_pot (nb_cons nb_nil))) a_nil)))
  (ss_cons (s_set 5 hN (e_cl h__law_cut hr (by decide) (b_cons (e_add e_int (e_cl h__law_take hr (by decide) (b_pot 0 (b_cons e_int b_nil)) (nb_pot (nb_cons nb_nil)))) (b_cons (e_add e_int (e_cl h__law_take hr (by decide) (b_pot 0 (b_cons e_int b_nil)) (nb_pot (nb_cons nb_nil)))) b_nil)) (nb_cons (nb_cons nb_nil))))
  (ss_cons (s_setLc (own' := [("numbers", 9)]) 6 rfl hN (sw_true rfl rfl rfl (by kernel_rfl)) (i_any (e_tup (a_cons (e_v 3) (a_cons (e_v 4) a_nil)))) (blkOk_by (by kernel_rfl)) (fun _ _ _ _ _ => (g_name 9 hN)) (fun _ _ _ _ _ => ts_nil) (fun _ _ _ _ _ => (e_clK h_greatest_sum hr (by decide) (k_cons (e_v 1) (k_cons (e_v 9) k_nil)) (nb_cons (nb_cons nb_nil)))))
  (ss_cons (s_for PassesOwn.never rfl (i_zip c.b_zip (e_v 6) (e_tup (a_cons (e_v 3) (a_cons (e_v 4) a_nil))) rfl) (g_tup rfl (gs_cons (g_tup rfl (gs_cons (g_name 7 hN) (gs_cons (g_name 8 hN) gs_nil)) (hl := (len_cons (len_cons len_nil)))) (gs_cons (g_name 9 hN) gs_nil)) (hl := (len_cons (len_cons len_nil)))) (ss_cons (s_if (w_pt (w_or (t_c (c_ne hr) (e_v 7) (e_cl h__law_best hr (by decide) (b_cons (e_v 1) (b_cons (e_v 9) b_nil)) (nb_cons (nb_cons nb_nil)))) (w_or (t_c (c_ne hr) (e_cl h__law_sum hr (by decide) (b_cons (e_v 8) (b_cons (e_v 9) b_nil)) (nb_cons (nb_cons nb_nil))) (e_v 7)) (w_or1 (t_not (t_val (e_cl h__law_is_within hr (by decide) (b_cons (e_v 8) (b_cons (e_v 1) b_nil)) (nb_cons (nb_cons nb_nil))))))))) (ss_one (s_ret e_bl)) ss_nil)
  (ss_one (s_if (t_c c_isNot (e_clK h_is_law hr (by decide) (k_cons (e_v 8) (k_cons (e_v 2) k_nil)) (nb_cons (nb_cons nb_nil))) e_bl) (ss_one (s_ret e_bl)) ss_nil))))
  (ss_cons (s_set 10 hN (e_tuple c.b_tuple (e_ofF (f_lc (own' := [("mine", 16), ("its", 17)]) rfl hN (i_zip c.b_zip (e_v 3) (e_v 4) rfl) (blkOk_by (by kernel_rfl)) (fun _ _ _ _ _ => (g_tup rfl (gs_cons (g_name 16 hN) (gs_cons (g_name 17 hN) gs_nil)) (hl := (len_cons (len_cons len_nil))))) (fun _ _ _ _ _ => ts_nil) (fun _ _ _ _ _ => (e_cl h__law_added hr (by decide) (b_cons (e_v 16) (b_cons (e_v 17) b_nil)) (nb_cons (nb_cons nb_nil))))))))
  (ss_cons (s_if (t_val (e_cl h__law_is_below hr (by decide) (b_cons (e_cl h__law_added hr (by decide) (b_cons (e_ix (e_ix (e_v 6) e_int) e_int) (b_cons (e_ix (e_ix (e_v 6) e_int) e_int) b_nil)) (nb_cons (nb_cons nb_nil))) (b_cons (e_ix (e_cl h_greatest_sum hr (by decide) (b_cons (e_v 1) (b_cons (e_v 10) b_nil)) (nb_cons (nb_cons nb_nil))) e_int) b_nil)) (nb_cons (nb_cons nb_nil)))) (ss_one (s_ret e_bl)) ss_nil)
  (ss_cons (s_set 11 hN (e_tuple c.b_tuple (e_ofF (f_lc (own' := [("number", 18)]) rfl hN (i_any (e_v 3)) (blkOk_by (by kernel_rfl)) (fun _ _ _ _ _ => (g_name 18 hN)) (fun _ _ _ _ _ => ts_nil) (fun _ _ _ _ _ => (e_cl h__law_added hr (by decide) (b_cons (e_cl h__law_times hr (by decide) (b_cons (e_v 5) (b_cons (e_v 18) b_nil)) (nb_cons (nb_cons nb_nil))) (b_cons (e_tup (a_cons e_int (a_cons e_int a_nil))) b_nil)) (nb_cons (nb_cons nb_nil))))))))
  (ss_cons (s_if (t_c (c_ne hr) (e_ix (e_cl h_greatest_sum hr (by decide) (b_cons (e_v 1) (b_cons (e_v 11) b_nil)) (nb_cons (nb_cons nb_nil))) e_int) (e_cl h__law_added hr (by decide) (b_cons (e_cl h__law_times hr (by decide) (b_cons (e_v 5) (b_cons (e_ix (e_ix (e_v 6) e_int) e_int) b_nil)) (nb_cons (nb_cons nb_nil))) (b_cons (e_tup (a_cons e_int (a_cons e_int a_nil))) b_nil)) (nb_cons (nb_cons nb_nil)))) (ss_one (s_ret e_bl)) ss_nil)
  (ss_cons (s_set 12 hN (e_cl h__law_cut hr (by decide) (b_cons (e_cl h__law_take hr (by decide) (b_pot 0 (b_cons e_int b_nil)) (nb_pot (nb_cons nb_nil))) (b_cons e_int b_nil)) (nb_cons (nb_cons nb_nil))))
  (ss_cons (s_set 13 hN (e_clK h_mixed_law hr (by decide) (k_cons (e_ix (e_ix (e_v 6) e_int) e_int) (k_cons (e_ix (e_ix (e_v 6) e_int) e_int) (k_cons (e_v 12) k_nil))) (nb_cons (nb_cons (nb_cons nb_nil)))))
  (ss_cons (s_if (w_pt (w_or (t_not (t_val (e_cl h__law_is_within hr (by decide) (b_cons (e_v 13) (b_cons (e_v 1) b_nil)) (nb_cons (nb_cons nb_nil))))) (w_or1 (t_val (e_cl h__law_is_below hr (by decide) (b_cons (e_ix (e_ix (e_v 6) e_int) e_int) (b_cons (e_cl h__law_sum hr (by decide) (b_cons (e_v 13) (b_cons (e_v 3) b_nil)) (nb_cons (nb_cons nb_nil))) b_nil)) (nb_cons (nb_cons nb_nil))))))) (ss_one (s_ret e_bl)) ss_nil)
  (ss_cons (s_set 14 hN (e_cl h__law_less hr (by decide) (b_cons (e_tup (a_cons e_int (a_cons e_int a_nil))) (b_cons (e_v 12) b_nil)) (nb_cons (nb_cons nb_nil))))
  (ss_cons (s_setLc (own' := [("mine", 16), ("its", 17)]) 15 rfl hN (sw_true rfl rfl rfl (by kernel_rfl)) (i_zip c.b_zip (e_ix (e_ix (e_v 6) e_int) e_int) (e_ix (e_ix (e_v 6) e_int) e_int) rfl) (blkOk_by (by kernel_rfl)) (fun _ _ _ _ _ => (g_tup rfl (gs_cons (g_name 16 hN) (gs_cons (g_name 17 hN) gs_nil)) (hl := (len_cons (len_cons len_nil))))) (fun _ _ _ _ _ => ts_nil) (fun _ _ _ _ _ => (e_tup (a_cons (e_cl h__law_times hr (by decide) (b_cons (e_v 14) (b_cons (e_v 16) b_nil)) (nb_cons (nb_cons nb_nil))) (a_cons (e_cl h__law_times hr (by decide) (b_cons (e_v 12) (b_cons (e_v 17) b_nil)) (nb_cons (nb_cons nb_nil))) a_nil)))))
  (ss_one (s_ret (e_c (c_eq hr) (e_v 13) (e_tuple c.b_tuple (e_ofF (f_lc (own' := [("mine", 16), ("its", 17)]) rfl hN (i_any (e_v 15)) (blkOk_by (by kernel_rfl)) (fun _ _ _ _ _ => (g_tup rfl (gs_cons (g_name 16 hN) (gs_cons (g_name 17 hN) gs_nil)) (hl := (len_cons (len_cons len_nil))))) (fun _ _ _ _ _ => ts_nil) (fun _ _ _ _ _ => (e_cl h__law_added hr (by decide) (b_cons (e_v 16) (b_cons (e_v 17) b_nil)) (nb_cons (nb_cons nb_nil)))))))))))))))))))))))
theorem k__law_are_sums_right (c : Facts K mg) (h__law_take : Cal P w K mg base 1 "_law_take" ["pot", "upto"] G__law_take) (h__law_cut : Cal P w K mg base 1 "_law_cut" ["top", "low"] G__law_cut) (h__law_added : Cal P w K mg base 2 "_law_added" ["one", "other"] G__law_added) (h__law_less : Cal P w K mg base 2 "_law_less" ["one", "other"] G__law_less) (h__law_is_below : Cal P w K mg base 1 "_law_is_below" ["one", "other"] G__law_is_below) (h_greatest_sum : Cal P w K mg base 8 "greatest_sum" ["bounds", "numbers"] G_greatest_sum) (h__law_is_within : Cal P w K mg base 2 "_law_is_within" ["law", "bounds"] G__law_is_within) (h_mixed_law : Cal P w K mg base 6 "mixed_law" ["one", "other", "share"] G_mixed_law) (h__law_numbers : Cal P w K mg base 2 "_law_numbers" ["pot", "signs"] G__law_numbers) (h_is_law : Cal P w K mg base 5 "is_law" ["value", "signs"] G_is_law) (h__law_times : Cal P w K mg base 2 "_law_times" ["one", "other"] G__law_times) (h__law_sum : Cal P w K mg base 4 "_law_sum" ["law", "numbers"] G__law_sum) (h__law_best : Cal P w K mg base 3 "_law_best" ["bounds", "numbers"] G__law_best) (Fd : ∃ fd, FunD K "_law_are_sums_right" "_law_are_sums_right" (defArgs st__law_are_sums_right) (defBody st__law_are_sums_right) (defScope st__law_are_sums_right) [] [] (He.ga K "_law_are_sums_right") fd) (hm : mg "_law_are_sums_right" = some (.ref (He.ga K "_law_are_sums_right"))) : Cal P w K mg base 9 "_law_are_sums_right" ["pot", "bounds", "signs"] G__law_are_sums_right :=
  cal_ok Fd hm sc__law_are_sums_right (fun _ _ _ _ _ _ us hl => match us, hl with | [_, _, _], _ => rfl) (fun _ _ _ _ _ _ us hl => match us, hl with | [_, _, _], _ => rfl) (fun f cdv A outer s H E hr => b__law_are_sums_right c h__law_take h__law_cut h__law_added h__law_less h__law_is_below h_greatest_sum h__law_is_within h_mixed_law h__law_numbers h_is_law h__law_times h__law_sum h__law_best f cdv A outer s H E hr)
abbrev st__law_right : Stmt := top 72
theorem nd__law_right : N__law_right.Nodup := by decide +kernel
theorem sc__law_right : FnScope N__law_right ["pot"] (defScope st__law_right) := ⟨rfl, rfl, rfl, nd__law_right, rfl, by decide +kernel, by decide +kernel⟩
theorem b__law_right (c : Facts K mg) (h__law_take : Cal P w K mg base 1 "_law_take" ["pot", "upto"] G__law_take) (h__law_cut : Cal P w K mg base 1 "_law_cut" ["top", "low"] G__law_cut) (h__law_chances : Cal P w K mg base 2 "_law_chances" ["pot", "signs", "holes"] G__law_chances) (h__law_is_below : Cal P w K mg base 1 "_law_is_below" ["one", "other"] G__law_is_below) (h__law_bounds : Cal P w K mg base 5 "_law_bounds" ["pot", "chances"] G__law_bounds) (h_greatest_sum : Cal P w K mg base 8 "greatest_sum" ["bounds", "numbers"] G_greatest_sum) (h__law_are_ends_right : Cal P w K mg base 9 "_law_are_ends_right" ["pot", "bounds", "signs"] G__law_are_ends_right) (h_is_fair : Cal P w K mg base 10 "is_fair" ["bounds", "bet"] G_is_fair) (h__law_is_within : Cal P w K mg base 2 "_law_is_within" ["law", "bounds"] G__law_is_within) (h__law_are_sums_right : Cal P w K mg base 9 "_law_are_sums_right" ["pot", "bounds", "signs"] G__law_are_sums_right) (f : Addr) (cdv : Value) (A : Around) (outer : List PySem.Env) (s : Shared) (H : Hp) (E : XK) (hr : Room 10 (A.deeper (envOfC "_law_right" (defScope st__law_right) s.heap.objs.size f cdv))) :
    ESs false (cxOf CX0 P w K mg base N__law_right "_law_right" (defScope st__law_right) f cdv A outer s H E).nox (defBody st__law_right) m__law_right := by
  have hN := nd__law_right
  exact (ss_cons (s_set 1 hN (e_add e_int (e_cl h__law_take hr (by decide) (b_pot 0 (b_cons e_int b_nil)) (nb_pot (nb_cons nb_nil)))))
  (ss_cons (s_set 2 hN (e_cl h__law_chances hr (by decide) (b_pot 0 (b_cons (e_v 1) (b_cons e_bl b_nil))) (nb_pot (nb_cons (nb_cons nb_nil)))))
  (ss_cons (s_set 3 hN (e_cl h__law_bounds hr (by decide) (b_pot 0 (b_cons (e_v 2) b_nil)) (nb_pot (nb_cons nb_nil))))
  (ss_cons (s_if (w_pt (w_or (t_not (t_val (e_cl h__law_is_within hr (by decide) (b_cons (e_v 2) (b_cons (e_v 3) b_nil)) (nb_cons (nb_cons nb_nil))))) (w_or1 (t_not (t_val (e_cl h__law_are_sums_right hr (by decide) (b_pot 0 (b_cons (e_v 3) (b_cons (e_v 1) b_nil))) (nb_pot (nb_cons (nb_cons nb_nil))))))))) (ss_one (s_ret e_bl)) ss_nil)
  (ss_cons (s_set 4 hN (e_tuple c.b_tuple (e_ofF (f_lc (own' := [("sign", 5)]) rfl hN (i_range1 c.b_range (e_v 1)) (blkOk_by (by kernel_rfl)) (fun _ _ _ _ _ => (g_name 5 hN)) (fun _ _ _ _ _ => ts_nil) (fun _ _ _ _ _ => (e_cl h__law_cut hr (by decide) (b_cons (e_cl h__law_take hr (by decide) (b_pot 0 (b_cons e_int b_nil)) (nb_pot (nb_cons nb_nil))) (b_cons (e_add e_int (e_cl h__law_take hr (by decide) (b_pot 0 (b_cons e_int b_nil)) (nb_pot (nb_cons nb_nil)))) b_nil)) (nb_cons (nb_cons nb_nil))))))))
  (ss_cons (s_if (t_c (c_ne hr) (e_clK h_is_fair hr (by decide) (k_cons (e_v 3) (k_cons (e_v 4) k_nil)) (nb_cons (nb_cons nb_nil))) (e_not (e_cl h__law_is_below hr (by decide) (b_cons (e_tup (a_cons e_int (a_cons e_int a_nil))) (b_cons (e_ix (e_cl h_greatest_sum hr (by decide) (b_cons (e_v 3) (b_cons (e_v 4) b_nil)) (nb_cons (nb_cons nb_nil))) e_int) b_nil)) (nb_cons (nb_cons nb_nil))))) (ss_one (s_ret e_bl)) ss_nil)
  (ss_one (s_ret (e_cl h__law_are_ends_right hr (by decide) (b_pot 0 (b_cons (e_v 3) (b_cons (e_v 1) b_nil))) (nb_pot (nb_cons (nb_cons nb_nil))))))))))))
theorem k__law_right (c : Facts K mg) (h__law_take : Cal P w K mg base 1 "_law_take" ["pot", "upto"] G__law_take) (h__law_cut : Cal P w K mg base 1 "_law_cut" ["top", "low"] G__law_cut) (h__law_chances : Cal P w K mg base 2 "_law_chances" ["pot", "signs", "holes"] G__law_chances) (h__law_is_below : Cal P w K mg base 1 "_law_is_below" ["one", "other"] G__law_is_below) (h__law_bounds : Cal P w K mg base 5 "_law_bounds" ["pot", "chances"] G__law_bounds) (h_greatest_sum : Cal P w K mg base 8 "greatest_sum" ["bounds", "numbers"] G_greatest_sum) (h__law_are_ends_right : Cal P w K mg base 9 "_law_are_ends_right" ["pot", "bounds", "signs"] G__law_are_ends_right) (h_is_fair : Cal P w K mg base 10 "is_fair" ["bounds", "bet"] G_is_fair) (h__law_is_within : Cal P w K mg base 2 "_law_is_within" ["law", "bounds"] G__law_is_within) (h__law_are_sums_right : Cal P w K mg base 9 "_law_are_sums_right" ["pot", "bounds", "signs"] G__law_are_sums_right) (Fd : ∃ fd, FunD K "_law_right" "_law_right" (defArgs st__law_right) (defBody st__law_right) (defScope st__law_right) [] [] (He.ga K "_law_right") fd) (hm : mg "_law_right" = some (.ref (He.ga K "_law_right"))) : Cal P w K mg base 11 "_law_right" ["pot"] G__law_right :=
  cal_ok Fd hm sc__law_right (fun _ _ _ _ _ _ us hl => match us, hl with | [_], _ => rfl) (fun _ _ _ _ _ _ us hl => match us, hl with | [_], _ => rfl) (fun f cdv A outer s H E hr => b__law_right c h__law_take h__law_cut h__law_chances h__law_is_below h__law_bounds h_greatest_sum h__law_are_ends_right h_is_fair h__law_is_within h__law_are_sums_right f cdv A outer s H E hr)
abbrev st_law : Stmt := top 73
theorem nd_law : N_law.Nodup := by decide +kernel
theorem sc_law : FnScope N_law ["script"] (defScope st_law) := ⟨rfl, rfl, rfl, nd_law, rfl, by decide +kernel, by decide +kernel⟩
theorem b_law (c : Facts K mg) (h__law_cells : Cal P w K mg base 1 "_law_cells" ["script", "most"] G__law_cells) (h__law_pot : CalL P w K mg base 1 "_law_pot" ["script", "place"] G__law_pot) (h__law_right : Cal P w K mg base 11 "_law_right" ["pot"] G__law_right) (f : Addr) (cdv : Value) (A : Around) (outer : List PySem.Env) (s : Shared) (H : Hp) (E : XK) (hr : Room 11 (A.deeper (envOfC "law" (defScope st_law) s.heap.objs.size f cdv))) :
    ESs true (cxOf CX0 P w K mg base N_law "law" (defScope st_law) f cdv A outer s H E).nox (defBody st_law) m_law := by
  have hN := nd_law
  exact (ss_cons (s_for PassesOwn.never rfl (i_any (e_cl h__law_cells hr (by decide) (b_cons (e_v 0) (b_cons e_int b_nil)) (nb_cons (nb_cons nb_nil)))) (g_name 1 hN) (ss_cons (s_pot 2 hN (f_cl h__law_pot hr (by decide) (b_cons (e_v 0) (b_cons (e_v 1) b_nil)) (nb_cons (nb_cons nb_nil))))
  (ss_one (s_if (t_not (t_val (e_all rfl c.b_all (e_ofF (f_lc (own' := [("lap", 3)]) rfl hN (i_range1 c.b_range e_int) (blkOk_by (by kernel_rfl)) (fun _ _ _ _ _ => (g_name 3 hN)) (fun _ _ _ _ _ => ts_nil) (fun _ _ _ _ _ => (e_cl h__law_right hr (by decide) (b_pot 2 b_nil) (nb_pot nb_nil)))))))) (ss_one (s_ret e_bl)) ss_nil))))
  (ss_one (s_ret e_bl)))
end
end K47
set_option linter.all false
set_option maxRecDepth 100000
namespace DL
/-! Evaluation: what the denotations give, applied. -/
/-- a slot that is no list of one's own -/
def ob : Option D → B
  | none => .un
  | some d => .val d
theorem ob_some (d : D) : B.val d = ob (some d) := rfl
theorem ob_none : B.un = ob none := rfl
theorem notOwn_ob (o : Option D) (l : List B) : notOwn (ob o :: l) 0 = true := by cases o <;> rfl
theorem notOwn_val (d : D) (l : List B) : notOwn (.val d :: l) 0 = true := rfl
theorem notOwn_un (l : List B) : notOwn (.un :: l) 0 = true := rfl
theorem notOwn_pot (l : List B) : notOwn (.pot :: l) 0 = true := rfl
theorem notOwn_succ (b : B) (l : List B) (i : Nat) : notOwn (b :: l) (i + 1) = notOwn l i := by unfold notOwn; rw [List.getElem?_cons_succ]
theorem items_tup (ds : List D) : items (.tup ds) = some ds := rfl
theorem items_lst (ds : List D) : items (.lst ds) = some ds := rfl
section
variable (f g : D → D → Option D) (f1 : D → Option D) (fl : List D → Option D) (ma mb mc : ME) (mr mr' mi : MA) (mt mu : MT) (m1 m2 : MS) (gg : MG) (gs : MGs) (env : Env) (pot : Pot) (i j : Nat) (d : D) (b1 b2 : MB) (G : Fn) (GL : FnL) (ml mh : MO)
@[simp] theorem ev_lft {α : Type} (o : Option α) : lft o env pot = match o with | none => none | some a => some (a, pot) := rfl
@[simp] theorem ev_bnd {α β : Type} (m : MM α) (k : α → MM β) : bnd m k env pot = match m env pot with | none => none | some (a, p1) => k a env p1 := rfl
@[simp] theorem ev_d1 : d1 f1 ma env pot = bnd ma (fun x => lft (f1 x)) env pot := rfl
@[simp] theorem ev_d2 : d2 f ma mb env pot = bnd ma (fun x => bnd mb fun y => lft (f x y)) env pot := rfl
@[simp] theorem ev_dT : dT ma env pot = match ma env pot with | some (.bl b, pot') => some (b, pot') | _ => none := rfl
@[simp] theorem ev_dV : dV i env pot = match env[i]? with | some (.val d) => some (d, pot) | _ => none := rfl
@[simp] theorem ev_dC : dC d env pot = some (d, pot) := rfl
@[simp] theorem ev_dB : dB fl mr env pot = bnd mr (fun x => lft (fl x)) env pot := rfl
@[simp] theorem ev_aNil : aNil env pot = some ([], pot) := rfl
@[simp] theorem ev_aCons : aCons ma mr env pot = bnd ma (fun x => bnd mr fun xs => lft (some (x :: xs))) env pot := rfl
@[simp] theorem ev_aStar : aStar ma mr env pot = bnd ma (fun x => bnd (lft (items x)) fun ds => bnd mr fun xs => lft (some (ds ++ xs))) env pot := rfl
@[simp] theorem ev_aLen : aLen mr env pot = match mr env pot with | none => none | some (ds, p1) => if ds.length ≤ 16777216 then some (ds, p1) else none := by
  unfold aLen bnd
  cases h : mr env pot with
  | none => rfl
  | some r => obtain ⟨x, p1⟩ := r; dsimp only; split <;> rfl
@[simp] theorem ev_dTup : dTup mr env pot = match mr env pot with | none => none | some (ds, p1) => if ds.length ≤ 16777216 then some (.tup ds, p1) else none := by
  unfold dTup bnd
  cases h : mr env pot with
  | none => rfl
  | some r => obtain ⟨x, p1⟩ := r; dsimp only; split <;> rfl
@[simp] theorem ev_dL : dL mr env pot = bnd mr (fun ds => dC (.lst ds)) env pot := rfl
@[simp] theorem ev_dIf : dIf mt ma mb env pot = match mt env pot with | none => none | some (true, p1) => ma env p1 | some (false, p1) => mb env p1 := by
  unfold dIf bnd
  cases h : mt env pot with
  | none => rfl
  | some r => obtain ⟨x, p1⟩ := r; cases x <;> rfl
@[simp] theorem ev_tAnd2 : tAnd2 mt mu env pot = match mt env pot with | none => none | some (true, p1) => mu env p1 | some (false, p1) => some (false, p1) := by
  unfold tAnd2 bnd
  cases h : mt env pot with
  | none => rfl
  | some r => obtain ⟨x, p1⟩ := r; cases x <;> rfl
@[simp] theorem ev_tOr2 : tOr2 mt mu env pot = match mt env pot with | none => none | some (true, p1) => some (true, p1) | some (false, p1) => mu env p1 := by
  unfold tOr2 bnd
  cases h : mt env pot with
  | none => rfl
  | some r => obtain ⟨x, p1⟩ := r; cases x <;> rfl
@[simp] theorem ev_tNot1 : tNot1 mt env pot = bnd mt (fun b => lft (some (!b))) env pot := rfl
@[simp] theorem ev_tYes1 : tYes1 env pot = some (true, pot) := rfl
@[simp] theorem ev_dAnd2 : dAnd2 ma mb env pot = match ma env pot with | some (.bl true, p1) => mb env p1 | some (.bl false, p1) => some (.bl false, p1) | _ => none := by
  unfold dAnd2 bnd dT
  cases h : ma env pot with
  | none => rfl
  | some r =>
    obtain ⟨x, p1⟩ := r
    cases x with
    | bl b => cases b <;> rfl
    | _ => rfl
@[simp] theorem ev_dOr2 : dOr2 ma mb env pot = match ma env pot with | some (.bl true, p1) => some (.bl true, p1) | some (.bl false, p1) => mb env p1 | _ => none := by
  unfold dOr2 bnd dT
  cases h : ma env pot with
  | none => rfl
  | some r =>
    obtain ⟨x, p1⟩ := r
    cases x with
    | bl b => cases b <;> rfl
    | _ => rfl
@[simp] theorem ev_dNot1 : dNot1 ma env pot = match ma env pot with | some (.bl b, p1) => some (.bl !b, p1) | _ => none := by
  unfold dNot1 bnd dT
  cases h : ma env pot with
  | none => rfl
  | some r =>
    obtain ⟨x, p1⟩ := r
    cases x with
    | bl b => cases b <;> rfl
    | _ => rfl
@[simp] theorem ev_dChain : dChain f g ma mb mc env pot = match ma env pot with | none => none | some (x, p1) => (match mb env p1 with | none => none | some (y, p2) => (match f x y with | some (.bl true) => bnd mc (fun w => lft (g y w)) env p2 | some (.bl false) => some (.bl false, p2) | _ => none)) := by
  unfold dChain
  simp only [ev_bnd, ev_lft]
  cases h : ma env pot with
  | none => rfl
  | some r =>
    obtain ⟨x, p1⟩ := r
    dsimp only
    cases h2 : mb env p1 with
    | none => rfl
    | some r2 =>
      obtain ⟨y, p2⟩ := r2
      dsimp only
      cases h3 : f x y with
      | none => rfl
      | some z =>
        cases z with
        | bl b => cases b <;> rfl
        | _ => rfl
@[simp] theorem ev_mNil : mNil env pot = some (.nx env pot) := rfl
@[simp] theorem ev_mSeq : mSeq m1 m2 env pot = match m1 env pot with | some (.nx env' pot') => m2 env' pot' | o => o := rfl
@[simp] theorem ev_mIf : mIf mt m1 m2 env pot = match mt env pot with | none => none | some (true, pot') => m1 env pot' | some (false, pot') => m2 env pot' := rfl
@[simp] theorem ev_mRt : mRt ma env pot = match ma env pot with | some (d, pot') => some (.rt d pot') | none => none := rfl
@[simp] theorem ev_mRf : mRf mr env pot = match mr env pot with | some (d, pot') => some (.rf d pot') | none => none := rfl
@[simp] theorem ev_mEx : mEx ma env pot = match ma env pot with | some (_, pot') => some (.nx env pot') | none => none := rfl
@[simp] theorem ev_mAsg : mAsg ma gg env pot = match ma env pot with | some (d, pot') => (match gg d env with | some env' => some (.nx env' pot') | none => none) | none => none := rfl
@[simp] theorem ev_gN : gN i d env = if notOwn env i = true then some (env.set i (.val d)) else none := rfl
@[simp] theorem ev_gT : gT gs d env = match d with | .tup ds => gs ds env | _ => none := rfl
@[simp] theorem ev_gsNil (ds : List D) : gsNil ds env = match ds with | [] => some env | _ => none := rfl
@[simp] theorem ev_gsCons (ds : List D) : gsCons gg gs ds env = match ds with | d :: r => (match gg d env with | none => none | some env' => gs r env') | [] => none := by
  unfold gsCons
  cases ds with
  | nil => rfl
  | cons d r => cases h : gg d env <;> simp [h]
@[simp] theorem ev_mPar : mPar i j mr env pot = match mr env pot with | some ([d1, d2], pot') => if notOwn env i = true ∧ notOwn env j = true then some (.nx ((env.set i (.val d1)).set j (.val d2)) pot') else none | _ => none := rfl
@[simp] theorem ev_dCall : dCall G b1 env pot = bnd b1 (fun as _ pot => G as pot) env pot := rfl
@[simp] theorem ev_aCall : aCall GL b1 env pot = bnd b1 (fun as _ pot => GL as pot) env pot := rfl
@[simp] theorem ev_bNil : bNil env pot = some ([], pot) := rfl
@[simp] theorem ev_bCons : bCons ma b1 env pot = bnd ma (fun x => bnd b1 fun xs => lft (some (.val x :: xs))) env pot := rfl
@[simp] theorem ev_bPot : bPot i b1 env pot = match env[i]? with | some .pot => bnd b1 (fun xs => lft (some (.pot :: xs))) env pot | _ => none := rfl
@[simp] theorem ev_iAny : iAny ma env pot = bnd ma (fun x => lft (items x)) env pot := rfl
@[simp] theorem ev_mFor : mFor mi gg m1 env pot = match mi env pot with | none => none | some (ds, pot') => forLoop gg m1 ds env pot' := rfl
@[simp] theorem ev_mWh (fu : Env → Pot → Nat) : mWh fu mt m1 env pot = whLoop mt m1 (fu env pot) env pot := rfl
@[simp] theorem ev_mOwn : mOwn mr i env pot = match mr env pot with | some (ds, pot') => if notOwn env i = true ∧ flatP pot' = true ∧ i < env.length then some (.nx (env.set i (.own ds)) pot') else none | none => none := rfl
@[simp] theorem ev_mFrz : mFrz i m1 env pot = match env[i]? with | some (.own ds) => m1 (env.set i (.val (.lst ds))) pot | _ => none := rfl
@[simp] theorem ev_mMeth (ff : List D → D → Option (List D)) : mMeth ff i ma env pot = match ma env pot with | some (d, pot') => (match env[i]? with | some (.own ds) => (match ff ds d with | some es => some (.nx (env.set i (.own es)) pot') | none => none) | _ => none) | none => none := rfl
@[simp] theorem ev_mSetIx : mSetIx i ma mb env pot = match ma env pot with | some (d, pot1) => (match mb env pot1 with | some (.int z, pot2) => (match env[i]? with | some (.own ds) => (match L2.ixN ds.length z with | some j => some (.nx (env.set i (.own (ds.set j d))) pot2) | none => none) | _ => none) | _ => none) | none => none := rfl
@[simp] theorem ev_mSetPot : mSetPot i ma mb env pot = match ma env pot with | some (d, pot1) => (match mb env pot1 with | some (.int z, some ds) => (match env[i]? with | some .pot => (match L2.ixN ds.length z with | some j => some (.nx env (some (ds.set j d))) | none => none) | _ => none) | _ => none) | none => none := rfl
@[simp] theorem ev_mPot : mPot mr i env pot = match mr env pot with | some (ds, pot') => if notOwn env i = true ∧ flatP pot' = true ∧ i < env.length ∧ ((env.set i .un).all fun b => !isPot b) = true then some (.nx (env.set i .pot) (some ds)) else none | none => none := rfl
@[simp] theorem ev_dPotIx : dPotIx i mb env pot = match mb env pot with | none => none | some (k, p1) => (match env[i]?, p1, k with | some .pot, some ds, .int z => (match L2.atI ds z with | some d => some (d, p1) | none => none) | _, _, _ => none) := by
  unfold dPotIx bnd
  cases h : mb env pot with
  | none => rfl
  | some r => obtain ⟨x, p1⟩ := r; rfl
@[simp] theorem ev_dOwnIx : dOwnIx i mb env pot = match mb env pot with | none => none | some (k, p1) => (match env[i]?, k with | some (.own ds), .int z => (match L2.atI ds z with | some d => some (d, p1) | none => none) | _, _ => none) := by
  unfold dOwnIx bnd
  cases h : mb env pot with
  | none => rfl
  | some r => obtain ⟨x, p1⟩ := r; rfl
@[simp] theorem ev_dOwnR : dOwnR f i ma env pot = match ma env pot with | none => none | some (a, p1) => (match env[i]? with | some (.own ds) => (match f a (.lst ds) with | some d => if flat d = true then some (d, p1) else none | none => none) | _ => none) := by
  unfold dOwnR bnd
  cases h : ma env pot with
  | none => rfl
  | some r => obtain ⟨x, p1⟩ := r; rfl
@[simp] theorem ev_mForOwn : mForOwn i gg m1 env pot = match env[i]? with | some (.own ds) => forLoop gg m1 ds env pot | _ => none := rfl
@[simp] theorem ev_fListOf : fListOf ma env pot = bnd ma (fun x => lft (items x)) env pot := rfl
@[simp] theorem ev_dIsi (T : String) : dIsi T ma env pot = bnd ma (fun x => dC (.bl (isiB T (tyN x)))) env pot := rfl
@[simp] theorem ev_aLc (vs : List Nat) : aLc vs mi gg mt ma env pot = match mi env pot with | none => none | some (ds, p1) => if (vs.all fun i => notOwn env i) = true ∧ ds.length ≤ 16777216 then lcLoop gg mt ma (wipeE env vs) ds p1 else none := by
  unfold aLc bnd
  cases h : mi env pot with
  | none => rfl
  | some r => obtain ⟨x, p1⟩ := r; rfl
@[simp] theorem ev_iEnum : iEnum ma env pot = bnd ma (fun x => lft ((items x).map enumD)) env pot := rfl
@[simp] theorem ev_dSl : dSl ma ml mh env pot = match ma env pot with | none => none | some (x, p1) => (match ml env p1 with | none => none | some (lo, p2) => (match mh env p2 with | none => none | some (hi, p3) => (match x with | .tup ds => some (.tup (cutD ds lo hi), p3) | .lst ds => some (.lst (cutD ds lo hi), p3) | _ => none))) := by
  unfold dSl bnd
  cases h : ma env pot with
  | none => rfl
  | some r =>
    obtain ⟨x, p1⟩ := r
    dsimp only
    cases h2 : ml env p1 with
    | none => rfl
    | some r2 =>
      obtain ⟨lo, p2⟩ := r2
      dsimp only
      cases h3 : mh env p2 with
      | none => rfl
      | some r3 =>
        obtain ⟨hi, p3⟩ := r3
        cases x <;> rfl
@[simp] theorem ev_oNone : oNone env pot = some (none, pot) := rfl
@[simp] theorem ev_oSome : oSome ma env pot = match ma env pot with | some (.int i, p1) => some (some i, p1) | _ => none := by
  unfold oSome bnd
  cases h : ma env pot with
  | none => rfl
  | some r => obtain ⟨x, p1⟩ := r; cases x <;> rfl
@[simp] theorem ev_mNever : mNever env pot = none := rfl
end
end DL
set_option linter.all false
set_option maxRecDepth 100000
namespace DL
/-! Loops and comprehensions by plain lists. -/
section
variable {α : Type} {g : MG} {mb : MS} {mt : MT} {me : ME} {env : Env} {pot : Pot}
theorem for_ok (a : α → D) (Inv : List α → Env → Pot → Prop) : ∀ (xs done : List α) (env : Env) (pot : Pot), Inv done env pot →
    (∀ (d : List α) (x : α) (r : List α) (env : Env) (pot : Pot), done ++ xs = d ++ x :: r → Inv d env pot → ∃ env1 env2 pot2, g (a x) env = some env1 ∧ mb env1 pot = some (.nx env2 pot2) ∧ Inv (d ++ [x]) env2 pot2) →
    ∃ env' pot', forLoop g mb (xs.map a) env pot = some (.nx env' pot') ∧ Inv (done ++ xs) env' pot'
  | [], done, env, pot, h, _ => ⟨env, pot, rfl, by simpa using h⟩
  | x :: xs, done, env, pot, h, st => by
    obtain ⟨env1, env2, pot2, h1, h2, h3⟩ := st done x xs env pot rfl h
    obtain ⟨env', pot', h4, h5⟩ := for_ok a Inv xs (done ++ [x]) env2 pot2 h3 (fun d y r e p hd => st d y r e p (by rw [← hd]; simp))
    refine ⟨env', pot', ?_, by simpa using h5⟩
    simp only [List.map_cons, forLoop, h1, h2]
    exact h4
/-- a for over plain data, by an invariant of what is done -/
theorem for_inv (a : α → D) (Inv : List α → Env → Pot → Prop) (xs : List α) (h0 : Inv [] env pot)
    (st : ∀ (d : List α) (x : α) (r : List α) (env : Env) (pot : Pot), xs = d ++ x :: r → Inv d env pot → ∃ env1 env2 pot2, g (a x) env = some env1 ∧ mb env1 pot = some (.nx env2 pot2) ∧ Inv (d ++ [x]) env2 pot2) :
    ∃ env' pot', forLoop g mb (xs.map a) env pot = some (.nx env' pot') ∧ Inv xs env' pot' := by
  have := for_ok (g := g) (mb := mb) a Inv xs [] env pot h0 (fun d x r e p hd => st d x r e p (by simpa using hd))
  simpa using this
/-- a comprehension that leaves the pot -/
theorem lc_filter (a : α → D) (p : α → Bool) (b : α → D) (xs : List α) (st : ∀ x ∈ xs, ∃ env', g (a x) env = some env' ∧ mt env' pot = some (p x, pot) ∧ (p x = true → me env' pot = some (b x, pot))) :
    lcLoop g mt me env (xs.map a) pot = some ((xs.filter p).map b, pot) := by
  induction xs with
  | nil => rfl
  | cons x xs ih =>
    obtain ⟨env', h1, h2, h3⟩ := st x List.mem_cons_self
    have ih' := ih fun y hy => st y (List.mem_cons_of_mem _ hy)
    simp only [List.map_cons, lcLoop, h1, h2]
    cases hp : p x with
    | false => simp [hp, ih']
    | true => simp [hp, h3 hp, ih']
theorem lc_map (a : α → D) (b : α → D) (xs : List α) (st : ∀ x ∈ xs, ∃ env', g (a x) env = some env' ∧ mt env' pot = some (true, pot) ∧ me env' pot = some (b x, pot)) :
    lcLoop g mt me env (xs.map a) pot = some (xs.map b, pot) := by
  have := lc_filter (g := g) (mt := mt) (me := me) (env := env) (pot := pot) a (fun _ => true) b xs fun x hx => by
    obtain ⟨env', h1, h2, h3⟩ := st x hx
    exact ⟨env', h1, h2, fun _ => h3⟩
  rwa [List.filter_eq_self.mpr (fun _ _ => rfl)] at this
/-- .. that changes the pot -/
theorem lc_pot (a : α → D) (Q : α → D → Prop) (Inv : Nat → Pot → Prop) (m : Nat) : ∀ (xs : List α) (n : Nat) (pot : Pot), n + xs.length ≤ m → Inv n pot → (∀ x ∈ xs, ∀ n pot, n < m → Inv n pot → ∃ env' d pot', g (a x) env = some env' ∧ mt env' pot = some (true, pot) ∧ me env' pot = some (d, pot') ∧ Q x d ∧ Inv (n + 1) pot') →
    ∃ ds pot', lcLoop g mt me env (xs.map a) pot = some (ds, pot') ∧ ds.length = xs.length ∧ (∀ p ∈ xs.zip ds, Q p.1 p.2) ∧ Inv (n + xs.length) pot'
  | [], n, pot, _, h, _ => ⟨[], pot, rfl, rfl, (fun _ h => nomatch h), h⟩
  | x :: xs, n, pot, hm, h, st => by
    rw [List.length_cons] at hm
    obtain ⟨env', d, pot1, h1, h2, h3, h4, h5⟩ := st x List.mem_cons_self n pot (by omega) h
    obtain ⟨ds, pot', h6, h7, h8, h9⟩ := lc_pot a Q Inv m xs (n + 1) pot1 (by omega) h5 fun y hy => st y (List.mem_cons_of_mem _ hy)
    refine ⟨d :: ds, pot', ?_, by simp [h7], ?_, by rw [List.length_cons]; rw [show n + (xs.length + 1) = n + 1 + xs.length by omega]; exact h9⟩
    · simp only [List.map_cons, lcLoop, h1, h2, h3, h6]
    · intro p hp
      rcases List.mem_cons.mp hp with z | z
      · rw [z]; exact h4
      · exact h8 p z
theorem lc2_map {β : Type} {mi1 : MA} {g1 : MG} {mt1 : MT} {vs1 : List Nat} (a : α → D) (b : β → D) (c : α → β → D) (ys : List β) (xs : List α)
    (st : ∀ x ∈ xs, ∃ env', g (a x) env = some env' ∧ mt env' pot = some (true, pot) ∧ mi1 env' pot = some (ys.map b, pot) ∧ (vs1.all fun i => notOwn env' i) = true ∧ ∀ y ∈ ys, ∃ env2, g1 (b y) (wipeE env' vs1) = some env2 ∧ mt1 env2 pot = some (true, pot) ∧ me env2 pot = some (c x y, pot)) :
    lcLoop2 g mt mi1 g1 mt1 me vs1 env (xs.map a) pot = some (xs.flatMap fun x => ys.map (c x), pot) := by
  induction xs with
  | nil => rfl
  | cons x xs ih =>
    obtain ⟨env', h1, h2, h3, h4, h5⟩ := st x List.mem_cons_self
    have ih' := ih fun y hy => st y (List.mem_cons_of_mem _ hy)
    have e := lc_map (g := g1) (mt := mt1) (me := me) (env := wipeE env' vs1) (pot := pot) b (c x) ys h5
    simp only [List.map_cons, lcLoop2, h1, h2, h3, h4, if_true, e, ih', List.flatMap_cons]
theorem ev_aLc2 (vs vs1 : List Nat) (mi mi1 : MA) (g g1 : MG) (mt mt1 : MT) (me : ME) (env : Env) (pot : Pot) : aLc2 vs vs1 mi g mt mi1 g1 mt1 me env pot = match mi env pot with
    | none => none
    | some (ds, p1) => if (vs.all fun i => notOwn env i) = true then (match lcLoop2 g mt mi1 g1 mt1 me vs1 (wipeE env vs) ds p1 with
      | none => none
      | some (out, pot') => if out.length ≤ 16777216 then some (out, pot') else none) else none := by
  unfold aLc2 bnd
  cases h : mi env pot with
  | none => rfl
  | some r => obtain ⟨x, p1⟩ := r; rfl
theorem enumD_map (a : α → D) (xs : List α) : enumD (xs.map a) = xs.zipIdx.map fun q => .tup [.int (q.2 : Nat), a q.1] := by
  unfold enumD
  rw [List.zipIdx_map, List.map_map]
  rfl
theorem rng_map (n : Nat) : rng 0 n = (List.range n).map fun i : Nat => .int (i : Int) := by
  unfold rng
  simp
theorem ev_iRng1 (ma : ME) (env : Env) (pot : Pot) : iRng1 (aCons ma aNil) env pot = match ma env pot with
    | some (.int j, p1) => if j ≤ 16777216 ∧ -16777216 ≤ j then some (rng 0 j.toNat, p1) else none
    | _ => none := by
  unfold iRng1
  simp only [ev_bnd, ev_aCons, ev_aNil, ev_lft]
  cases h : ma env pot with
  | none => rfl
  | some r =>
    obtain ⟨x, p1⟩ := r
    cases x with
    | int j => by_cases hh : j ≤ 16777216 ∧ -16777216 ≤ j <;> simp [hh]
    | _ => rfl
theorem cut_take {ds : List D} {k : Nat} (h : k ≤ ds.length) : cutD ds none (some (k : Int)) = ds.take k := by
  unfold cutD
  rw [HT.sIx_none, HT.sIx_nat]
  simp [Nat.min_eq_left h]
theorem cut_drop {ds : List D} {k : Nat} (h : k ≤ ds.length) : cutD ds (some (k : Int)) none = ds.drop k := by
  unfold cutD
  rw [HT.sIx_none, HT.sIx_nat, Nat.min_eq_left h]
  exact List.take_of_length_le (by rw [List.length_drop]; omega)
theorem blsOf_map (f : α → Bool) (xs : List α) : blsOf (xs.map fun x => .bl (f x)) = some (xs.map f) := by
  induction xs with
  | nil => rfl
  | cons x xs ih => simp [blsOf, ih]
theorem bAll_map (f : α → Bool) (xs : List α) : bAll [.lst (xs.map fun x => .bl (f x))] = some (.bl (xs.all f)) := by
  unfold bAll
  simp only [blsOf_map, Option.map_some, List.all_map]
  rfl
theorem bAny_map (f : α → Bool) (xs : List α) : bAny [.lst (xs.map fun x => .bl (f x))] = some (.bl (xs.any f)) := by
  unfold bAny
  simp only [blsOf_map, Option.map_some, List.any_map]
  rfl
theorem zipD_map {β : Type} (a : α → D) (b : β → D) (xs : List α) (ys : List β) : zipD (xs.map a) (ys.map b) = (xs.zip ys).map fun p => .tup [a p.1, b p.2] := by
  unfold zipD
  rw [List.zip_map, List.map_map]
  rfl
theorem ev_iZip (ma mb : ME) (env : Env) (pot : Pot) : iZip (aCons ma (aCons mb aNil)) env pot = bnd ma (fun x => bnd mb fun y => lft ((items x).bind fun xs => (items y).map fun ys => zipD xs ys)) env pot := by
  unfold iZip
  simp only [ev_bnd, ev_aCons, ev_aNil, ev_lft]
  cases h : ma env pot with
  | none => rfl
  | some r =>
    obtain ⟨x, p1⟩ := r
    dsimp only
    cases h2 : mb env p1 with
    | none => rfl
    | some r2 => rfl
end
end DL
set_option linter.all false
set_option maxRecDepth 100000
set_option exponentiation.threshold 10000
namespace K47
open DL
def fr (q : Rat) : D := .tup [.int q.num, .int (q.den : Int)]
theorem fr_inj {p q : Rat} (h : p.num = q.num) (h2 : (p.den : Int) = q.den) : p = q := Rat.ext h (by omega)
theorem cEq_ii (i j : Int) : cEq (.int i) (.int j) = some (.bl (decide (i = j))) := by
  unfold cEq
  rw [if_pos (by simp [dep])]
  simp only [eqD]
  rfl
theorem cNe_ii (i j : Int) : cNe (.int i) (.int j) = some (.bl (!decide (i = j))) := by
  unfold cNe
  rw [if_pos (by simp [dep])]
  simp only [eqD]
  rfl
theorem gcd_step (a b : Int) (ha : 0 ≤ a) (hb : 0 < b) : Int.gcd b (a % b) = Int.gcd a b := by
  have e := Int.gcd_add_mul_left_right b (a % b) (a / b)
  rw [Int.emod_add_mul_ediv a b] at e
  rw [Int.gcd_comm a b]
  exact e.symm
theorem common_loop (f : Nat) : ∀ (a b : Int) (pot : Pot), 0 ≤ a → 0 ≤ b → b.natAbs < f → whLoop (dT (d2 cGt (dV 1) (dC (.int 0)))) (mPar 0 1 (aCons (dV 1) (aCons (d2 iMod (dV 0) (dV 1)) aNil))) f [.val (.int a), .val (.int b)] pot = some (.nx [.val (.int (Int.gcd a b : Nat)), .val (.int 0)] pot) := by
  induction f with
  | zero => intro a b pot _ _ h; omega
  | succ f ih =>
    intro a b pot ha hb h
    simp only [whLoop]
    by_cases hb0 : 0 < b
    · have h1 := Int.emod_lt_of_pos a hb0
      have h2 := Int.emod_nonneg a (show b ≠ 0 by omega)
      have e := ih b (a % b) pot hb h2 (by omega)
      rw [gcd_step a b ha hb0] at e
      simp [cI, cEq_ii, cNe_ii, cIs, cIsNot, isNon, fIx, fAdd, iAdd, iSub, iMod, tCat, tRep, L2.atI, L2.ixN, bAbs, bInt, bLen, bMin, bMax, bTuple, defn, defL, isiB, tyN, items_tup, items_lst, notOwn_ob, notOwn_val, notOwn_un, notOwn_pot, notOwn_succ, hb0, e]
    · have hz : b = 0 := by omega
      subst hz
      simp [cI, cEq_ii, cNe_ii, cIs, cIsNot, isNon, fIx, fAdd, iAdd, iSub, iMod, tCat, tRep, L2.atI, L2.ixN, bAbs, bInt, bLen, bMin, bMax, bTuple, defn, defL, isiB, tyN, items_tup, items_lst, notOwn_ob, notOwn_val, notOwn_un, notOwn_pot, notOwn_succ]
      omega
theorem common_ok (a b : Int) (pot : Pot) : G_common [.val (.int a), .val (.int b)] pot = some (.int (Int.gcd a b : Nat), pot) := by
  have key : ∀ a b : Int, 0 ≤ a → 0 ≤ b → whLoop (dT (d2 cGt (dV 1) (dC (.int 0)))) (mPar 0 1 (aCons (dV 1) (aCons (d2 iMod (dV 0) (dV 1)) aNil))) (b.natAbs + 2) [.val (.int a), .val (.int b)] pot = some (.nx [.val (.int (Int.gcd a b : Nat)), .val (.int 0)] pot) := fun a b ha hb => common_loop _ a b pot ha hb (by omega)
  have k2 := key (if a < 0 then -a else a) (if b < 0 then -b else b) (by split <;> omega) (by split <;> omega)
  have e : Int.gcd (if a < 0 then -a else a) (if b < 0 then -b else b) = Int.gcd a b := by
    split <;> split <;> simp
  rw [e] at k2
  unfold G_common m_common
  simp [cI, cEq_ii, cNe_ii, cIs, cIsNot, isNon, fIx, fAdd, iAdd, iSub, iMod, tCat, tRep, L2.atI, L2.ixN, bAbs, bInt, bLen, bMin, bMax, bTuple, defn, defL, isiB, tyN, items_tup, items_lst, notOwn_ob, notOwn_val, notOwn_un, notOwn_pot, notOwn_succ, fuI, k2]

/-! ### sizes -/
def Sz (i : Int) : Prop := i.natAbs < 2 ^ 4000
theorem log_lt {n k : Nat} (hk : 0 < k) (h : n < 2 ^ k) : n.log2 < k := by
  by_cases h0 : n = 0
  · subst h0; simpa using hk
  · exact (Nat.log2_lt h0).mpr h
theorem fMul_ev {i j : Int} (hi : Sz i) (hj : Sz j) : fMul (.int i) (.int j) = some (.int (i * j)) := by
  have h1 := log_lt (by omega) hi
  have h2 := log_lt (by omega) hj
  simp only [fMul, iMul]
  rw [if_pos (by omega)]
  rfl
theorem iDiv_ev {i j : Int} (h0 : 0 < j) (hj : j.natAbs < 2 ^ 8000) : iDiv (.int i) (.int j) = some (.int (i / j)) := by
  have h2 := log_lt (by omega) hj
  simp only [iDiv]
  rw [if_pos ⟨h0, by omega⟩]
structure Sm (q : Rat) : Prop where
  nn : q.num.natAbs < 2 ^ 1000
  dd : q.den < 2 ^ 1000
theorem sz_of {i : Int} (h : i.natAbs < 2 ^ 1000) : Sz i := Nat.lt_of_lt_of_le h (Nat.pow_le_pow_right (by omega) (by omega))
theorem sz_of2 {i : Int} (h : i.natAbs < 2 ^ 2000) : Sz i := Nat.lt_of_lt_of_le h (Nat.pow_le_pow_right (by omega) (by omega))
theorem Sm.n {q : Rat} (h : Sm q) : Sz q.num := sz_of h.nn
theorem Sm.d {q : Rat} (h : Sm q) : Sz (q.den : Int) := sz_of h.dd
theorem den_pos (q : Rat) : (0 : Int) < (q.den : Int) := by have := q.den_nz; omega
theorem mkRat_num {t l : Int} (h : 0 < l) : (mkRat t l.toNat).num = t / (Int.gcd t l : Nat) := by
  rw [Rat.num_mkRat, if_neg (by omega), Nat.gcd_comm]
  have : l.toNat = l.natAbs := by omega
  rw [this]
  rfl
theorem mkRat_den {t l : Int} (h : 0 < l) : ((mkRat t l.toNat).den : Int) = l / (Int.gcd t l : Nat) := by
  rw [Rat.den_mkRat, if_neg (by omega), Nat.gcd_comm]
  have : l.toNat = l.natAbs := by omega
  rw [this]
  show ((l.natAbs / (Int.gcd t l) : Nat) : Int) = _
  rw [Int.natCast_ediv]
  congr 1
  omega
theorem gcd_pos' {t l : Int} (h : 0 < l) : 0 < Int.gcd t l := Int.gcd_pos_of_ne_zero_right t (by omega)
theorem gcd_sz {t l : Int} (h : 0 < l) (hz : l.natAbs < 2 ^ 8000) : Int.gcd t l < 2 ^ 8000 := by
  have := Int.gcd_le_natAbs_right (a := t) (b := l) (by omega)
  exact Nat.lt_of_le_of_lt this hz
theorem reduced_ok (t l : Int) (pot : Pot) (h : 0 < l) (hz : l.natAbs < 2 ^ 8000) : G_reduced [.val (.int t), .val (.int l)] pot = some (fr (mkRat t l.toNat), pot) := by
  have g := gcd_pos' (t := t) h
  have e1 : ∀ i : Int, iDiv (.int i) (.int (Int.gcd t l : Nat)) = some (.int (i / (Int.gcd t l : Nat))) := fun i => iDiv_ev (by omega) (by have := gcd_sz (t := t) h hz; omega)
  unfold G_reduced m_reduced fr
  rw [mkRat_num h, mkRat_den h]
  simp [cI, cEq_ii, cNe_ii, cIs, cIsNot, isNon, fIx, fAdd, iAdd, iSub, iMod, tCat, tRep, L2.atI, L2.ixN, bAbs, bInt, bLen, bMin, bMax, bTuple, defn, defL, isiB, tyN, items_tup, items_lst, notOwn_ob, notOwn_val, notOwn_un, notOwn_pot, notOwn_succ, common_ok, h, e1]
end K47
set_option linter.all false
set_option maxRecDepth 100000
set_option exponentiation.threshold 10000
namespace K47
open DL
theorem cut_loop (f : Nat) : ∀ (t l a b : Int) (pot : Pot), 0 ≤ a → 0 ≤ b → b.natAbs < f → whLoop (dT (d2 cNe (dV 3) (dC (.int 0)))) (mPar 2 3 (aCons (dV 3) (aCons (d2 iMod (dV 2) (dV 3)) aNil))) f [.val (.int t), .val (.int l), .val (.int a), .val (.int b)] pot = some (.nx [.val (.int t), .val (.int l), .val (.int (Int.gcd a b : Nat)), .val (.int 0)] pot) := by
  induction f with
  | zero => intro t l a b pot _ _ h; omega
  | succ f ih =>
    intro t l a b pot ha hb h
    simp only [whLoop]
    by_cases hb0 : 0 < b
    · have h1 := Int.emod_lt_of_pos a hb0
      have h2 := Int.emod_nonneg a (show b ≠ 0 by omega)
      have e := ih t l b (a % b) pot hb h2 (by omega)
      rw [gcd_step a b ha hb0] at e
      have hne : ¬ b = 0 := by omega
      simp [cI, cEq_ii, cNe_ii, cIs, cIsNot, isNon, fIx, fAdd, iAdd, iSub, iMod, tCat, tRep, L2.atI, L2.ixN, bAbs, bInt, bLen, bMin, bMax, bTuple, defn, defL, isiB, tyN, items_tup, items_lst, notOwn_ob, notOwn_val, notOwn_un, notOwn_pot, notOwn_succ, hb0, hne, e]
    · have hz : b = 0 := by omega
      subst hz
      simp [cI, cEq_ii, cNe_ii, cIs, cIsNot, isNon, fIx, fAdd, iAdd, iSub, iMod, tCat, tRep, L2.atI, L2.ixN, bAbs, bInt, bLen, bMin, bMax, bTuple, defn, defL, isiB, tyN, items_tup, items_lst, notOwn_ob, notOwn_val, notOwn_un, notOwn_pot, notOwn_succ]
      omega
theorem law_cut_ok (t l : Int) (pot : Pot) (h : 0 < l) (hz : l.natAbs < 2 ^ 8000) : G__law_cut [.val (.int t), .val (.int l)] pot = some (fr (mkRat t l.toNat), pot) := by
  have k2 := cut_loop (l.natAbs + 2) t l (if t < 0 then -t else t) l pot (by split <;> omega) (by omega) (by omega)
  have e : Int.gcd (if t < 0 then -t else t) l = Int.gcd t l := by split <;> simp
  rw [e] at k2
  have g := gcd_pos' (t := t) h
  have e1 : ∀ i : Int, iDiv (.int i) (.int (Int.gcd t l : Nat)) = some (.int (i / (Int.gcd t l : Nat))) := fun i => iDiv_ev (by omega) (by have := gcd_sz (t := t) h hz; omega)
  unfold G__law_cut m__law_cut fr
  rw [mkRat_num h, mkRat_den h]
  simp [cI, cEq_ii, cNe_ii, cIs, cIsNot, isNon, fIx, fAdd, iAdd, iSub, iMod, tCat, tRep, L2.atI, L2.ixN, bAbs, bInt, bLen, bMin, bMax, bTuple, defn, defL, isiB, tyN, items_tup, items_lst, notOwn_ob, notOwn_val, notOwn_un, notOwn_pot, notOwn_succ, fuI, k2, e1]
/-! ### sums, products, less -/
theorem den_mul_pos (p q : Rat) : (0 : Int) < (p.den : Int) * (q.den : Int) := Int.mul_pos (den_pos p) (den_pos q)
theorem sz_mul {i j : Int} (hi : Sz i) (hj : Sz j) : (i * j).natAbs < 2 ^ 8000 := by
  unfold Sz at hi hj
  rw [Int.natAbs_mul]
  have : i.natAbs * j.natAbs < 2 ^ 4000 * 2 ^ 4000 := Nat.mul_lt_mul'' hi hj
  rwa [← Nat.pow_add] at this
theorem toNat_den (p q : Rat) : ((p.den : Int) * (q.den : Int)).toNat = p.den * q.den := by
  rw [← Int.natCast_mul]; rfl
theorem added_ok (p q : Rat) (pot : Pot) (hp : Sm p) (hq : Sm q) : G_added [.val (fr p), .val (fr q)] pot = some (fr (p + q), pot) := by
  have e := reduced_ok (p.num * q.den + q.num * p.den) (p.den * q.den) pot (den_mul_pos p q) (sz_mul hp.d hq.d)
  rw [toNat_den] at e
  rw [Rat.add_def']
  unfold G_added m_added
  simp only [fr] at e ⊢
  simp [cI, cEq_ii, cNe_ii, cIs, cIsNot, isNon, fIx, fAdd, iAdd, iSub, iMod, tCat, tRep, L2.atI, L2.ixN, bAbs, bInt, bLen, bMin, bMax, bTuple, defn, defL, isiB, tyN, items_tup, items_lst, notOwn_ob, notOwn_val, notOwn_un, notOwn_pot, notOwn_succ, fMul_ev, hp.n, hp.d, hq.n, hq.d, e]
theorem difference_ok (p q : Rat) (pot : Pot) (hp : Sm p) (hq : Sm q) : G_difference [.val (fr p), .val (fr q)] pot = some (fr (p - q), pot) := by
  have e := reduced_ok (p.num * q.den - q.num * p.den) (p.den * q.den) pot (den_mul_pos p q) (sz_mul hp.d hq.d)
  rw [toNat_den] at e
  rw [Rat.sub_def']
  unfold G_difference m_difference
  simp only [fr] at e ⊢
  simp [cI, cEq_ii, cNe_ii, cIs, cIsNot, isNon, fIx, fAdd, iAdd, iSub, iMod, tCat, tRep, L2.atI, L2.ixN, bAbs, bInt, bLen, bMin, bMax, bTuple, defn, defL, isiB, tyN, items_tup, items_lst, notOwn_ob, notOwn_val, notOwn_un, notOwn_pot, notOwn_succ, fMul_ev, hp.n, hp.d, hq.n, hq.d, e]
theorem product_ok (p q : Rat) (pot : Pot) (hp : Sm p) (hq : Sm q) : G_product_of [.val (fr p), .val (fr q)] pot = some (fr (p * q), pot) := by
  have e := reduced_ok (p.num * q.num) (p.den * q.den) pot (den_mul_pos p q) (sz_mul hp.d hq.d)
  rw [toNat_den] at e
  rw [Rat.mul_def']
  unfold G_product_of m_product_of
  simp only [fr] at e ⊢
  simp [cI, cEq_ii, cNe_ii, cIs, cIsNot, isNon, fIx, fAdd, iAdd, iSub, iMod, tCat, tRep, L2.atI, L2.ixN, bAbs, bInt, bLen, bMin, bMax, bTuple, defn, defL, isiB, tyN, items_tup, items_lst, notOwn_ob, notOwn_val, notOwn_un, notOwn_pot, notOwn_succ, fMul_ev, hp.n, hp.d, hq.n, hq.d, e]
theorem law_added_ok (p q : Rat) (pot : Pot) (hp : Sm p) (hq : Sm q) : G__law_added [.val (fr p), .val (fr q)] pot = some (fr (p + q), pot) := by
  have e := law_cut_ok (p.num * q.den + q.num * p.den) (p.den * q.den) pot (den_mul_pos p q) (sz_mul hp.d hq.d)
  rw [toNat_den] at e
  rw [Rat.add_def']
  unfold G__law_added m__law_added
  simp only [fr] at e ⊢
  simp [cI, cEq_ii, cNe_ii, cIs, cIsNot, isNon, fIx, fAdd, iAdd, iSub, iMod, tCat, tRep, L2.atI, L2.ixN, bAbs, bInt, bLen, bMin, bMax, bTuple, defn, defL, isiB, tyN, items_tup, items_lst, notOwn_ob, notOwn_val, notOwn_un, notOwn_pot, notOwn_succ, fMul_ev, hp.n, hp.d, hq.n, hq.d, e]
theorem law_less_ok (p q : Rat) (pot : Pot) (hp : Sm p) (hq : Sm q) : G__law_less [.val (fr p), .val (fr q)] pot = some (fr (p - q), pot) := by
  have e := law_cut_ok (p.num * q.den - q.num * p.den) (p.den * q.den) pot (den_mul_pos p q) (sz_mul hp.d hq.d)
  rw [toNat_den] at e
  rw [Rat.sub_def']
  unfold G__law_less m__law_less
  simp only [fr] at e ⊢
  simp [cI, cEq_ii, cNe_ii, cIs, cIsNot, isNon, fIx, fAdd, iAdd, iSub, iMod, tCat, tRep, L2.atI, L2.ixN, bAbs, bInt, bLen, bMin, bMax, bTuple, defn, defL, isiB, tyN, items_tup, items_lst, notOwn_ob, notOwn_val, notOwn_un, notOwn_pot, notOwn_succ, fMul_ev, hp.n, hp.d, hq.n, hq.d, e]
theorem law_times_ok (p q : Rat) (pot : Pot) (hp : Sm p) (hq : Sm q) : G__law_times [.val (fr p), .val (fr q)] pot = some (fr (p * q), pot) := by
  have e := law_cut_ok (p.num * q.num) (p.den * q.den) pot (den_mul_pos p q) (sz_mul hp.d hq.d)
  rw [toNat_den] at e
  rw [Rat.mul_def']
  unfold G__law_times m__law_times
  simp only [fr] at e ⊢
  simp [cI, cEq_ii, cNe_ii, cIs, cIsNot, isNon, fIx, fAdd, iAdd, iSub, iMod, tCat, tRep, L2.atI, L2.ixN, bAbs, bInt, bLen, bMin, bMax, bTuple, defn, defL, isiB, tyN, items_tup, items_lst, notOwn_ob, notOwn_val, notOwn_un, notOwn_pot, notOwn_succ, fMul_ev, hp.n, hp.d, hq.n, hq.d, e]
theorem is_less_ok (p q : Rat) (pot : Pot) (hp : Sm p) (hq : Sm q) : G_is_less [.val (fr p), .val (fr q)] pot = some (.bl (decide (p < q)), pot) := by
  unfold G_is_less m_is_less
  simp only [Rat.lt_iff]
  simp [cI, cEq_ii, cNe_ii, cIs, cIsNot, isNon, fIx, fAdd, iAdd, iSub, iMod, tCat, tRep, L2.atI, L2.ixN, bAbs, bInt, bLen, bMin, bMax, bTuple, defn, defL, isiB, tyN, items_tup, items_lst, notOwn_ob, notOwn_val, notOwn_un, notOwn_pot, notOwn_succ, fr, fMul_ev, hp.n, hp.d, hq.n, hq.d]
theorem law_is_below_ok (p q : Rat) (pot : Pot) (hp : Sm p) (hq : Sm q) : G__law_is_below [.val (fr p), .val (fr q)] pot = some (.bl (decide (p < q)), pot) := by
  unfold G__law_is_below m__law_is_below
  simp only [Rat.lt_iff]
  simp [cI, cEq_ii, cNe_ii, cIs, cIsNot, isNon, fIx, fAdd, iAdd, iSub, iMod, tCat, tRep, L2.atI, L2.ixN, bAbs, bInt, bLen, bMin, bMax, bTuple, defn, defL, isiB, tyN, items_tup, items_lst, notOwn_ob, notOwn_val, notOwn_un, notOwn_pot, notOwn_succ, fr, fMul_ev, hp.n, hp.d, hq.n, hq.d]
end K47
set_option linter.all false
set_option maxRecDepth 100000
set_option exponentiation.threshold 10000
namespace K47
open DL
/-- all partial sums are small -/
def Part : Rat → List Rat → Prop
  | s, [] => Sm s
  | s, q :: r => Sm s ∧ Sm q ∧ Part (s + q) r
theorem Part.sm : ∀ {s : Rat} {qs : List Rat}, Part s qs → Sm s
  | _, [], h => h
  | _, _ :: _, h => h.1
theorem mkRat_of {t l : Int} {s : Rat} (h : 0 < l) (e : t * s.den = s.num * l) : mkRat t l.toNat = s := by
  rw [← Rat.mkRat_self s]
  rw [Rat.mkRat_eq_iff (by omega) s.den_nz]
  have : ((l.toNat : Nat) : Int) = l := by omega
  rw [this, e]
theorem top_sz {t l : Int} {s : Rat} (h : 0 < l) (e : t * s.den = s.num * l) (hs : Sm s) (hl : l.natAbs < 2 ^ 1000) : t.natAbs < 2 ^ 2000 := by
  have e1 : t.natAbs * s.den = s.num.natAbs * l.natAbs := by
    have := congrArg Int.natAbs e
    rw [Int.natAbs_mul, Int.natAbs_mul] at this
    exact this
  have h1 : t.natAbs ≤ t.natAbs * s.den := Nat.le_mul_of_pos_right _ (by have := s.den_nz; omega)
  have h2 : s.num.natAbs * l.natAbs < 2 ^ 1000 * 2 ^ 1000 := Nat.mul_lt_mul'' hs.nn hl
  rw [← Nat.pow_add] at h2
  omega
/-- a fraction as it is written, perhaps not the least -/
def fp (p : Int × Int) : D := .tup [.int p.1, .int p.2]
def vl (p : Int × Int) : Rat := mkRat p.1 p.2.toNat
structure Fpo (p : Int × Int) : Prop where
  pos : 0 < p.2
  n : p.1.natAbs < 2 ^ 1000
  d : p.2.natAbs < 2 ^ 1000
theorem fr_fp (q : Rat) : fr q = fp (q.num, q.den) := rfl
theorem vl_fr (q : Rat) : vl (q.num, (q.den : Int)) = q := by unfold vl; exact Rat.mkRat_self q
theorem Sm.fpo {q : Rat} (h : Sm q) : Fpo (q.num, (q.den : Int)) := ⟨den_pos q, h.nn, h.dd⟩
theorem vl_mul (p : Int × Int) (h : 0 < p.2) : p.1 * (vl p).den = (vl p).num * p.2 := by
  have e : mkRat p.1 p.2.toNat = mkRat (vl p).num (vl p).den := (Rat.mkRat_self (vl p)).symm
  rw [Rat.mkRat_eq_iff (by omega) (vl p).den_nz] at e
  rw [e]
  congr 1
  omega
theorem vl_sm {p : Int × Int} (h : Fpo p) : Sm (vl p) := by
  have h1 : (vl p).num = p.1 / (Int.gcd p.1 p.2 : Nat) := mkRat_num h.pos
  have h2 : ((vl p).den : Int) = p.2 / (Int.gcd p.1 p.2 : Nat) := mkRat_den h.pos
  have g := gcd_pos' (t := p.1) h.pos
  refine ⟨?_, ?_⟩
  · rw [h1]
    exact Nat.lt_of_le_of_lt (Int.natAbs_ediv_le_natAbs _ _) h.n
  · have : (vl p).den ≤ p.2.natAbs := by
      have a := Int.natAbs_ediv_le_natAbs p.2 (Int.gcd p.1 p.2 : Nat)
      rw [← h2] at a
      exact a
    exact Nat.lt_of_le_of_lt this h.d
theorem sum_loop : ∀ (ps : List (Int × Int)) (s : Rat) (t l : Int) (S : D) (x : B) (pot : Pot), 0 < l → l.natAbs < 2 ^ 1000 → t * s.den = s.num * l → (∀ p ∈ ps, Fpo p) → Part s (ps.map vl) → (∀ a b c : B, notOwn [a, b, c, x] 3 = true) →
    ∃ t' l' x', forLoop (gN 3) Lb_sum_of_1 (ps.map fp) [.val S, .val (.int t), .val (.int l), x] pot = some (.nx [.val S, .val (.int t'), .val (.int l'), x'] pot) ∧ 0 < l' ∧ l'.natAbs < 2 ^ 1000 ∧ mkRat t' l'.toNat = s + (ps.map vl).sum := by
  intro ps
  induction ps with
  | nil =>
    intro s t l S x pot hl hz e _ hp hx
    exact ⟨t, l, x, rfl, hl, hz, by rw [mkRat_of hl e, List.map_nil, List.sum_nil, Rat.add_zero]⟩
  | cons q qs ih =>
    intro s t l S x pot hl hz e hf hp hx
    obtain ⟨hs, hq, hr⟩ := hp
    have hfq := hf q List.mem_cons_self
    have hfr : ∀ p ∈ qs, Fpo p := fun p h => hf p (List.mem_cons_of_mem _ h)
    have hg : gN 3 (fp q) [.val S, .val (.int t), .val (.int l), x] = some [.val S, .val (.int t), .val (.int l), .val (fp q)] := by
      rw [ev_gN, if_pos (hx _ _ _)]
      rfl
    have ht := top_sz hl e hs hz
    simp only [List.map_cons, forLoop, hg]
    by_cases hd : q.2 = l
    · have hsum : (t + q.1) * ((s + vl q).den : Int) = (s + vl q).num * l := by
        have e1 : mkRat (t + q.1) l.toNat = s + vl q := by
          have a := mkRat_of hl e
          have b : mkRat q.1 l.toNat = vl q := by
            rw [← hd]
            rfl
          have hl0 : l.toNat ≠ 0 := by omega
          have c := Rat.mkRat_add_mkRat t q.1 hl0 hl0
          rw [a, b, ← Int.add_mul, Rat.mkRat_mul_right hl0] at c
          exact c.symm
        have e2 := (Rat.mkRat_eq_iff (z₁ := (by omega : l.toNat ≠ 0)) (z₂ := (s + vl q).den_nz) (n₁ := t + q.1) (n₂ := (s + vl q).num)).mp (e1.trans (Rat.mkRat_self _).symm)
        have : ((l.toNat : Nat) : Int) = l := by omega
        rw [this] at e2
        exact e2
      obtain ⟨t', l', x', h1, h2, h3, h4⟩ := ih (s + vl q) (t + q.1) l S (.val (fp q)) pot hl hz hsum hfr hr (fun _ _ _ => rfl)
      refine ⟨t', l', x', ?_, h2, h3, ?_⟩
      · unfold Lb_sum_of_1 at h1 ⊢
        simp only [fp] at h1 ⊢
        simp [cI, cEq_ii, cNe_ii, cIs, cIsNot, isNon, fIx, fAdd, iAdd, iSub, iMod, tCat, tRep, L2.atI, L2.ixN, bAbs, bInt, bLen, bMin, bMax, bTuple, defn, defL, isiB, tyN, items_tup, items_lst, notOwn_ob, notOwn_val, notOwn_un, notOwn_pot, notOwn_succ, hd]
        rw [hd] at h1
        exact h1
      · rw [h4, List.sum_cons, Rat.add_assoc]
    · have hlq : (0 : Int) < l * q.2 := Int.mul_pos hl hfq.pos
      have er := reduced_ok (t * q.2 + q.1 * l) (l * q.2) pot hlq (sz_mul (sz_of hz) (sz_of hfq.d))
      have e1 : mkRat (t * q.2 + q.1 * l) (l * q.2).toNat = s + vl q := by
        have a := mkRat_of hl e
        have b : vl q = mkRat q.1 q.2.toNat := rfl
        have hq2 := hfq.pos
        rw [← a, b, Rat.mkRat_add_mkRat _ _ (by omega) (by omega)]
        have h1 : ((l.toNat : Nat) : Int) = l := by omega
        have h2 : ((q.2.toNat : Nat) : Int) = q.2 := by omega
        rw [h1, h2]
        congr 1
        have h3 : ((l * q.2).toNat : Int) = ((l.toNat * q.2.toNat : Nat) : Int) := by rw [Int.toNat_of_nonneg (by omega), Int.natCast_mul, h1, h2]
        omega
      rw [e1] at er
      obtain ⟨t', l', x', h1, h2, h3, h4⟩ := ih (s + vl q) (s + vl q).num (s + vl q).den S (.val (fp q)) pot (den_pos _) hr.sm.dd rfl hfr hr (fun _ _ _ => rfl)
      refine ⟨t', l', x', ?_, h2, h3, ?_⟩
      · unfold Lb_sum_of_1 at h1 ⊢
        simp only [fp] at h1 ⊢
        simp only [fr] at er
        simp [cI, cEq_ii, cNe_ii, cIs, cIsNot, isNon, fIx, fAdd, iAdd, iSub, iMod, tCat, tRep, L2.atI, L2.ixN, bAbs, bInt, bLen, bMin, bMax, bTuple, defn, defL, isiB, tyN, items_tup, items_lst, notOwn_ob, notOwn_val, notOwn_un, notOwn_pot, notOwn_succ, hd, fMul_ev, sz_of2 ht, sz_of hfq.d, sz_of hfq.n, sz_of hz, er]
        exact h1
      · rw [h4, List.sum_cons, Rat.add_assoc]
theorem sum_of_fp (ps : List (Int × Int)) (S : D) (pot : Pot) (hS : items S = some (ps.map fp)) (hf : ∀ p ∈ ps, Fpo p) (hp : Part 0 (ps.map vl)) : G_sum_of [.val S] pot = some (fr (ps.map vl).sum, pot) := by
  obtain ⟨t', l', x', h1, h2, h3, h4⟩ := sum_loop ps 0 0 1 S .un pot (by omega) (by decide) (by simp) hf hp (fun _ _ _ => rfl)
  rw [Rat.zero_add] at h4
  have er := reduced_ok t' l' pot h2 (by have : (2:Nat) ^ 1000 ≤ 2 ^ 8000 := Nat.pow_le_pow_right (by omega) (by omega); omega)
  rw [h4] at er
  unfold G_sum_of m_sum_of
  simp [defn, notOwn, hS, h1, er]
theorem part_all : ∀ {s : Rat} {qs : List Rat}, Part s qs → ∀ q ∈ qs, Sm q
  | _, [], _, q, h => nomatch h
  | s, a :: qs, hp, q, h => by
    rcases List.mem_cons.mp h with z | z
    · rw [z]; exact hp.2.1
    · exact part_all hp.2.2 q z
theorem map_vl (qs : List Rat) : (qs.map fun q => (q.num, (q.den : Int))).map vl = qs := by
  rw [List.map_map]
  conv => rhs; rw [← List.map_id qs]
  exact List.map_congr_left fun q _ => vl_fr q
theorem sum_of_ok (qs : List Rat) (S : D) (pot : Pot) (hS : items S = some (qs.map fr)) (hp : Part 0 qs) : G_sum_of [.val S] pot = some (fr qs.sum, pot) := by
  have := sum_of_fp (qs.map fun q => (q.num, (q.den : Int))) S pot (by rw [hS, List.map_map]; rfl) (fun p h => by
    obtain ⟨q, hq, rfl⟩ := List.mem_map.mp h
    exact (part_all hp q hq).fpo) (by rw [map_vl]; exact hp)
  rwa [map_vl] at this
theorem law_total_ok (qs : List Rat) (S : D) (pot : Pot) (hS : items S = some (qs.map fr)) (hp : Part 0 qs) : G__law_total [.val S] pot = some (fr qs.sum, pot) := by
  have key : ∀ (qs : List Rat) (s : Rat) (x : B), Part s qs → (∀ a b : B, notOwn [a, b, x] 2 = true) → ∃ x', forLoop (gN 2) Lb__law_total_1 (qs.map fr) [.val S, .val (fr s), x] pot = some (.nx [.val S, .val (fr (s + qs.sum)), x'] pot) := by
    intro qs
    induction qs with
    | nil => intro s x _ _; exact ⟨x, by rw [List.sum_nil, Rat.add_zero]; rfl⟩
    | cons q qs ih =>
      intro s x hp hx
      obtain ⟨x', h⟩ := ih (s + q) (.val (fr q)) hp.2.2 (fun _ _ => rfl)
      refine ⟨x', ?_⟩
      rw [List.sum_cons, ← Rat.add_assoc, ← h]
      simp only [List.map_cons, forLoop, ev_gN, if_pos (hx _ _)]
      unfold Lb__law_total_1
      simp [notOwn, law_added_ok _ _ _ hp.1 hp.2.1]
  obtain ⟨x', h⟩ := key qs 0 .un hp (fun _ _ => rfl)
  rw [Rat.zero_add] at h
  have h0 : fr 0 = .tup [.int 0, .int 1] := rfl
  rw [h0] at h
  unfold G__law_total m__law_total
  simp [defn, notOwn, hS, h]
end K47
set_option linter.all false
set_option maxRecDepth 100000
set_option exponentiation.threshold 10000
namespace K47
open DL
/-! ### lattices: q = k / M, at most B -/
structure Lt (M B : Nat) (q : Rat) : Prop where
  lat : ∃ k : Int, q * (M : Rat) = (k : Rat)
  lo : -(B : Rat) ≤ q
  hi : q ≤ (B : Rat)
section
variable {M M' B B' C : Nat} {p q : Rat}
theorem Lt.add (hp : Lt M B p) (hq : Lt M B' q) : Lt M (B + B') (p + q) := by
  obtain ⟨⟨k, hk⟩, h1, h2⟩ := hp
  obtain ⟨⟨j, hj⟩, h3, h4⟩ := hq
  refine ⟨⟨k + j, ?_⟩, ?_, ?_⟩
  · rw [Rat.add_mul, hk, hj, Rat.intCast_add]
  · rw [Rat.natCast_add]; grind
  · rw [Rat.natCast_add]; grind
theorem Lt.neg (hp : Lt M B p) : Lt M B (-p) := by
  obtain ⟨⟨k, hk⟩, h1, h2⟩ := hp
  refine ⟨⟨-k, ?_⟩, ?_, ?_⟩
  · rw [Rat.neg_mul, hk, Rat.intCast_neg]
  · grind
  · grind
theorem Lt.sub (hp : Lt M B p) (hq : Lt M B' q) : Lt M (B + B') (p - q) := by
  rw [Rat.sub_eq_add_neg]
  exact hp.add hq.neg
theorem Lt.mono (h : Lt M B q) (hb : B ≤ B') : Lt M B' q := by
  have : (B : Rat) ≤ (B' : Rat) := Rat.natCast_le_natCast.mpr hb
  exact ⟨h.lat, by have := h.lo; grind, by have := h.hi; grind⟩
theorem Lt.dvd (h : Lt M B q) (c : Nat) : Lt (M * c) B q := by
  obtain ⟨⟨k, hk⟩, h1, h2⟩ := h
  refine ⟨⟨k * c, ?_⟩, h1, h2⟩
  rw [Rat.natCast_mul, ← Rat.mul_assoc, hk, Rat.intCast_mul]
  rfl
theorem Lt.dvd' (h : Lt M B q) (hd : M ∣ M') : Lt M' B q := by
  obtain ⟨c, rfl⟩ := hd
  exact h.dvd c
theorem abs_mul_le {a b x y : Rat} (h1 : -a ≤ x) (h2 : x ≤ a) (h3 : -b ≤ y) (h4 : y ≤ b) : -(a * b) ≤ x * y ∧ x * y ≤ a * b := by
  have k1 : 0 ≤ (a - x) * (b - y) := Rat.mul_nonneg (by grind) (by grind)
  have k2 : 0 ≤ (a + x) * (b + y) := Rat.mul_nonneg (by grind) (by grind)
  have k3 : 0 ≤ (a - x) * (b + y) := Rat.mul_nonneg (by grind) (by grind)
  have k4 : 0 ≤ (a + x) * (b - y) := Rat.mul_nonneg (by grind) (by grind)
  constructor <;> grind
theorem Lt.mul (hp : Lt M B p) (hq : Lt M' B' q) : Lt (M * M') (B * B') (p * q) := by
  obtain ⟨⟨k, hk⟩, h1, h2⟩ := hp
  obtain ⟨⟨j, hj⟩, h3, h4⟩ := hq
  obtain ⟨a1, a2⟩ := abs_mul_le h1 h2 h3 h4
  refine ⟨⟨k * j, ?_⟩, ?_, ?_⟩
  · rw [Rat.natCast_mul, Rat.intCast_mul, ← hk, ← hj]
    grind
  · rw [Rat.natCast_mul]; exact a1
  · rw [Rat.natCast_mul]; exact a2
theorem lt_zero : Lt M B 0 := ⟨⟨0, by simp⟩, by have : (0 : Rat) ≤ B := Rat.natCast_nonneg; grind, Rat.natCast_nonneg⟩
theorem lt_one (hb : 1 ≤ B) : Lt M B 1 := by
  have : ((1 : Nat) : Rat) ≤ (B : Rat) := Rat.natCast_le_natCast.mpr hb
  have e : ((1 : Nat) : Rat) = 1 := rfl
  rw [e] at this
  exact ⟨⟨(M : Int), by rw [Rat.one_mul]; rfl⟩, by grind, this⟩
theorem Lt.in01 (h : Lt M B q) (h0 : 0 ≤ q) (h1 : q ≤ 1) : Lt M 1 q := ⟨h.lat, by have e : ((1 : Nat) : Rat) = 1 := rfl; rw [e]; grind, by have e : ((1 : Nat) : Rat) = 1 := rfl; rw [e]; exact h1⟩
/-- short enough for products -/
structure Sh (q : Rat) : Prop where
  n : q.num.natAbs < 2 ^ 500
  d : q.den < 2 ^ 500
theorem Sh.sm (h : Sh q) : Sm q := ⟨Nat.lt_of_lt_of_le h.n (Nat.pow_le_pow_right (by omega) (by omega)), Nat.lt_of_lt_of_le h.d (Nat.pow_le_pow_right (by omega) (by omega))⟩
theorem Lt.sh (h : Lt M B q) (h0 : 0 < M) (hM : M ≤ 1000000000) (hB : B ≤ 1000000000) : Sh q := by
  obtain ⟨⟨k, hk⟩, h1, h2⟩ := h
  have hM0 : (0 : Rat) < (M : Rat) := Rat.natCast_pos.mpr h0
  have e : q = mkRat k M := by
    rw [Rat.mkRat_eq_div, ← hk, Rat.mul_div_cancel (by grind)]
  have hk1 : (k : Rat) ≤ ((B * M : Nat) : Rat) := by
    rw [← hk, Rat.natCast_mul]
    exact Rat.mul_le_mul_of_nonneg_right h2 (by grind)
  have hk2 : -((B * M : Nat) : Rat) ≤ (k : Rat) := by
    rw [← hk, Rat.natCast_mul, ← Rat.neg_mul]
    exact Rat.mul_le_mul_of_nonneg_right h1 (by grind)
  have hk3 : k ≤ ((B * M : Nat) : Int) := Rat.intCast_le_intCast.mp hk1
  have hk4 : -((B * M : Nat) : Int) ≤ k := by
    have : ((-((B * M : Nat) : Int) : Int) : Rat) ≤ (k : Rat) := by rw [Rat.intCast_neg]; exact hk2
    exact Rat.intCast_le_intCast.mp this
  have hbm : B * M ≤ 1000000000 * 1000000000 := Nat.mul_le_mul hB hM
  have e1 : k.natAbs ≤ B * M := by omega
  have c : (1000000000 * 1000000000 : Nat) < 2 ^ 500 := by decide
  refine ⟨?_, ?_⟩
  · rw [e, Rat.num_mkRat, if_neg (by omega)]
    exact Nat.lt_of_le_of_lt (Int.natAbs_ediv_le_natAbs _ _) (by omega)
  · rw [e, Rat.den_mkRat, if_neg (by omega)]
    exact Nat.lt_of_le_of_lt (Nat.div_le_self _ _) (by omega)
theorem part_lt (h0 : 0 < M) (hM : M ≤ 1000000000) : ∀ {qs : List Rat} {s : Rat} {C : Nat}, (∀ q ∈ qs, Lt M B q) → Lt M C s → C + qs.length * B ≤ 1000000000 → Part s qs
  | [], s, C, _, hs, hc => (hs.sh h0 hM (by simpa using hc)).sm
  | q :: qs, s, C, h, hs, hc => by
    have hq := h q List.mem_cons_self
    rw [List.length_cons, Nat.add_mul, Nat.one_mul] at hc
    exact ⟨(hs.sh h0 hM (by omega)).sm, (hq.sh h0 hM (by omega)).sm, part_lt h0 hM (C := C + B) (fun p hp => h p (List.mem_cons_of_mem _ hp)) (hs.add hq) (by omega)⟩
theorem sum_lt : ∀ {qs : List Rat}, (∀ q ∈ qs, Lt M B q) → Lt M (qs.length * B) qs.sum
  | [], _ => by simpa using lt_zero
  | q :: qs, h => by
    rw [List.length_cons, List.sum_cons, Nat.add_mul, Nat.one_mul, Nat.add_comm]
    exact (h q List.mem_cons_self).add (sum_lt fun p hp => h p (List.mem_cons_of_mem _ hp))
theorem part0 (h0 : 0 < M) (hM : M ≤ 1000000000) {qs : List Rat} (h : ∀ q ∈ qs, Lt M B q) (hc : qs.length * B ≤ 1000000000) : Part 0 qs := part_lt h0 hM h (lt_zero (B := 0)) (by omega)
end
/-! ### == of fractions -/
theorem eqD_fr (p q : Rat) : eqD (fr p) (fr q) = decide (p = q) := by
  unfold fr
  simp only [eqD, eqDL, Bool.and_true]
  rw [Bool.eq_iff_iff]
  simp only [Bool.and_eq_true, beq_iff_eq, decide_eq_true_eq]
  constructor
  · rintro ⟨h1, h2⟩; exact fr_inj h1 h2
  · rintro rfl; exact ⟨rfl, rfl⟩
theorem dep_fr (p : Rat) : dep (fr p) = 1 := by unfold fr; simp [dep, depL]
theorem eqDL_fr : ∀ (xs ys : List Rat), eqDL (xs.map fr) (ys.map fr) = decide (xs = ys)
  | [], [] => rfl
  | [], _ :: _ => by simp [eqDL]
  | _ :: _, [] => by simp [eqDL]
  | x :: xs, y :: ys => by
    simp only [List.map_cons, eqDL, eqD_fr, eqDL_fr xs ys]
    rw [Bool.eq_iff_iff]
    simp
theorem depL_fr (xs : List Rat) : depL (xs.map fr) ≤ 1 := by
  induction xs with
  | nil => simp [depL]
  | cons x xs ih => simp only [List.map_cons, depL, dep_fr]; omega
end K47
set_option linter.all false
set_option maxRecDepth 100000
set_option exponentiation.threshold 10000
namespace K47
open DL
def dot (xs ns : List Rat) : Rat := ((xs.zip ns).map fun p => p.1 * p.2).sum
def pD (p : Rat × Rat) : D := .tup [fr p.1, fr p.2]
theorem zip_fr (xs ns : List Rat) : zipD (xs.map fr) (ns.map fr) = (xs.zip ns).map pD := zipD_map fr fr xs ns
theorem num_ne {q : Rat} : (q.num ≠ 0) ↔ q ≠ 0 := not_congr Rat.num_eq_zero
def pz (p : Rat × Rat) : Bool := !decide (p.1.num = 0) && !decide (p.2.num = 0)
theorem sum_filter : ∀ l : List (Rat × Rat), ((l.filter pz).map fun p => p.1 * p.2).sum = (l.map fun p => p.1 * p.2).sum
  | [] => rfl
  | p :: l => by
    have ih := sum_filter l
    rw [List.map_cons, List.sum_cons, ← ih]
    by_cases h : pz p = true
    · rw [List.filter_cons_of_pos h, List.map_cons, List.sum_cons]
    · rw [List.filter_cons_of_neg h]
      have : p.1 * p.2 = 0 := by
        unfold pz at h
        simp only [Bool.and_eq_true, Bool.not_eq_true', decide_eq_false_iff_not] at h
        by_cases h1 : p.1.num = 0
        · rw [Rat.num_eq_zero.mp h1, Rat.zero_mul]
        · by_cases h2 : p.2.num = 0
          · rw [Rat.num_eq_zero.mp h2, Rat.mul_zero]
          · exact absurd ⟨h1, h2⟩ h
      rw [this, Rat.zero_add]
def prp (p : Rat × Rat) : Int × Int := (p.1.num * p.2.num, (p.1.den : Int) * p.2.den)
theorem prp_fpo {p : Rat × Rat} (h1 : Sh p.1) (h2 : Sh p.2) : Fpo (prp p) := by
  refine ⟨den_mul_pos _ _, ?_, ?_⟩
  · show (p.1.num * p.2.num).natAbs < _
    rw [Int.natAbs_mul]
    have := Nat.mul_lt_mul'' h1.n h2.n
    rwa [← Nat.pow_add] at this
  · show ((p.1.den : Int) * p.2.den).natAbs < _
    rw [Int.natAbs_mul]
    have := Nat.mul_lt_mul'' h1.d h2.d
    rwa [← Nat.pow_add] at this
theorem prp_vl (p : Rat × Rat) : vl (prp p) = p.1 * p.2 := by
  unfold vl prp
  rw [Rat.mul_def', toNat_den]
theorem dot_of_ok {M M' B B' : Nat} (xs ns : List Rat) (X Y : D) (pot : Pot) (hX : items X = some (xs.map fr)) (hY : items Y = some (ns.map fr)) (hx : ∀ x ∈ xs, Lt M B x) (hn : ∀ x ∈ ns, Lt M' B' x)
    (m0 : 0 < M) (m0' : 0 < M') (hM : M * M' ≤ 1000000000) (hB : 100 * (B * B') ≤ 1000000000) (b0 : 0 < B) (b0' : 0 < B') (hl : xs.length ≤ 100) : G_dot_of [.val X, .val Y] pot = some (fr (dot xs ns), pot) := by
  have hM1 : M ≤ 1000000000 := Nat.le_trans (Nat.le_mul_of_pos_right M m0') hM
  have hM2 : M' ≤ 1000000000 := Nat.le_trans (Nat.le_mul_of_pos_left M' m0) hM
  have hB1 : B ≤ 1000000000 := by have := Nat.le_mul_of_pos_right B b0'; omega
  have hB2 : B' ≤ 1000000000 := by have := Nat.le_mul_of_pos_left B' b0; omega
  have hz : ∀ p ∈ xs.zip ns, Lt M B p.1 ∧ Lt M' B' p.2 := fun p hp => ⟨hx _ (List.of_mem_zip hp).1, hn _ (List.of_mem_zip hp).2⟩
  have hlz : (xs.zip ns).length ≤ 100 := by rw [List.length_zip]; omega
  have c1 : lcLoop (gT (gsCons (gN 3) (gsCons (gN 4) gsNil))) Ct_dot_of_1 Ce_dot_of_1 [.val X, .val Y, .un, .un, .un] ((xs.zip ns).map pD) pot = some (((xs.zip ns).filter pz).map pD, pot) :=
    lc_filter pD pz pD _ fun p hp => ⟨[.val X, .val Y, .un, .val (fr p.1), .val (fr p.2)], rfl, by by_cases h : p.1.num = 0 <;> simp [Ct_dot_of_1, fr, pz, cI, cEq_ii, cNe_ii, cIs, cIsNot, isNon, fIx, fAdd, iAdd, iSub, iMod, tCat, tRep, L2.atI, L2.ixN, bAbs, bInt, bLen, bMin, bMax, bTuple, defn, defL, isiB, tyN, items_tup, items_lst, notOwn_ob, notOwn_val, notOwn_un, notOwn_pot, notOwn_succ, h], fun _ => by simp [Ce_dot_of_1, pD]⟩
  have hl2 : ((xs.zip ns).filter pz).length ≤ 100 := Nat.le_trans (List.length_filter_le _ _) hlz
  have c2 : lcLoop (gT (gsCons (gN 3) (gsCons (gN 4) gsNil))) tYes1 Ce_dot_of_2 [.val X, .val Y, .val (.lst (((xs.zip ns).filter pz).map pD)), .un, .un] (((xs.zip ns).filter pz).map pD) pot = some (((xs.zip ns).filter pz).map fun p => fp (prp p), pot) :=
    lc_map pD (fun p => fp (prp p)) _ fun p hp => by
      obtain ⟨h1, h2⟩ := hz p (List.mem_filter.mp hp).1
      have s1 := (h1.sh m0 hM1 hB1).sm
      have s2 := (h2.sh m0' hM2 hB2).sm
      exact ⟨[.val X, .val Y, .val (.lst (((xs.zip ns).filter pz).map pD)), .val (fr p.1), .val (fr p.2)], rfl, rfl, by simp [Ce_dot_of_2, fr, fp, prp, cI, cEq_ii, cNe_ii, cIs, cIsNot, isNon, fIx, fAdd, iAdd, iSub, iMod, tCat, tRep, L2.atI, L2.ixN, bAbs, bInt, bLen, bMin, bMax, bTuple, defn, defL, isiB, tyN, items_tup, items_lst, notOwn_ob, notOwn_val, notOwn_un, notOwn_pot, notOwn_succ, fMul_ev, s1.n, s1.d, s2.n, s2.d]⟩
  have e3 : (((xs.zip ns).filter pz).map fun p => fp (prp p)) = (((xs.zip ns).filter pz).map prp).map fp := by rw [List.map_map]; rfl
  rw [e3] at c2
  have e4 : (((xs.zip ns).filter pz).map prp).map vl = ((xs.zip ns).filter pz).map fun p => p.1 * p.2 := by
    rw [List.map_map]
    exact List.map_congr_left fun p _ => prp_vl p
  have c3 := sum_of_fp (((xs.zip ns).filter pz).map prp) (.lst ((((xs.zip ns).filter pz).map prp).map fp)) pot rfl (fun q hq => by
    obtain ⟨p, hp, rfl⟩ := List.mem_map.mp hq
    obtain ⟨h1, h2⟩ := hz p (List.mem_filter.mp hp).1
    exact prp_fpo (h1.sh m0 hM1 hB1) (h2.sh m0' hM2 hB2)) (by
    rw [e4]
    refine part0 (M := M * M') (B := B * B') (Nat.mul_pos m0 m0') hM (fun q hq => ?_) (by
      rw [List.length_map]
      have := Nat.mul_le_mul_right (B * B') hl2
      omega)
    obtain ⟨p, hp, rfl⟩ := List.mem_map.mp hq
    obtain ⟨h1, h2⟩ := hz p (List.mem_filter.mp hp).1
    exact h1.mul h2)
  rw [e4, sum_filter] at c3
  have hl3 : (xs.zip ns).length ≤ 16777216 := by omega
  have hl3' : min xs.length ns.length ≤ 16777216 := by omega
  have hl4 : ((xs.zip ns).filter pz).length ≤ 16777216 := by omega
  unfold G_dot_of m_dot_of
  simp only [defn, List.length_cons, List.length_nil]
  simp [ev_iZip, hX, hY, zip_fr, wipeE, notOwn, c1, c2, c3, items_lst, hl4, hl3', dot, -List.map_map]
end K47
set_option linter.all false
set_option maxRecDepth 100000
set_option exponentiation.threshold 10000
namespace K47
open DL
def frD (xs : List Rat) : D := .tup (xs.map fr)
def bdD (bs : List (Rat × Rat)) : D := .tup (bs.map pD)
def withinB (bs : List (Rat × Rat)) (xs : List Rat) : Bool := !((xs.zip bs).any fun p => decide (p.1 < p.2.1) || decide (p.2.2 < p.1))
def SmB (bs : List (Rat × Rat)) : Prop := ∀ b ∈ bs, Sm b.1 ∧ Sm b.2
theorem zip_fp (xs : List Rat) (bs : List (Rat × Rat)) : zipD (xs.map fr) (bs.map pD) = (xs.zip bs).map fun p => .tup [fr p.1, pD p.2] := zipD_map fr pD xs bs
theorem lies_within_ok (bs : List (Rat × Rat)) (xs : List Rat) (pot : Pot) (hx : ∀ x ∈ xs, Sm x) (hb : SmB bs) (hl : xs.length ≤ 100) : G_lies_within [.val (bdD bs), .val (frD xs)] pot = some (.bl (withinB bs xs), pot) := by
  have c1 : lcLoop (gT (gsCons (gN 2) (gsCons (gN 3) gsNil))) tYes1 Ce_lies_within_1 [.val (bdD bs), .val (frD xs), .un, .un] ((xs.zip bs).map fun p => .tup [fr p.1, pD p.2]) pot = some ((xs.zip bs).map fun p => .bl (decide (p.1 < p.2.1) || decide (p.2.2 < p.1)), pot) :=
    lc_map _ _ _ fun p hp => by
      have h1 := hx _ (List.of_mem_zip hp).1
      have h2 := hb _ (List.of_mem_zip hp).2
      refine ⟨[.val (bdD bs), .val (frD xs), .val (fr p.1), .val (pD p.2)], rfl, rfl, ?_⟩
      by_cases h : p.1 < p.2.1 <;> simp [Ce_lies_within_1, pD, cI, cEq_ii, cNe_ii, cIs, cIsNot, isNon, fIx, fAdd, iAdd, iSub, iMod, tCat, tRep, L2.atI, L2.ixN, bAbs, bInt, bLen, bMin, bMax, bTuple, defn, defL, isiB, tyN, items_tup, items_lst, notOwn_ob, notOwn_val, notOwn_un, notOwn_pot, notOwn_succ, is_less_ok, h1, h2.1, h2.2, h]
  have hl3' : min xs.length bs.length ≤ 16777216 := by omega
  unfold G_lies_within m_lies_within
  simp only [defn, List.length_cons, List.length_nil]
  simp [ev_iZip, bdD, frD, items_tup, zip_fp, wipeE, notOwn, hl3', -List.map_map]
  simp only [bdD, frD] at c1
  rw [c1]
  simp [bAny_map, withinB]
theorem law_is_within_ok (bs : List (Rat × Rat)) (xs : List Rat) (pot : Pot) (hx : ∀ x ∈ xs, Sm x) (hb : SmB bs) (hl : xs.length ≤ 100) : G__law_is_within [.val (frD xs), .val (bdD bs)] pot = some (.bl (withinB bs xs), pot) := by
  have c1 : lcLoop (gT (gsCons (gN 2) (gsCons (gT (gsCons (gN 3) (gsCons (gN 4) gsNil))) gsNil))) tYes1 Ce__law_is_within_1 [.val (frD xs), .val (bdD bs), .un, .un, .un] ((xs.zip bs).map fun p => .tup [fr p.1, pD p.2]) pot = some ((xs.zip bs).map fun p => .bl (decide (p.1 < p.2.1) || decide (p.2.2 < p.1)), pot) :=
    lc_map _ _ _ fun p hp => by
      have h1 := hx _ (List.of_mem_zip hp).1
      have h2 := hb _ (List.of_mem_zip hp).2
      refine ⟨[.val (frD xs), .val (bdD bs), .val (fr p.1), .val (fr p.2.1), .val (fr p.2.2)], rfl, rfl, ?_⟩
      by_cases h : p.1 < p.2.1 <;> simp [Ce__law_is_within_1, pD, cI, cEq_ii, cNe_ii, cIs, cIsNot, isNon, fIx, fAdd, iAdd, iSub, iMod, tCat, tRep, L2.atI, L2.ixN, bAbs, bInt, bLen, bMin, bMax, bTuple, defn, defL, isiB, tyN, items_tup, items_lst, notOwn_ob, notOwn_val, notOwn_un, notOwn_pot, notOwn_succ, law_is_below_ok, h1, h2.1, h2.2, h]
  have hl3' : min xs.length bs.length ≤ 16777216 := by omega
  unfold G__law_is_within m__law_is_within
  simp only [defn, List.length_cons, List.length_nil]
  simp [ev_iZip, bdD, frD, items_tup, zip_fp, wipeE, notOwn, hl3', -List.map_map]
  simp only [bdD, frD] at c1
  rw [c1]
  simp [bAny_map, withinB]
theorem law_sum_ok {M M' B B' : Nat} (xs ns : List Rat) (pot : Pot) (hx : ∀ x ∈ xs, Lt M B x) (hn : ∀ x ∈ ns, Lt M' B' x)
    (m0 : 0 < M) (m0' : 0 < M') (hM : M * M' ≤ 1000000000) (hB : 100 * (B * B') ≤ 1000000000) (b0 : 0 < B) (b0' : 0 < B') (hl : xs.length ≤ 100) : G__law_sum [.val (frD xs), .val (frD ns)] pot = some (fr (dot xs ns), pot) := by
  have hM1 : M ≤ 1000000000 := Nat.le_trans (Nat.le_mul_of_pos_right M m0') hM
  have hM2 : M' ≤ 1000000000 := Nat.le_trans (Nat.le_mul_of_pos_left M' m0) hM
  have hB1 : B ≤ 1000000000 := by have := Nat.le_mul_of_pos_right B b0'; omega
  have hB2 : B' ≤ 1000000000 := by have := Nat.le_mul_of_pos_left B' b0; omega
  have hz : ∀ p ∈ xs.zip ns, Lt M B p.1 ∧ Lt M' B' p.2 := fun p hp => ⟨hx _ (List.of_mem_zip hp).1, hn _ (List.of_mem_zip hp).2⟩
  have hlz : (xs.zip ns).length ≤ 100 := by rw [List.length_zip]; omega
  have c1 : lcLoop (gT (gsCons (gN 2) (gsCons (gN 3) gsNil))) tYes1 Ce__law_sum_1 [.val (frD xs), .val (frD ns), .un, .un] ((xs.zip ns).map pD) pot = some ((xs.zip ns).map (fun p => fr (p.1 * p.2)), pot) :=
    lc_map _ _ _ fun p hp => by
      obtain ⟨h1, h2⟩ := hz p hp
      have s1 := (h1.sh m0 hM1 hB1).sm
      have s2 := (h2.sh m0' hM2 hB2).sm
      refine ⟨[.val (frD xs), .val (frD ns), .val (fr p.1), .val (fr p.2)], rfl, rfl, ?_⟩
      simp [Ce__law_sum_1, law_times_ok, s1, s2]
  have e3 : ((xs.zip ns).map fun p => fr (p.1 * p.2)) = ((xs.zip ns).map fun p => p.1 * p.2).map fr := by rw [List.map_map]; rfl
  rw [e3] at c1
  have c3 := law_total_ok ((xs.zip ns).map fun p => p.1 * p.2) (.lst (((xs.zip ns).map fun p => p.1 * p.2).map fr)) pot rfl (part0 (M := M * M') (B := B * B') (Nat.mul_pos m0 m0') hM (fun q hq => by
    obtain ⟨p, hp, rfl⟩ := List.mem_map.mp hq
    obtain ⟨h1, h2⟩ := hz p hp
    exact h1.mul h2) (by
      rw [List.length_map]
      have := Nat.mul_le_mul_right (B * B') hlz
      omega))
  have hl3' : min xs.length ns.length ≤ 16777216 := by omega
  unfold G__law_sum m__law_sum
  simp only [defn, List.length_cons, List.length_nil]
  simp only [frD] at c1
  simp [ev_iZip, frD, items_tup, zip_fr, wipeE, notOwn, hl3', c1, c3, dot, -List.map_map]
/-! ### what is a fraction, a law .. -/
theorem is_integer_ok (i : Int) (pot : Pot) : G_is_integer [.val (.int i)] pot = some (.bl true, pot) := by
  unfold G_is_integer m_is_integer
  simp [cI, cEq_ii, cNe_ii, cIs, cIsNot, isNon, fIx, fAdd, iAdd, iSub, iMod, tCat, tRep, L2.atI, L2.ixN, bAbs, bInt, bLen, bMin, bMax, bTuple, defn, defL, isiB, tyN, items_tup, items_lst, notOwn_ob, notOwn_val, notOwn_un, notOwn_pot, notOwn_succ]
theorem is_told_ok (q : Rat) (pot : Pot) : G_is_told_fraction [.val (fr q)] pot = some (.bl true, pot) := by
  have g : Int.gcd q.num (q.den : Int) = 1 := q.reduced
  have d := den_pos q
  unfold G_is_told_fraction m_is_told_fraction
  simp [cI, cEq_ii, cNe_ii, cIs, cIsNot, isNon, fIx, fAdd, iAdd, iSub, iMod, tCat, tRep, L2.atI, L2.ixN, bAbs, bInt, bLen, bMin, bMax, bTuple, defn, defL, isiB, tyN, items_tup, items_lst, notOwn_ob, notOwn_val, notOwn_un, notOwn_pot, notOwn_succ, fr, wipeE, lcLoop, Ce_is_told_fraction_1, is_integer_ok, bAll, blsOf, common_ok, g, Nat.pos_of_ne_zero q.den_nz]
theorem is_fraction_ok (q : Rat) (pot : Pot) : G_is_fraction [.val (fr q)] pot = some (.bl true, pot) := by
  unfold G_is_fraction m_is_fraction
  simp [cI, cEq_ii, cNe_ii, cIs, cIsNot, isNon, fIx, fAdd, iAdd, iSub, iMod, tCat, tRep, L2.atI, L2.ixN, bAbs, bInt, bLen, bMin, bMax, bTuple, defn, defL, isiB, tyN, items_tup, items_lst, notOwn_ob, notOwn_val, notOwn_un, notOwn_pot, notOwn_succ, is_told_ok]
theorem bAll_true {α : Type} (xs : List α) : bAll [.lst (xs.map fun _ => .bl true)] = some (.bl true) := by
  rw [bAll_map (fun _ => true) xs]
  simp
theorem are_fractions_ok (xs : List Rat) (n : Int) (pot : Pot) (hl : xs.length ≤ 100) (hn : (xs.length : Int) = n) : G_are_fractions [.val (frD xs), .val (.int n)] pot = some (.bl true, pot) := by
  have c1 : lcLoop (gN 2) tYes1 Ce_are_fractions_1 [.val (frD xs), .val (.int n), .un] (xs.map fr) pot = some (xs.map (fun _ => .bl true), pot) :=
    lc_map _ _ _ fun p hp => ⟨[.val (frD xs), .val (.int n), .val (fr p)], rfl, rfl, by simp [Ce_are_fractions_1, is_told_ok]⟩
  have hl' : xs.length ≤ 16777216 := by omega
  unfold G_are_fractions m_are_fractions
  simp only [frD] at c1 ⊢
  simp [cI, cEq_ii, cNe_ii, cIs, cIsNot, isNon, fIx, fAdd, iAdd, iSub, iMod, tCat, tRep, L2.atI, L2.ixN, bAbs, bInt, bLen, bMin, bMax, bTuple, defn, defL, isiB, tyN, items_tup, items_lst, notOwn_ob, notOwn_val, notOwn_un, notOwn_pot, notOwn_succ, wipeE, c1, hn, hl', bAll_true, -List.map_const_fun]
theorem is_law_of_ok (xs : List Rat) (n : Int) (pot : Pot) (hl : xs.length ≤ 100) (hn : (xs.length : Int) = n) (h0 : ∀ x ∈ xs, 0 ≤ x) (hp : Part 0 xs) (h1 : xs.sum = 1) : G_is_law_of [.val (frD xs), .val (.int n)] pot = some (.bl true, pot) := by
  have c1 : lcLoop (gN 2) tYes1 Ce_is_law_of_1 [.val (frD xs), .val (.int n), .un] (xs.map fr) pot = some (xs.map (fun _ => .bl true), pot) :=
    lc_map _ _ _ fun p hp => ⟨[.val (frD xs), .val (.int n), .val (fr p)], rfl, rfl, by simp [Ce_is_law_of_1, is_fraction_ok]⟩
  have c2 : lcLoop (gN 2) tYes1 Ce_is_law_of_2 [.val (frD xs), .val (.int n), .un] (xs.map fr) pot = some (xs.map (fun _ => .bl true), pot) :=
    lc_map _ _ _ fun p hp => ⟨[.val (frD xs), .val (.int n), .val (fr p)], rfl, rfl, by
      have := Rat.num_nonneg.mpr (h0 p hp)
      simp [Ce_is_law_of_2, fr, cI, cEq_ii, cNe_ii, cIs, cIsNot, isNon, fIx, fAdd, iAdd, iSub, iMod, tCat, tRep, L2.atI, L2.ixN, bAbs, bInt, bLen, bMin, bMax, bTuple, defn, defL, isiB, tyN, items_tup, items_lst, notOwn_ob, notOwn_val, notOwn_un, notOwn_pot, notOwn_succ, this]⟩
  have c3 := sum_of_ok xs (frD xs) pot rfl hp
  rw [h1] at c3
  have hl' : xs.length ≤ 16777216 := by omega
  have e1 : cEq (fr 1) (.tup [.int 1, .int 1]) = some (.bl true) := by
    have : (.tup [.int 1, .int 1] : D) = fr 1 := rfl
    rw [this]
    unfold cEq
    rw [if_pos (by rw [dep_fr]; omega), eqD_fr]
    simp
  unfold G_is_law_of m_is_law_of
  simp only [frD] at c1 c2 c3 ⊢
  simp [cI, cEq_ii, cNe_ii, cIs, cIsNot, isNon, fIx, fAdd, iAdd, iSub, iMod, tCat, tRep, L2.atI, L2.ixN, bAbs, bInt, bLen, bMin, bMax, bTuple, defn, defL, isiB, tyN, items_tup, items_lst, notOwn_ob, notOwn_val, notOwn_un, notOwn_pot, notOwn_succ, wipeE, c1, c2, c3, hn, hl', bAll_true, e1, -List.map_const_fun]
theorem len_int {α : Type} (xs : List α) (h1 : 2 ≤ xs.length) (h2 : xs.length ≤ 6) : (2 ≤ (xs.length : Int)) ∧ ((xs.length : Int) ≤ 6) := by omega
theorem is_any_law_ok (xs : List Rat) (pot : Pot) (hl1 : 2 ≤ xs.length) (hl2 : xs.length ≤ 6) (h0 : ∀ x ∈ xs, 0 ≤ x) (hp : Part 0 xs) (h1 : xs.sum = 1) : G_is_any_law [.val (frD xs)] pot = some (.bl true, pot) := by
  have c := is_law_of_ok xs xs.length pot (by omega) rfl h0 hp h1
  obtain ⟨i1, i2⟩ := len_int xs hl1 hl2
  unfold G_is_any_law m_is_any_law
  simp only [frD] at c ⊢
  simp [cI, cEq_ii, cNe_ii, cIs, cIsNot, isNon, fIx, fAdd, iAdd, iSub, iMod, tCat, tRep, L2.atI, L2.ixN, bAbs, bInt, bLen, bMin, bMax, bTuple, defn, defL, isiB, tyN, items_tup, items_lst, notOwn_ob, notOwn_val, notOwn_un, notOwn_pot, notOwn_succ, i1, i2, c]
theorem is_between_ok (n : Int) (pot : Pot) (h1 : 2 ≤ n) (h2 : n ≤ 6) : G_is_between [.val (.int n), .val (.int 2), .val (.int 6)] pot = some (.bl true, pot) := by
  unfold G_is_between m_is_between
  simp [cI, cEq_ii, cNe_ii, cIs, cIsNot, isNon, fIx, fAdd, iAdd, iSub, iMod, tCat, tRep, L2.atI, L2.ixN, bAbs, bInt, bLen, bMin, bMax, bTuple, defn, defL, isiB, tyN, items_tup, items_lst, notOwn_ob, notOwn_val, notOwn_un, notOwn_pot, notOwn_succ, is_integer_ok, h1, h2]
theorem checked_signs_ok (n : Int) (pot : Pot) (h1 : 2 ≤ n) (h2 : n ≤ 6) : G_checked_signs [.val (.int n)] pot = some (.non, pot) := by
  unfold G_checked_signs m_checked_signs
  simp [cI, cEq_ii, cNe_ii, cIs, cIsNot, isNon, fIx, fAdd, iAdd, iSub, iMod, tCat, tRep, L2.atI, L2.ixN, bAbs, bInt, bLen, bMin, bMax, bTuple, defn, defL, isiB, tyN, items_tup, items_lst, notOwn_ob, notOwn_val, notOwn_un, notOwn_pot, notOwn_succ, is_between_ok, h1, h2]
theorem is_law_ok (xs : List Rat) (pot : Pot) (hl1 : 2 ≤ xs.length) (hl2 : xs.length ≤ 6) (h0 : ∀ x ∈ xs, 0 ≤ x) (hp : Part 0 xs) (h1 : xs.sum = 1) : G_is_law [.val (frD xs), .val (.int xs.length)] pot = some (.bl true, pot) := by
  have c := is_law_of_ok xs xs.length pot (by omega) rfl h0 hp h1
  obtain ⟨i1, i2⟩ := len_int xs hl1 hl2
  unfold G_is_law m_is_law
  simp [cI, cEq_ii, cNe_ii, cIs, cIsNot, isNon, fIx, fAdd, iAdd, iSub, iMod, tCat, tRep, L2.atI, L2.ixN, bAbs, bInt, bLen, bMin, bMax, bTuple, defn, defL, isiB, tyN, items_tup, items_lst, notOwn_ob, notOwn_val, notOwn_un, notOwn_pot, notOwn_succ, checked_signs_ok, i1, i2, c]
theorem are_pairs_ok (bs : List (Rat × Rat)) (n : Int) (pot : Pot) (hl : bs.length ≤ 100) (hn : (bs.length : Int) = n) : G_are_pairs_of [.val (bdD bs), .val (.int n)] pot = some (.bl true, pot) := by
  have c1 : lcLoop (gN 2) tYes1 Ce_are_pairs_of_1 [.val (bdD bs), .val (.int n), .un, .un] (bs.map pD) pot = some (bs.map (fun _ => .bl true), pot) :=
    lc_map _ _ _ fun p hp => ⟨[.val (bdD bs), .val (.int n), .val (pD p), .un], rfl, rfl, by simp [Ce_are_pairs_of_1, cI, cEq_ii, cNe_ii, cIs, cIsNot, isNon, fIx, fAdd, iAdd, iSub, iMod, tCat, tRep, L2.atI, L2.ixN, bAbs, bInt, bLen, bMin, bMax, bTuple, defn, defL, isiB, tyN, items_tup, items_lst, notOwn_ob, notOwn_val, notOwn_un, notOwn_pot, notOwn_succ, pD]⟩
  have c2 : lcLoop (gN 2) tYes1 Ce_are_pairs_of_3 [.val (bdD bs), .val (.int n), .un, .un] (bs.map pD) pot = some (bs.map (fun _ => .bl true), pot) :=
    lc_map _ _ _ fun p hp => ⟨[.val (bdD bs), .val (.int n), .val (pD p), .un], rfl, rfl, by simp [Ce_are_pairs_of_3, cI, cEq_ii, cNe_ii, cIs, cIsNot, isNon, fIx, fAdd, iAdd, iSub, iMod, tCat, tRep, L2.atI, L2.ixN, bAbs, bInt, bLen, bMin, bMax, bTuple, defn, defL, isiB, tyN, items_tup, items_lst, notOwn_ob, notOwn_val, notOwn_un, notOwn_pot, notOwn_succ, pD, wipeE, lcLoop, Ce_are_pairs_of_2, is_fraction_ok, bAll, blsOf]⟩
  have hl' : bs.length ≤ 16777216 := by omega
  unfold G_are_pairs_of m_are_pairs_of
  simp only [bdD] at c1 c2 ⊢
  simp [cI, cEq_ii, cNe_ii, cIs, cIsNot, isNon, fIx, fAdd, iAdd, iSub, iMod, tCat, tRep, L2.atI, L2.ixN, bAbs, bInt, bLen, bMin, bMax, bTuple, defn, defL, isiB, tyN, items_tup, items_lst, notOwn_ob, notOwn_val, notOwn_un, notOwn_pot, notOwn_succ, wipeE, c1, c2, hn, hl', bAll_true, -List.map_const_fun]
end K47
set_option linter.all false
set_option maxRecDepth 100000
set_option exponentiation.threshold 10000
namespace K47
open DL
def clip (b : Rat × Rat) : Rat × Rat := (if 0 ≤ b.1 then b.1 else 0, if 1 < b.2 then 1 else b.2)
def lows (bs : List (Rat × Rat)) : Rat := (bs.map (·.1)).sum
def highs (bs : List (Rat × Rat)) : Rat := (bs.map (·.2)).sum
def tg (L U : Rat) (b : Rat × Rat) : Rat × Rat := (if b.1 < 1 - (U - b.2) then 1 - (U - b.2) else b.1, if 1 - (L - b.1) < b.2 then 1 - (L - b.1) else b.2)
def crossed (s : List (Rat × Rat)) : Bool := (s.any fun b => decide (b.2 < b.1)) || (decide (1 < lows s) || decide (highs s < 1))
def nar (bs : List (Rat × Rat)) : Option (List (Rat × Rat)) := if crossed (bs.map clip) then none else some ((bs.map clip).map (tg (lows (bs.map clip)) (highs (bs.map clip))))
def LtB (M B : Nat) (bs : List (Rat × Rat)) : Prop := ∀ b ∈ bs, Lt M B b.1 ∧ Lt M B b.2
section
variable {M B : Nat} {bs : List (Rat × Rat)}
theorem LtB.l (h : LtB M B bs) : ∀ q ∈ bs.map (·.1), Lt M B q := fun q hq => by
  obtain ⟨b, hb, rfl⟩ := List.mem_map.mp hq
  exact (h b hb).1
theorem LtB.h (h : LtB M B bs) : ∀ q ∈ bs.map (·.2), Lt M B q := fun q hq => by
  obtain ⟨b, hb, rfl⟩ := List.mem_map.mp hq
  exact (h b hb).2
theorem LtB.lows (h : LtB M B bs) : Lt M (bs.length * B) (lows bs) := by
  have := sum_lt h.l
  rwa [List.length_map] at this
theorem LtB.highs (h : LtB M B bs) : Lt M (bs.length * B) (highs bs) := by
  have := sum_lt h.h
  rwa [List.length_map] at this
theorem clip_lt {b : Rat × Rat} (h : Lt M B b.1 ∧ Lt M B b.2) (hB : 1 ≤ B) : Lt M B (clip b).1 ∧ Lt M B (clip b).2 := by
  unfold clip
  dsimp only
  refine ⟨?_, ?_⟩
  · split
    · exact h.1
    · exact lt_zero
  · split
    · exact lt_one hB
    · exact h.2
theorem LtB.clip (h : LtB M B bs) (hB : 1 ≤ B) : LtB M B (bs.map K47.clip) := fun b hb => by
  obtain ⟨c, hc, rfl⟩ := List.mem_map.mp hb
  exact clip_lt (h c hc) hB
theorem fr_one : (D.tup [.int 1, .int 1]) = fr 1 := rfl
theorem fr_zero : (D.tup [.int 0, .int 1]) = fr 0 := rfl
theorem fx0 (a b : D) : fIx (.tup [a, b]) (.int 0) = some a := rfl
theorem fx1 (a b : D) : fIx (.tup [a, b]) (.int 1) = some b := rfl
theorem lows_highs_ok (h0 : 0 < M) (hM : M ≤ 1000000) (hB : B ≤ 1000) (hl : bs.length ≤ 100) (h : LtB M B bs) (S : D) (pot : Pot) (hS : items S = some (bs.map pD)) :
    G_lows_and_highs [.val S] pot = some (pD (lows bs, highs bs), pot) := by
  have c1 : lcLoop (gN 1) tYes1 Ce_lows_and_highs_2 [.val S, .un] (bs.map pD) pot = some ((bs.map (·.1)).map fr, pot) := by
    rw [List.map_map]
    exact lc_map _ _ _ fun p hp => ⟨[.val S, .val (pD p)], rfl, rfl, by simp [Ce_lows_and_highs_2, pD, fx0]⟩
  have c2 : lcLoop (gN 1) tYes1 Ce_lows_and_highs_1 [.val S, .un] (bs.map pD) pot = some ((bs.map (·.2)).map fr, pot) := by
    rw [List.map_map]
    exact lc_map _ _ _ fun p hp => ⟨[.val S, .val (pD p)], rfl, rfl, by simp [Ce_lows_and_highs_1, pD, fx1]⟩
  have hb : bs.length * B ≤ 1000000000 := by have := Nat.mul_le_mul hl hB; omega
  have s1 := sum_of_ok (bs.map (·.1)) (.lst ((bs.map (·.1)).map fr)) pot rfl (part0 h0 (by omega) h.l (by rw [List.length_map]; exact hb))
  have s2 := sum_of_ok (bs.map (·.2)) (.lst ((bs.map (·.2)).map fr)) pot rfl (part0 h0 (by omega) h.h (by rw [List.length_map]; exact hb))
  have hl' : bs.length ≤ 16777216 := by omega
  unfold G_lows_and_highs m_lows_and_highs
  simp only [defn, List.length_cons, List.length_nil]
  simp [cI, cEq_ii, cNe_ii, cIs, cIsNot, isNon, fIx, fAdd, iAdd, iSub, iMod, tCat, tRep, L2.atI, L2.ixN, bAbs, bInt, bLen, bMin, bMax, bTuple, defn, defL, isiB, tyN, items_tup, items_lst, notOwn_ob, notOwn_val, notOwn_un, notOwn_pot, notOwn_succ, hS, wipeE, c1, c2, s1, s2, hl', pD, lows, highs, -List.map_map]
theorem tg_lt {L U : Rat} {C : Nat} {b : Rat × Rat} (h : Lt M B b.1 ∧ Lt M B b.2) (hL : Lt M C L) (hU : Lt M C U) : Lt M (1 + (C + B)) (tg L U b).1 ∧ Lt M (1 + (C + B)) (tg L U b).2 := by
  unfold tg
  dsimp only
  have a1 := (lt_one (M := M) (B := 1) (by omega)).sub (hU.sub h.2)
  have a2 := (lt_one (M := M) (B := 1) (by omega)).sub (hL.sub h.1)
  refine ⟨?_, ?_⟩
  · split
    · exact a1
    · exact h.1.mono (by omega)
  · split
    · exact a2
    · exact h.2.mono (by omega)
end
theorem ite_fr (c : Prop) [Decidable c] (a b : Rat) : (if c then fr a else fr b) = fr (if c then a else b) := by split <;> rfl
theorem nar_loop {M B C : Nat} (h0 : 0 < M) (hM : M ≤ 1000000) (hB : B ≤ 1000) (hC : C ≤ 100000) (s : List (Rat × Rat)) (hs : LtB M B s) (L U : Rat) (hL : Lt M C L) (hU : Lt M C U) (S T : D) (pot : Pot) (hl : s.length ≤ 100) :
    ∃ o5 o6 o7 o8, forLoop (gT (gsCons (gN 5) (gsCons (gN 6) gsNil))) Lb_narrowed_3 (s.map pD) [.val S, .val T, .val (fr L), .val (fr U), .own [], .un, .un, .un, .un, .un] pot = some (.nx [.val S, .val T, .val (fr L), .val (fr U), .own ((s.map (tg L U)).map pD), ob o5, ob o6, ob o7, ob o8, .un] pot) := by
  have sm : ∀ {q : Rat} {D : Nat}, Lt M D q → D ≤ 1000000000 → Sm q := fun h hD => (h.sh h0 (by omega) hD).sm
  obtain ⟨env', pot', h1, o5, o6, o7, o8, h2, h3⟩ := for_inv (g := gT (gsCons (gN 5) (gsCons (gN 6) gsNil))) (mb := Lb_narrowed_3) pD
    (fun done env p => ∃ o5 o6 o7 o8, env = [.val S, .val T, .val (fr L), .val (fr U), .own ((done.map (tg L U)).map pD), ob o5, ob o6, ob o7, ob o8, .un] ∧ p = pot) s
    (env := [.val S, .val T, .val (fr L), .val (fr U), .own [], .un, .un, .un, .un, .un]) (pot := pot) ⟨none, none, none, none, rfl, rfl⟩ (fun d b r env p hd hi => by
      obtain ⟨o5, o6, o7, o8, rfl, rfl⟩ := hi
      have hb := hs b (by rw [hd]; simp)
      have hdl : d.length < 16777216 := by
        have := congrArg List.length hd
        rw [List.length_append, List.length_cons] at this
        omega
      have u1 := hU.sub hb.2
      have u2 := hL.sub hb.1
      have one : Lt M 1 1 := lt_one (by omega)
      have v1 := one.sub u1
      have v2 := one.sub u2
      refine ⟨[.val S, .val T, .val (fr L), .val (fr U), .own ((d.map (tg L U)).map pD), .val (fr b.1), .val (fr b.2), ob o7, ob o8, .un], [.val S, .val T, .val (fr L), .val (fr U), .own (((d ++ [b]).map (tg L U)).map pD), .val (fr b.1), .val (fr b.2), .val (fr (1 - (U - b.2))), .val (fr (1 - (L - b.1))), .un], p, ?_, ?_, some (fr b.1), some (fr b.2), some (fr (1 - (U - b.2))), some (fr (1 - (L - b.1))), rfl, rfl⟩
      · simp [pD, cI, cEq_ii, cNe_ii, cIs, cIsNot, isNon, fIx, fAdd, iAdd, iSub, iMod, tCat, tRep, L2.atI, L2.ixN, bAbs, bInt, bLen, bMin, bMax, bTuple, defn, defL, isiB, tyN, items_tup, items_lst, notOwn_ob, notOwn_val, notOwn_un, notOwn_pot, notOwn_succ]
      · unfold Lb_narrowed_3
        by_cases k1 : b.1 < 1 - (U - b.2) <;> by_cases k2 : 1 - (L - b.1) < b.2 <;> simp [cI, cEq_ii, cNe_ii, cIs, cIsNot, isNon, fIx, fAdd, iAdd, iSub, iMod, tCat, tRep, L2.atI, L2.ixN, bAbs, bInt, bLen, bMin, bMax, bTuple, defn, defL, isiB, tyN, items_tup, items_lst, notOwn_ob, notOwn_val, notOwn_un, notOwn_pot, notOwn_succ, fr_one, difference_ok, is_less_ok, sm hU (by omega), sm hL (by omega), sm hb.1 (by omega), sm hb.2 (by omega), sm one (by omega), sm u1 (by omega), sm u2 (by omega), sm v1 (by omega), sm v2 (by omega), k1, k2, fAppend, hdl, pD, tg])
  subst h2 h3
  exact ⟨o5, o6, o7, o8, h1⟩
end K47
set_option linter.all false
set_option maxRecDepth 100000
set_option exponentiation.threshold 10000
namespace K47
open DL
/-- what narrowed gives -/
def narD (bs : List (Rat × Rat)) : D := match nar bs with
  | none => .non
  | some r => bdD r
theorem narrowed_ok {M B : Nat} (h0 : 0 < M) (hM : M ≤ 1000000) (hB1 : 1 ≤ B) (hB : B ≤ 1000) (bs : List (Rat × Rat)) (hl : bs.length ≤ 100) (h : LtB M B bs) (S : D) (pot : Pot) (hf : flatP pot = true) (hS : items S = some (bs.map pD)) :
    G_narrowed [.val S] pot = some (narD bs, pot) := by
  have sm : ∀ {q : Rat} {D : Nat}, Lt M D q → D ≤ 1000000000 → Sm q := fun h hD => (h.sh h0 (by omega) hD).sm
  have hs := h.clip hB1
  have hsl : (bs.map clip).length ≤ 100 := by rw [List.length_map]; exact hl
  have one : Lt M 1 1 := lt_one (by omega)
  have c1 : lcLoop (gN 9) tYes1 Ce_narrowed_1 [.val S, .un, .un, .un, .un, .un, .un, .un, .un, .un] (bs.map pD) pot = some ((bs.map clip).map pD, pot) := by
    rw [List.map_map]
    refine lc_map _ _ _ fun p hp => ⟨[.val S, .un, .un, .un, .un, .un, .un, .un, .un, .val (pD p)], rfl, rfl, ?_⟩
    have hb := h p hp
    have e : (0 ≤ p.1.num) ↔ (0 ≤ p.1) := Rat.num_nonneg
    have f0 : fIx (fr p.1) (.int 0) = some (.int p.1.num) := rfl
    by_cases k1 : 0 ≤ p.1 <;> by_cases k2 : 1 < p.2 <;> simp [Ce_narrowed_1, pD, clip, fx0, fx1, f0, cI, e, k1, k2, fr_one, fr_zero, is_less_ok, sm one (by omega), sm hb.2 (by omega)]
  generalize hss : bs.map clip = s at *
  have hlh := lows_highs_ok h0 hM hB hsl hs (.lst (s.map pD)) pot rfl
  have hL := hs.lows
  have hU := hs.highs
  have hC : s.length * B ≤ 100000 := by have := Nat.mul_le_mul hsl hB; omega
  have c2 : lcLoop (gN 9) tYes1 Ce_narrowed_2 [.val S, .val (.lst (s.map pD)), .val (fr (lows s)), .val (fr (highs s)), .un, .un, .un, .un, .un, .un] (s.map pD) pot = some (s.map (fun b => .bl (decide (b.2 < b.1))), pot) :=
    lc_map _ _ _ fun p hp => ⟨[.val S, .val (.lst (s.map pD)), .val (fr (lows s)), .val (fr (highs s)), .un, .un, .un, .un, .un, .val (pD p)], rfl, rfl, by
      have hb := hs p hp
      simp [Ce_narrowed_2, pD, fx0, fx1, is_less_ok, sm hb.1 (by omega), sm hb.2 (by omega)]⟩
  obtain ⟨o5, o6, o7, o8, c3⟩ := nar_loop h0 hM hB hC s hs (lows s) (highs s) hL hU S (.lst (s.map pD)) pot hsl
  have hl1 : bs.length ≤ 16777216 := by omega
  have hl2 : s.length ≤ 16777216 := by omega
  have p1 : pD (lows s, highs s) = .tup [fr (lows s), fr (highs s)] := rfl
  rw [p1] at hlh
  unfold G_narrowed m_narrowed
  simp only [defn, List.length_cons, List.length_nil]
  unfold narD nar
  rw [hss]
  unfold crossed
  simp [cI, cEq_ii, cNe_ii, cIs, cIsNot, isNon, fIx, fAdd, iAdd, iSub, iMod, tCat, tRep, L2.atI, L2.ixN, bAbs, bInt, bLen, bMin, bMax, bTuple, defn, defL, isiB, tyN, items_tup, items_lst, notOwn_ob, notOwn_val, notOwn_un, notOwn_pot, notOwn_succ, hS, wipeE, c1, hlh, hl1, hl2, c2, bAny_map, fr_one, is_less_ok, sm one (by omega), sm hL (by omega), sm hU (by omega), -List.map_map]
  cases k0 : s.any (fun b => decide (b.2 < b.1)) with
  | true => simp
  | false =>
    by_cases k1 : 1 < lows s
    · simp [k1]
    · by_cases k2 : highs s < 1
      · simp [k1, k2]
      · simp [k1, k2, cI, cEq_ii, cNe_ii, cIs, cIsNot, isNon, fIx, fAdd, iAdd, iSub, iMod, tCat, tRep, L2.atI, L2.ixN, bAbs, bInt, bLen, bMin, bMax, bTuple, defn, defL, isiB, tyN, items_tup, items_lst, notOwn_ob, notOwn_val, notOwn_un, notOwn_pot, notOwn_succ, hf, c3, bdD, -List.map_map]
end K47
set_option linter.all false
set_option maxRecDepth 100000
set_option exponentiation.threshold 10000
namespace K47
open DL
theorem tight_loop {M B C : Nat} (h0 : 0 < M) (hM : M ≤ 1000000) (hB : B ≤ 1000) (hC : C ≤ 100000) (s : List (Rat × Rat)) (hs : LtB M B s) (L U : Rat) (hL : Lt M C L) (hU : Lt M C U) (S : D) (pot : Pot) (hl : s.length ≤ 100) :
    ∃ o5 o6 o7 o8, forLoop (gT (gsCons (gN 4) (gsCons (gN 5) gsNil))) Lb__law_tight_3 (s.map pD) [.val S, .own [], .val (fr L), .val (fr U), .un, .un, .un, .un] pot = some (.nx [.val S, .own ((s.map (tg L U)).map pD), .val (fr L), .val (fr U), ob o5, ob o6, ob o7, ob o8] pot) := by
  have sm : ∀ {q : Rat} {D : Nat}, Lt M D q → D ≤ 1000000000 → Sm q := fun h hD => (h.sh h0 (by omega) hD).sm
  obtain ⟨env', pot', h1, o5, o6, o7, o8, h2, h3⟩ := for_inv (g := gT (gsCons (gN 4) (gsCons (gN 5) gsNil))) (mb := Lb__law_tight_3) pD
    (fun done env p => ∃ o5 o6 o7 o8, env = [.val S, .own ((done.map (tg L U)).map pD), .val (fr L), .val (fr U), ob o5, ob o6, ob o7, ob o8] ∧ p = pot) s
    (env := [.val S, .own [], .val (fr L), .val (fr U), .un, .un, .un, .un]) (pot := pot) ⟨none, none, none, none, rfl, rfl⟩ (fun d b r env p hd hi => by
      obtain ⟨o5, o6, o7, o8, rfl, rfl⟩ := hi
      have hb := hs b (by rw [hd]; simp)
      have hdl : d.length < 16777216 := by
        have := congrArg List.length hd
        rw [List.length_append, List.length_cons] at this
        omega
      have one : Lt M 1 1 := lt_one (by omega)
      have u1 := one.sub hU
      have u2 := one.sub hL
      have v1 := u1.add hb.2
      have v2 := u2.add hb.1
      have e1 : 1 - (U - b.2) = 1 - U + b.2 := by grind
      have e2 : 1 - (L - b.1) = 1 - L + b.1 := by grind
      refine ⟨[.val S, .own ((d.map (tg L U)).map pD), .val (fr L), .val (fr U), .val (fr b.1), .val (fr b.2), ob o7, ob o8], [.val S, .own (((d ++ [b]).map (tg L U)).map pD), .val (fr L), .val (fr U), .val (fr b.1), .val (fr b.2), .val (fr (1 - (U - b.2))), .val (fr (1 - (L - b.1)))], p, ?_, ?_, some (fr b.1), some (fr b.2), some (fr (1 - (U - b.2))), some (fr (1 - (L - b.1))), rfl, rfl⟩
      · simp [pD, cI, cEq_ii, cNe_ii, cIs, cIsNot, isNon, fIx, fAdd, iAdd, iSub, iMod, tCat, tRep, L2.atI, L2.ixN, bAbs, bInt, bLen, bMin, bMax, bTuple, defn, defL, isiB, tyN, items_tup, items_lst, notOwn_ob, notOwn_val, notOwn_un, notOwn_pot, notOwn_succ]
      · unfold Lb__law_tight_3
        rw [e1, e2]
        by_cases k1 : b.1 < 1 - U + b.2 <;> by_cases k2 : 1 - L + b.1 < b.2 <;> simp [cI, cEq_ii, cNe_ii, cIs, cIsNot, isNon, fIx, fAdd, iAdd, iSub, iMod, tCat, tRep, L2.atI, L2.ixN, bAbs, bInt, bLen, bMin, bMax, bTuple, defn, defL, isiB, tyN, items_tup, items_lst, notOwn_ob, notOwn_val, notOwn_un, notOwn_pot, notOwn_succ, fr_one, law_added_ok, law_less_ok, law_is_below_ok, sm hU (by omega), sm hL (by omega), sm hb.1 (by omega), sm hb.2 (by omega), sm one (by omega), sm u1 (by omega), sm u2 (by omega), sm v1 (by omega), sm v2 (by omega), k1, k2, fAppend, hdl, pD, tg, e1, e2])
  subst h2 h3
  exact ⟨o5, o6, o7, o8, h1⟩
theorem law_tight_ok {M B : Nat} (h0 : 0 < M) (hM : M ≤ 1000000) (hB1 : 1 ≤ B) (hB : B ≤ 1000) (bs : List (Rat × Rat)) (hl : bs.length ≤ 100) (h : LtB M B bs) (S : D) (pot : Pot) (hf : flatP pot = true) (hS : items S = some (bs.map pD)) :
    G__law_tight [.val S] pot = some (bdD (bs.map (tg (lows bs) (highs bs))), pot) := by
  have sm : ∀ {q : Rat} {D : Nat}, Lt M D q → D ≤ 1000000000 → Sm q := fun h hD => (h.sh h0 (by omega) hD).sm
  have hb : bs.length * B ≤ 100000 := by have := Nat.mul_le_mul hl hB; omega
  have c1 : lcLoop (gT (gsCons (gN 4) (gsCons (gN 5) gsNil))) tYes1 (dV 4) [.val S, .own [], .un, .un, .un, .un, .un, .un] (bs.map pD) pot = some ((bs.map (·.1)).map fr, pot) := by
    rw [List.map_map]
    exact lc_map _ _ _ fun p hp => ⟨[.val S, .own [], .un, .un, .val (fr p.1), .val (fr p.2), .un, .un], rfl, rfl, rfl⟩
  have c2 : lcLoop (gT (gsCons (gN 4) (gsCons (gN 5) gsNil))) tYes1 (dV 5) [.val S, .own [], .un, .un, .un, .un, .un, .un] (bs.map pD) pot = some ((bs.map (·.2)).map fr, pot) := by
    rw [List.map_map]
    exact lc_map _ _ _ fun p hp => ⟨[.val S, .own [], .un, .un, .val (fr p.1), .val (fr p.2), .un, .un], rfl, rfl, rfl⟩
  have s1 := law_total_ok (bs.map (·.1)) (.lst ((bs.map (·.1)).map fr)) pot rfl (part0 h0 (by omega) h.l (by rw [List.length_map]; omega))
  have s2 := law_total_ok (bs.map (·.2)) (.lst ((bs.map (·.2)).map fr)) pot rfl (part0 h0 (by omega) h.h (by rw [List.length_map]; omega))
  obtain ⟨o5, o6, o7, o8, c3⟩ := tight_loop h0 hM hB hb bs h (lows bs) (highs bs) h.lows h.highs S pot hl
  have hl' : bs.length ≤ 16777216 := by omega
  unfold G__law_tight m__law_tight
  simp only [defn, List.length_cons, List.length_nil]
  unfold lows highs at *
  simp [cI, cEq_ii, cNe_ii, cIs, cIsNot, isNon, fIx, fAdd, iAdd, iSub, iMod, tCat, tRep, L2.atI, L2.ixN, bAbs, bInt, bLen, bMin, bMax, bTuple, defn, defL, isiB, tyN, items_tup, items_lst, notOwn_ob, notOwn_val, notOwn_un, notOwn_pot, notOwn_succ, hf, hS, wipeE, c1, c2, s1, s2, c3, hl', bdD, -List.map_map]
end K47
set_option linter.all false
set_option maxRecDepth 100000
set_option exponentiation.threshold 10000
namespace K47
open DL
theorem cEq_fr (p q : Rat) : cEq (fr p) (fr q) = some (.bl (decide (p = q))) := by
  unfold cEq
  rw [if_pos (by rw [dep_fr, dep_fr]; omega), eqD_fr]
theorem cNe_fr (p q : Rat) : cNe (fr p) (fr q) = some (.bl (!decide (p = q))) := by
  unfold cNe
  rw [if_pos (by rw [dep_fr, dep_fr]; omega), eqD_fr]
theorem eqD_frD (xs ys : List Rat) : eqD (frD xs) (frD ys) = decide (xs = ys) := by
  unfold frD
  simp only [eqD]
  exact eqDL_fr xs ys
theorem dep_frD (xs : List Rat) : dep (frD xs) ≤ 2 := by
  unfold frD
  simp only [dep]
  have := depL_fr xs
  omega
theorem cNotIn_frD (x : List Rat) (ls : List (List Rat)) : cNotIn (frD x) (.lst (ls.map frD)) = some (.bl (!ls.any fun y => decide (y = x))) := by
  unfold cNotIn
  rw [if_pos (by have := dep_frD x; omega), items_lst, Option.map_some, List.any_map]
  have : ((fun z => eqD z (frD x)) ∘ frD) = fun y => decide (y = x) := funext fun y => eqD_frD y x
  rw [this]
def opts (f i : Nat) (b : Rat × Rat) : List Rat := if i = f then [0] else if b.1 = b.2 then [b.1] else [b.1, b.2]
def stepR (f : Nat) (rows : List (List Rat)) (q : (Rat × Rat) × Nat) : List (List Rat) := rows.flatMap fun r => (opts f q.2 q.1).map fun o => r ++ [o]
def rowsT (f : Nat) (l : List ((Rat × Rat) × Nat)) : List (List Rat) := l.foldl (stepR f) [[]]
theorem opts_len (f i : Nat) (b : Rat × Rat) : (opts f i b).length ≤ 2 := by
  unfold opts
  split
  · simp
  · split <;> simp
theorem step_len (f : Nat) (rows : List (List Rat)) (q : (Rat × Rat) × Nat) : (stepR f rows q).length ≤ 2 * rows.length := by
  unfold stepR
  induction rows with
  | nil => simp
  | cons r rows ih =>
    rw [List.flatMap_cons, List.length_append, List.length_map, List.length_cons]
    have := opts_len f q.2 q.1
    omega
theorem rowsT_snoc (f : Nat) (l : List ((Rat × Rat) × Nat)) (q : (Rat × Rat) × Nat) : rowsT f (l ++ [q]) = stepR f (rowsT f l) q := by
  unfold rowsT
  rw [List.foldl_append]
  rfl
theorem rowsT_len (f : Nat) (l : List ((Rat × Rat) × Nat)) : (rowsT f l).length ≤ 2 ^ l.length := by
  have : ∀ (l : List ((Rat × Rat) × Nat)) (rows : List (List Rat)), (l.foldl (stepR f) rows).length ≤ 2 ^ l.length * rows.length := by
    intro l
    induction l with
    | nil => intro rows; simp
    | cons q l ih =>
      intro rows
      rw [List.foldl_cons, List.length_cons, Nat.pow_succ]
      have h1 := ih (stepR f rows q)
      have h2 := Nat.mul_le_mul_left (2 ^ l.length) (step_len f rows q)
      rw [← Nat.mul_assoc] at h2
      omega
  have := this l [[]]
  simpa [rowsT] using this
theorem rowsT_mem (f : Nat) (l : List ((Rat × Rat) × Nat)) : ∀ r ∈ rowsT f l, r.length = l.length := by
  have : ∀ (l : List ((Rat × Rat) × Nat)) (rows : List (List Rat)) (n : Nat), (∀ r ∈ rows, r.length = n) → ∀ r ∈ l.foldl (stepR f) rows, r.length = n + l.length := by
    intro l
    induction l with
    | nil => intro rows n h r hr; exact h r hr
    | cons q l ih =>
      intro rows n h r hr
      rw [List.foldl_cons] at hr
      have := ih (stepR f rows q) (n + 1) (fun r hr => by
        unfold stepR at hr
        obtain ⟨r0, h0, h1⟩ := List.mem_flatMap.mp hr
        obtain ⟨o, _, rfl⟩ := List.mem_map.mp h1
        rw [List.length_append, h r0 h0]
        rfl) r hr
      rw [this, List.length_cons]
      omega
  intro r hr
  have := this l [[]] 0 (by simp) r hr
  omega
theorem rows_loop (bs : List (Rat × Rat)) (f : Nat) (F : List D) (pot : Pot) (l : List ((Rat × Rat) × Nat)) (hl : l.length ≤ 20) (o4 o5 o6 o7 o8 o9 o10 : Option D) :
    ∃ p4 p5 p6, forLoop (gT (gsCons (gN 4) (gsCons (gN 5) gsNil))) Lb_corners_within_2 (l.map fun q => .tup [.int (q.2 : Nat), pD q.1]) [.val (bdD bs), .own F, .val (.int (f : Nat)), .val (.lst [.tup []]), ob o4, ob o5, ob o6, ob o7, ob o8, ob o9, ob o10] pot
      = some (.nx [.val (bdD bs), .own F, .val (.int (f : Nat)), .val (.lst ((rowsT f l).map frD)), ob p4, ob p5, ob p6, ob o7, ob o8, ob o9, ob o10] pot) := by
  obtain ⟨env', pot', h1, ⟨p4, p5, p6, h2, h3⟩⟩ := for_inv (g := gT (gsCons (gN 4) (gsCons (gN 5) gsNil))) (mb := Lb_corners_within_2) (fun q : (Rat × Rat) × Nat => .tup [.int (q.2 : Nat), pD q.1])
    (fun done env p => ∃ o4 o5 o6, env = [.val (bdD bs), .own F, .val (.int (f : Nat)), .val (.lst ((rowsT f done).map frD)), ob o4, ob o5, ob o6, ob o7, ob o8, ob o9, ob o10] ∧ p = pot) l
    (env := [.val (bdD bs), .own F, .val (.int (f : Nat)), .val (.lst [.tup []]), ob o4, ob o5, ob o6, ob o7, ob o8, ob o9, ob o10]) (pot := pot) ⟨o4, o5, o6, rfl, rfl⟩ (fun d q r env p hd hi => by
      obtain ⟨p4, p5, p6, rfl, rfl⟩ := hi
      have hdl : d.length + 1 ≤ 20 := by
        have := congrArg List.length hd
        rw [List.length_append, List.length_cons] at this
        omega
      have hrl : (stepR f (rowsT f d) q).length ≤ 16777216 := by
        have h1 := step_len f (rowsT f d) q
        have h2 := rowsT_len f d
        have h3 : 2 ^ d.length ≤ 2 ^ 19 := Nat.pow_le_pow_right (by omega) (by omega)
        have h4 : (2 : Nat) ^ 19 = 524288 := by decide
        omega
      have hc : ∀ os : List Rat, os = opts f q.2 q.1 → lcLoop2 (gN 7) tYes1 (iAny (dV 6)) (gN 10) tYes1 Ce_corners_within_1 [10] [.val (bdD bs), .own F, .val (.int (f : Nat)), .val (.lst ((rowsT f d).map frD)), .val (.int (q.2 : Nat)), .val (pD q.1), .val (.lst (os.map fr)), .un, ob o8, ob o9, .un] ((rowsT f d).map frD) p = some ((stepR f (rowsT f d) q).map frD, p) := by
        intro os hos
        have := lc2_map (g := gN 7) (mt := tYes1) (me := Ce_corners_within_1) (mi1 := iAny (dV 6)) (g1 := gN 10) (mt1 := tYes1) (vs1 := [10]) (pot := p) (env := [.val (bdD bs), .own F, .val (.int (f : Nat)), .val (.lst ((rowsT f d).map frD)), .val (.int (q.2 : Nat)), .val (pD q.1), .val (.lst (os.map fr)), .un, ob o8, ob o9, .un]) frD fr (fun r o => frD (r ++ [o])) os (rowsT f d) (fun x hx =>
          ⟨[.val (bdD bs), .own F, .val (.int (f : Nat)), .val (.lst ((rowsT f d).map frD)), .val (.int (q.2 : Nat)), .val (pD q.1), .val (.lst (os.map fr)), .val (frD x), ob o8, ob o9, .un], by simp [cI, cEq_ii, cNe_ii, cIs, cIsNot, isNon, fIx, fAdd, iAdd, iSub, iMod, tCat, tRep, L2.atI, L2.ixN, bAbs, bInt, bLen, bMin, bMax, bTuple, defn, defL, isiB, tyN, items_tup, items_lst, notOwn_ob, notOwn_val, notOwn_un, notOwn_pot, notOwn_succ], rfl, by simp [cI, cEq_ii, cNe_ii, cIs, cIsNot, isNon, fIx, fAdd, iAdd, iSub, iMod, tCat, tRep, L2.atI, L2.ixN, bAbs, bInt, bLen, bMin, bMax, bTuple, defn, defL, isiB, tyN, items_tup, items_lst, notOwn_ob, notOwn_val, notOwn_un, notOwn_pot, notOwn_succ], by simp [cI, cEq_ii, cNe_ii, cIs, cIsNot, isNon, fIx, fAdd, iAdd, iSub, iMod, tCat, tRep, L2.atI, L2.ixN, bAbs, bInt, bLen, bMin, bMax, bTuple, defn, defL, isiB, tyN, items_tup, items_lst, notOwn_ob, notOwn_val, notOwn_un, notOwn_pot, notOwn_succ], fun y hy => ⟨[.val (bdD bs), .own F, .val (.int (f : Nat)), .val (.lst ((rowsT f d).map frD)), .val (.int (q.2 : Nat)), .val (pD q.1), .val (.lst (os.map fr)), .val (frD x), ob o8, ob o9, .val (fr y)], by simp [cI, cEq_ii, cNe_ii, cIs, cIsNot, isNon, fIx, fAdd, iAdd, iSub, iMod, tCat, tRep, L2.atI, L2.ixN, bAbs, bInt, bLen, bMin, bMax, bTuple, defn, defL, isiB, tyN, items_tup, items_lst, notOwn_ob, notOwn_val, notOwn_un, notOwn_pot, notOwn_succ, wipeE], rfl, by
            have hxl : x.length + 1 ≤ 16777216 := by rw [rowsT_mem f d x hx]; omega
            simp [Ce_corners_within_1, frD, items_tup, hxl]⟩⟩)
        rw [this, hos]
        unfold stepR
        rw [List.map_flatMap]
        simp [List.map_map, Function.comp_def]
      refine ⟨[.val (bdD bs), .own F, .val (.int (f : Nat)), .val (.lst ((rowsT f d).map frD)), .val (.int (q.2 : Nat)), .val (pD q.1), ob p6, ob o7, ob o8, ob o9, ob o10], [.val (bdD bs), .own F, .val (.int (f : Nat)), .val (.lst ((rowsT f (d ++ [q])).map frD)), .val (.int (q.2 : Nat)), .val (pD q.1), .val (.lst ((opts f q.2 q.1).map fr)), ob o7, ob o8, ob o9, ob o10], p, by simp [cI, cEq_ii, cNe_ii, cIs, cIsNot, isNon, fIx, fAdd, iAdd, iSub, iMod, tCat, tRep, L2.atI, L2.ixN, bAbs, bInt, bLen, bMin, bMax, bTuple, defn, defL, isiB, tyN, items_tup, items_lst, notOwn_ob, notOwn_val, notOwn_un, notOwn_pot, notOwn_succ], ?_, some (.int (q.2 : Nat)), some (pD q.1), some (.lst ((opts f q.2 q.1).map fr)), rfl, rfl⟩
      rw [rowsT_snoc]
      have hk : (q.2 : Int) = (f : Int) ↔ q.2 = f := by omega
      unfold Lb_corners_within_2
      by_cases k1 : q.2 = f
      · have ho : [0] = opts f q.2 q.1 := by unfold opts; rw [if_pos k1]
        have c := hc _ ho
        rw [← ho]
        simp only [List.map_cons, List.map_nil] at c ⊢
        simp [cI, cEq_ii, cNe_ii, cIs, cIsNot, isNon, fIx, fAdd, iAdd, iSub, iMod, tCat, tRep, L2.atI, L2.ixN, bAbs, bInt, bLen, bMin, bMax, bTuple, defn, defL, isiB, tyN, items_tup, items_lst, notOwn_ob, notOwn_val, notOwn_un, notOwn_pot, notOwn_succ, hk, k1, fr_zero, ev_aLc2, wipeE] at c ⊢
        simp [c, hrl]
      · by_cases k2 : q.1.1 = q.1.2
        · have ho : [q.1.1] = opts f q.2 q.1 := by unfold opts; rw [if_neg k1, if_pos k2]
          have c := hc _ ho
          rw [← ho]
          simp only [List.map_cons, List.map_nil, pD] at c ⊢
          simp [cI, cEq_ii, cNe_ii, cIs, cIsNot, isNon, fIx, fAdd, iAdd, iSub, iMod, tCat, tRep, L2.atI, L2.ixN, bAbs, bInt, bLen, bMin, bMax, bTuple, defn, defL, isiB, tyN, items_tup, items_lst, notOwn_ob, notOwn_val, notOwn_un, notOwn_pot, notOwn_succ, hk, k1, k2, fx0, fx1, cEq_fr, ev_aLc2, wipeE] at c ⊢
          simp [c, hrl]
        · have ho : [q.1.1, q.1.2] = opts f q.2 q.1 := by unfold opts; rw [if_neg k1, if_neg k2]
          have c := hc _ ho
          rw [← ho]
          simp only [List.map_cons, List.map_nil, pD] at c ⊢
          simp [cI, cEq_ii, cNe_ii, cIs, cIsNot, isNon, fIx, fAdd, iAdd, iSub, iMod, tCat, tRep, L2.atI, L2.ixN, bAbs, bInt, bLen, bMin, bMax, bTuple, defn, defL, isiB, tyN, items_tup, items_lst, notOwn_ob, notOwn_val, notOwn_un, notOwn_pot, notOwn_succ, hk, k1, k2, fx0, fx1, cEq_fr, ev_aLc2, wipeE] at c ⊢
          simp [c, hrl])
  subst h2 h3
  exact ⟨p4, p5, p6, h1⟩
end K47
set_option linter.all false
set_option maxRecDepth 100000
set_option exponentiation.threshold 10000
namespace K47
open DL
def cand (f : Nat) (row : List Rat) : List Rat := row.take f ++ (1 - row.sum) :: row.drop (f + 1)
def addC (bs : List (Rat × Rat)) (f : Nat) (found : List (List Rat)) (row : List Rat) : List (List Rat) :=
  if withinB bs (cand f row) = true ∧ (found.any fun y => decide (y = cand f row)) = false then found ++ [cand f row] else found
def forC (bs : List (Rat × Rat)) (found : List (List Rat)) (f : Nat) : List (List Rat) := (rowsT f bs.zipIdx).foldl (addC bs f) found
def cornersL (bs : List (Rat × Rat)) : List (List Rat) := (List.range bs.length).foldl (forC bs) []
theorem addC_len (bs : List (Rat × Rat)) (f : Nat) (found : List (List Rat)) (row : List Rat) : (addC bs f found row).length ≤ found.length + 1 := by
  unfold addC
  split
  · simp
  · omega
theorem addCs_len (bs : List (Rat × Rat)) (f : Nat) : ∀ (rows found : List (List Rat)), (rows.foldl (addC bs f) found).length ≤ found.length + rows.length
  | [], found => by simp
  | r :: rows, found => by
    rw [List.foldl_cons, List.length_cons]
    have h1 := addCs_len bs f rows (addC bs f found r)
    have h2 := addC_len bs f found r
    omega
theorem row_lt {M B : Nat} (f : Nat) (l : List ((Rat × Rat) × Nat)) (h : ∀ q ∈ l, Lt M B q.1.1 ∧ Lt M B q.1.2) : ∀ r ∈ rowsT f l, ∀ x ∈ r, Lt M B x := by
  have : ∀ (l : List ((Rat × Rat) × Nat)) (rows : List (List Rat)), (∀ q ∈ l, Lt M B q.1.1 ∧ Lt M B q.1.2) → (∀ r ∈ rows, ∀ x ∈ r, Lt M B x) → ∀ r ∈ l.foldl (stepR f) rows, ∀ x ∈ r, Lt M B x := by
    intro l
    induction l with
    | nil => intro rows _ h r hr; exact h r hr
    | cons q l ih =>
      intro rows hl h r hr
      rw [List.foldl_cons] at hr
      refine ih (stepR f rows q) (fun p hp => hl p (List.mem_cons_of_mem _ hp)) (fun r hr x hx => ?_) r hr
      unfold stepR at hr
      obtain ⟨r0, h0, h1⟩ := List.mem_flatMap.mp hr
      obtain ⟨o, ho, rfl⟩ := List.mem_map.mp h1
      rcases List.mem_append.mp hx with z | z
      · exact h r0 h0 x z
      · have e : x = o := by simpa using z
        subst e
        obtain ⟨q1, q2⟩ := hl q List.mem_cons_self
        unfold opts at ho
        split at ho
        · have : x = 0 := by simpa using ho
          rw [this]; exact lt_zero
        · split at ho
          · have : x = q.1.1 := by simpa using ho
            rw [this]; exact q1
          · rcases List.mem_cons.mp ho with z | z
            · rw [z]; exact q1
            · have : x = q.1.2 := by simpa using z
              rw [this]; exact q2
  exact this l [[]] h (fun r hr x hx => by
    have : r = [] := by simpa using hr
    subst this
    cases hx)
theorem zipIdx_lt {M B : Nat} {bs : List (Rat × Rat)} (h : LtB M B bs) : ∀ q ∈ bs.zipIdx, Lt M B q.1.1 ∧ Lt M B q.1.2 := fun q hq => by
  have : q.1 ∈ bs := (List.mem_zipIdx' hq).2 ▸ List.getElem_mem _
  exact h _ this
theorem cand_loop {M B : Nat} (h0 : 0 < M) (hM : M ≤ 1000000) (hB1 : 1 ≤ B) (hB : B ≤ 1000) (bs : List (Rat × Rat)) (hl : bs.length ≤ 6) (h : LtB M B bs) (f : Nat) (hf : f < bs.length) (found : List (List Rat)) (hfl : found.length ≤ 100000) (pot : Pot) (T : D) (rows : List (List Rat)) (hrows : ∀ r ∈ rows, r.length = bs.length ∧ ∀ x ∈ r, Lt M B x) (hrl : rows.length ≤ 100000) (o4 o5 o6 o7 o8 o9 o10 : Option D) :
    ∃ p7 p8 p9, forLoop (gN 7) Lb_corners_within_3 (rows.map frD) [.val (bdD bs), .own (found.map frD), .val (.int (f : Nat)), .val T, ob o4, ob o5, ob o6, ob o7, ob o8, ob o9, ob o10] pot
      = some (.nx [.val (bdD bs), .own ((rows.foldl (addC bs f) found).map frD), .val (.int (f : Nat)), .val T, ob o4, ob o5, ob o6, ob p7, ob p8, ob p9, ob o10] pot) := by
  have sm : ∀ {q : Rat} {D : Nat}, Lt M D q → D ≤ 1000000000 → Sm q := fun h hD => (h.sh h0 (by omega) hD).sm
  obtain ⟨env', pot', h1, ⟨p7, p8, p9, h2, h3⟩⟩ := for_inv (g := gN 7) (mb := Lb_corners_within_3) frD
    (fun done env p => ∃ p7 p8 p9, env = [.val (bdD bs), .own ((done.foldl (addC bs f) found).map frD), .val (.int (f : Nat)), .val T, ob o4, ob o5, ob o6, ob p7, ob p8, ob p9, ob o10] ∧ p = pot) rows
    (env := [.val (bdD bs), .own (found.map frD), .val (.int (f : Nat)), .val T, ob o4, ob o5, ob o6, ob o7, ob o8, ob o9, ob o10]) (pot := pot) ⟨o7, o8, o9, rfl, rfl⟩ (fun d row r env p hd hi => by
      obtain ⟨p7, p8, p9, rfl, rfl⟩ := hi
      obtain ⟨hrowl, hrow⟩ := hrows row (by rw [hd]; simp)
      have hfl2 : (d.foldl (addC bs f) found).length < 16777216 := by
        have h1 := addCs_len bs f d found
        have h2 := congrArg List.length hd
        rw [List.length_append] at h2
        omega
      have one : Lt M 1 1 := lt_one (by omega)
      have hsum := sum_lt hrow
      have hb6 : row.length * B ≤ 6000 := by
        have := Nat.mul_le_mul (show row.length ≤ 6 by omega) hB
        omega
      have own := one.sub hsum
      have hc : ∀ x ∈ cand f row, Sm x := fun x hx => by
        unfold cand at hx
        rcases List.mem_append.mp hx with z | z
        · exact sm (hrow x (List.mem_of_mem_take z)) (by omega)
        · rcases List.mem_cons.mp z with z | z
          · rw [z]; exact sm own (by omega)
          · exact sm (hrow x (List.mem_of_mem_drop z)) (by omega)
      have hcl : (cand f row).length ≤ 100 := by
        unfold cand
        rw [List.length_append, List.length_cons, List.length_take, List.length_drop]
        omega
      have s1 := sum_of_ok row (frD row) p rfl (part0 h0 (by omega) hrow (by omega))
      have s2 := lies_within_ok bs (cand f row) p hc (fun b hb => ⟨sm (h b hb).1 (by omega), sm (h b hb).2 (by omega)⟩) hcl
      have t1 : cutD (row.map fr) none (some (f : Int)) = (row.map fr).take f := cut_take (by rw [List.length_map]; omega)
      have t2 : cutD (row.map fr) (some ((f : Int) + 1)) none = (row.map fr).drop (f + 1) := by
        have : ((f : Int) + 1) = ((f + 1 : Nat) : Int) := by omega
        rw [this, cut_drop (by rw [List.length_map]; omega)]
      have t3 : (.tup ((row.map fr).take f ++ fr (1 - row.sum) :: (row.map fr).drop (f + 1)) : D) = frD (cand f row) := by
        unfold frD cand
        rw [List.map_append, List.map_cons, List.map_take, List.map_drop]
      have hcl' : min f row.length + (row.length - (f + 1) + 1) ≤ 16777216 := by omega
      have nin := cNotIn_frD (cand f row) (d.foldl (addC bs f) found)
      refine ⟨[.val (bdD bs), .own ((d.foldl (addC bs f) found).map frD), .val (.int (f : Nat)), .val T, ob o4, ob o5, ob o6, .val (frD row), ob p8, ob p9, ob o10], [.val (bdD bs), .own (((d ++ [row]).foldl (addC bs f) found).map frD), .val (.int (f : Nat)), .val T, ob o4, ob o5, ob o6, .val (frD row), .val (fr (1 - row.sum)), .val (frD (cand f row)), ob o10], p, by simp [cI, cEq_ii, cNe_ii, cIs, cIsNot, isNon, fIx, fAdd, iAdd, iSub, iMod, tCat, tRep, L2.atI, L2.ixN, bAbs, bInt, bLen, bMin, bMax, bTuple, defn, defL, isiB, tyN, items_tup, items_lst, notOwn_ob, notOwn_val, notOwn_un, notOwn_pot, notOwn_succ], ?_, some (frD row), some (fr (1 - row.sum)), some (frD (cand f row)), rfl, rfl⟩
      rw [List.foldl_append, List.foldl_cons, List.foldl_nil]
      generalize hF : d.foldl (addC bs f) found = F at *
      unfold Lb_corners_within_3
      simp [cI, cEq_ii, cNe_ii, cIs, cIsNot, isNon, fIx, fAdd, iAdd, iSub, iMod, tCat, tRep, L2.atI, L2.ixN, bAbs, bInt, bLen, bMin, bMax, bTuple, defn, defL, isiB, tyN, items_tup, items_lst, notOwn_ob, notOwn_val, notOwn_un, notOwn_pot, notOwn_succ, fr_one, s1, difference_ok, sm one (by omega), sm hsum (by omega)]
      have q1 : frD row = .tup (row.map fr) := rfl
      rw [q1]
      simp [items_tup, hcl', cI, cEq_ii, cNe_ii, cIs, cIsNot, isNon, fIx, fAdd, iAdd, iSub, iMod, tCat, tRep, L2.atI, L2.ixN, bAbs, bInt, bLen, bMin, bMax, bTuple, defn, defL, isiB, tyN, items_tup, items_lst, notOwn_ob, notOwn_val, notOwn_un, notOwn_pot, notOwn_succ, t1, t2, t3]
      simp [s2, nin, flat]
      unfold addC
      cases w : withinB bs (cand f row) with
      | false => simp
      | true =>
        cases a : F.any (fun y => decide (y = cand f row)) with
        | true => simp [a]
        | false => simp [a, fAppend, hfl2])
  subst h2 h3
  exact ⟨p7, p8, p9, h1⟩
end K47
set_option linter.all false
set_option maxRecDepth 100000
set_option exponentiation.threshold 10000
namespace K47
open DL
theorem forC_len (bs : List (Rat × Rat)) (hl : bs.length ≤ 6) (found : List (List Rat)) (f : Nat) : (forC bs found f).length ≤ found.length + 64 := by
  unfold forC
  have h1 := addCs_len bs f (rowsT f bs.zipIdx) found
  have h2 := rowsT_len f bs.zipIdx
  rw [List.length_zipIdx] at h2
  have h3 : 2 ^ bs.length ≤ 2 ^ 6 := Nat.pow_le_pow_right (by omega) hl
  have h4 : (2 : Nat) ^ 6 = 64 := by decide
  omega
theorem forCs_len (bs : List (Rat × Rat)) (hl : bs.length ≤ 6) : ∀ (fs : List Nat) (found : List (List Rat)), (fs.foldl (forC bs) found).length ≤ found.length + 64 * fs.length
  | [], found => by simp
  | f :: fs, found => by
    rw [List.foldl_cons, List.length_cons]
    have h1 := forCs_len bs hl fs (forC bs found f)
    have h2 := forC_len bs hl found f
    omega
theorem corners_ok {M B : Nat} (h0 : 0 < M) (hM : M ≤ 1000000) (hB1 : 1 ≤ B) (hB : B ≤ 1000) (bs : List (Rat × Rat)) (hl : bs.length ≤ 6) (h : LtB M B bs) (pot : Pot) (hfp : flatP pot = true) :
    G_corners_within [.val (bdD bs)] pot = some (.lst ((cornersL bs).map frD), pot) := by
  obtain ⟨env', pot', h1, ⟨p2, p3, p4, p5, p6, p7, p8, p9, p10, h2, h3⟩⟩ := for_inv (g := gN 2) (mb := Lb_corners_within_4) (fun i : Nat => .int (i : Int))
    (fun done env p => ∃ p2 p3 p4 p5 p6 p7 p8 p9 p10, env = [.val (bdD bs), .own ((done.foldl (forC bs) []).map frD), ob p2, ob p3, ob p4, ob p5, ob p6, ob p7, ob p8, ob p9, ob p10] ∧ p = pot) (List.range bs.length)
    (env := [.val (bdD bs), .own [], .un, .un, .un, .un, .un, .un, .un, .un, .un]) (pot := pot) ⟨none, none, none, none, none, none, none, none, none, rfl, rfl⟩ (fun d f r env p hd hi => by
      obtain ⟨p2, p3, p4, p5, p6, p7, p8, p9, p10, rfl, rfl⟩ := hi
      have hf : f < bs.length := List.mem_range.mp (by rw [hd]; simp)
      have hdl : d.length ≤ 6 := by
        have := congrArg List.length hd
        rw [List.length_range, List.length_append] at this
        omega
      have hfl := forCs_len bs hl d []
      rw [List.length_nil] at hfl
      obtain ⟨q4, q5, q6, c1⟩ := rows_loop bs f ((d.foldl (forC bs) []).map frD) p bs.zipIdx (by rw [List.length_zipIdx]; omega) p4 p5 p6 p7 p8 p9 p10
      have hrows : ∀ r ∈ rowsT f bs.zipIdx, r.length = bs.length ∧ ∀ x ∈ r, Lt M B x := fun r hr => ⟨by rw [rowsT_mem f _ r hr, List.length_zipIdx], row_lt f _ (zipIdx_lt h) r hr⟩
      have hrl : (rowsT f bs.zipIdx).length ≤ 100000 := by
        have h2 := rowsT_len f bs.zipIdx
        rw [List.length_zipIdx] at h2
        have h3 : 2 ^ bs.length ≤ 2 ^ 6 := Nat.pow_le_pow_right (by omega) hl
        have h4 : (2 : Nat) ^ 6 = 64 := by decide
        omega
      obtain ⟨r7, r8, r9, c2⟩ := cand_loop h0 hM hB1 hB bs hl h f hf (d.foldl (forC bs) []) (by omega) p (.lst ((rowsT f bs.zipIdx).map frD)) (rowsT f bs.zipIdx) hrows hrl q4 q5 q6 p7 p8 p9 p10
      refine ⟨[.val (bdD bs), .own ((d.foldl (forC bs) []).map frD), .val (.int (f : Nat)), ob p3, ob p4, ob p5, ob p6, ob p7, ob p8, ob p9, ob p10], [.val (bdD bs), .own (((d ++ [f]).foldl (forC bs) []).map frD), .val (.int (f : Nat)), .val (.lst ((rowsT f bs.zipIdx).map frD)), ob q4, ob q5, ob q6, ob r7, ob r8, ob r9, ob p10], p, by simp [cI, cEq_ii, cNe_ii, cIs, cIsNot, isNon, fIx, fAdd, iAdd, iSub, iMod, tCat, tRep, L2.atI, L2.ixN, bAbs, bInt, bLen, bMin, bMax, bTuple, defn, defL, isiB, tyN, items_tup, items_lst, notOwn_ob, notOwn_val, notOwn_un, notOwn_pot, notOwn_succ], ?_, some (.int (f : Nat)), some (.lst ((rowsT f bs.zipIdx).map frD)), q4, q5, q6, r7, r8, r9, p10, rfl, rfl⟩
      rw [List.foldl_append, List.foldl_cons, List.foldl_nil]
      have q1 : items (bdD bs) = some (bs.map pD) := rfl
      unfold Lb_corners_within_4
      simp [cI, cEq_ii, cNe_ii, cIs, cIsNot, isNon, fIx, fAdd, iAdd, iSub, iMod, tCat, tRep, L2.atI, L2.ixN, bAbs, bInt, bLen, bMin, bMax, bTuple, defn, defL, isiB, tyN, items_tup, items_lst, notOwn_ob, notOwn_val, notOwn_un, notOwn_pot, notOwn_succ, q1, enumD_map, c1, c2, -List.map_map]
      rfl)
  subst h2 h3
  have hl' : bs.length ≤ 16777216 := by omega
  have q2 : bLen [bdD bs] = some (.int bs.length) := by unfold bdD bLen; simp
  have q3 : ((bs.length : Int).toNat) = bs.length := by omega
  unfold G_corners_within m_corners_within
  simp only [defn, List.length_cons, List.length_nil]
  simp [ev_iRng1, notOwn_ob, notOwn_val, notOwn_un, notOwn_succ, hfp, q2, hl', q3, rng_map, -List.map_map]
  have i1 : (bs.length : Int) ≤ 16777216 ∧ (-16777216 : Int) ≤ (bs.length : Int) := by omega
  simp [i1, h1, cornersL, -List.map_map]
/-! ### the best -/
def bstep (ns : List Rat) (b : Option (Rat × List Rat)) (x : List Rat) : Option (Rat × List Rat) := match b with
  | none => some (dot x ns, x)
  | some (v, y) => if v < dot x ns then some (dot x ns, x) else some (v, y)
def bestL (ns : List Rat) (ls : List (List Rat)) : Option (Rat × List Rat) := ls.foldl (bstep ns) none
def bD : Option (Rat × List Rat) → D
  | none => .non
  | some (v, x) => .tup [fr v, frD x]
theorem dot_lt {M M' B B' : Nat} {xs ns : List Rat} (hx : ∀ x ∈ xs, Lt M B x) (hn : ∀ x ∈ ns, Lt M' B' x) (hl : xs.length ≤ 10) : Lt (M * M') (10 * (B * B')) (dot xs ns) := by
  unfold dot
  have := sum_lt (M := M * M') (B := B * B') (qs := (xs.zip ns).map fun p => p.1 * p.2) (fun q hq => by
    obtain ⟨p, hp, rfl⟩ := List.mem_map.mp hq
    exact (hx _ (List.of_mem_zip hp).1).mul (hn _ (List.of_mem_zip hp).2))
  refine this.mono ?_
  rw [List.length_map, List.length_zip]
  exact Nat.mul_le_mul_right _ (by omega)
theorem greatest_by_ok {M M' B B' : Nat} (ls : List (List Rat)) (ns : List Rat) (pot : Pot) (hx : ∀ x ∈ ls, x.length ≤ 6 ∧ ∀ y ∈ x, Lt M B y) (hn : ∀ x ∈ ns, Lt M' B' x)
    (m0 : 0 < M) (m0' : 0 < M') (hM : M * M' ≤ 1000000000) (hB : 100 * (B * B') ≤ 1000000000) (b0 : 0 < B) (b0' : 0 < B') : G_greatest_by [.val (.lst (ls.map frD)), .val (frD ns)] pot = some (bD (bestL ns ls), pot) := by
  have hdot : ∀ x ∈ ls, Sm (dot x ns) := fun x h => ((dot_lt (hx x h).2 hn (by have := (hx x h).1; omega)).sh (Nat.mul_pos m0 m0') hM (by omega)).sm
  obtain ⟨env', pot', h1, ⟨o3, o4, h2, h3, _⟩⟩ := for_inv (g := gN 3) (mb := Lb_greatest_by_1) frD
    (fun done env p => ∃ o3 o4, env = [.val (.lst (ls.map frD)), .val (frD ns), .val (bD (bestL ns done)), ob o3, ob o4] ∧ p = pot ∧ ∀ v y, bestL ns done = some (v, y) → Sm v) ls
    (env := [.val (.lst (ls.map frD)), .val (frD ns), .val .non, .un, .un]) (pot := pot) ⟨none, none, rfl, rfl, fun v y h => by cases h⟩ (fun d x r env p hd hi => by
      obtain ⟨o3, o4, rfl, rfl, hv⟩ := hi
      have hxm : x ∈ ls := by rw [hd]; simp
      have c := dot_of_ok x ns (frD x) (frD ns) p rfl rfl (hx x hxm).2 hn m0 m0' hM hB b0 b0' (by have := (hx x hxm).1; omega)
      have sx := hdot x hxm
      have eb : bestL ns (d ++ [x]) = bstep ns (bestL ns d) x := by unfold bestL; rw [List.foldl_append]; rfl
      refine ⟨[.val (.lst (ls.map frD)), .val (frD ns), .val (bD (bestL ns d)), .val (frD x), ob o4], [.val (.lst (ls.map frD)), .val (frD ns), .val (bD (bestL ns (d ++ [x]))), .val (frD x), .val (fr (dot x ns))], p, by simp [cI, cEq_ii, cNe_ii, cIs, cIsNot, isNon, fIx, fAdd, iAdd, iSub, iMod, tCat, tRep, L2.atI, L2.ixN, bAbs, bInt, bLen, bMin, bMax, bTuple, defn, defL, isiB, tyN, items_tup, items_lst, notOwn_ob, notOwn_val, notOwn_un, notOwn_pot, notOwn_succ], ?_, some (frD x), some (fr (dot x ns)), rfl, rfl, ?_⟩
      · rw [eb]
        unfold Lb_greatest_by_1
        cases hb : bestL ns d with
        | none => simp [cI, cEq_ii, cNe_ii, cIs, cIsNot, isNon, fIx, fAdd, iAdd, iSub, iMod, tCat, tRep, L2.atI, L2.ixN, bAbs, bInt, bLen, bMin, bMax, bTuple, defn, defL, isiB, tyN, items_tup, items_lst, notOwn_ob, notOwn_val, notOwn_un, notOwn_pot, notOwn_succ, c, bD, bstep]
        | some vy =>
          obtain ⟨v, y⟩ := vy
          have sv := hv v y hb
          by_cases k : v < dot x ns <;> simp [cI, cEq_ii, cNe_ii, cIs, cIsNot, isNon, fIx, fAdd, iAdd, iSub, iMod, tCat, tRep, L2.atI, L2.ixN, bAbs, bInt, bLen, bMin, bMax, bTuple, defn, defL, isiB, tyN, items_tup, items_lst, notOwn_ob, notOwn_val, notOwn_un, notOwn_pot, notOwn_succ, c, bD, bstep, fx0, is_less_ok, sv, sx, k]
      · intro v y hvy
        rw [eb] at hvy
        unfold bstep at hvy
        cases hb : bestL ns d with
        | none => rw [hb] at hvy; cases hvy; exact sx
        | some vy =>
          obtain ⟨v', y'⟩ := vy
          rw [hb] at hvy
          dsimp only at hvy
          split at hvy
          · cases hvy; exact sx
          · cases hvy; exact hv v y hb)
  subst h2 h3
  unfold G_greatest_by m_greatest_by
  simp only [defn, List.length_cons, List.length_nil]
  simp [cI, cEq_ii, cNe_ii, cIs, cIsNot, isNon, fIx, fAdd, iAdd, iSub, iMod, tCat, tRep, L2.atI, L2.ixN, bAbs, bInt, bLen, bMin, bMax, bTuple, defn, defL, isiB, tyN, items_tup, items_lst, notOwn_ob, notOwn_val, notOwn_un, notOwn_pot, notOwn_succ, h1, -List.map_map]
end K47
set_option linter.all false
set_option maxRecDepth 100000
set_option exponentiation.threshold 10000
namespace K47
open DL
theorem eqD_pD (p q : Rat × Rat) : eqD (pD p) (pD q) = decide (p = q) := by
  unfold pD
  simp only [eqD, eqDL, eqD_fr, Bool.and_true]
  rw [Bool.eq_iff_iff]
  simp only [Bool.and_eq_true, decide_eq_true_eq]
  constructor
  · rintro ⟨h1, h2⟩; exact Prod.ext h1 h2
  · rintro rfl; exact ⟨rfl, rfl⟩
theorem eqDL_pD : ∀ (xs ys : List (Rat × Rat)), eqDL (xs.map pD) (ys.map pD) = decide (xs = ys)
  | [], [] => rfl
  | [], _ :: _ => by simp [eqDL]
  | _ :: _, [] => by simp [eqDL]
  | x :: xs, y :: ys => by
    simp only [List.map_cons, eqDL, eqD_pD, eqDL_pD xs ys]
    rw [Bool.eq_iff_iff]
    simp
theorem dep_pD (p : Rat × Rat) : dep (pD p) = 2 := by unfold pD; simp [dep, depL, dep_fr]
theorem depL_pD (xs : List (Rat × Rat)) : depL (xs.map pD) ≤ 2 := by
  induction xs with
  | nil => simp [depL]
  | cons x xs ih => simp only [List.map_cons, depL, dep_pD]; omega
theorem dep_bdD (xs : List (Rat × Rat)) : dep (bdD xs) ≤ 3 := by
  unfold bdD
  simp only [dep]
  have := depL_pD xs
  omega
theorem cEq_bd (a b : List (Rat × Rat)) : cEq (bdD a) (bdD b) = some (.bl (decide (a = b))) := by
  unfold cEq
  rw [if_pos (by have := dep_bdD a; omega)]
  unfold bdD
  simp only [eqD]
  rw [eqDL_pD]
theorem cNe_bd (a b : List (Rat × Rat)) : cNe (bdD a) (bdD b) = some (.bl (!decide (a = b))) := by
  unfold cNe
  rw [if_pos (by have := dep_bdD a; omega)]
  unfold bdD
  simp only [eqD]
  rw [eqDL_pD]
theorem cEq_frD (a b : List Rat) : cEq (frD a) (frD b) = some (.bl (decide (a = b))) := by
  unfold cEq
  rw [if_pos (by have := dep_frD a; omega), eqD_frD]
theorem bLen_bd (bs : List (Rat × Rat)) : bLen [bdD bs] = some (.int bs.length) := by unfold bdD bLen; simp
theorem bLen_frD (xs : List Rat) : bLen [frD xs] = some (.int xs.length) := by unfold frD bLen; simp
theorem tyN_bd (bs : List (Rat × Rat)) : tyN (bdD bs) = "tuple" := rfl
theorem tyN_frD (bs : List Rat) : tyN (frD bs) = "tuple" := rfl
/-- bounds that are as narrow as can be, and their corners -/
structure Bd (M : Nat) (bs : List (Rat × Rat)) : Prop where
  m0 : 0 < M
  mM : M ≤ 1000
  lt : LtB M 1 bs
  l2 : 2 ≤ bs.length
  l6 : bs.length ≤ 6
  nr : nar bs = some bs
  cn : ∀ x ∈ cornersL bs, x.length = bs.length ∧ ∀ y ∈ x, Lt M 1 y
section
variable {M M' B' : Nat} {bs : List (Rat × Rat)} {ns : List Rat} {pot : Pot}
theorem Bd.narD (h : Bd M bs) : narD bs = bdD bs := by unfold K47.narD; rw [h.nr]
theorem is_bounds_of_ok (h : Bd M bs) (hf : flatP pot = true) : G_is_bounds_of [.val (bdD bs), .val (.int bs.length)] pot = some (.bl true, pot) := by
  have c1 := are_pairs_ok bs bs.length pot (by have := h.l6; omega) rfl
  have c2 := narrowed_ok h.m0 (by have := h.mM; omega) (by omega) (by omega) bs (by have := h.l6; omega) h.lt (bdD bs) pot hf rfl
  rw [h.narD] at c2
  unfold G_is_bounds_of m_is_bounds_of
  simp [cI, cEq_ii, cNe_ii, cIs, cIsNot, isNon, fIx, fAdd, iAdd, iSub, iMod, tCat, tRep, L2.atI, L2.ixN, bAbs, bInt, bLen, bMin, bMax, bTuple, defn, defL, isiB, tyN, items_tup, items_lst, notOwn_ob, notOwn_val, notOwn_un, notOwn_pot, notOwn_succ, c1, c2, cEq_bd]
theorem is_any_bounds_ok (h : Bd M bs) (hf : flatP pot = true) : G_is_any_bounds [.val (bdD bs)] pot = some (.bl true, pot) := by
  have c1 := is_bounds_of_ok h hf
  obtain ⟨i1, i2⟩ := len_int bs h.l2 h.l6
  unfold G_is_any_bounds m_is_any_bounds
  simp [defn, cI, isiB, notOwn_val, bLen_bd, tyN_bd, c1, i1, i2]
theorem checked_bounds_ok (h : Bd M bs) (hf : flatP pot = true) : G_checked_bounds [.val (bdD bs)] pot = some (.non, pot) := by
  have c1 := is_any_bounds_ok h hf
  unfold G_checked_bounds m_checked_bounds
  simp [defn, c1]
theorem is_bounds_ok (h : Bd M bs) (hf : flatP pot = true) : G_is_bounds [.val (bdD bs), .val (.int bs.length)] pot = some (.bl true, pot) := by
  have c1 := is_bounds_of_ok h hf
  obtain ⟨i1, i2⟩ := len_int bs h.l2 h.l6
  unfold G_is_bounds m_is_bounds
  simp [defn, c1, checked_signs_ok, i1, i2]
theorem tight_bounds_ok {M B : Nat} {cs : List (Rat × Rat)} (h0 : 0 < M) (hM : M ≤ 1000000) (hB1 : 1 ≤ B) (hB : B ≤ 1000) (h2 : 2 ≤ cs.length) (h6 : cs.length ≤ 6) (h : LtB M B cs) (hf : flatP pot = true) : G_tight_bounds [.val (bdD cs)] pot = some (narD cs, pot) := by
  have c1 := are_pairs_ok cs cs.length pot (by omega) rfl
  have c2 := narrowed_ok h0 hM hB1 hB cs (by omega) h (bdD cs) pot hf rfl
  obtain ⟨i1, i2⟩ := len_int cs h2 h6
  unfold G_tight_bounds m_tight_bounds
  simp [defn, cI, isiB, notOwn_val, bLen_bd, tyN_bd, c1, c2, i1, i2]
theorem greatest_told_ok (h : Bd M bs) (hf : flatP pot = true) (m0' : 0 < M') (hM' : M' ≤ 1000000) (hn : ∀ x ∈ ns, Lt M' B' x) (b0 : 0 < B') (hB : B' ≤ 1000000) :
    G_greatest_told [.val (bdD bs), .val (frD ns)] pot = some (bD (bestL ns (cornersL bs)), pot) := by
  have mm := h.mM
  have c1 := corners_ok h.m0 (by omega) (by omega) (by omega : 1 ≤ 1000) bs h.l6 h.lt pot hf
  have c2 := greatest_by_ok (cornersL bs) ns pot (fun x hx => ⟨by have := (h.cn x hx).1; have := h.l6; omega, (h.cn x hx).2⟩) hn h.m0 m0' (by have := Nat.mul_le_mul mm hM'; omega) (by omega) (by omega) b0
  unfold G_greatest_told m_greatest_told
  simp [defn, c1, c2]
theorem greatest_sum_ok (h : Bd M bs) (hf : flatP pot = true) (m0' : 0 < M') (hM' : M' ≤ 1000000) (hn : ∀ x ∈ ns, Lt M' B' x) (hl : ns.length = bs.length) (b0 : 0 < B') (hB : B' ≤ 1000000) :
    G_greatest_sum [.val (bdD bs), .val (frD ns)] pot = some (bD (bestL ns (cornersL bs)), pot) := by
  have c1 := is_any_bounds_ok h hf
  have c2 := are_fractions_ok ns bs.length pot (by have := h.l6; omega) (by omega)
  have c3 := greatest_told_ok h hf m0' hM' hn b0 hB
  unfold G_greatest_sum m_greatest_sum
  simp [defn, bLen_bd, c1, c2, c3]
theorem is_bet_of_ok (hn : ∀ x ∈ ns, 0 ≤ x) (hl : ns.length ≤ 6) : G_is_bet_of [.val (frD ns), .val (.int ns.length)] pot = some (.bl true, pot) := by
  have c0 := are_fractions_ok ns ns.length pot (by omega) rfl
  have c2 : lcLoop (gN 2) tYes1 Ce_is_bet_of_1 [.val (frD ns), .val (.int ns.length), .un] (ns.map fr) pot = some (ns.map (fun _ => .bl true), pot) :=
    lc_map _ _ _ fun p hp => ⟨[.val (frD ns), .val (.int ns.length), .val (fr p)], rfl, rfl, by
      have := Rat.num_nonneg.mpr (hn p hp)
      simp [Ce_is_bet_of_1, fr, fx0, cI, this]⟩
  have hl' : ns.length ≤ 16777216 := by omega
  have q1 : items (frD ns) = some (ns.map fr) := rfl
  unfold G_is_bet_of m_is_bet_of
  simp [cI, cEq_ii, cNe_ii, cIs, cIsNot, isNon, fIx, fAdd, iAdd, iSub, iMod, tCat, tRep, L2.atI, L2.ixN, bAbs, bInt, bLen, bMin, bMax, bTuple, defn, defL, isiB, tyN, items_tup, items_lst, notOwn_ob, notOwn_val, notOwn_un, notOwn_pot, notOwn_succ, wipeE, c0, c2, hl', q1, bAll_true, -List.map_const_fun]
theorem is_fair_ok (h : Bd M bs) (hf : flatP pot = true) (m0' : 0 < M') (hM' : M' ≤ 1000000) (hn : ∀ x ∈ ns, Lt M' B' x) (hl : ns.length = bs.length) (b0 : 0 < B') (hB : B' ≤ 1000000) (hp : ∀ x ∈ ns, 0 ≤ x) {v : Rat} {x : List Rat} (hb : bestL ns (cornersL bs) = some (v, x)) (sv : Sm v) :
    G_is_fair [.val (bdD bs), .val (frD ns)] pot = some (.bl (!decide (1 < v)), pot) := by
  have c1 := checked_bounds_ok h hf
  have c2 := is_bet_of_ok (pot := pot) hp (by have := h.l6; omega)
  rw [hl] at c2
  have c3 := greatest_told_ok h hf m0' hM' hn b0 hB
  rw [hb] at c3
  have one : Sm 1 := ((lt_one (M := 1) (B := 1) (by omega)).sh (by omega) (by omega) (by omega)).sm
  unfold G_is_fair m_is_fair G_checked_bet m_checked_bet G_is_fair_for m_is_fair_for
  simp [defn, c1, c2, c3, bLen_bd, bD, fx0, fr_one, is_less_ok, one, sv]
theorem mixed_law_ok {xs ys : List Rat} {s : Rat} (m0 : 0 < M) (hM : M ≤ 1000) (hx : ∀ x ∈ xs, Lt M 1 x ∧ 0 ≤ x) (hy : ∀ x ∈ ys, Lt M 1 x ∧ 0 ≤ x) (l2 : 2 ≤ xs.length) (l6 : xs.length ≤ 6) (hl : ys.length = xs.length) (sx : xs.sum = 1) (sy : ys.sum = 1) (hs : Lt 4 1 s) (s0 : 0 ≤ s) (s1 : s ≤ 1) :
    G_mixed_law [.val (frD xs), .val (frD ys), .val (fr s)] pot = some (frD ((xs.zip ys).map fun p => (1 - s) * p.1 + s * p.2), pot) := by
  have sm : ∀ {q : Rat} {M D : Nat}, Lt M D q → 0 < M → M ≤ 1000000000 → D ≤ 1000000000 → Sm q := fun h hM0 hM hD => (h.sh hM0 hM hD).sm
  have px : Part 0 xs := part0 m0 (by omega) (fun q h => (hx q h).1) (by omega)
  have py : Part 0 ys := part0 m0 (by omega) (fun q h => (hy q h).1) (by omega)
  have c1 := is_any_law_ok xs pot l2 l6 (fun x h => (hx x h).2) px sx
  have c2 := is_law_of_ok ys xs.length pot (by omega) (by omega) (fun x h => (hy x h).2) py sy
  have c3 := is_fraction_ok s pot
  have one : Lt 4 1 1 := lt_one (by omega)
  have r1 := one.sub hs
  have sn : ¬ s.num < 0 := by have := Rat.num_nonneg.mpr s0; omega
  have s1' : ¬ (1 : Rat) < s := Rat.not_lt.mpr s1
  have c4 : lcLoop (gT (gsCons (gN 4) (gsCons (gN 5) gsNil))) tYes1 Ce_mixed_law_1 [.val (frD xs), .val (frD ys), .val (fr s), .val (fr (1 - s)), .un, .un] ((xs.zip ys).map pD) pot = some (((xs.zip ys).map fun p => (1 - s) * p.1 + s * p.2).map fr, pot) := by
    rw [List.map_map]
    refine lc_map _ _ _ fun p hp => ⟨[.val (frD xs), .val (frD ys), .val (fr s), .val (fr (1 - s)), .val (fr p.1), .val (fr p.2)], rfl, rfl, ?_⟩
    have h1 := (hx _ (List.of_mem_zip hp).1).1
    have h2 := (hy _ (List.of_mem_zip hp).2).1
    have q1 := r1.mul h1
    have q2 := hs.mul h2
    have e : 4 * M ≤ 1000000000 := by omega
    simp [Ce_mixed_law_1, product_ok, added_ok, sm r1 (by omega) (by omega) (by omega), sm hs (by omega) (by omega) (by omega), sm h1 m0 (by omega) (by omega), sm h2 m0 (by omega) (by omega), sm q1 (by omega) e (by omega), sm q2 (by omega) e (by omega)]
  have hl' : min xs.length ys.length ≤ 16777216 := by omega
  have f0 : fIx (fr s) (.int 0) = some (.int s.num) := rfl
  have q1 : items (frD xs) = some (xs.map fr) := rfl
  have q2 : items (frD ys) = some (ys.map fr) := rfl
  unfold G_mixed_law m_mixed_law
  simp [defn, cI, isiB, bTuple, bInt, cIs, cIsNot, isNon, cEq_ii, cNe_ii, notOwn_ob, notOwn_val, notOwn_un, notOwn_pot, notOwn_succ, items_tup, items_lst, c1, c2, c3, bLen_frD, f0, sn, fr_one, is_less_ok, difference_ok, sm one (by omega) (by omega) (by omega), sm hs (by omega) (by omega) (by omega), s1', ev_iZip, q1, q2, zip_fr, wipeE, hl', c4, -List.map_map]
  rfl
end
end K47
set_option linter.all false
set_option maxRecDepth 100000
set_option exponentiation.threshold 10000
namespace K47
open DL
/-- the pot: three ints in their ranges, at most N draws counted -/
def PotB (N : Nat) (pot : Pot) : Prop := ∃ a b c : Int, pot = some [.int a, .int b, .int c] ∧ 0 ≤ a ∧ 0 ≤ b ∧ b < 2305843009213693952 ∧ 0 ≤ c ∧ c ≤ N
theorem PotB.flat {N : Nat} {pot : Pot} (h : PotB N pot) : flatP pot = true := by
  obtain ⟨a, b, c, rfl, _⟩ := h
  rfl
theorem PotB.mono {N N' : Nat} {pot : Pot} (h : PotB N pot) (hn : N ≤ N') : PotB N' pot := by
  obtain ⟨a, b, c, h1, h2, h3, h4, h5, h6⟩ := h
  exact ⟨a, b, c, h1, h2, h3, h4, h5, by omega⟩
theorem sz64 {i : Int} (h : i.natAbs < 340282366920938463463374607431768211456) : Sz i := by
  have e : (340282366920938463463374607431768211456 : Nat) = 2 ^ 128 := by decide
  rw [e] at h
  exact Nat.lt_of_lt_of_le h (Nat.pow_le_pow_right (by omega) (by omega))
theorem prime_ok (c : Int) (h : 0 ≤ c) : ∃ p : Int, fIx (.lst [.int 2147483647, .int 2147483629, .int 2147483587, .int 2147483579, .int 2147483563]) (.int (c % 5)) = some (.int p) ∧ 0 < p ∧ p ≤ 2147483647 := by
  have h5 : c % 5 = 0 ∨ c % 5 = 1 ∨ c % 5 = 2 ∨ c % 5 = 3 ∨ c % 5 = 4 := by omega
  rcases h5 with z | z | z | z | z <;> (rw [z]; exact ⟨_, rfl, by decide, by decide⟩)
theorem law_take_ok {N : Nat} (hN : N ≤ 100000) {pot : Pot} (h : PotB N pot) (u : Int) (hu : 0 < u) (hu2 : u ≤ 1000) : ∃ (z : Int) (pot' : Pot), G__law_take [.pot, .val (.int u)] pot = some (.int z, pot') ∧ 0 ≤ z ∧ z < u ∧ PotB (N + 1) pot' := by
  obtain ⟨a, b, c, rfl, h1, h3, h4, h5, h6⟩ := h
  have d0 : iDiv (.int a) (.int u) = some (.int (a / u)) := iDiv_ev hu (by
    have : u.natAbs < 2 ^ 10 := by omega
    exact Nat.lt_of_lt_of_le this (Nat.pow_le_pow_right (by omega) (by omega)))
  by_cases ha : 0 < a
  · refine ⟨a % u, some [.int (a / u), .int b, .int c], ?_, Int.emod_nonneg a (by omega), Int.emod_lt_of_pos a hu, a / u, b, c, rfl, Int.ediv_nonneg h1 (by omega), h3, h4, h5, by omega⟩
    unfold G__law_take m__law_take
    simp [cI, cEq_ii, cNe_ii, cIs, cIsNot, isNon, fIx, fAdd, iAdd, iSub, iMod, tCat, tRep, L2.atI, L2.ixN, bAbs, bInt, bLen, bMin, bMax, bTuple, defn, defL, isiB, tyN, items_tup, items_lst, notOwn_ob, notOwn_val, notOwn_un, notOwn_pot, notOwn_succ, ha, hu, d0]
  · have a0 : a = 0 := by omega
    subst a0
    obtain ⟨p, hp1, hp2, hp3⟩ := prime_ok (c + 1) (by omega)
    have k1 : (c + 1).natAbs ≤ 100001 := by omega
    have k2 : ((c + 1) * (c + 1)).natAbs ≤ 100001 * 100001 := by rw [Int.natAbs_mul]; exact Nat.mul_le_mul k1 k1
    have e1 : fMul (.int 159820) (.int (c + 1)) = some (.int (159820 * (c + 1))) := fMul_ev (sz64 (by decide)) (sz64 (by omega))
    have e2 : fMul (.int (159820 * (c + 1))) (.int (c + 1)) = some (.int (159820 * (c + 1) * (c + 1))) := fMul_ev (sz64 (by omega)) (sz64 (by omega))
    have b0 : (159820 * (c + 1) * (c + 1)) = 159820 * ((c + 1) * (c + 1)) := Int.mul_assoc ..
    have n0 : 0 ≤ (c + 1) * (c + 1) := Int.mul_nonneg (by omega) (by omega)
    have e3 : iPow (.int (b + 159820 * (c + 1) * (c + 1) + 12660)) (.int 3) = some (.int ((b + 159820 * (c + 1) * (c + 1) + 12660) ^ 3)) := by
      simp only [iPow]
      rw [if_pos (.inl ⟨by decide, by decide, by rw [b0]; omega⟩)]
      rfl
    generalize hb1 : (b + 159820 * (c + 1) * (c + 1) + 12660) ^ 3 = B1 at e3
    have m1 := Int.emod_nonneg B1 (show p ≠ 0 by omega)
    have m2 := Int.emod_lt_of_pos B1 hp2
    have e4 : fMul (.int 7968) (.int (c + 1)) = some (.int (7968 * (c + 1))) := fMul_ev (sz64 (by decide)) (sz64 (by omega))
    generalize hb2 : B1 % p = B2 at *
    have e5 : fMul (.int B2) (.int (B2 % 42852 + 7968 * (c + 1))) = some (.int (B2 * (B2 % 42852 + 7968 * (c + 1)))) := fMul_ev (sz64 (by omega)) (sz64 (by omega))
    generalize hb3 : B2 * (B2 % 42852 + 7968 * (c + 1)) = B3 at *
    have e6 : iDiv (.int (B3 % 2305843009213693907)) (.int 13464) = some (.int (B3 % 2305843009213693907 / 13464)) := iDiv_ev (by decide) (by
      have : (13464 : Int).natAbs < 2 ^ 20 := by decide
      exact Nat.lt_of_lt_of_le this (Nat.pow_le_pow_right (by omega) (by omega)))
    refine ⟨B3 % 2305843009213693907 / 13464 % u, some [.int 0, .int b, .int (c + 1)], ?_, Int.emod_nonneg _ (by omega), Int.emod_lt_of_pos _ hu, 0, b, c + 1, rfl, by omega, h3, h4, by omega, by omega⟩
    unfold G__law_take m__law_take
    simp only [defn, List.length_cons, List.length_nil]
    simp [cI, bInt, iMod, fAdd, iAdd, L2.atI, L2.ixN, notOwn_val, notOwn_un, notOwn_pot, notOwn_succ, hp1, hp2, e1, e2, e3, e4, hb2, e5, e6, hu]
end K47
set_option linter.all false
set_option maxRecDepth 100000
set_option exponentiation.threshold 10000
namespace K47
open DL
theorem unmap {α β : Type} (enc : β → D) (P : β → Prop) : ∀ (xs : List α) (ds : List D), ds.length = xs.length → (∀ p ∈ xs.zip ds, ∃ y, p.2 = enc y ∧ P y) → ∃ ys : List β, ds = ys.map enc ∧ ys.length = xs.length ∧ ∀ y ∈ ys, P y
  | [], ds, hl, _ => ⟨[], by cases ds with | nil => rfl | cons _ _ => simp at hl, rfl, fun _ h => nomatch h⟩
  | x :: xs, [], hl, _ => by simp at hl
  | x :: xs, d :: ds, hl, h => by
    obtain ⟨y, e, hy⟩ := h (x, d) (by simp)
    obtain ⟨ys, e2, l2, h2⟩ := unmap enc P xs ds (by simpa using hl) (fun p hp => h p (by simp [hp]))
    refine ⟨y :: ys, by rw [e2, List.map_cons]; exact congrArg (· :: _) e, by simp [l2], fun z hz => ?_⟩
    rcases List.mem_cons.mp hz with w | w
    · rw [w]; exact hy
    · exact h2 z w
theorem intsOf_map (ws : List Int) : intsOf (ws.map D.int) = some ws := by
  induction ws with
  | nil => rfl
  | cons w ws ih => simp [intsOf, ih]
theorem bSum_map (ws : List Int) : bSum [.lst (ws.map D.int)] = some (.int ws.sum) := by
  simp only [bSum, intsOf_map, Option.map_some]
theorem lt_mkRat {M B : Nat} {n d : Int} (hd : 0 < d) (c : Nat) (hM : (M : Int) = d * c) (h1 : -(B * d) ≤ n) (h2 : n ≤ B * d) : Lt M B (mkRat n d.toNat) := by
  have e : mkRat n d.toNat = (n : Rat) / (d : Rat) := by
    rw [Rat.mkRat_eq_div]
    congr 1
    have : ((d.toNat : Nat) : Int) = d := by omega
    rw [show ((d.toNat : Nat) : Rat) = (((d.toNat : Nat) : Int) : Rat) from rfl, this]
  have hd0 : (0 : Rat) < (d : Rat) := Rat.intCast_pos.mpr hd
  rw [e]
  refine ⟨⟨n * c, ?_⟩, ?_, ?_⟩
  · have : (M : Rat) = (d : Rat) * ((c : Int) : Rat) := by
      rw [← Rat.intCast_mul, ← hM]
      rfl
    rw [this, Rat.intCast_mul, ← Rat.mul_assoc, Rat.div_mul_cancel (by grind)]
  · have k : ((-(B * d) : Int) : Rat) ≤ (n : Rat) := Rat.intCast_le_intCast.mpr h1
    rw [Rat.intCast_neg, Rat.intCast_mul] at k
    have k2 : (-(B : Rat)) * d ≤ n / d * d := by
      rw [Rat.div_mul_cancel (by grind), Rat.neg_mul]
      exact k
    exact Rat.le_of_mul_le_mul_right k2 hd0
  · have k : (n : Rat) ≤ ((B * d : Int) : Rat) := Rat.intCast_le_intCast.mpr h2
    rw [Rat.intCast_mul] at k
    have k2 : n / d * d ≤ (B : Rat) * d := by
      rw [Rat.div_mul_cancel (by grind)]
      exact k
    exact Rat.le_of_mul_le_mul_right k2 hd0
theorem mkRat_nonneg' {n d : Int} (hn : 0 ≤ n) : 0 ≤ mkRat n d.toNat := by
  have := Rat.divInt_nonneg hn (show (0 : Int) ≤ ((d.toNat : Nat) : Int) by omega)
  rwa [Rat.divInt_ofNat] at this
theorem sum_mkRat (W : Nat) (hW : W ≠ 0) : ∀ ws : List Int, (ws.map fun w => mkRat w W).sum = mkRat ws.sum W
  | [] => by simp
  | w :: ws => by
    rw [List.map_cons, List.sum_cons, List.sum_cons, sum_mkRat W hW ws, Rat.mkRat_add_mkRat _ _ hW hW, ← Int.add_mul, Rat.mkRat_mul_right hW]
theorem mkRat_self' {W : Nat} (hW : W ≠ 0) : mkRat (W : Int) W = 1 := by
  have : mkRat (W : Int) W = mkRat 1 1 := by rw [Rat.mkRat_eq_iff hW (by omega)]; omega
  rw [this]
  rfl
/-! ### the drawn laws -/
theorem wt_ok (z9 z6 : Int) (h9 : 0 ≤ z9 ∧ z9 < 9) (h6 : 0 ≤ z6 ∧ z6 < 6) : ∃ w : Int, fIx (.lst [.int 1, .int 1, .int 2, .int 3, .int 5, .int (1 + z9)]) (.int z6) = some (.int w) ∧ 1 ≤ w ∧ w ≤ 9 := by
  have : z6 = 0 ∨ z6 = 1 ∨ z6 = 2 ∨ z6 = 3 ∨ z6 = 4 ∨ z6 = 5 := by omega
  rcases this with z | z | z | z | z | z <;> (subst z; exact ⟨_, rfl, by omega, by omega⟩)
theorem sum_set : ∀ (ws : List Int) (j : Nat), (∀ w ∈ ws, 1 ≤ w ∧ w ≤ 9) → (ws.length : Int) - 1 ≤ (ws.set j 0).sum ∧ (ws.set j 0).sum ≤ 9 * ws.length ∧ (ws.length : Int) ≤ ws.sum ∧ ws.sum ≤ 9 * ws.length
  | [], j, _ => by simp
  | w :: ws, 0, h => by
    obtain ⟨h1, h2⟩ := h w List.mem_cons_self
    obtain ⟨i1, i2, i3, i4⟩ := sum_set ws 0 fun v hv => h v (List.mem_cons_of_mem _ hv)
    simp only [List.set_cons_zero, List.sum_cons, List.length_cons]
    omega
  | w :: ws, j + 1, h => by
    obtain ⟨h1, h2⟩ := h w List.mem_cons_self
    obtain ⟨i1, i2, i3, i4⟩ := sum_set ws j fun v hv => h v (List.mem_cons_of_mem _ hv)
    simp only [List.set_cons_succ, List.sum_cons, List.length_cons]
    omega
structure Law (M : Nat) (n : Nat) (ps : List Rat) : Prop where
  len : ps.length = n
  lt : ∀ p ∈ ps, Lt M 1 p
  pos : ∀ p ∈ ps, 0 ≤ p
  one : ps.sum = 1
theorem law_of_weights (ws : List Int) (n : Nat) (hn : ws.length = n) (h : ∀ w ∈ ws, 0 ≤ w) (h1 : 1 ≤ ws.sum) : Law ws.sum.toNat n (ws.map fun w => mkRat w ws.sum.toNat) := by
  have hW : ws.sum.toNat ≠ 0 := by omega
  have le : ∀ (ws : List Int), (∀ w ∈ ws, 0 ≤ w) → 0 ≤ ws.sum ∧ ∀ w ∈ ws, w ≤ ws.sum := by
    intro ws
    induction ws with
    | nil => intro _; exact ⟨by simp, fun _ h => nomatch h⟩
    | cons v ws ih =>
      intro h
      obtain ⟨i1, i2⟩ := ih fun w hw => h w (List.mem_cons_of_mem _ hw)
      have hv := h v List.mem_cons_self
      rw [List.sum_cons]
      refine ⟨by omega, fun w hw => ?_⟩
      rcases List.mem_cons.mp hw with z | z
      · omega
      · have := i2 w z; omega
  refine ⟨by rw [List.length_map]; exact hn, fun p hp => ?_, fun p hp => ?_, ?_⟩
  · obtain ⟨w, hw, rfl⟩ := List.mem_map.mp hp
    refine lt_mkRat (d := ws.sum) (by omega) 1 (by omega) ?_ ?_
    · have := h w hw; omega
    · have := (le ws h).2 w hw; omega
  · obtain ⟨w, hw, rfl⟩ := List.mem_map.mp hp
    exact mkRat_nonneg' (h w hw)
  · rw [sum_mkRat _ hW]
    have e : ws.sum = ((ws.sum.toNat : Nat) : Int) := by omega
    have e2 : mkRat ws.sum ws.sum.toNat = mkRat ((ws.sum.toNat : Nat) : Int) ws.sum.toNat := by rw [← e]
    rw [e2, mkRat_self' hW]
theorem law_chances_ok {N : Nat} (hN : N ≤ 10000) {pot : Pot} (h : PotB N pot) (n : Nat) (hn2 : 2 ≤ n) (hn6 : n ≤ 6) :
    ∃ (W : Nat) (ps : List Rat) (pot' : Pot), G__law_chances [.pot, .val (.int n), .val (.bl true)] pot = some (frD ps, pot') ∧ 0 < W ∧ W ≤ 54 ∧ Law W n ps ∧ PotB (N + 20) pot' := by
  obtain ⟨ds, pot1, c1, l1, q1, p1⟩ := lc_pot (g := gN 4) (mt := tYes1) (me := Ce__law_chances_1) (env := [.pot, .val (.int n), .val (.bl true), .un, .un, .un]) (fun i : Nat => .int (i : Int)) (fun _ d => ∃ w : Int, d = .int w ∧ (1 ≤ w ∧ w ≤ 9)) (fun k pot => PotB (N + 2 * k) pot) n (List.range n) 0 pot (by rw [List.length_range]; omega) h (fun x hx k pot hk hp => by
    obtain ⟨z9, pt1, t1, t2, t3, t4⟩ := law_take_ok (by omega) hp 9 (by decide) (by decide)
    obtain ⟨z6, pt2, t5, t6, t7, t8⟩ := law_take_ok (by omega) t4 6 (by decide) (by decide)
    obtain ⟨w, w1, w2, w3⟩ := wt_ok z9 z6 ⟨t2, t3⟩ ⟨t6, t7⟩
    exact ⟨[.pot, .val (.int n), .val (.bl true), .un, .val (.int x), .un], .int w, pt2, by simp [defn, cI, isiB, bTuple, bInt, cIs, cIsNot, isNon, cEq_ii, cNe_ii, notOwn_ob, notOwn_val, notOwn_un, notOwn_pot, notOwn_succ, items_tup, items_lst], rfl, by simp [Ce__law_chances_1, defn, cI, isiB, bTuple, bInt, cIs, cIsNot, isNon, cEq_ii, cNe_ii, notOwn_ob, notOwn_val, notOwn_un, notOwn_pot, notOwn_succ, items_tup, items_lst, fAdd, iAdd, t1, t5, w1], ⟨w, rfl, w2, w3⟩, by rw [show N + 2 * (k + 1) = N + 2 * k + 1 + 1 by omega]; exact t8⟩)
  rw [List.length_range] at l1 p1
  obtain ⟨ws, rfl, l2, hws⟩ := unmap D.int (fun w => 1 ≤ w ∧ w ≤ 9) (List.range n) ds (by rw [l1, List.length_range]) q1
  rw [List.length_range] at l2
  obtain ⟨z3, pt3, t9, t10, t11, t12⟩ := law_take_ok (by omega) p1 3 (by decide) (by decide)
  have n1 : (n : Int) ≤ 16777216 ∧ (-16777216 : Int) ≤ (n : Int) := by omega
  have n2 : ((n : Int).toNat) = n := by omega
  have n3 : n ≤ 16777216 := by omega
  -- the weights behind the hole
  have fin : ∀ (ws : List Int) (pt : Pot), ws.length = n → (∀ w ∈ ws, 0 ≤ w) → 1 ≤ ws.sum → ws.sum ≤ 54 → lcLoop (gN 5) tYes1 Ce__law_chances_2 [.pot, .val (.int n), .val (.bl true), .val (.lst (ws.map D.int)), .un, .un] (ws.map D.int) pt = some ((ws.map fun w => mkRat w ws.sum.toNat).map fr, pt) := by
    intro ws pt _ _ hs1 hs2
    rw [List.map_map]
    refine lc_map D.int _ ws fun w hw => ⟨[.pot, .val (.int n), .val (.bl true), .val (.lst (ws.map D.int)), .un, .val (.int w)], by simp [defn, cI, isiB, bTuple, bInt, cIs, cIsNot, isNon, cEq_ii, cNe_ii, notOwn_ob, notOwn_val, notOwn_un, notOwn_pot, notOwn_succ, items_tup, items_lst], rfl, ?_⟩
    have c := law_cut_ok w ws.sum pt (by omega) (by
      have : ws.sum.natAbs < 2 ^ 6 := by omega
      exact Nat.lt_of_lt_of_le this (Nat.pow_le_pow_right (by omega) (by omega)))
    simp [Ce__law_chances_2, bSum_map, c]
  have l16 : ∀ (ws : List Int), ws.length = n → ws.length ≤ 16777216 := fun ws h => by omega
  by_cases hz : z3 = 0
  · obtain ⟨zs, pt4, t13, t14, t15, t16⟩ := law_take_ok (by omega) t12 n (by omega) (by omega)
    have ix : L2.ixN ws.length zs = some zs.toNat := by unfold L2.ixN; rw [if_pos t14, if_pos (by omega)]
    obtain ⟨s1, s2, _, _⟩ := sum_set ws zs.toNat hws
    have hset : (ws.map D.int).set zs.toNat (.int 0) = (ws.set zs.toNat 0).map D.int := by rw [List.map_set]
    have pos : ∀ w ∈ ws.set zs.toNat 0, 0 ≤ w := fun w hw => by
      rcases List.mem_or_eq_of_mem_set hw with z | z
      · have := hws w z; omega
      · omega
    have f := fin (ws.set zs.toNat 0) pt4 (by rw [List.length_set]; exact l2) pos (by omega) (by omega)
    refine ⟨(ws.set zs.toNat 0).sum.toNat, _, pt4, ?_, by omega, by omega, law_of_weights (ws.set zs.toNat 0) n (by rw [List.length_set]; exact l2) pos (by omega), t16.mono (by omega)⟩
    have l3 : (ws.set zs.toNat 0).length ≤ 16777216 := by rw [List.length_set]; omega
    unfold G__law_chances m__law_chances
    simp only [defn, List.length_cons, List.length_nil]
    simp [defn, cI, isiB, bTuple, bInt, cIs, cIsNot, isNon, cEq_ii, cNe_ii, notOwn_ob, notOwn_val, notOwn_un, notOwn_pot, notOwn_succ, items_tup, items_lst, ev_iRng1, n1, n2, n3, rng_map, wipeE, c1, p1.flat, t9, hz, t13, ix, hset, l3, f, frD, -List.map_map, -List.map_set, -List.length_set]
  · obtain ⟨_, _, s3, s4⟩ := sum_set ws 0 hws
    have pos : ∀ w ∈ ws, 0 ≤ w := fun w hw => by have := hws w hw; omega
    have f := fin ws pt3 l2 pos (by omega) (by omega)
    refine ⟨ws.sum.toNat, _, pt3, ?_, by omega, by omega, law_of_weights ws n l2 pos (by omega), t12.mono (by omega)⟩
    have l3 : ws.length ≤ 16777216 := by omega
    unfold G__law_chances m__law_chances
    simp only [defn, List.length_cons, List.length_nil]
    simp [defn, cI, isiB, bTuple, bInt, cIs, cIsNot, isNon, cEq_ii, cNe_ii, notOwn_ob, notOwn_val, notOwn_un, notOwn_pot, notOwn_succ, items_tup, items_lst, ev_iRng1, n1, n2, n3, rng_map, wipeE, c1, p1.flat, t9, hz, l3, f, frD, -List.map_map]
end K47
set_option linter.all false
set_option maxRecDepth 100000
set_option exponentiation.threshold 10000
namespace K47
open DL
theorem sz_d {d : Int} (h : 0 < d) (h2 : d ≤ 100) : d.natAbs < 2 ^ 8000 := by
  have : d.natAbs < 2 ^ 7 := by omega
  exact Nat.lt_of_lt_of_le this (Nat.pow_le_pow_right (by omega) (by omega))
theorem lt12 {a d : Int} {B : Nat} (h1 : -(B : Int) ≤ a) (h2 : a ≤ B) (hd : d = 1 ∨ d = 2 ∨ d = 3 ∨ d = 4 ∨ d = 6 ∨ d = 12) : Lt 12 B (mkRat a d.toNat) := by
  rcases hd with z | z | z | z | z | z <;> subst z
  · exact lt_mkRat (by omega) 12 (by omega) (by omega) (by omega)
  · exact lt_mkRat (by omega) 6 (by omega) (by omega) (by omega)
  · exact lt_mkRat (by omega) 4 (by omega) (by omega) (by omega)
  · exact lt_mkRat (by omega) 3 (by omega) (by omega) (by omega)
  · exact lt_mkRat (by omega) 2 (by omega) (by omega) (by omega)
  · exact lt_mkRat (by omega) 1 (by omega) (by omega) (by omega)
theorem law_numbers_ok {N : Nat} (hN : N ≤ 10000) {pot : Pot} (h : PotB N pot) (n : Nat) (hn6 : n ≤ 6) :
    ∃ (ns : List Rat) (pot' : Pot), G__law_numbers [.pot, .val (.int n)] pot = some (frD ns, pot') ∧ ns.length = n ∧ (∀ x ∈ ns, Lt 12 6 x) ∧ PotB (N + 12) pot' := by
  obtain ⟨ds, pot1, c1, l1, q1, p1⟩ := lc_pot (g := gN 2) (mt := tYes1) (me := Ce__law_numbers_1) (env := [.pot, .val (.int n), .un]) (fun i : Nat => .int (i : Int)) (fun _ d => ∃ w : Rat, d = fr w ∧ Lt 12 6 w) (fun k pot => PotB (N + 2 * k) pot) n (List.range n) 0 pot (by rw [List.length_range]; omega) h (fun x hx k pot hk hp => by
    obtain ⟨z1, pt1, t1, t2, t3, t4⟩ := law_take_ok (by omega) hp 13 (by decide) (by decide)
    obtain ⟨z2, pt2, t5, t6, t7, t8⟩ := law_take_ok (by omega) t4 4 (by decide) (by decide)
    have c := law_cut_ok (z1 - 6) (1 + z2) pt2 (by omega) (sz_d (by omega) (by omega))
    exact ⟨[.pot, .val (.int n), .val (.int x)], fr (mkRat (z1 - 6) (1 + z2).toNat), pt2, by simp [defn, cI, isiB, bTuple, bInt, cIs, cIsNot, isNon, cEq_ii, cNe_ii, notOwn_ob, notOwn_val, notOwn_un, notOwn_pot, notOwn_succ, items_tup, items_lst], rfl, by simp [Ce__law_numbers_1, defn, cI, isiB, bTuple, bInt, cIs, cIsNot, isNon, cEq_ii, cNe_ii, notOwn_ob, notOwn_val, notOwn_un, notOwn_pot, notOwn_succ, items_tup, items_lst, fAdd, iAdd, iSub, t1, t5, c], ⟨_, rfl, lt12 (by omega) (by omega) (by omega)⟩, by rw [show N + 2 * (k + 1) = N + 2 * k + 1 + 1 by omega]; exact t8⟩)
  rw [List.length_range] at l1 p1
  obtain ⟨ns, rfl, l2, hns⟩ := unmap fr (fun w => Lt 12 6 w) (List.range n) ds (by rw [l1, List.length_range]) q1
  rw [List.length_range] at l2
  have n1 : (n : Int) ≤ 16777216 ∧ (-16777216 : Int) ≤ (n : Int) := by omega
  have n2 : ((n : Int).toNat) = n := by omega
  have n3 : n ≤ 16777216 := by omega
  refine ⟨ns, pot1, ?_, l2, hns, p1.mono (by omega)⟩
  unfold G__law_numbers m__law_numbers
  simp only [defn, List.length_cons, List.length_nil]
  simp [defn, cI, isiB, bTuple, bInt, cIs, cIsNot, isNon, cEq_ii, cNe_ii, notOwn_ob, notOwn_val, notOwn_un, notOwn_pot, notOwn_succ, items_tup, items_lst, ev_iRng1, n1, n2, n3, rng_map, wipeE, c1, frD, -List.map_map]
theorem bet_lc {N : Nat} (hN : N ≤ 10000) {pot : Pot} (h : PotB N pot) (n : Nat) (hn6 : n ≤ 6) (env : DL.Env) (hg : ∀ x : D, ∃ env', gN 5 x env = some env' ∧ env'[0]? = some .pot) :
    ∃ (ns : List Rat) (pot' : Pot), lcLoop (gN 5) tYes1 Ce__law_right_1 env ((List.range n).map fun i : Nat => .int (i : Int)) pot = some (ns.map fr, pot') ∧ ns.length = n ∧ (∀ x ∈ ns, Lt 12 6 x ∧ 0 ≤ x) ∧ PotB (N + 12) pot' := by
  obtain ⟨ds, pot1, c1, l1, q1, p1⟩ := lc_pot (g := gN 5) (mt := tYes1) (me := Ce__law_right_1) (env := env) (fun i : Nat => .int (i : Int)) (fun _ d => ∃ w : Rat, d = fr w ∧ (Lt 12 6 w ∧ 0 ≤ w)) (fun k pot => PotB (N + 2 * k) pot) n (List.range n) 0 pot (by rw [List.length_range]; omega) h (fun x hx k pot hk hp => by
    obtain ⟨z1, pt1, t1, t2, t3, t4⟩ := law_take_ok (by omega) hp 7 (by decide) (by decide)
    obtain ⟨z2, pt2, t5, t6, t7, t8⟩ := law_take_ok (by omega) t4 4 (by decide) (by decide)
    have c := law_cut_ok z1 (1 + z2) pt2 (by omega) (sz_d (by omega) (by omega))
    obtain ⟨env', e1, e2⟩ := hg (.int x)
    exact ⟨env', fr (mkRat z1 (1 + z2).toNat), pt2, e1, rfl, by simp [Ce__law_right_1, defn, cI, isiB, bTuple, bInt, cIs, cIsNot, isNon, cEq_ii, cNe_ii, notOwn_ob, notOwn_val, notOwn_un, notOwn_pot, notOwn_succ, items_tup, items_lst, fAdd, iAdd, iSub, e2, t1, t5, c], ⟨_, rfl, lt12 (by omega) (by omega) (by omega), mkRat_nonneg' t2⟩, by rw [show N + 2 * (k + 1) = N + 2 * k + 1 + 1 by omega]; exact t8⟩)
  rw [List.length_range] at l1 p1
  obtain ⟨ns, rfl, l2, hns⟩ := unmap fr (fun w => Lt 12 6 w ∧ 0 ≤ w) (List.range n) ds (by rw [l1, List.length_range]) q1
  rw [List.length_range] at l2
  exact ⟨ns, pot1, c1, l2, hns, p1.mono (by omega)⟩
/-! ### the drawn bounds -/
theorem by_ok (z : Int) (h : 0 ≤ z ∧ z < 5) : ∃ q : Rat, fIx (.lst [.tup [.int 0, .int 1], .tup [.int 1, .int 12], .tup [.int 1, .int 6], .tup [.int 1, .int 4], .tup [.int 1, .int 3]]) (.int z) = some (fr q) ∧ Lt 12 1 q ∧ 0 ≤ q := by
  have : z = 0 ∨ z = 1 ∨ z = 2 ∨ z = 3 ∨ z = 4 := by omega
  rcases this with z | z | z | z | z <;> subst z
  · exact ⟨mkRat 0 (1 : Int).toNat, by rfl, lt12 (by omega) (by omega) (by omega), mkRat_nonneg' (by omega)⟩
  · exact ⟨mkRat 1 (12 : Int).toNat, by rfl, lt12 (by omega) (by omega) (by omega), mkRat_nonneg' (by omega)⟩
  · exact ⟨mkRat 1 (6 : Int).toNat, by rfl, lt12 (by omega) (by omega) (by omega), mkRat_nonneg' (by omega)⟩
  · exact ⟨mkRat 1 (4 : Int).toNat, by rfl, lt12 (by omega) (by omega) (by omega), mkRat_nonneg' (by omega)⟩
  · exact ⟨mkRat 1 (3 : Int).toNat, by rfl, lt12 (by omega) (by omega) (by omega), mkRat_nonneg' (by omega)⟩
theorem law_of_ok {N : Nat} (hN : N ≤ 100000) {pot : Pot} (h : PotB N pot) : ∃ (q : Rat) (pot' : Pot), G__law_of [.pot, .val (.lst [.tup [.int 0, .int 1], .tup [.int 1, .int 12], .tup [.int 1, .int 6], .tup [.int 1, .int 4], .tup [.int 1, .int 3]])] pot = some (fr q, pot') ∧ Lt 12 1 q ∧ 0 ≤ q ∧ PotB (N + 1) pot' := by
  obtain ⟨z, pt, t1, t2, t3, t4⟩ := law_take_ok hN h 5 (by decide) (by decide)
  obtain ⟨q, q1, q2, q3⟩ := by_ok z ⟨t2, t3⟩
  refine ⟨q, pt, ?_, q2, q3, t4⟩
  unfold G__law_of m__law_of
  simp [defn, cI, isiB, bTuple, bInt, cIs, cIsNot, isNon, cEq_ii, cNe_ii, notOwn_ob, notOwn_val, notOwn_un, notOwn_pot, notOwn_succ, items_tup, items_lst, bLen, t1, q1]
/-- a pair about p -/
structure Pr (M : Nat) (p : Rat) (b : Rat × Rat) : Prop where
  lt : Lt M 1 b.1 ∧ Lt M 1 b.2
  lo0 : 0 ≤ b.1
  lo : b.1 ≤ p
  hi : p ≤ b.2
  hi1 : b.2 ≤ 1
theorem law_bounds_ok {N W n : Nat} (hN : N ≤ 10000) {pot : Pot} (h : PotB N pot) (hW0 : 0 < W) (hW : W ≤ 54) (ps : List Rat) (hp : Law W n ps) (hn6 : n ≤ 6) (p1 : ∀ p ∈ ps, p ≤ 1) :
    ∃ (bs : List (Rat × Rat)) (pot' : Pot), G__law_bounds [.pot, .val (frD ps)] pot = some (bdD (bs.map (tg (lows bs) (highs bs))), pot') ∧ bs.length = ps.length ∧ (∀ q ∈ ps.zip bs, Pr (W * 12) q.1 q.2) ∧ PotB (N + 12) pot' := by
  have sm : ∀ {q : Rat} {M D : Nat}, Lt M D q → 0 < M → M ≤ 1000000000 → D ≤ 1000000000 → Sm q := fun h hM0 hM hD => (h.sh hM0 hM hD).sm
  obtain ⟨env', pot1, c1, bs, o3, o4, o5, o6, e1, l1, q1, pb⟩ := for_inv (g := gN 3) (mb := Lb__law_bounds_1) fr
    (fun done env p => ∃ (bs : List (Rat × Rat)) (o3 o4 o5 o6 : Option D), env = [.pot, .val (frD ps), .own (bs.map pD), ob o3, ob o4, ob o5, ob o6] ∧ bs.length = done.length ∧ (∀ q ∈ done.zip bs, Pr (W * 12) q.1 q.2) ∧ PotB (N + 2 * done.length) p) ps
    (env := [.pot, .val (frD ps), .own [], .un, .un, .un, .un]) (pot := pot) ⟨[], none, none, none, none, rfl, rfl, (fun _ h => nomatch h), h⟩ (fun d x r env pt hd hi => by
      obtain ⟨bs, o3, o4, o5, o6, rfl, hbl, hbq, hpt⟩ := hi
      have hdl : d.length ≤ 6 := by
        have := congrArg List.length hd
        rw [List.length_append, hp.len] at this
        omega
      obtain ⟨q1, pt1, t1, t2, t3, t4⟩ := law_of_ok (by omega) hpt
      obtain ⟨q2, pt2, t5, t6, t7, t8⟩ := law_of_ok (by omega) t4
      have hxm : x ∈ ps := by rw [hd]; simp
      have hx := (hp.lt x hxm).dvd 12
      have hx0 := hp.pos x hxm
      have hx1 := p1 x hxm
      have k1 : Lt (W * 12) 1 q1 := t2.dvd' ⟨W, Nat.mul_comm _ _⟩
      have k2 : Lt (W * 12) 1 q2 := t6.dvd' ⟨W, Nat.mul_comm _ _⟩
      have lowL := hx.sub k1
      have highL := hx.add k2
      have one : Lt (W * 12) 1 1 := lt_one (by omega)
      have m0 : 0 < W * 12 := by omega
      have mM : W * 12 ≤ 1000000000 := by omega
      have hl : bs.length < 16777216 := by omega
      have num : (0 < (x - q1).num) ↔ 0 < x - q1 := by
        have := Rat.num_nonneg (q := x - q1)
        have z := Rat.num_eq_zero (q := x - q1)
        constructor
        · intro a
          have b := this.mp (by omega)
          have : x - q1 ≠ 0 := fun e => by have := z.mpr e; omega
          grind
        · intro a
          have b := this.mpr (by grind)
          have : (x - q1).num ≠ 0 := fun e => by have := z.mp e; grind
          omega
      have f0 : fIx (fr (x - q1)) (.int 0) = some (.int (x - q1).num) := rfl
      refine ⟨[.pot, .val (frD ps), .own (bs.map pD), .val (fr x), ob o4, ob o5, ob o6], [.pot, .val (frD ps), .own ((bs ++ [(if 0 < x - q1 then x - q1 else 0, if x + q2 < 1 then x + q2 else 1)]).map pD), .val (fr x), .val (.lst [.tup [.int 0, .int 1], .tup [.int 1, .int 12], .tup [.int 1, .int 6], .tup [.int 1, .int 4], .tup [.int 1, .int 3]]), .val (fr (x - q1)), .val (fr (x + q2))], pt2, by simp [defn, cI, isiB, bTuple, bInt, cIs, cIsNot, isNon, cEq_ii, cNe_ii, notOwn_ob, notOwn_val, notOwn_un, notOwn_pot, notOwn_succ, items_tup, items_lst], ?_, bs ++ [(if 0 < x - q1 then x - q1 else 0, if x + q2 < 1 then x + q2 else 1)], some (fr x), some (.lst [.tup [.int 0, .int 1], .tup [.int 1, .int 12], .tup [.int 1, .int 6], .tup [.int 1, .int 4], .tup [.int 1, .int 3]]), some (fr (x - q1)), some (fr (x + q2)), rfl, by simp [hbl], ?_, ?_⟩
      · simp only [fr_zero] at t1 t5
        unfold Lb__law_bounds_1
        by_cases a : 0 < x - q1 <;> by_cases b : x + q2 < 1 <;> simp [defn, cI, isiB, bTuple, bInt, cIs, cIsNot, isNon, cEq_ii, cNe_ii, notOwn_ob, notOwn_val, notOwn_un, notOwn_pot, notOwn_succ, items_tup, items_lst, t1, t5, law_less_ok, law_added_ok, sm hx m0 mM (by omega), sm k1 m0 mM (by omega), sm k2 m0 mM (by omega), f0, num, a, b, fr_zero, fr_one, law_is_below_ok, sm highL m0 mM (by omega), sm one m0 mM (by omega), fAppend, hl, pD]
      · intro q hq
        rw [List.zip_append (by rw [hbl])] at hq
        rcases List.mem_append.mp hq with z | z
        · exact hbq q z
        · have : q = (x, (if 0 < x - q1 then x - q1 else 0, if x + q2 < 1 then x + q2 else 1)) := by simpa using z
          subst this
          refine ⟨⟨?_, ?_⟩, ?_, ?_, ?_, ?_⟩
          · dsimp only
            split
            · exact lowL.in01 (by grind) (by grind)
            · exact lt_zero
          · dsimp only
            split
            · exact highL.in01 (by grind) (by grind)
            · exact one
          · dsimp only; split <;> grind
          · dsimp only; split <;> grind
          · dsimp only; split <;> grind
          · dsimp only; split <;> grind
      · rw [List.length_append, List.length_singleton, show N + 2 * (d.length + 1) = N + 2 * d.length + 1 + 1 by omega]
        exact t8)
  subst e1
  have hlt : LtB (W * 12) 1 bs := fun b hb => by
    obtain ⟨i, hi, e⟩ := List.getElem_of_mem hb
    have hz : (ps[i]'(by omega), bs[i]) ∈ ps.zip bs := by
      rw [List.mem_iff_getElem]
      exact ⟨i, by rw [List.length_zip]; omega, by rw [List.getElem_zip]⟩
    rw [← e]
    exact (q1 _ hz).lt
  have hl := hp.len
  have c2 := law_tight_ok (pot := pot1) (show 0 < W * 12 by omega) (by omega) (by omega) (by omega : 1 ≤ 1000) bs (by omega) hlt (.lst (bs.map pD)) (PotB.flat pb) rfl
  refine ⟨bs, pot1, ?_, l1, q1, pb.mono (by omega)⟩
  have q0 : items (frD ps) = some (ps.map fr) := rfl
  unfold G__law_bounds m__law_bounds
  simp only [defn, List.length_cons, List.length_nil]
  simp [defn, cI, isiB, bTuple, bInt, cIs, cIsNot, isNon, cEq_ii, cNe_ii, notOwn_ob, notOwn_val, notOwn_un, notOwn_pot, notOwn_succ, items_tup, items_lst, h.flat, q0, c1, c2, -List.map_map]
end K47
set_option linter.all false
set_option maxRecDepth 100000
set_option exponentiation.threshold 10000
namespace K47
open DL
def av (ns : List Rat) (j : Nat) : Rat := (ns[j]?).getD 0
def bv (bs : List (Rat × Rat)) (j : Nat) : Rat × Rat := (bs[j]?).getD (0, 0)
def amx (ns : List Rat) (S : List Nat) (m : Nat) : Nat := S.foldl (fun m j => if av ns m < av ns j then j else m) m
def rem (S : List Nat) (m : Nat) : List Nat := match S.findIdx? (· == m) with
  | some j => S.eraseIdx j
  | none => S
structure GS where
  S : List Nat
  left : Rat
  total : Rat
def more (bs : List (Rat × Rat)) (m : Nat) (left : Rat) : Rat := if (bv bs m).2 - (bv bs m).1 < left then (bv bs m).2 - (bv bs m).1 else left
def gst (bs : List (Rat × Rat)) (ns : List Rat) (g : GS) : GS :=
  let m := amx ns g.S (g.S.headD 0)
  ⟨rem g.S m, g.left - more bs m g.left, g.total + more bs m g.left * av ns m⟩
def gini (bs : List (Rat × Rat)) (ns : List Rat) : GS := ⟨List.range ns.length, 1 - lows bs, ((bs.zip ns).map fun p => p.1.1 * p.2).sum⟩
def bestV (bs : List (Rat × Rat)) (ns : List Rat) : Rat := ((List.range ns.length).foldl (fun g _ => gst bs ns g) (gini bs ns)).total
def iD (j : Nat) : D := .int (j : Int)
theorem fIx_fr {ns : List Rat} {j : Nat} (h : j < ns.length) : fIx (frD ns) (.int (j : Int)) = some (fr (av ns j)) := by
  show L2.atI (ns.map fr) (j : Int) = _
  have : ns[j]? = some (ns[j]) := List.getElem?_eq_getElem h
  rw [L2.atI_nat (v := fr (ns[j])) (by rw [List.getElem?_map, this]; rfl)]
  unfold av
  rw [this]
  rfl
theorem fIx_bd {bs : List (Rat × Rat)} {j : Nat} (h : j < bs.length) : fIx (bdD bs) (.int (j : Int)) = some (pD (bv bs j)) := by
  show L2.atI (bs.map pD) (j : Int) = _
  have : bs[j]? = some (bs[j]) := List.getElem?_eq_getElem h
  rw [L2.atI_nat (v := pD (bs[j])) (by rw [List.getElem?_map, this]; rfl)]
  unfold bv
  rw [this]
  rfl
theorem av_mem {ns : List Rat} {j : Nat} (h : j < ns.length) : av ns j ∈ ns := by
  unfold av
  rw [List.getElem?_eq_getElem h]
  exact List.getElem_mem h
theorem bv_mem {bs : List (Rat × Rat)} {j : Nat} (h : j < bs.length) : bv bs j ∈ bs := by
  unfold bv
  rw [List.getElem?_eq_getElem h]
  exact List.getElem_mem h
theorem amx_mem (ns : List Rat) : ∀ (S : List Nat) (m : Nat), amx ns S m = m ∨ amx ns S m ∈ S
  | [], m => .inl rfl
  | j :: S, m => by
    unfold amx
    rw [List.foldl_cons]
    rcases amx_mem ns S (if av ns m < av ns j then j else m) with h | h
    · unfold amx at h
      rw [h]
      split
      · exact .inr List.mem_cons_self
      · exact .inl rfl
    · exact .inr (List.mem_cons_of_mem _ h)
theorem amx_head (ns : List Rat) {S : List Nat} (h : S ≠ []) : amx ns S (S.headD 0) ∈ S := by
  cases S with
  | nil => exact absurd rfl h
  | cons j S =>
    rcases amx_mem ns (j :: S) j with z | z
    · rw [show (j :: S).headD 0 = j from rfl, z]; exact List.mem_cons_self
    · exact z
theorem rem_find {S : List Nat} {m : Nat} (h : m ∈ S) : ∃ j, S.findIdx? (· == m) = some j ∧ j < S.length ∧ rem S m = S.eraseIdx j ∧ S[j]? = some m := by
  cases e : S.findIdx? (· == m) with
  | none =>
    rw [List.findIdx?_eq_none_iff] at e
    have := e m h
    simp at this
  | some j =>
    obtain ⟨h1, h2, _⟩ := List.findIdx?_eq_some_iff_getElem.mp e
    refine ⟨j, rfl, h1, by unfold rem; rw [e], ?_⟩
    rw [List.getElem?_eq_getElem h1]
    exact congrArg some (by simpa using h2)
theorem map_eraseIdx {α β : Type} (f : α → β) : ∀ (l : List α) (j : Nat), (l.eraseIdx j).map f = (l.map f).eraseIdx j
  | [], j => by simp
  | a :: l, 0 => by simp
  | a :: l, j + 1 => by simp [map_eraseIdx f l j]
theorem fRemove_ok {S : List Nat} {m : Nat} (h : m ∈ S) : fRemove (S.map iD) (.int (m : Int)) = some ((rem S m).map iD) := by
  obtain ⟨j, h1, h2, h3, _⟩ := rem_find h
  have e1 : S.map iD = (S.map fun j : Nat => (j : Int)).map D.int := by rw [List.map_map]; rfl
  have e2 : (S.map fun j : Nat => (j : Int)).findIdx? (· == (m : Int)) = some j := by
    rw [List.findIdx?_map]
    have : ((fun x => x == (m : Int)) ∘ fun j : Nat => (j : Int)) = fun x : Nat => x == m := funext fun x => by
      simp only [Function.comp]
      rw [Bool.eq_iff_iff]
      simp only [beq_iff_eq]
      omega
    rw [this, h1]
  rw [e1]
  simp only [fRemove, intsOf_map]
  rw [e2]
  dsimp only
  rw [h3, ← map_eraseIdx, List.map_map]
  rfl
theorem rem_mem {S : List Nat} {m x : Nat} (h : x ∈ rem S m) : x ∈ S := by
  unfold rem at h
  split at h
  · exact List.mem_of_mem_eraseIdx h
  · exact h
theorem amx_loop (bs : List (Rat × Rat)) (ns : List Rat) (pot : Pot) (S0 : List D) (S : List Nat) (hS : ∀ j ∈ S, j < ns.length) (m : Nat) (hm : m < ns.length) (hs : ∀ x ∈ ns, Sm x) (b2 b3 b4 b5 b6 b8 b10 b11 b12 : Option D) :
    ∃ p10, forLoop (gN 10) (mAsg Le__law_best_1 (gN 9)) (S.map iD) [.val (bdD bs), .val (frD ns), ob b2, ob b3, ob b4, ob b5, ob b6, .own S0, ob b8, .val (.int (m : Int)), ob b10, ob b11, ob b12] pot = some (.nx [.val (bdD bs), .val (frD ns), ob b2, ob b3, ob b4, ob b5, ob b6, .own S0, ob b8, .val (.int (amx ns S m : Nat)), ob p10, ob b11, ob b12] pot) := by
  obtain ⟨env', pot', h1, p10, h2, h3, _⟩ := for_inv (g := gN 10) (mb := mAsg Le__law_best_1 (gN 9)) iD
    (fun done env p => ∃ p10, env = [.val (bdD bs), .val (frD ns), ob b2, ob b3, ob b4, ob b5, ob b6, .own S0, ob b8, .val (.int (amx ns done m : Nat)), ob p10, ob b11, ob b12] ∧ p = pot ∧ amx ns done m < ns.length) S
    (env := [.val (bdD bs), .val (frD ns), ob b2, ob b3, ob b4, ob b5, ob b6, .own S0, ob b8, .val (.int (m : Int)), ob b10, ob b11, ob b12]) (pot := pot) ⟨b10, rfl, rfl, hm⟩ (fun d j r env p hd hi => by
      obtain ⟨p10, rfl, rfl, hlt⟩ := hi
      have hj : j < ns.length := hS j (by rw [hd]; simp)
      have e : amx ns (d ++ [j]) m = if av ns (amx ns d m) < av ns j then j else amx ns d m := by unfold amx; rw [List.foldl_append]; rfl
      have f1 := fIx_fr hlt
      have f2 := fIx_fr hj
      have s1 := hs _ (av_mem hlt)
      have s2 := hs _ (av_mem hj)
      refine ⟨[.val (bdD bs), .val (frD ns), ob b2, ob b3, ob b4, ob b5, ob b6, .own S0, ob b8, .val (.int (amx ns d m : Nat)), .val (.int (j : Int)), ob b11, ob b12], [.val (bdD bs), .val (frD ns), ob b2, ob b3, ob b4, ob b5, ob b6, .own S0, ob b8, .val (.int (amx ns (d ++ [j]) m : Nat)), .val (.int (j : Int)), ob b11, ob b12], p, by simp [defn, cI, isiB, bTuple, bInt, cIs, cIsNot, isNon, cEq_ii, cNe_ii, notOwn_ob, notOwn_val, notOwn_un, notOwn_pot, notOwn_succ, items_tup, items_lst, iD], ?_, some (.int (j : Int)), rfl, rfl, by rw [e]; split <;> assumption⟩
      rw [e]
      by_cases k : av ns (amx ns d m) < av ns j <;> simp [Le__law_best_1, defn, cI, isiB, bTuple, bInt, cIs, cIsNot, isNon, cEq_ii, cNe_ii, notOwn_ob, notOwn_val, notOwn_un, notOwn_pot, notOwn_succ, items_tup, items_lst, f1, f2, law_is_below_ok, s1, s2, k])
  subst h2 h3
  exact ⟨p10, h1⟩
/-- where the greedy run stands behind k turns -/
structure GInv (M M' B' n k : Nat) (g : GS) : Prop where
  len : g.S.length = n - k
  mem : ∀ j ∈ g.S, j < n
  l : Lt M (8 * 2 ^ k) g.left
  t : Lt (M * M') (6 * B' + k * (8 * 2 ^ k * B')) g.total
theorem more_lt {M : Nat} {bs : List (Rat × Rat)} (hb : LtB M 1 bs) {m : Nat} (hm : m < bs.length) {left : Rat} {C : Nat} (hC : 2 ≤ C) (hl : Lt M C left) : Lt M C (more bs m left) := by
  unfold more
  have := hb _ (bv_mem hm)
  split
  · exact (this.2.sub this.1).mono (by omega)
  · exact hl
theorem gst_inv {M M' B' n k : Nat} {bs : List (Rat × Rat)} {ns : List Rat} (hb : LtB M 1 bs) (hn : ∀ x ∈ ns, Lt M' B' x) (lb : bs.length = n) (ln : ns.length = n) (hk : k < n) {g : GS} (h : GInv M M' B' n k g) : GInv M M' B' n (k + 1) (gst bs ns g) := by
  have hne : g.S ≠ [] := fun e => by have := h.len; rw [e] at this; simp at this; omega
  have hm := amx_head ns hne
  have hmn := h.mem _ hm
  obtain ⟨j, j1, j2, j3, _⟩ := rem_find hm
  have c2 : 2 ≤ 8 * 2 ^ k := by have := Nat.one_le_two_pow (n := k); omega
  have ml := more_lt hb (m := amx ns g.S (g.S.headD 0)) (by omega) c2 h.l
  have al := hn _ (av_mem (ns := ns) (j := amx ns g.S (g.S.headD 0)) (by omega))
  refine ⟨?_, fun x hx => h.mem x (rem_mem hx), ?_, ?_⟩
  · show (rem g.S _).length = _
    rw [j3, List.length_eraseIdx, if_pos j2, h.len]
    omega
  · exact (h.l.sub ml).mono (by rw [Nat.pow_succ]; omega)
  · refine (h.t.add (ml.mul al)).mono ?_
    have e1 : 8 * 2 ^ k * B' ≤ 8 * 2 ^ (k + 1) * B' := Nat.mul_le_mul_right _ (by rw [Nat.pow_succ]; omega)
    have e2 : k * (8 * 2 ^ k * B') ≤ k * (8 * 2 ^ (k + 1) * B') := Nat.mul_le_mul_left _ e1
    rw [Nat.add_mul, Nat.one_mul]
    omega
end K47
set_option linter.all false
set_option maxRecDepth 100000
set_option exponentiation.threshold 10000
namespace K47
open DL
theorem zip_bd (bs : List (Rat × Rat)) (ns : List Rat) : zipD (bs.map pD) (ns.map fr) = (bs.zip ns).map fun p => .tup [pD p.1, fr p.2] := zipD_map pD fr bs ns
theorem zip_fst {α β : Type} : ∀ (xs : List α) (ys : List β), xs.length ≤ ys.length → (xs.zip ys).map (·.1) = xs
  | [], _, _ => by simp
  | x :: xs, [], h => by simp at h
  | x :: xs, y :: ys, h => by
    rw [List.zip_cons_cons, List.map_cons, zip_fst xs ys (by simpa using h)]
theorem ob_s (d : D) : ob (some d) = .val d := rfl
theorem rng_iD (n : Nat) : rng 0 n = (List.range n).map iD := rng_map n
theorem law_best_ok {M M' B' : Nat} {bs : List (Rat × Rat)} {ns : List Rat} {pot : Pot} (hf : flatP pot = true) (m0 : 0 < M) (mM : M ≤ 1000) (m0' : 0 < M') (mM' : M' ≤ 1000) (hB : B' ≤ 1000) (hb : LtB M 1 bs) (hn : ∀ x ∈ ns, Lt M' B' x) (hl : ns.length = bs.length) (l6 : bs.length ≤ 6) :
    G__law_best [.val (bdD bs), .val (frD ns)] pot = some (fr (bestV bs ns), pot) := by
  have mm : M * M' ≤ 1000000 := Nat.mul_le_mul mM mM'
  have m00 : 0 < M * M' := Nat.mul_pos m0 m0'
  have sm : ∀ {q : Rat} {D : Nat}, Lt M D q → D ≤ 1000000000 → Sm q := fun h hD => (h.sh m0 (by omega) hD).sm
  have sn : ∀ {q : Rat} {D : Nat}, Lt M' D q → D ≤ 1000000000 → Sm q := fun h hD => (h.sh m0' (by omega) hD).sm
  have st : ∀ {q : Rat} {D : Nat}, Lt (M * M') D q → D ≤ 1000000000 → Sm q := fun h hD => (h.sh m00 (by omega) hD).sm
  have hz : ∀ p ∈ bs.zip ns, (Lt M 1 p.1.1 ∧ Lt M 1 p.1.2) ∧ Lt M' B' p.2 := fun p hp => ⟨hb _ (List.of_mem_zip hp).1, hn _ (List.of_mem_zip hp).2⟩
  have o1 : (1 : Rat) - 0 = 1 := by grind
  -- the first loop
  obtain ⟨env', pot', c1, b4, b5, b6, e1, e2, _, _⟩ := for_inv (g := gT (gsCons (gT (gsCons (gN 4) (gsCons (gN 5) gsNil))) (gsCons (gN 6) gsNil))) (mb := Lb__law_best_1) (fun p : (Rat × Rat) × Rat => .tup [pD p.1, fr p.2])
    (fun done env p => ∃ b4 b5 b6, env = [.val (bdD bs), .val (frD ns), .val (fr (1 - (done.map (·.1.1)).sum)), .val (fr (done.map fun p => p.1.1 * p.2).sum), ob b4, ob b5, ob b6, .un, .un, .un, .un, .un, .un] ∧ p = pot ∧ Lt M (1 + done.length) (1 - (done.map (·.1.1)).sum) ∧ Lt (M * M') (done.length * B') (done.map fun p => p.1.1 * p.2).sum) (bs.zip ns)
    (env := [.val (bdD bs), .val (frD ns), .val (fr 1), .val (fr 0), .un, .un, .un, .un, .un, .un, .un, .un, .un]) (pot := pot) ⟨none, none, none, by simp [ob, o1], rfl, by simpa [o1] using lt_one (M := M) (B := 1) (by omega), by simpa using lt_zero⟩ (fun d x r env p hd hi => by
      obtain ⟨b4, b5, b6, rfl, rfl, h1, h2⟩ := hi
      obtain ⟨⟨x1, x2⟩, x3⟩ := hz x (by rw [hd]; simp)
      have hdl : d.length + 1 ≤ 6 := by
        have := congrArg List.length hd
        rw [List.length_zip, List.length_append, List.length_cons] at this
        omega
      have pr := x1.mul x3
      have s1 : ((d ++ [x]).map (·.1.1)).sum = (d.map (·.1.1)).sum + x.1.1 := by simp [Rat.add_zero]
      have s2 : ((d ++ [x]).map fun p => p.1.1 * p.2).sum = (d.map fun p => p.1.1 * p.2).sum + x.1.1 * x.2 := by simp [Rat.add_zero]
      have s3 : 1 - ((d.map (·.1.1)).sum + x.1.1) = 1 - (d.map (·.1.1)).sum - x.1.1 := by grind
      have bb : d.length * B' ≤ 6000 := by have := Nat.mul_le_mul (show d.length ≤ 6 by omega) hB; omega
      refine ⟨[.val (bdD bs), .val (frD ns), .val (fr (1 - (d.map (·.1.1)).sum)), .val (fr (d.map fun p => p.1.1 * p.2).sum), .val (fr x.1.1), .val (fr x.1.2), .val (fr x.2), .un, .un, .un, .un, .un, .un], [.val (bdD bs), .val (frD ns), .val (fr (1 - ((d ++ [x]).map (·.1.1)).sum)), .val (fr ((d ++ [x]).map fun p => p.1.1 * p.2).sum), .val (fr x.1.1), .val (fr x.1.2), .val (fr x.2), .un, .un, .un, .un, .un, .un], p, by simp [defn, cI, isiB, bTuple, bInt, cIs, cIsNot, isNon, cEq_ii, cNe_ii, notOwn_ob, notOwn_val, notOwn_un, notOwn_pot, notOwn_succ, items_tup, items_lst, pD], ?_, some (fr x.1.1), some (fr x.1.2), some (fr x.2), rfl, rfl, ?_, ?_⟩
      · rw [s1, s2, s3]
        simp [Lb__law_best_1, defn, cI, isiB, bTuple, bInt, cIs, cIsNot, isNon, cEq_ii, cNe_ii, notOwn_ob, notOwn_val, notOwn_un, notOwn_pot, notOwn_succ, items_tup, items_lst, law_less_ok, law_added_ok, law_times_ok, sm h1 (by omega), sm x1 (by omega), sn x3 (by omega), st h2 (by omega), st pr (by omega), -List.map_append, -List.sum_append]
      · rw [s1, s3, List.length_append, List.length_singleton]
        exact (h1.sub x1).mono (by omega)
      · rw [s2, List.length_append, List.length_singleton, Nat.add_mul]
        exact h2.add (pr.mono (by omega)))
  subst e1 e2
  have hlow : ((bs.zip ns).map (·.1.1)).sum = lows bs := by
    have := zip_fst bs ns (by omega)
    unfold lows
    rw [← this, List.map_map]
    simp only [this]
    rfl
  rw [hlow] at c1
  -- the second loop
  obtain ⟨env'', pot'', c2, b8, b9, b10, b11, b12, e3, e4, _⟩ := for_inv (g := gN 8) (mb := Lb__law_best_2) iD
    (fun done env p => ∃ b8 b9 b10 b11 b12, env = [.val (bdD bs), .val (frD ns), .val (fr (done.foldl (fun g _ => gst bs ns g) (gini bs ns)).left), .val (fr (done.foldl (fun g _ => gst bs ns g) (gini bs ns)).total), ob b4, ob b5, ob b6, .own ((done.foldl (fun g _ => gst bs ns g) (gini bs ns)).S.map iD), ob b8, ob b9, ob b10, ob b11, ob b12] ∧ p = pot' ∧ GInv M M' B' ns.length done.length (done.foldl (fun g _ => gst bs ns g) (gini bs ns))) (List.range ns.length)
    (env := [.val (bdD bs), .val (frD ns), .val (fr (1 - lows bs)), .val (fr ((bs.zip ns).map fun p => p.1.1 * p.2).sum), ob b4, ob b5, ob b6, .own ((List.range ns.length).map iD), .un, .un, .un, .un, .un]) (pot := pot') ⟨none, none, none, none, none, rfl, rfl, by
      refine ⟨?_, ?_, ?_, ?_⟩
      · show (List.range ns.length).length = _
        simp
      · exact fun j hj => List.mem_range.mp hj
      · show Lt M _ (1 - lows bs)
        exact ((lt_one (M := M) (B := 1) (by omega)).sub hb.lows).mono (by simp; omega)
      · show Lt (M * M') _ ((bs.zip ns).map fun p => p.1.1 * p.2).sum
        have := sum_lt (M := M * M') (B := B') (qs := (bs.zip ns).map fun p => p.1.1 * p.2) (fun q hq => by
          obtain ⟨p, hp, rfl⟩ := List.mem_map.mp hq
          exact ((hz p hp).1.1.mul (hz p hp).2).mono (by omega))
        refine this.mono ?_
        rw [List.length_map, List.length_zip]
        have := Nat.mul_le_mul_right B' (show min bs.length ns.length ≤ 6 by omega)
        simpa using this⟩ (fun d x r env p hd hi => by
      obtain ⟨b8, b9, b10, b11, b12, rfl, rfl, hg⟩ := hi
      have hdl : d.length < ns.length := by
        have := congrArg List.length hd
        rw [List.length_range, List.length_append, List.length_cons] at this
        omega
      rw [List.foldl_append, List.foldl_cons, List.foldl_nil, List.length_append, List.length_singleton]
      have hg' := gst_inv hb hn hl.symm rfl hdl hg
      generalize hgg : d.foldl (fun g _ => gst bs ns g) (gini bs ns) = g at *
      have hne : g.S ≠ [] := fun e => by have := hg.len; rw [e] at this; simp at this; omega
      have hm := amx_head ns hne
      have hmn := hg.mem _ hm
      have hh : g.S.headD 0 < ns.length := hg.mem _ (by cases hs : g.S with | nil => exact absurd hs hne | cons a l => simp)
      obtain ⟨p10, ca⟩ := amx_loop bs ns p (g.S.map iD) g.S hg.mem (g.S.headD 0) hh (fun x hx => sn (hn x hx) (by omega)) (some (fr g.left)) (some (fr g.total)) b4 b5 b6 (some (iD x)) b10 b11 b12
      simp only [ob_s] at ca
      have h0 : L2.atI (g.S.map iD) 0 = some (iD (g.S.headD 0)) := by
        cases hs : g.S with
        | nil => exact absurd hs hne
        | cons a l => exact L2.atI_nat (j := 0) rfl
      have hrm := fRemove_ok hm
      generalize hmm : amx ns g.S (g.S.headD 0) = m at *
      have f1 := fIx_bd (bs := bs) (j := m) (by omega)
      have f2 := fIx_fr (ns := ns) (j := m) hmn
      have hbm := hb _ (bv_mem (bs := bs) (j := m) (by omega))
      have hnm := hn _ (av_mem hmn)
      have room := hbm.2.sub hbm.1
      have pw : 8 * 2 ^ d.length ≤ 8 * 2 ^ 6 := Nat.mul_le_mul_left _ (Nat.pow_le_pow_right (by omega) (by omega))
      have pw2 : 8 * 2 ^ 6 = 512 := by decide
      have c2' : 2 ≤ 8 * 2 ^ d.length := by have := Nat.one_le_two_pow (n := d.length); omega
      have ml := more_lt hb (m := m) (by omega) c2' hg.l
      have pr := ml.mul hnm
      have bb1 : 8 * 2 ^ d.length * B' ≤ 512 * 1000 := Nat.mul_le_mul (by omega) hB
      have bb2 : d.length * (8 * 2 ^ d.length * B') ≤ 6 * (512 * 1000) := Nat.mul_le_mul (by omega) bb1
      have e5 : gst bs ns g = ⟨rem g.S m, g.left - more bs m g.left, g.total + more bs m g.left * av ns m⟩ := by unfold gst; rw [hmm]
      have iDm : ∀ j : Nat, (D.int (j : Int)) = iD j := fun _ => rfl
      refine ⟨[.val (bdD bs), .val (frD ns), .val (fr g.left), .val (fr g.total), ob b4, ob b5, ob b6, .own (g.S.map iD), .val (iD x), ob b9, ob b10, ob b11, ob b12], [.val (bdD bs), .val (frD ns), .val (fr (gst bs ns g).left), .val (fr (gst bs ns g).total), ob b4, ob b5, ob b6, .own ((gst bs ns g).S.map iD), .val (iD x), .val (.int (m : Nat)), ob p10, .val (fr ((bv bs m).2 - (bv bs m).1)), .val (fr (more bs m g.left))], p, by simp [defn, cI, isiB, bTuple, bInt, cIs, cIsNot, isNon, cEq_ii, cNe_ii, notOwn_ob, notOwn_val, notOwn_un, notOwn_pot, notOwn_succ, items_tup, items_lst], ?_, some (iD x), some (.int (m : Nat)), p10, some (fr ((bv bs m).2 - (bv bs m).1)), some (fr (more bs m g.left)), rfl, rfl, hg'⟩
      rw [e5]
      have ca' : forLoop (gN 10) (mAsg Le__law_best_1 (gN 9)) (g.S.map iD) [.val (bdD bs), .val (frD ns), .val (fr g.left), .val (fr g.total), ob b4, ob b5, ob b6, .own (g.S.map iD), .val (iD x), .val (iD (g.S.headD 0)), ob b10, ob b11, ob b12] p = _ := ca
      have mr : (if (bv bs m).2 - (bv bs m).1 < g.left then fr ((bv bs m).2 - (bv bs m).1) else fr g.left) = fr (more bs m g.left) := by unfold more; split <;> rfl
      generalize g.S.headD 0 = hd0 at h0 ca'
      unfold Lb__law_best_2
      by_cases k : (bv bs m).2 - (bv bs m).1 < g.left
      · have mk : more bs m g.left = (bv bs m).2 - (bv bs m).1 := by unfold more; rw [if_pos k]
        rw [mk] at ml pr ⊢
        simp [defn, cI, isiB, bTuple, bInt, cIs, cIsNot, isNon, cEq_ii, cNe_ii, notOwn_ob, notOwn_val, notOwn_un, notOwn_pot, notOwn_succ, items_tup, items_lst, h0, ca', hrm, f1, f2, pD, fx0, fx1, law_less_ok, law_added_ok, law_times_ok, law_is_below_ok, sm hbm.1 (by omega), sm hbm.2 (by omega), sm room (by omega), sm hg.l (by omega), k, sm ml (by omega), sn hnm (by omega), st hg.t (by omega), st pr (by omega)]
      · have mk : more bs m g.left = g.left := by unfold more; rw [if_neg k]
        rw [mk] at ml pr ⊢
        simp [defn, cI, isiB, bTuple, bInt, cIs, cIsNot, isNon, cEq_ii, cNe_ii, notOwn_ob, notOwn_val, notOwn_un, notOwn_pot, notOwn_succ, items_tup, items_lst, h0, ca', hrm, f1, f2, pD, fx0, fx1, law_less_ok, law_added_ok, law_times_ok, law_is_below_ok, sm hbm.1 (by omega), sm hbm.2 (by omega), sm room (by omega), sm hg.l (by omega), k, sm ml (by omega), sn hnm (by omega), st hg.t (by omega), st pr (by omega)])
  subst e3 e4
  have n1 : (ns.length : Int) ≤ 16777216 ∧ (-16777216 : Int) ≤ (ns.length : Int) := by omega
  have n2 : ((ns.length : Int).toNat) = ns.length := by omega
  have n3 : ns.length ≤ 16777216 := by omega
  have q0 : items (bdD bs) = some (bs.map pD) := rfl
  have q1 : items (frD ns) = some (ns.map fr) := rfl
  unfold G__law_best m__law_best
  simp only [defn, List.length_cons, List.length_nil]
  simp [defn, cI, isiB, bTuple, bInt, cIs, cIsNot, isNon, cEq_ii, cNe_ii, notOwn_ob, notOwn_val, notOwn_un, notOwn_pot, notOwn_succ, items_tup, items_lst, fr_one, fr_zero, ev_iZip, q0, q1, zip_bd, c1, fListRg, bLen_frD, n1, n2, n3, rng_iD, hf, ev_iRng1, c2, bestV, -List.map_map]
end K47
set_option linter.all false
set_option maxRecDepth 100000
namespace K47
open DL
/-! ## The plain law: narrow bounds -/
theorem lows_nil : lows [] = 0 := rfl
theorem highs_nil : highs [] = 0 := rfl
theorem lows_cons (c : Rat × Rat) (cs : List (Rat × Rat)) : lows (c :: cs) = c.1 + lows cs := by unfold lows; rw [List.map_cons, List.sum_cons]
theorem highs_cons (c : Rat × Rat) (cs : List (Rat × Rat)) : highs (c :: cs) = c.2 + highs cs := by unfold highs; rw [List.map_cons, List.sum_cons]
theorem lows_app : ∀ (a b : List (Rat × Rat)), lows (a ++ b) = lows a + lows b
  | [], b => by rw [List.nil_append, lows_nil, Rat.zero_add]
  | c :: a, b => by rw [List.cons_append, lows_cons, lows_cons, lows_app a b, Rat.add_assoc]
theorem highs_app : ∀ (a b : List (Rat × Rat)), highs (a ++ b) = highs a + highs b
  | [], b => by rw [List.nil_append, highs_nil, Rat.zero_add]
  | c :: a, b => by rw [List.cons_append, highs_cons, highs_cons, highs_app a b, Rat.add_assoc]
theorem tg1 (L U : Rat) (b : Rat × Rat) : b.1 ≤ (tg L U b).1 ∧ 1 - U + b.2 ≤ (tg L U b).1 ∧ ((tg L U b).1 = b.1 ∨ (tg L U b).1 = 1 - U + b.2) := by
  unfold tg
  dsimp only
  split <;> grind
theorem tg2 (L U : Rat) (b : Rat × Rat) : (tg L U b).2 ≤ b.2 ∧ (tg L U b).2 ≤ 1 - L + b.1 ∧ ((tg L U b).2 = b.2 ∨ (tg L U b).2 = 1 - L + b.1) := by
  unfold tg
  dsimp only
  split <;> grind
/-- the highs of a rest, narrowed -/
theorem highs_rest (L U : Rat) (hL : L ≤ 1) : ∀ (R : List (Rat × Rat)), (∀ r ∈ R, r.1 ≤ r.2) → lows R ≤ highs (R.map (tg L U)) ∧ (highs R ≤ highs (R.map (tg L U)) ∨ 1 - L + lows R ≤ highs (R.map (tg L U)))
  | [], _ => ⟨by simp [lows_nil, highs_nil], .inl (by simp [highs_nil])⟩
  | r :: R, h => by
    obtain ⟨i1, i2⟩ := highs_rest L U hL R fun x hx => h x (List.mem_cons_of_mem _ hx)
    have hr := h r List.mem_cons_self
    obtain ⟨a1, a2, a3⟩ := tg2 L U r
    rw [List.map_cons, highs_cons, lows_cons, highs_cons]
    refine ⟨?_, ?_⟩
    · rcases a3 with z | z <;> grind
    · rcases a3 with z | z <;> rcases i2 with w | w
      · left; grind
      · right; grind
      · right; grind
      · right; grind
theorem lows_rest (L U : Rat) (hU : 1 ≤ U) : ∀ (R : List (Rat × Rat)), (∀ r ∈ R, r.1 ≤ r.2) → lows (R.map (tg L U)) ≤ highs R ∧ (lows (R.map (tg L U)) ≤ lows R ∨ lows (R.map (tg L U)) ≤ 1 - U + highs R)
  | [], _ => ⟨by simp [lows_nil, highs_nil], .inl (by simp [lows_nil])⟩
  | r :: R, h => by
    obtain ⟨i1, i2⟩ := lows_rest L U hU R fun x hx => h x (List.mem_cons_of_mem _ hx)
    have hr := h r List.mem_cons_self
    obtain ⟨a1, a2, a3⟩ := tg1 L U r
    rw [List.map_cons, lows_cons, lows_cons, highs_cons]
    refine ⟨?_, ?_⟩
    · rcases a3 with z | z <;> grind
    · rcases a3 with z | z <;> rcases i2 with w | w
      · left; grind
      · right; grind
      · right; grind
      · right; grind
/-- bounds as narrow as can be -/
structure Ti (bs : List (Rat × Rat)) : Prop where
  le : ∀ b ∈ bs, 0 ≤ b.1 ∧ b.1 ≤ b.2 ∧ b.2 ≤ 1
  low : lows bs ≤ 1
  high : 1 ≤ highs bs
  t1 : ∀ b ∈ bs, 1 - (highs bs - b.2) ≤ b.1
  t2 : ∀ b ∈ bs, b.2 ≤ 1 - (lows bs - b.1)
theorem map_eq_self {α : Type} (f : α → α) : ∀ (l : List α), (∀ x ∈ l, f x = x) → l.map f = l
  | [], _ => rfl
  | x :: l, h => by rw [List.map_cons, h x List.mem_cons_self, map_eq_self f l fun y hy => h y (List.mem_cons_of_mem _ hy)]
theorem any_false {α : Type} {p : α → Bool} {l : List α} (h : ∀ x ∈ l, p x = false) : l.any p = false := by
  rw [List.any_eq_false]
  intro x hx
  rw [h x hx]
  simp
theorem not_lt_dec {a b : Rat} (h : b ≤ a) : decide (a < b) = false := decide_eq_false (Rat.not_lt.mpr h)
theorem clip_self {b : Rat × Rat} (h0 : 0 ≤ b.1) (h1 : b.2 ≤ 1) : clip b = b := by
  unfold clip
  rw [if_pos h0, if_neg (Rat.not_lt.mpr h1)]
theorem tg_self {L U : Rat} {b : Rat × Rat} (h1 : 1 - (U - b.2) ≤ b.1) (h2 : b.2 ≤ 1 - (L - b.1)) : tg L U b = b := by
  unfold tg
  rw [if_neg (Rat.not_lt.mpr h1), if_neg (Rat.not_lt.mpr h2)]
theorem Ti.nar {bs : List (Rat × Rat)} (h : Ti bs) : nar bs = some bs := by
  have c : bs.map clip = bs := map_eq_self _ _ fun b hb => clip_self (h.le b hb).1 (h.le b hb).2.2
  have k : crossed bs = false := by
    unfold crossed
    rw [any_false fun b hb => not_lt_dec (h.le b hb).2.1, not_lt_dec h.low, not_lt_dec h.high]
    rfl
  unfold K47.nar
  rw [c, k]
  have t : bs.map (tg (lows bs) (highs bs)) = bs := map_eq_self _ _ fun b hb => tg_self (h.t1 b hb) (h.t2 b hb)
  rw [t]
  rfl
/-! ### the drawn bounds are narrow -/
theorem sums_between : ∀ (ps : List Rat) (cs : List (Rat × Rat)), cs.length = ps.length → (∀ q ∈ ps.zip cs, q.2.1 ≤ q.1 ∧ q.1 ≤ q.2.2) → lows cs ≤ ps.sum ∧ ps.sum ≤ highs cs
  | [], [], _, _ => by simp [lows_nil, highs_nil]
  | [], _ :: _, h, _ => by simp at h
  | _ :: _, [], h, _ => by simp at h
  | p :: ps, c :: cs, h, hq => by
    obtain ⟨i1, i2⟩ := sums_between ps cs (by simpa using h) fun q hq' => hq q (by rw [List.zip_cons_cons]; exact List.mem_cons_of_mem _ hq')
    obtain ⟨a1, a2⟩ := hq (p, c) (by rw [List.zip_cons_cons]; exact List.mem_cons_self)
    rw [lows_cons, highs_cons, List.sum_cons]
    dsimp only at a1 a2
    constructor <;> grind
/-- .. and each apart -/
theorem sums_apart : ∀ (ps : List Rat) (cs : List (Rat × Rat)), cs.length = ps.length → (∀ q ∈ ps.zip cs, q.2.1 ≤ q.1 ∧ q.1 ≤ q.2.2) → ∀ q ∈ ps.zip cs, lows cs - q.2.1 ≤ ps.sum - q.1 ∧ ps.sum - q.1 ≤ highs cs - q.2.2
  | [], [], _, _ => fun q h => nomatch h
  | [], _ :: _, h, _ => by simp at h
  | _ :: _, [], h, _ => by simp at h
  | p :: ps, c :: cs, h, hq => by
    have hq' : ∀ q ∈ ps.zip cs, q.2.1 ≤ q.1 ∧ q.1 ≤ q.2.2 := fun q hq' => hq q (by rw [List.zip_cons_cons]; exact List.mem_cons_of_mem _ hq')
    obtain ⟨a1, a2⟩ := hq (p, c) (by rw [List.zip_cons_cons]; exact List.mem_cons_self)
    dsimp only at a1 a2
    intro q hqm
    rw [List.zip_cons_cons] at hqm
    rw [lows_cons, highs_cons, List.sum_cons]
    rcases List.mem_cons.mp hqm with z | z
    · subst z
      obtain ⟨i1, i2⟩ := sums_between ps cs (by simpa using h) hq'
      dsimp only
      constructor <;> grind
    · obtain ⟨i1, i2⟩ := sums_apart ps cs (by simpa using h) hq' q z
      constructor <;> grind
theorem tg_within {ps : List Rat} {cs : List (Rat × Rat)} (hl : cs.length = ps.length) (hq : ∀ q ∈ ps.zip cs, q.2.1 ≤ q.1 ∧ q.1 ≤ q.2.2) (hs : ps.sum = 1) : ∀ q ∈ ps.zip cs, (tg (lows cs) (highs cs) q.2).1 ≤ q.1 ∧ q.1 ≤ (tg (lows cs) (highs cs) q.2).2 := by
  intro q hqm
  obtain ⟨a1, a2⟩ := hq q hqm
  obtain ⟨b1, b2⟩ := sums_apart ps cs hl hq q hqm
  rw [hs] at b1 b2
  obtain ⟨_, _, c1⟩ := tg1 (lows cs) (highs cs) q.2
  obtain ⟨_, _, c2⟩ := tg2 (lows cs) (highs cs) q.2
  refine ⟨?_, ?_⟩
  · rcases c1 with z | z <;> grind
  · rcases c2 with z | z <;> grind
theorem zip_of_mem {ps : List Rat} {cs : List (Rat × Rat)} (hl : cs.length = ps.length) {c : Rat × Rat} (hc : c ∈ cs) : ∃ p, (p, c) ∈ ps.zip cs := by
  obtain ⟨i, hi, e⟩ := List.getElem_of_mem hc
  refine ⟨ps[i]'(by omega), ?_⟩
  rw [List.mem_iff_getElem]
  exact ⟨i, by rw [List.length_zip]; omega, by rw [List.getElem_zip, e]⟩
theorem tight_ti {ps : List Rat} {cs : List (Rat × Rat)} (hl : cs.length = ps.length) (hq : ∀ q ∈ ps.zip cs, q.2.1 ≤ q.1 ∧ q.1 ≤ q.2.2) (h01 : ∀ c ∈ cs, 0 ≤ c.1 ∧ c.2 ≤ 1) (hs : ps.sum = 1) : Ti (cs.map (tg (lows cs) (highs cs))) := by
  obtain ⟨s1, s2⟩ := sums_between ps cs hl hq
  rw [hs] at s1 s2
  have hle : ∀ c ∈ cs, c.1 ≤ c.2 := fun c hc => by
    obtain ⟨p, hp⟩ := zip_of_mem hl hc
    have := hq _ hp
    exact Rat.le_trans this.1 this.2
  have hw := tg_within hl hq hs
  have hmid : lows (cs.map (tg (lows cs) (highs cs))) ≤ 1 ∧ 1 ≤ highs (cs.map (tg (lows cs) (highs cs))) := by
    have := sums_between ps (cs.map (tg (lows cs) (highs cs))) (by rw [List.length_map]; exact hl) (fun q hqm => by
      rw [List.zip_map_right] at hqm
      obtain ⟨r, hr, rfl⟩ := List.mem_map.mp hqm
      exact hw r hr)
    rwa [hs] at this
  refine ⟨fun b hb => ?_, hmid.1, hmid.2, fun b hb => ?_, fun b hb => ?_⟩
  · obtain ⟨c, hc, rfl⟩ := List.mem_map.mp hb
    obtain ⟨p, hp⟩ := zip_of_mem hl hc
    obtain ⟨w1, w2⟩ := hw _ hp
    obtain ⟨a1, _⟩ := tg1 (lows cs) (highs cs) c
    obtain ⟨a2, _⟩ := tg2 (lows cs) (highs cs) c
    obtain ⟨z1, z2⟩ := h01 c hc
    exact ⟨Rat.le_trans z1 a1, Rat.le_trans w1 w2, Rat.le_trans a2 z2⟩
  · obtain ⟨c, hc, rfl⟩ := List.mem_map.mp hb
    obtain ⟨A, B, e⟩ := List.append_of_mem hc
    have hR : ∀ r ∈ A ++ B, r.1 ≤ r.2 := fun r hr => hle r (by rw [e]; rcases List.mem_append.mp hr with z | z; exact List.mem_append_left _ z; exact List.mem_append_right _ (List.mem_cons_of_mem _ z))
    have r := (highs_rest (lows cs) (highs cs) s1 (A ++ B) hR).2
    have eL : lows cs = c.1 + lows (A ++ B) := by
      have := congrArg lows e
      rw [lows_app, lows_cons] at this
      rw [lows_app]; grind
    have eU : highs cs = c.2 + highs (A ++ B) := by
      have := congrArg highs e
      rw [highs_app, highs_cons] at this
      rw [highs_app]; grind
    have eU' : highs (cs.map (tg (lows cs) (highs cs))) = (tg (lows cs) (highs cs) c).2 + highs ((A ++ B).map (tg (lows cs) (highs cs))) := by
      have : cs.map (tg (lows cs) (highs cs)) = A.map (tg (lows cs) (highs cs)) ++ tg (lows cs) (highs cs) c :: B.map (tg (lows cs) (highs cs)) := by
        conv => lhs; rw [show cs.map (tg (lows cs) (highs cs)) = (A ++ c :: B).map (tg (lows cs) (highs cs)) from congrArg (List.map _) e]
        rw [List.map_append, List.map_cons]
      rw [this, highs_app, highs_cons, List.map_append, highs_app]
      grind
    obtain ⟨a1, a2, _⟩ := tg1 (lows cs) (highs cs) c
    rw [eU']
    rcases r with z | z <;> grind
  · obtain ⟨c, hc, rfl⟩ := List.mem_map.mp hb
    obtain ⟨A, B, e⟩ := List.append_of_mem hc
    have hR : ∀ r ∈ A ++ B, r.1 ≤ r.2 := fun r hr => hle r (by rw [e]; rcases List.mem_append.mp hr with z | z; exact List.mem_append_left _ z; exact List.mem_append_right _ (List.mem_cons_of_mem _ z))
    have r := (lows_rest (lows cs) (highs cs) s2 (A ++ B) hR).2
    have eL : lows cs = c.1 + lows (A ++ B) := by
      have := congrArg lows e
      rw [lows_app, lows_cons] at this
      rw [lows_app]; grind
    have eU : highs cs = c.2 + highs (A ++ B) := by
      have := congrArg highs e
      rw [highs_app, highs_cons] at this
      rw [highs_app]; grind
    have eL' : lows (cs.map (tg (lows cs) (highs cs))) = (tg (lows cs) (highs cs) c).1 + lows ((A ++ B).map (tg (lows cs) (highs cs))) := by
      have : cs.map (tg (lows cs) (highs cs)) = A.map (tg (lows cs) (highs cs)) ++ tg (lows cs) (highs cs) c :: B.map (tg (lows cs) (highs cs)) := by
        conv => lhs; rw [show cs.map (tg (lows cs) (highs cs)) = (A ++ c :: B).map (tg (lows cs) (highs cs)) from congrArg (List.map _) e]
        rw [List.map_append, List.map_cons]
      rw [this, lows_app, lows_cons, List.map_append, lows_app]
      grind
    obtain ⟨a1, a2, _⟩ := tg2 (lows cs) (highs cs) c
    rw [eL']
    rcases r with z | z <;> grind
/-! ### one high moved up -/
theorem wide_nar {A B : List (Rat × Rat)} {c : Rat × Rat} (h : Ti (A ++ c :: B)) (he : c.2 = 1 - (lows (A ++ c :: B) - c.1)) : nar (A ++ (c.1, c.2 + 1 / 3) :: B) = some (A ++ c :: B) := by
  have hc := h.le c (by simp)
  have cA : A.map clip = A := map_eq_self _ _ fun b hb => clip_self (h.le b (by simp [hb])).1 (h.le b (by simp [hb])).2.2
  have cB : B.map clip = B := map_eq_self _ _ fun b hb => clip_self (h.le b (by simp [hb])).1 (h.le b (by simp [hb])).2.2
  obtain ⟨d, hd, hd0⟩ : ∃ d, clip (c.1, c.2 + 1 / 3) = (c.1, c.2 + d) ∧ 0 ≤ d := by
    unfold clip
    dsimp only
    rw [if_pos hc.1]
    split
    · exact ⟨1 - c.2, by congr 1; grind, by grind⟩
    · exact ⟨1 / 3, rfl, by grind⟩
  have e1 : (A ++ (c.1, c.2 + 1 / 3) :: B).map clip = A ++ (c.1, c.2 + d) :: B := by rw [List.map_append, List.map_cons, cA, cB, hd]
  have eL : lows (A ++ (c.1, c.2 + d) :: B) = lows (A ++ c :: B) := by rw [lows_app, lows_app, lows_cons, lows_cons]
  have eU : highs (A ++ (c.1, c.2 + d) :: B) = highs (A ++ c :: B) + d := by rw [highs_app, highs_app, highs_cons, highs_cons]; grind
  have k : crossed (A ++ (c.1, c.2 + d) :: B) = false := by
    unfold crossed
    rw [eL, eU, not_lt_dec h.low, not_lt_dec (by have := h.high; grind), any_false fun b hb => ?_]
    · rfl
    · rcases List.mem_append.mp hb with z | z
      · exact not_lt_dec (h.le b (by simp [z])).2.1
      · rcases List.mem_cons.mp z with z | z
        · rw [z]; exact not_lt_dec (by dsimp only; grind)
        · exact not_lt_dec (h.le b (by simp [z])).2.1
  unfold nar
  rw [e1, k, eL, eU]
  have tA : ∀ b ∈ A ++ c :: B, tg (lows (A ++ c :: B)) (highs (A ++ c :: B) + d) b = b := fun b hb => tg_self (by have := h.t1 b hb; grind) (h.t2 b hb)
  have tc : tg (lows (A ++ c :: B)) (highs (A ++ c :: B) + d) (c.1, c.2 + d) = c := by
    unfold tg
    dsimp only
    have t1 := h.t1 c (by simp)
    rw [if_neg (Rat.not_lt.mpr (by grind)), ← he]
    split
    · rfl
    · rename_i hn
      have := Rat.not_lt.mp hn
      exact Prod.ext rfl (by dsimp only; grind)
  rw [List.map_append, List.map_cons, tc, map_eq_self _ A fun b hb => tA b (by simp [hb]), map_eq_self _ B fun b hb => tA b (by simp [hb])]
  rfl
theorem nar_none1 (n : Nat) (h2 : 2 ≤ n) (h6 : n ≤ 6) : nar (List.replicate n (0, 1 / 9)) = none := by
  have : n = 2 ∨ n = 3 ∨ n = 4 ∨ n = 5 ∨ n = 6 := by omega
  have k : ∀ l : List (Rat × Rat), crossed (l.map clip) = true → nar l = none := fun l h => by unfold nar; rw [h]; rfl
  rcases this with z | z | z | z | z <;> (subst z; exact k _ (by decide +kernel))
theorem nar_none2 (n : Nat) (h2 : 2 ≤ n) (h6 : n ≤ 6) : nar (List.replicate n (9 / 10, 1)) = none := by
  have : n = 2 ∨ n = 3 ∨ n = 4 ∨ n = 5 ∨ n = 6 := by omega
  have k : ∀ l : List (Rat × Rat), crossed (l.map clip) = true → nar l = none := fun l h => by unfold nar; rw [h]; rfl
  rcases this with z | z | z | z | z <;> (subst z; exact k _ (by decide +kernel))
end K47
set_option linter.all false
set_option maxRecDepth 100000
namespace K47
open DL
/-! ## The plain law: corners -/
structure Fe (bs : List (Rat × Rat)) (x : List Rat) : Prop where
  len : x.length = bs.length
  win : ∀ q ∈ x.zip bs, q.2.1 ≤ q.1 ∧ q.1 ≤ q.2.2
  one : x.sum = 1
theorem withinB_iff {bs : List (Rat × Rat)} {x : List Rat} : withinB bs x = true ↔ ∀ q ∈ x.zip bs, q.2.1 ≤ q.1 ∧ q.1 ≤ q.2.2 := by
  unfold withinB
  rw [Bool.not_eq_true', List.any_eq_false]
  constructor
  · intro h q hq
    have := h q hq
    simp only [Bool.or_eq_true, decide_eq_true_eq, not_or] at this
    exact ⟨Rat.not_lt.mp this.1, Rat.not_lt.mp this.2⟩
  · intro h q hq
    obtain ⟨a, b⟩ := h q hq
    simp only [Bool.or_eq_true, decide_eq_true_eq, not_or]
    exact ⟨Rat.not_lt.mpr a, Rat.not_lt.mpr b⟩
def RowOk (f : Nat) : List ((Rat × Rat) × Nat) → List Rat → Prop
  | [], r => r = []
  | q :: l, r => ∃ o r', r = o :: r' ∧ o ∈ opts f q.2 q.1 ∧ RowOk f l r'
theorem rows_iff (f : Nat) : ∀ (l : List ((Rat × Rat) × Nat)) (rows : List (List Rat)) (r : List Rat), r ∈ l.foldl (stepR f) rows ↔ ∃ r0 ∈ rows, ∃ r1, r = r0 ++ r1 ∧ RowOk f l r1
  | [], rows, r => by
    constructor
    · intro h; exact ⟨r, h, [], by simp, rfl⟩
    · rintro ⟨r0, h, r1, e, rfl⟩; rw [e, List.append_nil]; exact h
  | q :: l, rows, r => by
    rw [List.foldl_cons, rows_iff f l (stepR f rows q) r]
    constructor
    · rintro ⟨r0, h0, r1, e, h1⟩
      unfold stepR at h0
      obtain ⟨a, ha, h2⟩ := List.mem_flatMap.mp h0
      obtain ⟨o, ho, rfl⟩ := List.mem_map.mp h2
      exact ⟨a, ha, o :: r1, by rw [e]; simp, o, r1, rfl, ho, h1⟩
    · rintro ⟨a, ha, r1, e, o, r', rfl, ho, h1⟩
      exact ⟨a ++ [o], by unfold stepR; exact List.mem_flatMap.mpr ⟨a, ha, List.mem_map.mpr ⟨o, ho, rfl⟩⟩, r', by rw [e]; simp, h1⟩
theorem rowsT_iff {f : Nat} {l : List ((Rat × Rat) × Nat)} {r : List Rat} : r ∈ rowsT f l ↔ RowOk f l r := by
  unfold rowsT
  rw [rows_iff]
  constructor
  · rintro ⟨r0, h, r1, e, h1⟩
    have : r0 = [] := by simpa using h
    rw [e, this, List.nil_append]; exact h1
  · intro h; exact ⟨[], by simp, r, by simp, h⟩
theorem zi_cons (b : Rat × Rat) (bs : List (Rat × Rat)) (k : Nat) : (b :: bs).zipIdx k = (b, k) :: bs.zipIdx (k + 1) := by rw [List.zipIdx_cons]
theorem row_zero (f : Nat) : ∀ (bs : List (Rat × Rat)) (k : Nat) (r : List Rat), RowOk f (bs.zipIdx k) r → k ≤ f → f < k + bs.length → ∃ T D, r = T ++ 0 :: D ∧ T.length = f - k
  | [], k, r, _, h1, h2 => by simp at h2; omega
  | b :: bs, k, r, h, h1, h2 => by
    rw [zi_cons] at h
    obtain ⟨o, r', rfl, ho, hr⟩ := h
    by_cases e : k = f
    · subst e
      unfold opts at ho
      rw [if_pos rfl] at ho
      have : o = 0 := by simpa using ho
      exact ⟨[], r', by rw [this]; rfl, by simp⟩
    · obtain ⟨T, D, rfl, hT⟩ := row_zero f bs (k + 1) r' hr (by omega) (by rw [List.length_cons] at h2; omega)
      exact ⟨o :: T, D, rfl, by rw [List.length_cons]; omega⟩
theorem sum_app : ∀ (a b : List Rat), (a ++ b).sum = a.sum + b.sum
  | [], b => by simp [Rat.zero_add]
  | x :: a, b => by rw [List.cons_append, List.sum_cons, List.sum_cons, sum_app a b, Rat.add_assoc]
theorem cand_one {f : Nat} {bs : List (Rat × Rat)} {r : List Rat} (h : RowOk f (bs.zipIdx 0) r) (hf : f < bs.length) : (cand f r).sum = 1 ∧ (cand f r).length = r.length := by
  obtain ⟨T, D, rfl, hT⟩ := row_zero f bs 0 r h (by omega) (by omega)
  have hT' : f = T.length := by omega
  subst hT'
  unfold cand
  rw [List.take_left' rfl]
  have hd : (T ++ 0 :: D).drop (T.length + 1) = D := by
    rw [← List.drop_drop, List.drop_left' rfl]
    rfl
  rw [hd, sum_app, List.sum_cons, sum_app, List.sum_cons]
  exact ⟨by grind, by simp⟩
theorem addC_mem {bs : List (Rat × Rat)} {f : Nat} {found : List (List Rat)} {row x : List Rat} : x ∈ addC bs f found row ↔ x ∈ found ∨ (x = cand f row ∧ withinB bs (cand f row) = true) := by
  unfold addC
  constructor
  · intro h
    split at h
    · rename_i hc
      rcases List.mem_append.mp h with z | z
      · exact .inl z
      · exact .inr ⟨by simpa using z, hc.1⟩
    · exact .inl h
  · rintro (h | ⟨rfl, hw⟩)
    · split
      · exact List.mem_append_left _ h
      · exact h
    · cases a : found.any (fun y => decide (y = cand f row)) with
      | true =>
        rw [if_neg (by simp)]
        obtain ⟨y, hy, e⟩ := List.any_eq_true.mp a
        have : y = cand f row := by simpa using e
        exact this ▸ hy
      | false =>
        rw [if_pos ⟨hw, rfl⟩]
        simp
theorem addCs_mem {bs : List (Rat × Rat)} {f : Nat} {x : List Rat} : ∀ {rows found : List (List Rat)}, x ∈ rows.foldl (addC bs f) found ↔ x ∈ found ∨ ∃ row ∈ rows, x = cand f row ∧ withinB bs x = true
  | [], found => by simp
  | r :: rows, found => by
    rw [List.foldl_cons, addCs_mem, addC_mem]
    constructor
    · rintro ((h | ⟨rfl, h⟩) | ⟨row, h1, h2⟩)
      · exact .inl h
      · exact .inr ⟨r, by simp, rfl, h⟩
      · exact .inr ⟨row, by simp [h1], h2⟩
    · rintro (h | ⟨row, h1, rfl, h2⟩)
      · exact .inl (.inl h)
      · rcases List.mem_cons.mp h1 with z | z
        · subst z; exact .inl (.inr ⟨rfl, h2⟩)
        · exact .inr ⟨row, z, rfl, h2⟩
theorem forCs_mem {bs : List (Rat × Rat)} {x : List Rat} : ∀ {fs : List Nat} {found : List (List Rat)}, x ∈ fs.foldl (forC bs) found ↔ x ∈ found ∨ ∃ f ∈ fs, ∃ row, RowOk f (bs.zipIdx 0) row ∧ x = cand f row ∧ withinB bs x = true
  | [], found => by simp
  | f :: fs, found => by
    rw [List.foldl_cons, forCs_mem]
    unfold forC
    rw [addCs_mem]
    constructor
    · rintro ((h | ⟨row, h1, h2⟩) | ⟨g, h1, row, h2⟩)
      · exact .inl h
      · exact .inr ⟨f, by simp, row, rowsT_iff.mp h1, h2⟩
      · exact .inr ⟨g, by simp [h1], row, h2⟩
    · rintro (h | ⟨g, h1, row, h2, h3⟩)
      · exact .inl (.inl h)
      · rcases List.mem_cons.mp h1 with z | z
        · subst z; exact .inl (.inr ⟨row, rowsT_iff.mpr h2, h3⟩)
        · exact .inr ⟨g, z, row, h2, h3⟩
theorem corners_iff {bs : List (Rat × Rat)} {x : List Rat} : x ∈ cornersL bs ↔ ∃ f < bs.length, ∃ row, RowOk f (bs.zipIdx 0) row ∧ x = cand f row ∧ withinB bs x = true := by
  unfold cornersL
  rw [forCs_mem]
  constructor
  · rintro (h | ⟨f, h1, h2⟩)
    · cases h
    · exact ⟨f, List.mem_range.mp h1, h2⟩
  · rintro ⟨f, h1, h2⟩
    exact .inr ⟨f, List.mem_range.mpr h1, h2⟩
theorem rowOk_len {f : Nat} : ∀ {l : List ((Rat × Rat) × Nat)} {r : List Rat}, RowOk f l r → r.length = l.length
  | [], r, h => by rw [show r = [] from h]; rfl
  | q :: l, r, h => by
    obtain ⟨o, r', rfl, _, hr⟩ := h
    rw [List.length_cons, List.length_cons, rowOk_len hr]
theorem corner_fe {bs : List (Rat × Rat)} {x : List Rat} (h : x ∈ cornersL bs) : Fe bs x := by
  obtain ⟨f, hf, row, hr, rfl, hw⟩ := corners_iff.mp h
  obtain ⟨h1, h2⟩ := cand_one hr hf
  refine ⟨?_, withinB_iff.mp hw, h1⟩
  rw [h2, rowOk_len hr, List.length_zipIdx]
theorem corner_lt {M : Nat} {bs : List (Rat × Rat)} (hb : LtB M 1 bs) (h01 : ∀ b ∈ bs, 0 ≤ b.1 ∧ b.2 ≤ 1) {x : List Rat} (h : x ∈ cornersL bs) : ∀ y ∈ x, Lt M 1 y ∧ 0 ≤ y := by
  have fe := corner_fe h
  obtain ⟨f, hf, row, hr, rfl, hw⟩ := corners_iff.mp h
  have hrow := row_lt f (bs.zipIdx 0) (zipIdx_lt hb) row (rowsT_iff.mpr hr)
  intro y hy
  obtain ⟨i, hi, e⟩ := List.getElem_of_mem hy
  have hz : ((cand f row)[i], bs[i]'(by have := fe.len; omega)) ∈ (cand f row).zip bs := by
    rw [List.mem_iff_getElem]
    exact ⟨i, by rw [List.length_zip]; have := fe.len; omega, by rw [List.getElem_zip]⟩
  have hwi := fe.win _ hz
  have hbi := h01 _ (List.getElem_mem (by have := fe.len; omega : i < bs.length))
  rw [e] at hwi
  dsimp only at hwi
  have y0 : 0 ≤ y := Rat.le_trans hbi.1 hwi.1
  have y1 : y ≤ 1 := Rat.le_trans hwi.2 hbi.2
  have hl : ∃ B, Lt M B y := by
    unfold cand at hy
    rcases List.mem_append.mp hy with z | z
    · exact ⟨1, hrow y (List.mem_of_mem_take z)⟩
    · rcases List.mem_cons.mp z with z | z
      · exact ⟨_, z ▸ (lt_one (M := M) (B := 1) (by omega)).sub (sum_lt hrow)⟩
      · exact ⟨1, hrow y (List.mem_of_mem_drop z)⟩
  obtain ⟨B, hB⟩ := hl
  exact ⟨hB.in01 y0 y1, y0⟩
/-! ### which are found -/
def CnOk (f : Nat) : Nat → List (Rat × Rat) → List Rat → Prop
  | _, [], x => x = []
  | k, b :: bs, x => ∃ o r, x = o :: r ∧ (k = f ∨ o = b.1 ∨ o = b.2) ∧ CnOk f (k + 1) bs r
def zf (f : Nat) : Nat → List Rat → List Rat
  | _, [] => []
  | k, o :: r => (if k = f then 0 else o) :: zf f (k + 1) r
theorem zf_row (f : Nat) : ∀ (bs : List (Rat × Rat)) (k : Nat) (x : List Rat), CnOk f k bs x → RowOk f (bs.zipIdx k) (zf f k x)
  | [], k, x, h => by rw [show x = [] from h]; rfl
  | b :: bs, k, x, h => by
    obtain ⟨o, r, rfl, ho, hr⟩ := h
    rw [zi_cons]
    refine ⟨_, _, rfl, ?_, zf_row f bs (k + 1) r hr⟩
    unfold opts
    by_cases e : k = f
    · rw [if_pos e, if_pos e]; simp
    · rw [if_neg e, if_neg e]
      rcases ho with z | z | z
      · exact absurd z e
      · split
        · simp [z]
        · simp [z]
      · split
        · rename_i e2
          have e3 : b.1 = b.2 := e2
          simp [z, e3]
        · simp [z]
theorem zf_past (f : Nat) : ∀ (x : List Rat) (k : Nat), f < k → zf f k x = x
  | [], _, _ => rfl
  | o :: r, k, h => by
    unfold zf
    rw [if_neg (by omega), zf_past f r (k + 1) (by omega)]
theorem zf_split (f : Nat) : ∀ (x : List Rat) (k : Nat), k ≤ f → f < k + x.length → ∃ T o D, x = T ++ o :: D ∧ T.length = f - k ∧ zf f k x = T ++ 0 :: D
  | [], k, h1, h2 => by simp at h2; omega
  | o :: r, k, h1, h2 => by
    by_cases e : k = f
    · subst e
      refine ⟨[], o, r, rfl, by simp, ?_⟩
      unfold zf
      rw [if_pos rfl, zf_past k r (k + 1) (by omega)]
      rfl
    · obtain ⟨T, o', D, e1, e2, e3⟩ := zf_split f r (k + 1) (by omega) (by rw [List.length_cons] at h2; omega)
      refine ⟨o :: T, o', D, by rw [e1]; rfl, by rw [List.length_cons]; omega, ?_⟩
      unfold zf
      rw [if_neg e, e3]
      rfl
theorem cand_zf {f : Nat} {x : List Rat} (hf : f < x.length) (hs : x.sum = 1) : cand f (zf f 0 x) = x := by
  obtain ⟨T, o, D, e1, e2, e3⟩ := zf_split f x 0 (by omega) (by omega)
  have hT' : f = T.length := by omega
  rw [e3]
  subst hT'
  unfold cand
  rw [List.take_left' rfl]
  have hd : (T ++ 0 :: D).drop (T.length + 1) = D := by
    rw [← List.drop_drop, List.drop_left' rfl]
    rfl
  rw [hd, e1]
  have : 1 - (T ++ 0 :: D).sum = o := by
    rw [e1, sum_app, List.sum_cons] at hs
    rw [sum_app, List.sum_cons]
    grind
  rw [this]
theorem found_of {f : Nat} {bs : List (Rat × Rat)} {x : List Rat} (hx : Fe bs x) (hf : f < bs.length) (hc : CnOk f 0 bs x) : x ∈ cornersL bs :=
  corners_iff.mpr ⟨f, hf, zf f 0 x, zf_row f bs 0 x hc, (cand_zf (by rw [hx.len]; exact hf) hx.one).symm, withinB_iff.mpr hx.win⟩
end K47
set_option linter.all false
set_option maxRecDepth 100000
namespace K47
open DL
/-! ## The plain law: the greedy sum is the greatest -/
def sm (S : List Nat) (f : Nat → Rat) : Rat := (S.map f).sum
theorem sm_nil (f : Nat → Rat) : sm [] f = 0 := rfl
theorem sm_cons (j : Nat) (S : List Nat) (f : Nat → Rat) : sm (j :: S) f = f j + sm S f := by unfold sm; rw [List.map_cons, List.sum_cons]
theorem sm_erase (f : Nat → Rat) : ∀ (S : List Nat) (i m : Nat), S[i]? = some m → sm S f = f m + sm (S.eraseIdx i) f
  | [], i, m, h => by simp at h
  | j :: S, 0, m, h => by
    have : j = m := by simpa using h
    subst this
    rw [sm_cons]
    rfl
  | j :: S, i + 1, m, h => by
    have ih := sm_erase f S i m (by simpa using h)
    rw [List.eraseIdx_cons_succ, sm_cons, sm_cons, ih]
    grind
theorem sm_congr {f g : Nat → Rat} : ∀ {S : List Nat}, (∀ j ∈ S, f j = g j) → sm S f = sm S g
  | [], _ => rfl
  | j :: S, h => by rw [sm_cons, sm_cons, h j List.mem_cons_self, sm_congr fun i hi => h i (List.mem_cons_of_mem _ hi)]
theorem sm_add (f g : Nat → Rat) : ∀ (S : List Nat), sm S (fun j => f j + g j) = sm S f + sm S g
  | [] => by simp [sm_nil, Rat.add_zero]
  | j :: S => by rw [sm_cons, sm_cons, sm_cons, sm_add f g S]; grind
theorem sm_mul (c : Rat) (f : Nat → Rat) : ∀ (S : List Nat), sm S (fun j => c * f j) = c * sm S f
  | [] => by simp [sm_nil]
  | j :: S => by rw [sm_cons, sm_cons, sm_mul c f S, Rat.mul_add]
theorem sm_nonneg {f : Nat → Rat} : ∀ {S : List Nat}, (∀ j ∈ S, 0 ≤ f j) → 0 ≤ sm S f
  | [], _ => by rw [sm_nil]; exact Rat.le_refl
  | j :: S, h => by
    rw [sm_cons]
    exact Rat.add_nonneg (h j List.mem_cons_self) (sm_nonneg fun i hi => h i (List.mem_cons_of_mem _ hi))
theorem sm_zero {f : Nat → Rat} : ∀ {S : List Nat}, (∀ j ∈ S, 0 ≤ f j) → sm S f ≤ 0 → ∀ j ∈ S, f j = 0
  | [], _, _ => fun j h => nomatch h
  | i :: S, h, hs => by
    rw [sm_cons] at hs
    have h1 := h i List.mem_cons_self
    have h2 := sm_nonneg (f := f) (S := S) fun j hj => h j (List.mem_cons_of_mem _ hj)
    intro j hj
    rcases List.mem_cons.mp hj with z | z
    · rw [z]; grind
    · exact sm_zero (fun j hj => h j (List.mem_cons_of_mem _ hj)) (by grind) j z
theorem nodup_erase : ∀ (S : List Nat) (i m : Nat), S.Nodup → S[i]? = some m → (S.eraseIdx i).Nodup ∧ m ∉ S.eraseIdx i ∧ ∀ j, j ∈ S ↔ j = m ∨ j ∈ S.eraseIdx i
  | [], i, m, _, h => by simp at h
  | k :: S, 0, m, nd, h => by
    have : k = m := by simpa using h
    subst this
    rw [List.nodup_cons] at nd
    exact ⟨nd.2, nd.1, fun j => List.mem_cons⟩
  | k :: S, i + 1, m, nd, h => by
    rw [List.nodup_cons] at nd
    have hm : S[i]? = some m := by simpa using h
    obtain ⟨h1, h2, h3⟩ := nodup_erase S i m nd.2 hm
    rw [List.eraseIdx_cons_succ]
    refine ⟨List.nodup_cons.mpr ⟨fun z => nd.1 ((h3 k).mpr (.inr z)), h1⟩, fun z => ?_, fun j => ?_⟩
    · rcases List.mem_cons.mp z with w | w
      · exact nd.1 (w ▸ List.mem_of_getElem? hm)
      · exact h2 w
    · rw [List.mem_cons, List.mem_cons, h3 j]
      constructor
      · rintro (z | z | z); exact .inr (.inl z); exact .inl z; exact .inr (.inr z)
      · rintro (z | z | z); exact .inr (.inl z); exact .inl z; exact .inr (.inr z)
theorem amx_ge (ns : List Rat) : ∀ (S : List Nat) (m : Nat), av ns m ≤ av ns (amx ns S m) ∧ ∀ j ∈ S, av ns j ≤ av ns (amx ns S m)
  | [], m => ⟨Rat.le_refl, fun _ h => nomatch h⟩
  | i :: S, m => by
    have e : amx ns (i :: S) m = amx ns S (if av ns m < av ns i then i else m) := rfl
    rw [e]
    obtain ⟨h1, h2⟩ := amx_ge ns S (if av ns m < av ns i then i else m)
    refine ⟨?_, fun j hj => ?_⟩
    · refine Rat.le_trans ?_ h1
      split
      · rename_i h; exact Rat.le_of_lt h
      · exact Rat.le_refl
    · rcases List.mem_cons.mp hj with z | z
      · rw [z]
        refine Rat.le_trans ?_ h1
        split
        · exact Rat.le_refl
        · rename_i h; exact Rat.not_lt.mp h
      · exact h2 j z
def room (bs : List (Rat × Rat)) (j : Nat) : Rat := (bv bs j).2 - (bv bs j).1
def itg (bs : List (Rat × Rat)) (ns : List Rat) : Nat → GS → GS
  | 0, g => g
  | k + 1, g => itg bs ns k (gst bs ns g)
theorem foldl_itg (bs : List (Rat × Rat)) (ns : List Rat) : ∀ (l : List Nat) (g : GS), l.foldl (fun g _ => gst bs ns g) g = itg bs ns l.length g
  | [], g => rfl
  | x :: l, g => by rw [List.foldl_cons, foldl_itg bs ns l (gst bs ns g), List.length_cons]; rfl
/-- the greedy shares -/
theorem greedy (bs : List (Rat × Rat)) (ns : List Rat) : ∀ (k : Nat) (g : GS), g.S.length = k → g.S.Nodup → (∀ j ∈ g.S, 0 ≤ room bs j) → 0 ≤ g.left → g.left ≤ sm g.S (room bs) →
    ∃ d : Nat → Rat, (∀ j ∈ g.S, 0 ≤ d j ∧ d j ≤ room bs j) ∧ sm g.S d = g.left ∧ (itg bs ns k g).total = g.total + sm g.S (fun j => d j * av ns j) ∧
      (g.S ≠ [] → ∃ f ∈ g.S, ∀ j ∈ g.S, j = f ∨ (d j = room bs j ∧ av ns f ≤ av ns j) ∨ (d j = 0 ∧ av ns j ≤ av ns f))
  | 0, g, hk, nd, hr, h0, h1 => by
    have e : g.S = [] := List.eq_nil_of_length_eq_zero hk
    rw [e, sm_nil] at h1
    refine ⟨fun _ => 0, by rw [e]; exact fun j h => (nomatch h), by rw [e, sm_nil]; grind, by rw [e, sm_nil]; show g.total = _; grind, fun h => absurd e h⟩
  | k + 1, g, hk, nd, hr, h0, h1 => by
    have hne : g.S ≠ [] := fun e => by rw [e] at hk; simp at hk
    have hm := amx_head ns hne
    have hge := (amx_ge ns g.S (g.S.headD 0)).2
    have eg : gst bs ns g = ⟨rem g.S (amx ns g.S (g.S.headD 0)), g.left - more bs (amx ns g.S (g.S.headD 0)) g.left, g.total + more bs (amx ns g.S (g.S.headD 0)) g.left * av ns (amx ns g.S (g.S.headD 0))⟩ := rfl
    generalize amx ns g.S (g.S.headD 0) = m at *
    obtain ⟨i, i1, i2, i3, i4⟩ := rem_find hm
    obtain ⟨n1, n2, n3⟩ := nodup_erase g.S i m nd i4
    have sR := sm_erase (room bs) g.S i m i4
    have rm := hr m hm
    have hS' : ∀ j ∈ g.S.eraseIdx i, j ∈ g.S := fun j hj => (n3 j).mpr (.inr hj)
    have hl' : (g.S.eraseIdx i).length = k := by rw [List.length_eraseIdx, if_pos i2, hk]; rfl
    show ∃ d : Nat → Rat, (∀ j ∈ g.S, 0 ≤ d j ∧ d j ≤ room bs j) ∧ sm g.S d = g.left ∧ (itg bs ns k (gst bs ns g)).total = g.total + sm g.S (fun j => d j * av ns j) ∧ (g.S ≠ [] → ∃ f ∈ g.S, ∀ j ∈ g.S, j = f ∨ (d j = room bs j ∧ av ns f ≤ av ns j) ∨ (d j = 0 ∧ av ns j ≤ av ns f))
    rw [eg, i3]
    have hmore : more bs m g.left = (if room bs m < g.left then room bs m else g.left) := rfl
    -- the shares with m's put in
    have key : ∀ (c : Rat) (d' : Nat → Rat), sm g.S (fun j => if j = m then c else d' j) = c + sm (g.S.eraseIdx i) d' ∧ sm g.S (fun j => (if j = m then c else d' j) * av ns j) = c * av ns m + sm (g.S.eraseIdx i) (fun j => d' j * av ns j) := by
      intro c d'
      have ne : ∀ j ∈ g.S.eraseIdx i, j ≠ m := fun j hj z => n2 (z ▸ hj)
      refine ⟨?_, ?_⟩
      · rw [sm_erase _ g.S i m i4, if_pos rfl]
        congr 1
        exact sm_congr fun j hj => if_neg (ne j hj)
      · rw [sm_erase _ g.S i m i4, if_pos rfl]
        congr 1
        exact sm_congr fun j hj => by rw [if_neg (ne j hj)]
    by_cases c : room bs m < g.left
    · rw [hmore, if_pos c]
      obtain ⟨d', a1, a2, a3, a4⟩ := greedy bs ns k ⟨g.S.eraseIdx i, g.left - room bs m, g.total + room bs m * av ns m⟩ hl' n1 (fun j hj => hr j (hS' j hj)) (by show 0 ≤ g.left - room bs m; grind) (by show g.left - room bs m ≤ sm (g.S.eraseIdx i) (room bs); grind)
      obtain ⟨k1, k2⟩ := key (room bs m) d'
      refine ⟨fun j => if j = m then room bs m else d' j, fun j hj => ?_, ?_, ?_, fun _ => ?_⟩
      · dsimp only
        split
        · rename_i e; rw [e]; exact ⟨rm, Rat.le_refl⟩
        · rename_i e; exact a1 j (((n3 j).mp hj).resolve_left e)
      · rw [k1, a2]; show room bs m + (g.left - room bs m) = g.left; grind
      · rw [k2, a3]; show g.total + room bs m * av ns m + _ = _; grind
      · have hne' : g.S.eraseIdx i ≠ [] := fun e => by
          rw [e, sm_nil] at sR
          grind
        obtain ⟨f, hf, hff⟩ := a4 hne'
        refine ⟨f, hS' f hf, fun j hj => ?_⟩
        rcases (n3 j).mp hj with z | z
        · right; left
          dsimp only
          rw [if_pos z, z]
          exact ⟨rfl, hge f (hS' f hf)⟩
        · have e : j ≠ m := fun e => n2 (e ▸ z)
          dsimp only
          rw [if_neg e]
          exact hff j z
    · rw [hmore, if_neg c]
      have c' := Rat.not_lt.mp c
      obtain ⟨d', a1, a2, a3, a4⟩ := greedy bs ns k ⟨g.S.eraseIdx i, g.left - g.left, g.total + g.left * av ns m⟩ hl' n1 (fun j hj => hr j (hS' j hj)) (by show 0 ≤ g.left - g.left; grind) (by
        show g.left - g.left ≤ sm (g.S.eraseIdx i) (room bs)
        have := sm_nonneg (f := room bs) (S := g.S.eraseIdx i) fun j hj => hr j (hS' j hj)
        grind)
      have z0 := sm_zero (f := d') (S := g.S.eraseIdx i) (fun j hj => (a1 j hj).1) (by rw [a2]; show g.left - g.left ≤ 0; grind)
      obtain ⟨k1, k2⟩ := key g.left d'
      refine ⟨fun j => if j = m then g.left else d' j, fun j hj => ?_, ?_, ?_, fun _ => ⟨m, hm, fun j hj => ?_⟩⟩
      · dsimp only
        split
        · rename_i e; rw [e]; exact ⟨h0, c'⟩
        · rename_i e; exact a1 j (((n3 j).mp hj).resolve_left e)
      · rw [k1, a2]; show g.left + (g.left - g.left) = g.left; grind
      · rw [k2, a3]; show g.total + g.left * av ns m + _ = _; grind
      · rcases (n3 j).mp hj with z | z
        · exact .inl z
        · right; right
          dsimp only
          rw [if_neg (fun e : j = m => n2 (e ▸ z))]
          exact ⟨z0 j z, hge j hj⟩
/-- .. no other shares give more -/
theorem greedy_best {S : List Nat} {d e a : Nat → Rat} {r : Nat → Rat} {f : Nat} (hf : ∀ j ∈ S, j = f ∨ (d j = r j ∧ a f ≤ a j) ∨ (d j = 0 ∧ a j ≤ a f)) (he : ∀ j ∈ S, 0 ≤ e j ∧ e j ≤ r j) (hs : sm S d = sm S e) : sm S (fun j => e j * a j) ≤ sm S (fun j => d j * a j) := by
  have h1 : 0 ≤ sm S (fun j => (d j + -1 * e j) * (a j - a f)) := sm_nonneg fun j hj => by
    obtain ⟨e1, e2⟩ := he j hj
    rcases hf j hj with z | ⟨z, w⟩ | ⟨z, w⟩
    · rw [z]
      have : a f - a f = 0 := by grind
      rw [this, Rat.mul_zero]
      exact Rat.le_refl
    · exact Rat.mul_nonneg (by grind) (by grind)
    · have : (d j + -1 * e j) * (a j - a f) = e j * (a f - a j) := by rw [z]; grind
      rw [this]
      exact Rat.mul_nonneg e1 (by grind)
  have h2 : sm S (fun j => (d j + -1 * e j) * (a j - a f)) = sm S (fun j => d j * a j) + (-1 * sm S (fun j => e j * a j)) + (-(a f)) * (sm S d + -1 * sm S e) := by
    have q1 : sm S (fun j => (d j + -1 * e j) * (a j - a f)) = sm S (fun j => (d j * a j + -1 * (e j * a j)) + (-(a f)) * (d j + -1 * e j)) := sm_congr fun j _ => by grind
    rw [q1, sm_add, sm_add, sm_mul, sm_mul, sm_add, sm_mul]
  rw [h2, hs] at h1
  grind
end K47
set_option linter.all false
set_option maxRecDepth 100000
namespace K47
open DL
/-! ## The plain law: the best corner -/
theorem range_av (xs : List Rat) : xs = (List.range xs.length).map (av xs) := by
  apply List.ext_getElem
  · simp
  · intro i h1 h2
    rw [List.getElem_map, List.getElem_range]
    unfold av
    rw [List.getElem?_eq_getElem h1]
    rfl
theorem range_bv (bs : List (Rat × Rat)) : bs = (List.range bs.length).map (bv bs) := by
  apply List.ext_getElem
  · simp
  · intro i h1 h2
    rw [List.getElem_map, List.getElem_range]
    unfold bv
    rw [List.getElem?_eq_getElem h1]
    rfl
theorem sum_sm (xs : List Rat) : xs.sum = sm (List.range xs.length) (av xs) := by
  unfold sm
  rw [← range_av xs]
theorem map_sum_sm (n : Nat) (f : Nat → Rat) : ((List.range n).map f).sum = sm (List.range n) f := rfl
theorem lows_sm (bs : List (Rat × Rat)) : lows bs = sm (List.range bs.length) fun j => (bv bs j).1 := by
  unfold lows
  conv => lhs; rw [range_bv bs]
  rw [List.map_map]
  rfl
theorem highs_sm (bs : List (Rat × Rat)) : highs bs = sm (List.range bs.length) fun j => (bv bs j).2 := by
  unfold highs
  conv => lhs; rw [range_bv bs]
  rw [List.map_map]
  rfl
theorem zip_range {α β : Type} (n : Nat) (f : Nat → α) (g : Nat → β) : ((List.range n).map f).zip ((List.range n).map g) = (List.range n).map fun j => (f j, g j) := by
  rw [List.zip_map', ]
theorem dot_sm {xs ns : List Rat} (h : ns.length = xs.length) : dot xs ns = sm (List.range xs.length) fun j => av xs j * av ns j := by
  unfold dot
  conv => lhs; rw [range_av xs, range_av ns, h]
  rw [zip_range, List.map_map]
  rfl
theorem ini_sm {bs : List (Rat × Rat)} {ns : List Rat} (h : ns.length = bs.length) : ((bs.zip ns).map fun p => p.1.1 * p.2).sum = sm (List.range bs.length) fun j => (bv bs j).1 * av ns j := by
  conv => lhs; rw [range_bv bs, range_av ns, h]
  rw [zip_range, List.map_map]
  rfl
theorem Fe.at {bs : List (Rat × Rat)} {x : List Rat} (h : Fe bs x) {j : Nat} (hj : j < bs.length) : (bv bs j).1 ≤ av x j ∧ av x j ≤ (bv bs j).2 := by
  have hx : j < x.length := by rw [h.len]; exact hj
  have := h.win (x[j], bs[j]) (by
    rw [List.mem_iff_getElem]
    exact ⟨j, by rw [List.length_zip]; omega, by rw [List.getElem_zip]⟩)
  unfold bv av
  rw [List.getElem?_eq_getElem hj, List.getElem?_eq_getElem hx]
  exact this
theorem cn_of (f : Nat) (x : Nat → Rat) : ∀ (bs : List (Rat × Rat)) (k : Nat), (∀ i, i < bs.length → k + i = f ∨ x (k + i) = (bv bs i).1 ∨ x (k + i) = (bv bs i).2) → CnOk f k bs ((List.range bs.length).map fun i => x (k + i))
  | [], k, _ => rfl
  | b :: bs, k, h => by
    rw [List.length_cons, List.range_succ_eq_map, List.map_cons, List.map_map]
    refine ⟨_, _, rfl, h 0 (by simp), ?_⟩
    have := cn_of f x bs (k + 1) fun i hi => by
      have := h (i + 1) (by simpa using hi)
      rw [show k + (i + 1) = k + 1 + i by omega] at this
      exact this
    have e : ((fun i => x (k + i)) ∘ Nat.succ) = fun i => x (k + 1 + i) := funext fun i => by
      show x (k + (i + 1)) = _
      rw [show k + (i + 1) = k + 1 + i by omega]
    rw [e]
    exact this
/-- the greedy run ends at a corner, and no law within the bounds gives more -/
theorem best_corner {bs : List (Rat × Rat)} {ns : List Rat} (h : Ti bs) (h1 : 1 ≤ bs.length) (hl : ns.length = bs.length) : (∃ x ∈ cornersL bs, dot x ns = bestV bs ns) ∧ ∀ y, Fe bs y → dot y ns ≤ bestV bs ns := by
  have hr : ∀ j ∈ List.range bs.length, 0 ≤ room bs j := fun j hj => by
    have := h.le _ (bv_mem (List.mem_range.mp hj))
    unfold room
    grind
  have eroom : sm (List.range bs.length) (room bs) = highs bs - lows bs := by
    have : sm (List.range bs.length) (room bs) = sm (List.range bs.length) (fun j => (bv bs j).2 + -1 * (bv bs j).1) := sm_congr fun j _ => by unfold room; grind
    rw [this, sm_add, sm_mul, ← highs_sm, ← lows_sm]
    grind
  obtain ⟨d, d1, d2, d3, d4⟩ := greedy bs ns ns.length (gini bs ns) (by show (List.range ns.length).length = _; simp) List.nodup_range (fun j hj => hr j (by rw [← hl]; exact hj)) (by show 0 ≤ 1 - lows bs; have := h.low; grind) (by
    show 1 - lows bs ≤ sm (List.range ns.length) (room bs)
    rw [hl, eroom]
    have := h.high
    grind)
  have eS : (gini bs ns).S = List.range bs.length := by show List.range ns.length = _; rw [hl]
  have eL : (gini bs ns).left = 1 - lows bs := rfl
  have eT : (gini bs ns).total = sm (List.range bs.length) fun j => (bv bs j).1 * av ns j := ini_sm hl
  rw [eS] at d1 d2 d3 d4
  rw [eL] at d2
  rw [eT] at d3
  have eV : bestV bs ns = sm (List.range bs.length) (fun j => ((bv bs j).1 + d j) * av ns j) := by
    unfold bestV
    rw [foldl_itg, List.length_range, d3, ← sm_add]
    exact sm_congr fun j _ => by grind
  obtain ⟨f, hf, hff⟩ := d4 (by intro e; have := congrArg List.length e; rw [List.length_range, List.length_nil] at this; omega)
  have hfn := List.mem_range.mp hf
  refine ⟨⟨(List.range bs.length).map fun j => (bv bs j).1 + d j, ?_, ?_⟩, fun y hy => ?_⟩
  · refine found_of (f := f) ⟨by simp, ?_, ?_⟩ hfn ?_
    · intro q hq
      have : ((List.range bs.length).map fun j => (bv bs j).1 + d j).zip bs = (List.range bs.length).map fun j => ((bv bs j).1 + d j, bv bs j) := by
        conv => lhs; rhs; rw [range_bv bs]
        exact zip_range _ _ _
      rw [this] at hq
      obtain ⟨j, hj, rfl⟩ := List.mem_map.mp hq
      have := d1 j hj
      unfold room at this
      dsimp only
      constructor <;> grind
    · rw [map_sum_sm, sm_add, ← lows_sm, d2]
      grind
    · have := cn_of f (fun j => (bv bs j).1 + d j) bs 0 fun i hi => by
        rw [Nat.zero_add]
        rcases hff i (List.mem_range.mpr hi) with z | ⟨z, _⟩ | ⟨z, _⟩
        · exact .inl z
        · right; right
          rw [z]; unfold room; grind
        · right; left
          rw [z]; grind
      have e : (fun i => (fun j => (bv bs j).1 + d j) (0 + i)) = fun j => (bv bs j).1 + d j := funext fun i => by rw [Nat.zero_add]
      rw [e] at this
      exact this
  · rw [eV, dot_sm (by simpa using hl)]
    rw [List.length_map, List.length_range]
    refine sm_congr fun j hj => ?_
    have hj' := List.mem_range.mp hj
    have : av ((List.range bs.length).map fun j => (bv bs j).1 + d j) j = (bv bs j).1 + d j := by
      unfold av
      rw [List.getElem?_map, List.getElem?_range hj']
      rfl
    rw [this]
  · have e1 : ∀ j ∈ List.range bs.length, 0 ≤ av y j + -1 * (bv bs j).1 ∧ av y j + -1 * (bv bs j).1 ≤ room bs j := fun j hj => by
      have := hy.at (List.mem_range.mp hj)
      unfold room
      constructor <;> grind
    have e2 : sm (List.range bs.length) d = sm (List.range bs.length) (fun j => av y j + -1 * (bv bs j).1) := by
      rw [d2, sm_add, sm_mul, ← lows_sm]
      have := sum_sm y
      rw [hy.one, hy.len] at this
      rw [← this]
      grind
    have k := greedy_best (a := av ns) hff e1 e2
    rw [eV, dot_sm (by rw [hy.len]; exact hl), hy.len]
    have q1 : sm (List.range bs.length) (fun j => ((bv bs j).1 + d j) * av ns j) = sm (List.range bs.length) (fun j => (bv bs j).1 * av ns j) + sm (List.range bs.length) (fun j => d j * av ns j) := by
      rw [← sm_add]; exact sm_congr fun j _ => by grind
    have q2 : sm (List.range bs.length) (fun j => av y j * av ns j) = sm (List.range bs.length) (fun j => (bv bs j).1 * av ns j) + sm (List.range bs.length) (fun j => (av y j + -1 * (bv bs j).1) * av ns j) := by
      rw [← sm_add]; exact sm_congr fun j _ => by grind
    rw [q1, q2]
    grind
theorem bestL_ok (ns : List Rat) : ∀ (ls : List (List Rat)) (b : Option (Rat × List Rat)), (∀ v x, b = some (v, x) → v = dot x ns) → (∃ y, y ∈ ls) ∨ b ≠ none →
    ∃ v x, ls.foldl (bstep ns) b = some (v, x) ∧ v = dot x ns ∧ (x ∈ ls ∨ b = some (v, x)) ∧ (∀ y ∈ ls, dot y ns ≤ v) ∧ ∀ v' x', b = some (v', x') → v' ≤ v
  | [], b, hb, h => by
    rcases h with ⟨y, hy⟩ | h
    · cases hy
    · cases b with
      | none => exact absurd rfl h
      | some q => obtain ⟨v, x⟩ := q; exact ⟨v, x, rfl, hb v x rfl, .inr rfl, (fun _ h => nomatch h), (fun v' x' e => by cases e; exact Rat.le_refl)⟩
  | z :: ls, b, hb, h => by
    rw [List.foldl_cons]
    have hb' : ∀ v x, bstep ns b z = some (v, x) → v = dot x ns := by
      intro v x e
      unfold bstep at e
      cases b with
      | none => cases e; rfl
      | some q =>
        obtain ⟨v', x'⟩ := q
        dsimp only at e
        split at e
        · cases e; rfl
        · cases e; exact hb _ _ rfl
    have hn : bstep ns b z ≠ none := by
      unfold bstep
      cases b with
      | none => simp
      | some q => obtain ⟨v', x'⟩ := q; dsimp only; split <;> simp
    obtain ⟨v, x, e1, e2, e3, e4, e5⟩ := bestL_ok ns ls (bstep ns b z) hb' (.inr hn)
    have hz : dot z ns ≤ v ∧ ∀ v' x', b = some (v', x') → v' ≤ v := by
      cases hbb : b with
      | none =>
        subst hbb
        exact ⟨e5 _ _ rfl, fun _ _ e => nomatch e⟩
      | some q =>
        obtain ⟨v', x'⟩ := q
        subst hbb
        by_cases c : v' < dot z ns
        · have k := e5 (dot z ns) z (by unfold bstep; dsimp only; rw [if_pos c])
          exact ⟨k, fun a b e => by cases e; exact Rat.le_trans (Rat.le_of_lt c) k⟩
        · have k := e5 v' x' (by unfold bstep; dsimp only; rw [if_neg c])
          exact ⟨Rat.le_trans (Rat.not_lt.mp c) k, fun a b e => by cases e; exact k⟩
    refine ⟨v, x, e1, e2, ?_, fun y hy => ?_, hz.2⟩
    · rcases e3 with w | w
      · exact .inl (List.mem_cons_of_mem _ w)
      · unfold bstep at w
        cases b with
        | none => cases w; exact .inl List.mem_cons_self
        | some q =>
          obtain ⟨v', x'⟩ := q
          dsimp only at w
          split at w
          · cases w; exact .inl List.mem_cons_self
          · exact .inr w
    · rcases List.mem_cons.mp hy with w | w
      · rw [w]; exact hz.1
      · exact e4 y w
/-- the greatest sum: its value, its law -/
structure Top (bs : List (Rat × Rat)) (ns : List Rat) (v : Rat) (x : List Rat) : Prop where
  eq : bestL ns (cornersL bs) = some (v, x)
  best : v = bestV bs ns
  dot : v = dot x ns
  mem : x ∈ cornersL bs
  ge : ∀ y, Fe bs y → K47.dot y ns ≤ v
theorem top_of {bs : List (Rat × Rat)} {ns : List Rat} (h : Ti bs) (h1 : 1 ≤ bs.length) (hl : ns.length = bs.length) : ∃ v x, Top bs ns v x := by
  obtain ⟨⟨c, hc, hcv⟩, hall⟩ := best_corner h h1 hl
  obtain ⟨v, x, e1, e2, e3, e4, _⟩ := bestL_ok ns (cornersL bs) none (fun _ _ e => nomatch e) (.inl ⟨c, hc⟩)
  have hx : x ∈ cornersL bs := e3.resolve_right (fun e => nomatch e)
  have k1 := hall x (corner_fe hx)
  have k2 := e4 c hc
  rw [hcv] at k2
  rw [← e2] at k1
  have ev : v = bestV bs ns := Rat.le_antisymm k1 k2
  exact ⟨v, x, e1, ev, e2, hx, fun y hy => by rw [ev]; exact hall y hy⟩
end K47
set_option linter.all false
set_option maxRecDepth 100000
set_option exponentiation.threshold 10000
namespace K47
open DL
/-! ## sums of moved numbers, mixed laws -/
theorem dot_cons (x n : Rat) (xs ns : List Rat) : dot (x :: xs) (n :: ns) = x * n + dot xs ns := by unfold dot; rw [List.zip_cons_cons, List.map_cons, List.sum_cons]
theorem dot_nil (ns : List Rat) : dot [] ns = 0 := rfl
def addL (a b : List Rat) : List Rat := (a.zip b).map fun p => p.1 + p.2
def movL (y : Rat) (a : List Rat) : List Rat := a.map fun n => y * n + 3 / 2
def mixL (s : Rat) (a b : List Rat) : List Rat := (a.zip b).map fun p => (1 - s) * p.1 + s * p.2
theorem dot_addL : ∀ (x a b : List Rat), a.length = x.length → b.length = x.length → dot x (addL a b) = dot x a + dot x b
  | [], a, b, _, _ => by rw [dot_nil, dot_nil, dot_nil]; grind
  | x :: xs, [], _, h, _ => by simp at h
  | x :: xs, _ :: _, [], _, h => by simp at h
  | x :: xs, a :: as, b :: bs, h1, h2 => by
    have e : addL (a :: as) (b :: bs) = (a + b) :: addL as bs := rfl
    rw [e, dot_cons, dot_cons, dot_cons, dot_addL xs as bs (by simpa using h1) (by simpa using h2)]
    grind
theorem dot_movL (y : Rat) : ∀ (x a : List Rat), a.length = x.length → dot x (movL y a) = y * dot x a + 3 / 2 * x.sum
  | [], a, _ => by rw [dot_nil, dot_nil]; simp [Rat.add_zero]
  | x :: xs, [], h => by simp at h
  | x :: xs, a :: as, h => by
    have e : movL y (a :: as) = (y * a + 3 / 2) :: movL y as := rfl
    rw [e, dot_cons, dot_cons, List.sum_cons, dot_movL y xs as (by simpa using h)]
    grind
theorem mix_win (s : Rat) (h0 : 0 ≤ s) (h1 : s ≤ 1) : ∀ (bs : List (Rat × Rat)) (a b : List Rat), a.length = bs.length → b.length = bs.length → (∀ q ∈ a.zip bs, q.2.1 ≤ q.1 ∧ q.1 ≤ q.2.2) → (∀ q ∈ b.zip bs, q.2.1 ≤ q.1 ∧ q.1 ≤ q.2.2) → (mixL s a b).length = bs.length ∧ (∀ q ∈ (mixL s a b).zip bs, q.2.1 ≤ q.1 ∧ q.1 ≤ q.2.2) ∧ (mixL s a b).sum = (1 - s) * a.sum + s * b.sum
  | [], [], [], _, _, _, _ => by
    refine ⟨rfl, fun q h => ?_, ?_⟩
    · cases h
    · show (0 : Rat) = _; simp [Rat.add_zero]
  | [], _ :: _, _, h, _, _, _ => by simp at h
  | [], [], _ :: _, _, h, _, _ => by simp at h
  | _ :: _, [], _, h, _, _, _ => by simp at h
  | _ :: _, _ :: _, [], _, h, _, _ => by simp at h
  | c :: bs, x :: a, y :: b, l1, l2, w1, w2 => by
    obtain ⟨i1, i2, i3⟩ := mix_win s h0 h1 bs a b (by simpa using l1) (by simpa using l2) (fun q hq => w1 q (by rw [List.zip_cons_cons]; exact List.mem_cons_of_mem _ hq)) (fun q hq => w2 q (by rw [List.zip_cons_cons]; exact List.mem_cons_of_mem _ hq))
    have e : mixL s (x :: a) (y :: b) = ((1 - s) * x + s * y) :: mixL s a b := rfl
    obtain ⟨p1, p2⟩ := w1 (x, c) (by rw [List.zip_cons_cons]; exact List.mem_cons_self)
    obtain ⟨q1, q2⟩ := w2 (y, c) (by rw [List.zip_cons_cons]; exact List.mem_cons_self)
    dsimp only at p1 p2 q1 q2
    have s1 : 0 ≤ 1 - s := by grind
    have m1 := Rat.mul_le_mul_of_nonneg_left p1 s1
    have m2 := Rat.mul_le_mul_of_nonneg_left p2 s1
    have m3 := Rat.mul_le_mul_of_nonneg_left q1 h0
    have m4 := Rat.mul_le_mul_of_nonneg_left q2 h0
    rw [e]
    refine ⟨by simp [i1], fun q hq => ?_, ?_⟩
    · rw [List.zip_cons_cons] at hq
      rcases List.mem_cons.mp hq with z | z
      · subst z
        dsimp only
        constructor <;> grind
      · exact i2 q z
    · rw [List.sum_cons, List.sum_cons, List.sum_cons, i3]
      grind
theorem mix_fe {bs : List (Rat × Rat)} {a b : List Rat} {s : Rat} (h0 : 0 ≤ s) (h1 : s ≤ 1) (ha : Fe bs a) (hb : Fe bs b) : Fe bs (mixL s a b) := by
  obtain ⟨i1, i2, i3⟩ := mix_win s h0 h1 bs a b ha.len hb.len ha.win hb.win
  exact ⟨i1, i2, by rw [i3, ha.one, hb.one]; grind⟩
/-! ## bounds that serve -/
structure BT (M : Nat) (bs : List (Rat × Rat)) : Prop where
  m0 : 0 < M
  mM : M ≤ 1000
  lt : LtB M 1 bs
  l2 : 2 ≤ bs.length
  l6 : bs.length ≤ 6
  ti : Ti bs
section
variable {M M' B' : Nat} {bs : List (Rat × Rat)} {ns : List Rat}
theorem BT.bd (h : BT M bs) : Bd M bs := ⟨h.m0, h.mM, h.lt, h.l2, h.l6, h.ti.nar, fun x hx => ⟨(corner_fe hx).len, fun y hy => (corner_lt h.lt (fun b hb => ⟨(h.ti.le b hb).1, (h.ti.le b hb).2.2⟩) hx y hy).1⟩⟩
theorem BT.law (h : BT M bs) {x : List Rat} (hx : x ∈ cornersL bs) : Law M bs.length x := by
  have fe := corner_fe hx
  have lt := corner_lt h.lt (fun b hb => ⟨(h.ti.le b hb).1, (h.ti.le b hb).2.2⟩) hx
  exact ⟨fe.len, fun y hy => (lt y hy).1, fun y hy => (lt y hy).2, fe.one⟩
theorem BT.top (h : BT M bs) (hl : ns.length = bs.length) : ∃ v x, Top bs ns v x := top_of h.ti (by have := h.l2; omega) hl
theorem Top.sum {v : Rat} {x : List Rat} (t : Top bs ns v x) (h : BT M bs) (m0' : 0 < M') (hM' : M' ≤ 1000000) (hn : ∀ x ∈ ns, Lt M' B' x) (hl : ns.length = bs.length) (b0 : 0 < B') (hB : B' ≤ 1000000) {pot : Pot} (hf : flatP pot = true) :
    G_greatest_sum [.val (bdD bs), .val (frD ns)] pot = some (.tup [fr v, frD x], pot) := by
  rw [greatest_sum_ok h.bd hf m0' hM' hn hl b0 hB, t.eq]
  rfl
theorem Top.lt {v : Rat} {x : List Rat} (t : Top bs ns v x) (h : BT M bs) (hn : ∀ x ∈ ns, Lt M' B' x) : Lt (M * M') (10 * (1 * B')) v := by
  rw [t.dot]
  exact dot_lt (h.law t.mem).lt hn (by have := (h.law t.mem).len; have := h.l6; omega)
end
/-- one told sum is right -/
theorem sums_body {M M' B' : Nat} {bs : List (Rat × Rat)} {ns : List Rat} {v : Rat} {x : List Rat} (t : Top bs ns v x) (h : BT M bs) (m0' : 0 < M') (hM' : M' ≤ 1000) (hn : ∀ x ∈ ns, Lt M' B' x) (hl : ns.length = bs.length) (b0 : 0 < B') (hB : B' ≤ 1000) {pot : Pot} (hf : flatP pot = true) (b3 b4 b5 b6 : B) (r : List B) :
    Lb__law_are_sums_right_2 (.pot :: .val (bdD bs) :: .val (.int bs.length) :: b3 :: b4 :: b5 :: b6 :: .val (fr v) :: .val (frD x) :: .val (frD ns) :: r) pot = some (.nx (.pot :: .val (bdD bs) :: .val (.int bs.length) :: b3 :: b4 :: b5 :: b6 :: .val (fr v) :: .val (frD x) :: .val (frD ns) :: r) pot) := by
  have lw := h.law t.mem
  have fe := corner_fe t.mem
  have mM := h.mM
  have l6 := h.l6
  have ln := lw.len
  have mm : M * M' ≤ 1000000 := Nat.mul_le_mul mM hM'
  have c1 := law_best_ok (pot := pot) hf h.m0 h.mM m0' hM' hB h.lt hn hl l6
  have c2 := law_sum_ok (pot := pot) x ns lw.lt hn h.m0 m0' (by omega) (by omega) (by omega) b0 (by omega)
  have sx : ∀ y ∈ x, Sm y := fun y hy => ((lw.lt y hy).sh h.m0 (by omega) (by omega)).sm
  have sb : SmB bs := fun b hb => ⟨((h.lt b hb).1.sh h.m0 (by omega) (by omega)).sm, ((h.lt b hb).2.sh h.m0 (by omega) (by omega)).sm⟩
  have c3 := law_is_within_ok bs x pot sx sb (by omega)
  rw [withinB_iff.mpr fe.win] at c3
  have c4 := is_law_ok x pot (by have := h.l2; omega) (by omega) lw.pos (part0 h.m0 (by omega) lw.lt (by omega)) lw.one
  rw [lw.len] at c4
  rw [← t.best] at c1
  rw [← t.dot] at c2
  unfold Lb__law_are_sums_right_2
  simp [cIsNot, isNon, c1, c2, c3, c4, cNe_fr]
end K47
set_option linter.all false
set_option maxRecDepth 100000
set_option exponentiation.threshold 10000
namespace K47
open DL
theorem addL_lt {M B B' : Nat} {a b : List Rat} (ha : ∀ x ∈ a, Lt M B x) (hb : ∀ x ∈ b, Lt M B' x) : ∀ x ∈ addL a b, Lt M (B + B') x := fun x hx => by
  obtain ⟨p, hp, rfl⟩ := List.mem_map.mp hx
  exact (ha _ (List.of_mem_zip hp).1).add (hb _ (List.of_mem_zip hp).2)
theorem th_eq : (3 / 2 : Rat) = mkRat 3 (2 : Int).toNat := by decide +kernel
theorem th_lt : Lt 72 2 (3 / 2 : Rat) := by
  rw [th_eq]
  exact lt_mkRat (by omega) 36 (by omega) (by omega) (by omega)
theorem fr_th : (D.tup [.int 3, .int 2]) = fr (3 / 2) := by rw [th_eq]; rfl
theorem movL_lt {y : Rat} {a : List Rat} (hy : Lt 6 6 y) (ha : ∀ x ∈ a, Lt 12 6 x) : ∀ x ∈ movL y a, Lt 72 38 x := fun x hx => by
  obtain ⟨n, hn, rfl⟩ := List.mem_map.mp hx
  exact (hy.mul (ha n hn)).add th_lt
theorem mixL_lt {M : Nat} {s : Rat} {a b : List Rat} (hs : Lt 4 1 s) (ha : ∀ x ∈ a, Lt M 1 x) (hb : ∀ x ∈ b, Lt M 1 x) : ∀ x ∈ mixL s a b, Lt (4 * M) 3 x := fun x hx => by
  obtain ⟨p, hp, rfl⟩ := List.mem_map.mp hx
  have one : Lt 4 1 1 := lt_one (by omega)
  exact (((one.sub hs).mul (ha _ (List.of_mem_zip hp).1)).add (hs.mul (hb _ (List.of_mem_zip hp).2))).mono (by omega)
theorem lt6 {a d : Int} (h1 : 0 ≤ a) (h2 : a ≤ 6) (hd : d = 1 ∨ d = 2 ∨ d = 3) : Lt 6 6 (mkRat a d.toNat) := by
  rcases hd with z | z | z <;> subst z
  · exact lt_mkRat (by omega) 6 (by omega) (by omega) (by omega)
  · exact lt_mkRat (by omega) 3 (by omega) (by omega) (by omega)
  · exact lt_mkRat (by omega) 2 (by omega) (by omega) (by omega)
theorem law_are_sums_right_ok {N M : Nat} (hN : N ≤ 5000) {bs : List (Rat × Rat)} (h : BT M bs) {pot : Pot} (hp : PotB N pot) :
    ∃ pot', G__law_are_sums_right [.pot, .val (bdD bs), .val (.int bs.length)] pot = some (.bl true, pot') ∧ PotB (N + 40) pot' := by
  have l2 := h.l2
  have l6 := h.l6
  have mM := h.mM
  have m0 := h.m0
  have bd := h.bd
  obtain ⟨a, pt1, c1, la, ha, hp1⟩ := law_numbers_ok (by omega) hp bs.length l6
  obtain ⟨b, pt2, c2, lb, hb, hp2⟩ := law_numbers_ok (by omega) hp1 bs.length l6
  obtain ⟨z6, pt3, c3, c4, c5, hp3⟩ := law_take_ok (by omega) hp2 6 (by decide) (by decide)
  obtain ⟨z3, pt4, c6, c7, c8, hp4⟩ := law_take_ok (by omega) hp3 3 (by decide) (by decide)
  obtain ⟨z5, pt5, c9, c10, c11, hp5⟩ := law_take_ok (by omega) hp4 5 (by decide) (by decide)
  have f4 := hp4.flat
  have f5 := hp5.flat
  -- by, share
  have cy := law_cut_ok (1 + z6) (1 + z3) pt4 (by omega) (sz_d (by omega) (by omega))
  have hy : Lt 6 6 (mkRat (1 + z6) (1 + z3).toNat) := lt6 (by omega) (by omega) (by omega)
  have y0 : 0 ≤ mkRat (1 + z6) (1 + z3).toNat := mkRat_nonneg' (by omega)
  generalize mkRat (1 + z6) (1 + z3).toNat = y at cy hy y0
  have cs := law_cut_ok z5 4 pt5 (by omega) (sz_d (by omega) (by omega))
  have hs : Lt 4 1 (mkRat z5 (4 : Int).toNat) := lt_mkRat (by omega) 1 (by omega) (by omega) (by omega)
  have s0 : 0 ≤ mkRat z5 (4 : Int).toNat := mkRat_nonneg' c10
  have s1 : mkRat z5 (4 : Int).toNat ≤ 1 := by have := hs.hi; have e : ((1 : Nat) : Rat) = 1 := rfl; rwa [e] at this
  generalize mkRat z5 (4 : Int).toNat = s at cs hs s0 s1
  -- the greatest sums
  obtain ⟨va, xa, ta⟩ := h.top la
  obtain ⟨vb, xb, tb⟩ := h.top lb
  have lab : (addL a b).length = bs.length := by unfold addL; rw [List.length_map, List.length_zip]; omega
  have lmv : (movL y a).length = bs.length := by unfold movL; rw [List.length_map, la]
  obtain ⟨vc, xc, tc⟩ := h.top lab
  obtain ⟨vd, xd, td⟩ := h.top lmv
  have hab := addL_lt ha hb
  have hmv := movL_lt hy ha
  have ga : ∀ {p : Pot}, flatP p = true → _ := fun {p} hf => ta.sum h (pot := p) (by omega) (by omega) ha la (by omega) (by omega) hf
  have gb : ∀ {p : Pot}, flatP p = true → _ := fun {p} hf => tb.sum h (pot := p) (by omega) (by omega) hb lb (by omega) (by omega) hf
  have gc := tc.sum h (pot := pt4) (by omega) (by omega) hab lab (by omega) (by omega) f4
  have gd := td.sum h (pot := pt4) (by omega) (by omega) hmv lmv (by omega) (by omega) f4
  have lwa := h.law ta.mem
  have lwb := h.law tb.mem
  have fea := corner_fe ta.mem
  have feb := corner_fe tb.mem
  have fec := corner_fe tc.mem
  have fed := corner_fe td.mem
  have va' := ta.lt h ha
  have vb' := tb.lt h hb
  have vc' := tc.lt h hab
  have vd' := td.lt h hmv
  have smv : ∀ {q : Rat} {M D : Nat}, Lt M D q → 0 < M → M ≤ 1000000000 → D ≤ 1000000000 → Sm q := fun h a b c => (h.sh a b c).sm
  have m12 : 0 < M * 12 := by omega
  have M12 : M * 12 ≤ 1000000000 := by omega
  -- told
  have e1 : lcLoop (gN 9) tYes1 Ce__law_are_sums_right_1 [.pot, .val (bdD bs), .val (.int bs.length), .val (frD a), .val (frD b), .val (fr y), .un, .un, .un, .un, .un, .un, .un, .un, .un, .un, .un, .un, .un] [frD a, frD b] pt4 = some ([.tup [fr va, frD xa], .tup [fr vb, frD xb]], pt4) := by
    simp [lcLoop, Ce__law_are_sums_right_1, defn, cI, isiB, bTuple, bInt, cIs, cIsNot, isNon, cEq_ii, cNe_ii, notOwn_ob, notOwn_val, notOwn_un, notOwn_pot, notOwn_succ, items_tup, items_lst, ga f4, gb f4]
  -- the loop over both
  have e2 : ∃ env', True := ⟨(), trivial⟩
  have q7 : ∀ (D1 : D), forLoop (gT (gsCons (gT (gsCons (gN 7) (gsCons (gN 8) gsNil))) (gsCons (gN 9) gsNil))) Lb__law_are_sums_right_2 [.tup [.tup [fr va, frD xa], frD a], .tup [.tup [fr vb, frD xb], frD b]] [.pot, .val (bdD bs), .val (.int bs.length), .val (frD a), .val (frD b), .val (fr y), .val D1, .un, .un, .un, .un, .un, .un, .un, .un, .un, .un, .un, .un] pt4 = some (.nx [.pot, .val (bdD bs), .val (.int bs.length), .val (frD a), .val (frD b), .val (fr y), .val D1, .val (fr vb), .val (frD xb), .val (frD b), .un, .un, .un, .un, .un, .un, .un, .un, .un] pt4) := by
    intro D1
    have k1 := sums_body ta h (pot := pt4) (by omega) (by omega) ha la (by omega) (by omega) f4 (.val (frD a)) (.val (frD b)) (.val (fr y)) (.val D1) [.un, .un, .un, .un, .un, .un, .un, .un, .un]
    have k2 := sums_body tb h (pot := pt4) (by omega) (by omega) hb lb (by omega) (by omega) f4 (.val (frD a)) (.val (frD b)) (.val (fr y)) (.val D1) [.un, .un, .un, .un, .un, .un, .un, .un, .un]
    simp [forLoop, defn, cI, isiB, bTuple, bInt, cIs, cIsNot, isNon, cEq_ii, cNe_ii, notOwn_ob, notOwn_val, notOwn_un, notOwn_pot, notOwn_succ, items_tup, items_lst, k1, k2]
  -- both, moved
  have e3 : ∀ (D1 : D), lcLoop (gT (gsCons (gN 16) (gsCons (gN 17) gsNil))) tYes1 Ce__law_are_sums_right_3 [.pot, .val (bdD bs), .val (.int bs.length), .val (frD a), .val (frD b), .val (fr y), .val D1, .val (fr vb), .val (frD xb), .val (frD b), .un, .un, .un, .un, .un, .un, .un, .un, .un] ((a.zip b).map pD) pt4 = some ((addL a b).map fr, pt4) := fun D1 => by
    unfold addL
    rw [List.map_map]
    refine lc_map pD _ _ fun p hp => ⟨[.pot, .val (bdD bs), .val (.int bs.length), .val (frD a), .val (frD b), .val (fr y), .val D1, .val (fr vb), .val (frD xb), .val (frD b), .un, .un, .un, .un, .un, .un, .val (fr p.1), .val (fr p.2), .un], rfl, rfl, ?_⟩
    have h1 := ha _ (List.of_mem_zip hp).1
    have h2 := hb _ (List.of_mem_zip hp).2
    simp [Ce__law_are_sums_right_3, law_added_ok, smv h1 (by omega) (by omega) (by omega), smv h2 (by omega) (by omega) (by omega)]
  have e4 : ∀ (D1 D10 : D), lcLoop (gN 18) tYes1 Ce__law_are_sums_right_4 [.pot, .val (bdD bs), .val (.int bs.length), .val (frD a), .val (frD b), .val (fr y), .val D1, .val (fr vb), .val (frD xb), .val (frD b), .val D10, .un, .un, .un, .un, .un, .un, .un, .un] (a.map fr) pt4 = some ((movL y a).map fr, pt4) := fun D1 D10 => by
    unfold movL
    rw [List.map_map]
    refine lc_map fr _ _ fun p hp => ⟨[.pot, .val (bdD bs), .val (.int bs.length), .val (frD a), .val (frD b), .val (fr y), .val D1, .val (fr vb), .val (frD xb), .val (frD b), .val D10, .un, .un, .un, .un, .un, .un, .un, .val (fr p)], rfl, rfl, ?_⟩
    have h1 := ha _ hp
    have h2 := hy.mul h1
    simp [Ce__law_are_sums_right_4, fr_th, law_added_ok, law_times_ok, smv hy (by omega) (by omega) (by omega), smv h1 (by omega) (by omega) (by omega), smv h2 (by omega) (by omega) (by omega), smv th_lt (by omega) (by omega) (by omega)]
  -- what is asked of both and moved
  have k1 : ¬ (va + vb < vc) := by
    have e := dot_addL xc a b (by rw [fec.len, la]) (by rw [fec.len, lb])
    have q1 := ta.ge xc fec
    have q2 := tb.ge xc fec
    have q3 := tc.dot
    rw [e] at q3
    rw [q3]
    apply Rat.not_lt.mpr
    grind
  have k2 : vd = y * va + 3 / 2 := by
    have e := dot_movL y xd a (by rw [fed.len, la])
    have e' := dot_movL y xa a (by rw [fea.len, la])
    rw [fed.one] at e
    rw [fea.one] at e'
    have q1 := ta.ge xd fed
    have q2 := td.ge xa fea
    have q3 := td.dot
    have q4 := ta.dot
    have q5 := Rat.mul_le_mul_of_nonneg_left q1 y0
    rw [e'] at q2
    rw [e] at q3
    rw [← q4] at q2
    apply Rat.le_antisymm
    · grind
    · grind
  -- between
  have cm := mixed_law_ok (pot := pt5) m0 mM (fun x hx => ⟨lwa.lt x hx, lwa.pos x hx⟩) (fun x hx => ⟨lwb.lt x hx, lwb.pos x hx⟩) (by rw [lwa.len]; exact l2) (by rw [lwa.len]; exact l6) (by rw [lwa.len, lwb.len]) lwa.one lwb.one hs s0 s1
  have few := mix_fe s0 s1 fea feb
  have hw := mixL_lt hs lwa.lt lwb.lt
  have em : frD ((xa.zip xb).map fun p => (1 - s) * p.1 + s * p.2) = frD (mixL s xa xb) := rfl
  rw [em] at cm
  have wl : (mixL s xa xb).length ≤ 100 := by rw [few.len]; omega
  have m4 : 0 < 4 * M := by omega
  have M4 : 4 * M ≤ 1000000000 := by omega
  have cw := law_is_within_ok bs (mixL s xa xb) pt5 (fun x hx => smv (hw x hx) m4 M4 (by omega)) (fun b hb => ⟨smv (h.lt b hb).1 m0 (by omega) (by omega), smv (h.lt b hb).2 m0 (by omega) (by omega)⟩) wl
  rw [withinB_iff.mpr few.win] at cw
  have cd := law_sum_ok (pot := pt5) (mixL s xa xb) a hw ha m4 (by omega) (by omega) (by omega) (by omega) (by omega) wl
  have k3 : ¬ (va < dot (mixL s xa xb) a) := Rat.not_lt.mpr (ta.ge _ few)
  have wd := dot_lt hw ha (by rw [few.len]; omega)
  have one4 : Lt 4 1 1 := lt_one (by omega)
  have r4 := one4.sub hs
  -- some
  have e5 : ∀ (D1 D10 D11 D13 : D), lcLoop (gT (gsCons (gN 16) (gsCons (gN 17) gsNil))) tYes1 Ce__law_are_sums_right_5 [.pot, .val (bdD bs), .val (.int bs.length), .val (frD a), .val (frD b), .val (fr y), .val D1, .val (fr vb), .val (frD xb), .val (frD b), .val D10, .val D11, .val (fr s), .val D13, .val (fr (1 - s)), .un, .un, .un, .un] ((xa.zip xb).map pD) pt5 = some ((xa.zip xb).map (fun p => pD ((1 - s) * p.1, s * p.2)), pt5) := fun D1 D10 D11 D13 => by
    refine lc_map pD _ _ fun p hp => ⟨[.pot, .val (bdD bs), .val (.int bs.length), .val (frD a), .val (frD b), .val (fr y), .val D1, .val (fr vb), .val (frD xb), .val (frD b), .val D10, .val D11, .val (fr s), .val D13, .val (fr (1 - s)), .un, .val (fr p.1), .val (fr p.2), .un], rfl, rfl, ?_⟩
    have h1 := lwa.lt _ (List.of_mem_zip hp).1
    have h2 := lwb.lt _ (List.of_mem_zip hp).2
    simp [Ce__law_are_sums_right_5, law_times_ok, smv r4 (by omega) (by omega) (by omega), smv hs (by omega) (by omega) (by omega), smv h1 m0 (by omega) (by omega), smv h2 m0 (by omega) (by omega), pD]
  have e6 : ∀ (D1 D10 D11 D13 D15 : D), lcLoop (gT (gsCons (gN 16) (gsCons (gN 17) gsNil))) tYes1 Ce__law_are_sums_right_6 [.pot, .val (bdD bs), .val (.int bs.length), .val (frD a), .val (frD b), .val (fr y), .val D1, .val (fr vb), .val (frD xb), .val (frD b), .val D10, .val D11, .val (fr s), .val D13, .val (fr (1 - s)), .val D15, .un, .un, .un] ((xa.zip xb).map (fun p => pD ((1 - s) * p.1, s * p.2))) pt5 = some ((mixL s xa xb).map fr, pt5) := fun D1 D10 D11 D13 D15 => by
    unfold mixL
    rw [List.map_map]
    refine lc_map _ _ _ fun p hp => ⟨[.pot, .val (bdD bs), .val (.int bs.length), .val (frD a), .val (frD b), .val (fr y), .val D1, .val (fr vb), .val (frD xb), .val (frD b), .val D10, .val D11, .val (fr s), .val D13, .val (fr (1 - s)), .val D15, .val (fr ((1 - s) * p.1)), .val (fr (s * p.2)), .un], rfl, rfl, ?_⟩
    have h1 := r4.mul (lwa.lt _ (List.of_mem_zip hp).1)
    have h2 := hs.mul (lwb.lt _ (List.of_mem_zip hp).2)
    simp [Ce__law_are_sums_right_6, law_added_ok, smv h1 m4 M4 (by omega), smv h2 m4 M4 (by omega)]
  refine ⟨pt5, ?_, hp5.mono (by omega)⟩
  have zab : min a.length b.length ≤ 16777216 := by omega
  have zx : min xa.length xb.length ≤ 16777216 := by rw [lwa.len, lwb.len]; omega
  have za : a.length ≤ 16777216 := by omega
  have zp : zipD [.tup [fr va, frD xa], .tup [fr vb, frD xb]] [frD a, frD b] = [.tup [.tup [fr va, frD xa], frD a], .tup [.tup [fr vb, frD xb], frD b]] := rfl
  have i1 : items (frD a) = some (a.map fr) := rfl
  have i2 : items (frD b) = some (b.map fr) := rfl
  have i3 : items (frD xa) = some (xa.map fr) := rfl
  have i4 : items (frD xb) = some (xb.map fr) := rfl
  have t0 : ∀ p q : D, fIx (.lst [p, q]) (.int 0) = some p := fun _ _ => rfl
  have t1 : ∀ p q : D, fIx (.lst [p, q]) (.int 1) = some q := fun _ _ => rfl
  have fm : ∀ l : List Rat, D.tup (l.map fr) = frD l := fun _ => rfl
  have wva := smv va' m12 M12 (by omega)
  have wvb := smv vb' m12 M12 (by omega)
  have wvab := smv (va'.add vb') m12 M12 (by omega)
  have wvc := smv vc' m12 M12 (by omega)
  have wy := smv hy (by omega) (by omega) (by omega)
  have wyva := smv (hy.mul va') (by omega) (by omega) (by omega)
  have wth := smv th_lt (by omega) (by omega) (by omega)
  have wdd := smv wd (by omega) (by omega) (by omega)
  have w1 := smv one4 (by omega) (by omega) (by omega)
  have ws := smv hs (by omega) (by omega) (by omega)
  unfold G__law_are_sums_right m__law_are_sums_right
  simp only [defn, List.length_cons, List.length_nil]
  simp [defn, cI, isiB, bTuple, bInt, cIs, cIsNot, isNon, cEq_ii, cNe_ii, notOwn_ob, notOwn_val, notOwn_un, notOwn_pot, notOwn_succ, items_tup, items_lst, fAdd, iAdd, wipeE, c1, c2, c3, c6, c9, cy, cs, e1, zp, q7, ev_iZip, i1, i2, i3, i4, zip_fr, zab, za, zx, fm, e3, e4, gc, gd, t0, t1, fx0, fx1, law_added_ok, law_times_ok, law_less_ok, law_is_below_ok, wva, wvb, wvab, wvc, k1, fr_th, wy, wyva, wth, cNe_fr, ← k2, cm, cw, cd, wdd, k3, fr_one, w1, ws, e5, e6, cEq_frD, -List.map_map]
end K47
set_option linter.all false
set_option maxRecDepth 100000
set_option exponentiation.threshold 10000
namespace K47
open DL
/-! ## the ends of each sign -/
theorem fill : ∀ (R : List (Rat × Rat)) (r : Rat), (∀ b ∈ R, b.1 ≤ b.2) → lows R ≤ r → r ≤ highs R → ∃ y : List Rat, y.length = R.length ∧ (∀ q ∈ y.zip R, q.2.1 ≤ q.1 ∧ q.1 ≤ q.2.2) ∧ y.sum = r
  | [], r, _, h1, h2 => by
    rw [lows_nil] at h1
    rw [highs_nil] at h2
    exact ⟨[], rfl, (fun _ h => nomatch h), by rw [List.sum_nil]; exact Rat.le_antisymm h1 h2⟩
  | b :: R, r, h, h1, h2 => by
    rw [lows_cons] at h1
    rw [highs_cons] at h2
    have hb := h b List.mem_cons_self
    have hlh : lows R ≤ highs R := by
      have : ∀ R : List (Rat × Rat), (∀ b ∈ R, b.1 ≤ b.2) → lows R ≤ highs R := by
        intro R
        induction R with
        | nil => intro _; rw [lows_nil, highs_nil]; exact Rat.le_refl
        | cons c R ih =>
          intro h
          have := ih fun x hx => h x (List.mem_cons_of_mem _ hx)
          have := h c List.mem_cons_self
          rw [lows_cons, highs_cons]
          grind
      exact this R fun x hx => h x (List.mem_cons_of_mem _ hx)
    obtain ⟨x0, x1, x2, x3, x4⟩ : ∃ x0, b.1 ≤ x0 ∧ x0 ≤ b.2 ∧ lows R ≤ r - x0 ∧ r - x0 ≤ highs R := by
      by_cases c : b.1 ≤ r - highs R
      · exact ⟨r - highs R, c, by grind, by grind, by grind⟩
      · exact ⟨b.1, Rat.le_refl, hb, by grind, by grind⟩
    obtain ⟨y, y1, y2, y3⟩ := fill R (r - x0) (fun x hx => h x (List.mem_cons_of_mem _ hx)) x3 x4
    refine ⟨x0 :: y, by simp [y1], fun q hq => ?_, by rw [List.sum_cons, y3]; grind⟩
    rw [List.zip_cons_cons] at hq
    rcases List.mem_cons.mp hq with z | z
    · rw [z]; exact ⟨x1, x2⟩
    · exact y2 q z
theorem split_at {bs : List (Rat × Rat)} {s : Nat} (hs : s < bs.length) : bs = bs.take s ++ bv bs s :: bs.drop (s + 1) := by
  have : bv bs s = bs[s] := by unfold bv; rw [List.getElem?_eq_getElem hs]; rfl
  rw [this]
  conv => lhs; rw [← List.take_append_drop s bs]
  rw [List.drop_eq_getElem_cons hs]
theorem feas {bs : List (Rat × Rat)} (h : Ti bs) {s : Nat} (hs : s < bs.length) {t : Rat} (t1 : (bv bs s).1 ≤ t) (t2 : t ≤ (bv bs s).2) (u1 : lows bs - (bv bs s).1 ≤ 1 - t) (u2 : 1 - t ≤ highs bs - (bv bs s).2) : ∃ y, Fe bs y ∧ av y s = t := by
  have e := split_at hs
  generalize bv bs s = c at *
  have lA : (bs.take s).length = s := by rw [List.length_take]; omega
  generalize bs.take s = A at *
  generalize bs.drop (s + 1) = B at *
  have eL : lows bs = c.1 + lows (A ++ B) := by rw [e, lows_app, lows_cons, lows_app]; grind
  have eU : highs bs = c.2 + highs (A ++ B) := by rw [e, highs_app, highs_cons, highs_app]; grind
  obtain ⟨y, y1, y2, y3⟩ := fill (A ++ B) (1 - t) (fun b hb => (h.le b (by rw [e]; rcases List.mem_append.mp hb with z | z; exact List.mem_append_left _ z; exact List.mem_append_right _ (List.mem_cons_of_mem _ z))).2.1) (by grind) (by grind)
  rw [List.length_append] at y1
  have ey : y = y.take s ++ y.drop s := (List.take_append_drop s y).symm
  have lyA : (y.take s).length = A.length := by rw [List.length_take, lA]; omega
  have lyB : (y.drop s).length = B.length := by rw [List.length_drop]; omega
  generalize y.take s = yA at *
  generalize y.drop s = yB at *
  subst ey
  rw [List.zip_append lyA] at y2
  refine ⟨yA ++ t :: yB, ⟨?_, fun q hq => ?_, ?_⟩, ?_⟩
  · rw [e, List.length_append, List.length_append, List.length_cons, List.length_cons, lyA, lyB]
  · rw [e, List.zip_append lyA, List.zip_cons_cons] at hq
    rcases List.mem_append.mp hq with z | z
    · exact y2 q (List.mem_append_left _ z)
    · rcases List.mem_cons.mp z with z | z
      · rw [z]; exact ⟨t1, t2⟩
      · exact y2 q (List.mem_append_right _ z)
  · rw [sum_app] at y3
    rw [sum_app, List.sum_cons]
    grind
  · unfold av
    rw [List.getElem?_append_right (by omega), lyA, lA, Nat.sub_self]
    rfl
def indL (c : Rat) (n s : Nat) : List Rat := (List.range n).map fun j => if j = s then c else 0
theorem sm_ind (f : Nat → Rat) (c : Rat) (s : Nat) : ∀ (S : List Nat), S.Nodup → sm S (fun j => f j * (if j = s then c else 0)) = if s ∈ S then f s * c else 0
  | [], _ => by rw [sm_nil]; simp
  | j :: S, nd => by
    rw [List.nodup_cons] at nd
    rw [sm_cons, sm_ind f c s S nd.2]
    by_cases e : j = s
    · subst e
      rw [if_pos rfl, if_neg nd.1, if_pos List.mem_cons_self]
      grind
    · rw [if_neg e]
      by_cases m : s ∈ S
      · rw [if_pos m, if_pos (List.mem_cons_of_mem _ m)]; grind
      · rw [if_neg m, if_neg (fun z => (List.mem_cons.mp z).elim (fun w => e w.symm) m)]; grind
theorem dot_ind {y : List Rat} {c : Rat} {n s : Nat} (hy : y.length = n) (hs : s < n) : dot y (indL c n s) = av y s * c := by
  have hl : (indL c n s).length = y.length := by unfold indL; simp [hy]
  rw [dot_sm hl, hy]
  have : sm (List.range n) (fun j => av y j * av (indL c n s) j) = sm (List.range n) (fun j => av y j * (if j = s then c else 0)) := sm_congr fun j hj => by
    have hj' := List.mem_range.mp hj
    congr 1
    unfold av indL
    rw [List.getElem?_map, List.getElem?_range hj']
    rfl
  rw [this, sm_ind _ _ _ _ List.nodup_range, if_pos (List.mem_range.mpr hs)]
theorem top_high {bs : List (Rat × Rat)} (h : Ti bs) {s : Nat} (hs : s < bs.length) {v : Rat} {x : List Rat} (t : Top bs (indL 1 bs.length s) v x) : v = (bv bs s).2 := by
  have fe := corner_fe t.mem
  have b := h.le _ (bv_mem hs)
  have q1 := t.dot
  rw [dot_ind fe.len hs, Rat.mul_one] at q1
  have a1 := (fe.at hs).2
  obtain ⟨y, hy, hys⟩ := feas h hs (t := (bv bs s).2) b.2.1 Rat.le_refl (by have := h.t2 _ (bv_mem hs); grind) (by have := h.high; grind)
  have q2 := t.ge y hy
  rw [dot_ind hy.len hs, Rat.mul_one, hys] at q2
  apply Rat.le_antisymm
  · rw [q1]; exact a1
  · exact q2
theorem top_low {bs : List (Rat × Rat)} (h : Ti bs) {s : Nat} (hs : s < bs.length) {v : Rat} {x : List Rat} (t : Top bs (indL (-1) bs.length s) v x) : -v = (bv bs s).1 := by
  have fe := corner_fe t.mem
  have b := h.le _ (bv_mem hs)
  have q1 := t.dot
  rw [dot_ind fe.len hs] at q1
  have a1 := (fe.at hs).1
  obtain ⟨y, hy, hys⟩ := feas h hs (t := (bv bs s).1) Rat.le_refl b.2.1 (by have := h.low; grind) (by have := h.t1 _ (bv_mem hs); grind)
  have q2 := t.ge y hy
  rw [dot_ind hy.len hs, hys] at q2
  grind
theorem fr_m1 : (D.tup [.int (-1), .int 1]) = fr (-1) := by rfl
theorem eq19 : (1 / 9 : Rat) = mkRat 1 (9 : Int).toNat := by decide +kernel
theorem eq910 : (9 / 10 : Rat) = mkRat 9 (10 : Int).toNat := by decide +kernel
theorem eq13 : (1 / 3 : Rat) = mkRat 1 (3 : Int).toNat := by decide +kernel
theorem fr_19 : (D.tup [.int 1, .int 9]) = fr (1 / 9) := by rw [eq19]; rfl
theorem fr_910 : (D.tup [.int 9, .int 10]) = fr (9 / 10) := by rw [eq910]; rfl
theorem fr_13 : (D.tup [.int 1, .int 3]) = fr (1 / 3) := by rw [eq13]; rfl
theorem lt19 : Lt 9 1 (1 / 9 : Rat) := by rw [eq19]; exact lt_mkRat (by omega) 1 (by omega) (by omega) (by omega)
theorem lt910 : Lt 10 1 (9 / 10 : Rat) := by rw [eq910]; exact lt_mkRat (by omega) 1 (by omega) (by omega) (by omega)
theorem lt13 : Lt 3 1 (1 / 3 : Rat) := by rw [eq13]; exact lt_mkRat (by omega) 1 (by omega) (by omega) (by omega)
theorem ind_lt {c : Rat} (hc : Lt 1 1 c) (n s : Nat) : ∀ x ∈ indL c n s, Lt 1 1 x := fun x hx => by
  obtain ⟨j, _, rfl⟩ := List.mem_map.mp hx
  split
  · exact hc
  · exact lt_zero
/-- the loop over the signs -/
theorem ends_loop {M : Nat} {bs : List (Rat × Rat)} (h : BT M bs) {pot : Pot} (hf : flatP pot = true) :
    ∃ o3 o4 o5 o6, forLoop (gN 3) Lb__law_are_ends_right_3 ((List.range bs.length).map iD) [.pot, .val (bdD bs), .val (.int bs.length), .un, .un, .un, .un, .un, .un, .un, .un, .un] pot = some (.nx [.pot, .val (bdD bs), .val (.int bs.length), ob o3, ob o4, ob o5, ob o6, .un, .un, .un, .un, .un] pot) := by
  have l2 := h.l2
  have l6 := h.l6
  obtain ⟨env', pot', h1, o3, o4, o5, o6, h2, h3⟩ := for_inv (g := gN 3) (mb := Lb__law_are_ends_right_3) iD
    (fun done env p => ∃ o3 o4 o5 o6, env = [.pot, .val (bdD bs), .val (.int bs.length), ob o3, ob o4, ob o5, ob o6, .un, .un, .un, .un, .un] ∧ p = pot) (List.range bs.length)
    (env := [.pot, .val (bdD bs), .val (.int bs.length), .un, .un, .un, .un, .un, .un, .un, .un, .un]) (pot := pot) ⟨none, none, none, none, rfl, rfl⟩ (fun d s r env p hd hi => by
      obtain ⟨o3, o4, o5, o6, rfl, rfl⟩ := hi
      have hs : s < bs.length := List.mem_range.mp (by rw [hd]; simp)
      have one : Lt 1 1 1 := lt_one (by omega)
      have mone : Lt 1 1 (-1) := one.neg
      have li : ∀ c, (indL c bs.length s).length = bs.length := fun c => by unfold indL; simp
      obtain ⟨v1, x1, t1⟩ := h.top (li 1)
      obtain ⟨v2, x2, t2⟩ := h.top (li (-1))
      have g1 := t1.sum h (pot := p) (by omega) (by omega) (ind_lt one _ _) (li 1) (by omega) (by omega) hf
      have g2 := t2.sum h (pot := p) (by omega) (by omega) (ind_lt mone _ _) (li (-1)) (by omega) (by omega) hf
      have q1 := top_high h.ti hs t1
      have q2 := top_low h.ti hs t2
      have f1 := fIx_bd hs
      have c1 : ∀ (b4 b5 b6 : Option D), lcLoop (gN 7) tYes1 Ce__law_are_ends_right_1 [.pot, .val (bdD bs), .val (.int bs.length), .val (.int (s : Int)), ob b4, ob b5, ob b6, .un, .un, .un, .un, .un] ((List.range bs.length).map iD) p = some ((indL 1 bs.length s).map fr, p) := fun b4 b5 b6 => by
        unfold indL
        rw [List.map_map]
        refine lc_map iD _ _ fun j hj => ⟨[.pot, .val (bdD bs), .val (.int bs.length), .val (.int (s : Int)), ob b4, ob b5, ob b6, .val (.int (j : Int)), .un, .un, .un, .un], by simp [defn, cI, isiB, bTuple, bInt, cIs, cIsNot, isNon, cEq_ii, cNe_ii, notOwn_ob, notOwn_val, notOwn_un, notOwn_pot, notOwn_succ, items_tup, items_lst, iD], rfl, ?_⟩
        have e : ((j : Int) = (s : Int)) ↔ j = s := by omega
        by_cases k : j = s <;> simp [Ce__law_are_ends_right_1, defn, cI, isiB, bTuple, bInt, cIs, cIsNot, isNon, cEq_ii, cNe_ii, notOwn_ob, notOwn_val, notOwn_un, notOwn_pot, notOwn_succ, items_tup, items_lst, e, k, fr_one, fr_zero]
      have c2 : ∀ (b4 b5 b6 : Option D), lcLoop (gN 7) tYes1 Ce__law_are_ends_right_2 [.pot, .val (bdD bs), .val (.int bs.length), .val (.int (s : Int)), ob b4, ob b5, ob b6, .un, .un, .un, .un, .un] ((List.range bs.length).map iD) p = some ((indL (-1) bs.length s).map fr, p) := fun b4 b5 b6 => by
        unfold indL
        rw [List.map_map]
        refine lc_map iD _ _ fun j hj => ⟨[.pot, .val (bdD bs), .val (.int bs.length), .val (.int (s : Int)), ob b4, ob b5, ob b6, .val (.int (j : Int)), .un, .un, .un, .un], by simp [defn, cI, isiB, bTuple, bInt, cIs, cIsNot, isNon, cEq_ii, cNe_ii, notOwn_ob, notOwn_val, notOwn_un, notOwn_pot, notOwn_succ, items_tup, items_lst, iD], rfl, ?_⟩
        have e : ((j : Int) = (s : Int)) ↔ j = s := by omega
        by_cases k : j = s <;> simp [Ce__law_are_ends_right_2, defn, cI, isiB, bTuple, bInt, cIs, cIsNot, isNon, cEq_ii, cNe_ii, notOwn_ob, notOwn_val, notOwn_un, notOwn_pot, notOwn_succ, items_tup, items_lst, iSub, e, k, fr_m1, fr_zero]
      have fm : ∀ l : List Rat, D.tup (l.map fr) = frD l := fun _ => rfl
      have n1 : (bs.length : Int) ≤ 16777216 ∧ (-16777216 : Int) ≤ (bs.length : Int) := by omega
      have n2 : ((bs.length : Int).toNat) = bs.length := by omega
      have n3 : bs.length ≤ 16777216 := by omega
      have fn0 : fIx (fr v2) (.int 0) = some (.int v2.num) := rfl
      have fn1 : fIx (fr v2) (.int 1) = some (.int (v2.den : Int)) := rfl
      have fneg : D.tup [.int (-v2.num), .int (v2.den : Int)] = fr (-v2) := rfl
      refine ⟨[.pot, .val (bdD bs), .val (.int bs.length), .val (.int (s : Int)), ob o4, ob o5, ob o6, .un, .un, .un, .un, .un], [.pot, .val (bdD bs), .val (.int bs.length), .val (.int (s : Int)), .val (frD (indL 1 bs.length s)), .val (frD (indL (-1) bs.length s)), .val (fr v2), .un, .un, .un, .un, .un], p, by simp [defn, cI, isiB, bTuple, bInt, cIs, cIsNot, isNon, cEq_ii, cNe_ii, notOwn_ob, notOwn_val, notOwn_un, notOwn_pot, notOwn_succ, items_tup, items_lst, iD], ?_, some (.int (s : Int)), some (frD (indL 1 bs.length s)), some (frD (indL (-1) bs.length s)), some (fr v2), rfl, rfl⟩
      have c2' := c2 (some (frD (indL 1 bs.length s))) o5 o6
      simp only [ob_s] at c2'
      unfold Lb__law_are_ends_right_3
      simp [defn, cI, isiB, bTuple, bInt, cIs, cIsNot, isNon, cEq_ii, cNe_ii, notOwn_ob, notOwn_val, notOwn_un, notOwn_pot, notOwn_succ, items_tup, items_lst, ev_iRng1, n1, n2, n3, rng_iD, wipeE, c1, c2', fm, g1, g2, fx0, fx1, f1, pD, q1, fn0, fn1, iSub, fneg, q2, cNe_fr, -List.map_map])
  subst h2 h3
  exact ⟨o3, o4, o5, o6, h1⟩
end K47
set_option linter.all false
set_option maxRecDepth 100000
set_option exponentiation.threshold 10000
namespace K47
open DL
theorem fAdd_tup (a b : List D) (h : a.length + b.length ≤ 16777216) : fAdd (.tup a) (.tup b) = some (.tup (a ++ b)) := by
  simp [fAdd, iAdd, tCat, h]
theorem bd_app (A B : List (Rat × Rat)) (c : Rat × Rat) : D.tup (A.map pD ++ pD c :: B.map pD) = bdD (A ++ c :: B) := by
  unfold bdD
  rw [List.map_append, List.map_cons]
theorem sum_but (bs : List (Rat × Rat)) (s : Nat) : ∀ k : Nat, (((bs.zipIdx k).filter fun q => !decide (q.2 = s)).map (·.1.1)).sum = lows bs - (if k ≤ s ∧ s < k + bs.length then (bv bs (s - k)).1 else 0) := by
  induction bs with
  | nil => intro k; rw [if_neg (by rw [List.length_nil]; omega), lows_nil]; simp; grind
  | cons b bs ih =>
    intro k
    rw [zi_cons, lows_cons]
    by_cases e : k = s
    · subst e
      rw [List.filter_cons_of_neg (by simp), ih (k + 1), if_neg (by omega), if_pos (by simp), Nat.sub_self]
      have : bv (b :: bs) 0 = b := rfl
      rw [this]
      grind
    · rw [List.filter_cons_of_pos (by simp [e]), List.map_cons, List.sum_cons, ih (k + 1)]
      by_cases c : k ≤ s ∧ s < k + (b :: bs).length
      · rw [if_pos c, if_pos (by rw [List.length_cons] at c; omega)]
        have : bv (b :: bs) (s - k) = bv bs (s - (k + 1)) := by
          unfold bv
          rw [show s - k = (s - (k + 1)) + 1 by omega, List.getElem?_cons_succ]
        rw [this]
        grind
      · rw [if_neg c, if_neg (by rw [List.length_cons] at c; omega)]
        grind
theorem rep_flat {α : Type} (n : Nat) (a : α) : (List.replicate n [a]).flatten = List.replicate n a := by
  induction n with
  | zero => rfl
  | succ n ih => rw [List.replicate_succ, List.flatten_cons, ih, List.replicate_succ]; rfl
theorem mul_rep (a : D) (n : Nat) (h2 : 2 ≤ n) (h6 : n ≤ 6) : fMul (.tup [a]) (.int (n : Int)) = some (.tup (List.replicate n a)) := by
  have : iMul (.tup [a]) (.int (n : Int)) = none := rfl
  unfold fMul
  rw [this]
  simp only [tRep]
  rw [if_pos ⟨by simp, by omega, by omega, by simp⟩]
  have : ((n : Int).toNat) = n := by omega
  rw [this, rep_flat]
  rfl
theorem law_are_ends_right_ok {N M : Nat} (hN : N ≤ 5000) {bs : List (Rat × Rat)} (h : BT M bs) {pot : Pot} (hp : PotB N pot) :
    ∃ pot', G__law_are_ends_right [.pot, .val (bdD bs), .val (.int bs.length)] pot = some (.bl true, pot') ∧ PotB (N + 1) pot' := by
  have l2 := h.l2
  have l6 := h.l6
  have mM := h.mM
  have m0 := h.m0
  have hf := hp.flat
  obtain ⟨o3, o4, o5, o6, c1⟩ := ends_loop h hf
  obtain ⟨z, pt1, c2, z0, z1, hp1⟩ := law_take_ok (by omega) hp bs.length (by omega) (by omega)
  obtain ⟨s, rfl⟩ : ∃ s : Nat, z = (s : Int) := ⟨z.toNat, by omega⟩
  have hs : s < bs.length := by omega
  have hf1 := hp1.flat
  have smv : ∀ {q : Rat} {M D : Nat}, Lt M D q → 0 < M → M ≤ 1000000000 → D ≤ 1000000000 → Sm q := fun h a b c => (h.sh a b c).sm
  have c3 := tight_bounds_ok (pot := pot) m0 (by omega) (by omega) (by omega : 1 ≤ 1000) l2 l6 h.lt hf
  rw [h.bd.narD] at c3
  have c4 := is_bounds_ok (pot := pot) h.bd hf
  have f1 := fIx_bd hs
  -- the lows but one
  have e1 : ∀ (b3 b4 b5 b6 : Option D), lcLoop (gT (gsCons (gN 10) (gsCons (gN 11) gsNil))) Ct__law_are_ends_right_4 Ce__law_are_ends_right_4 [.pot, .val (bdD bs), .val (.int bs.length), ob b3, ob b4, ob b5, ob b6, .val (.int (s : Int)), .un, .un, .un, .un] (bs.zipIdx.map fun q => .tup [.int (q.2 : Nat), pD q.1]) pt1 = some (((bs.zipIdx.filter fun q => !decide (q.2 = s)).map (·.1.1)).map fr, pt1) := fun b3 b4 b5 b6 => by
    rw [List.map_map]
    refine lc_filter _ _ _ _ fun q hq => ⟨[.pot, .val (bdD bs), .val (.int bs.length), ob b3, ob b4, ob b5, ob b6, .val (.int (s : Int)), .un, .un, .val (.int (q.2 : Nat)), .val (pD q.1)], by simp [defn, cI, isiB, bTuple, bInt, cIs, cIsNot, isNon, cEq_ii, cNe_ii, notOwn_ob, notOwn_val, notOwn_un, notOwn_pot, notOwn_succ, items_tup, items_lst], ?_, fun _ => by simp [Ce__law_are_ends_right_4, pD, fx0]⟩
    have e : ((q.2 : Int) = (s : Int)) ↔ q.2 = s := by omega
    simp [Ct__law_are_ends_right_4, defn, cI, isiB, bTuple, bInt, cIs, cIsNot, isNon, cEq_ii, cNe_ii, notOwn_ob, notOwn_val, notOwn_un, notOwn_pot, notOwn_succ, items_tup, items_lst, e]
  have e2 := sum_but bs s 0
  rw [if_pos (by omega), Nat.sub_zero] at e2
  have lq : ∀ q ∈ (bs.zipIdx.filter fun q => !decide (q.2 = s)).map (·.1.1), Lt M 1 q := fun q hq => by
    obtain ⟨p, hp, rfl⟩ := List.mem_map.mp hq
    exact (zipIdx_lt h.lt p (List.mem_filter.mp hp).1).1
  have ll : ((bs.zipIdx.filter fun q => !decide (q.2 = s)).map (·.1.1)).length ≤ 6 := by
    rw [List.length_map]
    have := List.length_filter_le (fun q : (Rat × Rat) × Nat => !decide (q.2 = s)) bs.zipIdx
    rw [List.length_zipIdx] at this
    omega
  have c5 := law_total_ok ((bs.zipIdx.filter fun q => !decide (q.2 = s)).map (·.1.1)) (.lst (((bs.zipIdx.filter fun q => !decide (q.2 = s)).map (·.1.1)).map fr)) pt1 rfl (part0 m0 (by omega) lq (by omega))
  have sl := sum_lt lq
  rw [e2] at c5 sl
  have one : Lt M 1 1 := lt_one (by omega)
  have u1 := one.sub sl
  have u2 : Lt (M * 3) 1 (1 / 3) := lt13.dvd' ⟨M, Nat.mul_comm _ _⟩
  have u3 := u1.dvd 3
  have u4 := u3.add u2
  have zl : 1 + (List.map (fun q : (Rat × Rat) × Nat => q.1.1) (bs.zipIdx.filter fun q => !decide (q.2 = s))).length * 1 + 1 ≤ 10 := by omega
  have m3 : 0 < M * 3 := by omega
  have M3 : M * 3 ≤ 1000000 := by omega
  -- the bounds with one high moved up
  have ht := h.ti
  have hbl := h.lt
  have eb := split_at hs
  have lA : (bs.take s).length = s := by rw [List.length_take]; omega
  have lB : (bs.drop (s + 1)).length = bs.length - (s + 1) := by rw [List.length_drop]
  have wl : (bs.take s ++ ((bv bs s).1, 1 - (lows bs - (bv bs s).1) + 1 / 3) :: bs.drop (s + 1)).length = bs.length := by
    rw [List.length_append, List.length_cons, lA, lB]; omega
  have wlt : LtB (M * 3) 10 (bs.take s ++ ((bv bs s).1, 1 - (lows bs - (bv bs s).1) + 1 / 3) :: bs.drop (s + 1)) := fun b hb => by
    have old : ∀ b ∈ bs, Lt (M * 3) 10 b.1 ∧ Lt (M * 3) 10 b.2 := fun b hb => ⟨((hbl b hb).1.dvd 3).mono (by omega), ((hbl b hb).2.dvd 3).mono (by omega)⟩
    rcases List.mem_append.mp hb with z | z
    · exact old b (List.mem_of_mem_take z)
    · rcases List.mem_cons.mp z with z | z
      · rw [z]
        exact ⟨(old _ (bv_mem hs)).1, u4.mono (by omega)⟩
      · exact old b (List.mem_of_mem_drop z)
  have c6 := tight_bounds_ok (pot := pt1) m3 M3 (by omega) (by omega : 10 ≤ 1000) (by rw [wl]; exact l2) (by rw [wl]; exact l6) wlt hf1
  have k1 : (bv bs s).2 = 1 - (lows bs - (bv bs s).1) → narD (bs.take s ++ ((bv bs s).1, 1 - (lows bs - (bv bs s).1) + 1 / 3) :: bs.drop (s + 1)) = bdD bs := fun e => by
    rw [← e]
    have t : Ti (bs.take s ++ bv bs s :: bs.drop (s + 1)) := by rw [← eb]; exact ht
    have w := wide_nar t (by rw [← eb]; exact e)
    unfold narD
    rw [w]
    dsimp only
    rw [← eb]
  -- the two that are none
  have r1 : LtB 9 1 (List.replicate bs.length ((0 : Rat), (1 / 9 : Rat))) := fun b hb => by
    rw [(List.mem_replicate.mp hb).2]; exact ⟨lt_zero, lt19⟩
  have r2 : LtB 10 1 (List.replicate bs.length ((9 / 10 : Rat), (1 : Rat))) := fun b hb => by
    rw [(List.mem_replicate.mp hb).2]; exact ⟨lt910, lt_one (by omega)⟩
  have c7 := tight_bounds_ok (pot := pt1) (by omega : 0 < 9) (by omega) (by omega) (by omega : 1 ≤ 1000) (by rw [List.length_replicate]; exact l2) (by rw [List.length_replicate]; exact l6) r1 hf1
  have c8 := tight_bounds_ok (pot := pt1) (by omega : 0 < 10) (by omega) (by omega) (by omega : 1 ≤ 1000) (by rw [List.length_replicate]; exact l2) (by rw [List.length_replicate]; exact l6) r2 hf1
  have n7 : narD (List.replicate bs.length ((0 : Rat), (1 / 9 : Rat))) = .non := by unfold narD; rw [nar_none1 _ l2 l6]
  have n8 : narD (List.replicate bs.length ((9 / 10 : Rat), (1 : Rat))) = .non := by unfold narD; rw [nar_none2 _ l2 l6]
  rw [n7] at c7
  rw [n8] at c8
  have p7 : D.tup (List.replicate bs.length (.tup [fr 0, fr (1 / 9)])) = bdD (List.replicate bs.length ((0 : Rat), (1 / 9 : Rat))) := by unfold bdD; rw [List.map_replicate]; rfl
  have p8 : D.tup (List.replicate bs.length (.tup [fr (9 / 10), fr 1])) = bdD (List.replicate bs.length ((9 / 10 : Rat), (1 : Rat))) := by unfold bdD; rw [List.map_replicate]; rfl
  have w1 := smv one m0 (by omega) (by omega)
  have ws := smv sl m0 (by omega) (by omega)
  have wu1 := smv u1 m0 (by omega) (by omega)
  have w13 := smv u2 m3 (by omega) (by omega)
  have n1 : (bs.length : Int) ≤ 16777216 ∧ (-16777216 : Int) ≤ (bs.length : Int) := by omega
  have n2 : ((bs.length : Int).toNat) = bs.length := by omega
  have n3 : bs.length ≤ 16777216 := by omega
  have i1 : items (bdD bs) = some (bs.map pD) := rfl
  have t1 : cutD (bs.map pD) none (some (s : Int)) = (bs.take s).map pD := by rw [cut_take (by rw [List.length_map]; omega), List.map_take]
  have t2 : cutD (bs.map pD) (some ((s : Int) + 1)) none = (bs.drop (s + 1)).map pD := by
    have : ((s : Int) + 1) = ((s + 1 : Nat) : Int) := by omega
    rw [this, cut_drop (by rw [List.length_map]; omega), List.map_drop]
  have q1 : bdD bs = .tup (bs.map pD) := rfl
  have pw : D.tup [fr (bv bs s).1, fr (1 - (lows bs - (bv bs s).1) + 1 / 3)] = pD ((bv bs s).1, 1 - (lows bs - (bv bs s).1) + 1 / 3) := rfl
  -- bounds[:at] + (wide,) + bounds[at + 1:]
  have a1 : fAdd (.tup ((bs.take s).map pD)) (.tup [pD ((bv bs s).1, 1 - (lows bs - (bv bs s).1) + 1 / 3)]) = some (.tup ((bs.take s).map pD ++ [pD ((bv bs s).1, 1 - (lows bs - (bv bs s).1) + 1 / 3)])) := fAdd_tup _ _ (by rw [List.length_map, lA]; simp; omega)
  have a2 : fAdd (.tup ((bs.take s).map pD ++ [pD ((bv bs s).1, 1 - (lows bs - (bv bs s).1) + 1 / 3)])) (.tup ((bs.drop (s + 1)).map pD)) = some (bdD (bs.take s ++ ((bv bs s).1, 1 - (lows bs - (bv bs s).1) + 1 / 3) :: bs.drop (s + 1))) := by
    rw [fAdd_tup _ _ (by rw [List.length_append, List.length_map, List.length_map, lA, lB]; simp; omega), List.append_assoc]
    exact congrArg some (bd_app _ _ _)
  have a3 : fAdd (.int (s : Int)) (.int 1) = some (.int ((s : Int) + 1)) := rfl
  refine ⟨pt1, ?_, hp1⟩
  unfold G__law_are_ends_right m__law_are_ends_right
  simp only [defn, List.length_cons, List.length_nil]
  have e1' := e1 o3 o4 o5 o6
  have fz : ∀ p : Rat × Rat, fIx (pD p) (.int 0) = some (fr p.1) := fun _ => rfl
  have fo : ∀ p : Rat × Rat, fIx (pD p) (.int 1) = some (fr p.2) := fun _ => rfl
  have c4' := c4
  simp [defn, cI, isiB, bTuple, bInt, cIs, cIsNot, isNon, cEq_ii, cNe_ii, notOwn_ob, notOwn_val, notOwn_un, notOwn_pot, notOwn_succ, items_tup, items_lst, ev_iRng1, n1, n2, n3, rng_iD, c1, c3, c4, cNe_bd, c2, i1, enumD_map, wipeE, e1', c5, f1, fz, fo, fr_one, fr_13, law_less_ok, law_added_ok, w1, ws, wu1, w13, pw, cEq_fr, -List.map_map]
  have cne : cNe (.tup (bs.map pD)) (.tup (bs.map pD)) = some (.bl false) := by
    have := cNe_bd bs bs
    simpa [bdD] using this
  have x7 : fMul (.tup [.tup [.tup [.int 0, .int 1], .tup [.int 1, .int 9]]]) (.int (bs.length : Int)) = some (bdD (List.replicate bs.length ((0 : Rat), (1 / 9 : Rat)))) := by
    rw [fr_19, fr_zero, mul_rep _ _ l2 l6, p7]
  have x8 : fMul (.tup [.tup [.tup [.int 9, .int 10], fr 1]]) (.int (bs.length : Int)) = some (bdD (List.replicate bs.length ((9 / 10 : Rat), (1 : Rat)))) := by
    rw [fr_910, mul_rep _ _ l2 l6, p8]
  by_cases k : (bv bs s).2 = 1 - (lows bs - (bv bs s).1)
  · have c6' := c6
    rw [k1 k] at c6'
    simp only [decide_eq_true k]
    have q2 : ∀ (P : D → Prop), P (.tup (bs.map pD)) → P (bdD bs) := fun P h => h
    unfold bdD at c6' a2 x7 x8 c7 c8 ⊢
    simp [a3, t1, t2, a1, a2, c6', cne, x7, x8, c7, c8, cIs, isNon, -List.map_replicate, -List.map_map, -List.map_append, -List.map_cons, -List.map_take, -List.map_drop, -List.append_assoc]
  · simp only [decide_eq_false k]
    simp [x7, x8, c7, c8, cIs, isNon]
end K47
set_option linter.all false
set_option maxRecDepth 100000
set_option exponentiation.threshold 10000
namespace K47
open DL
theorem cNe_bl (a b : Bool) : cNe (.bl a) (.bl b) = some (.bl (!(a == b))) := by
  unfold cNe
  rw [if_pos (by simp [dep])]
  simp only [eqD]
theorem law_right_ok {N : Nat} (hN : N ≤ 4000) {pot : Pot} (hp : PotB N pot) : ∃ pot', G__law_right [.pot] pot = some (.bl true, pot') ∧ PotB (N + 100) pot' := by
  obtain ⟨z, pt1, c1, z0, z1, hp1⟩ := law_take_ok (by omega) hp 5 (by decide) (by decide)
  obtain ⟨n, hn⟩ : ∃ n : Nat, 2 + z = (n : Int) := ⟨(2 + z).toNat, by omega⟩
  have n2 : 2 ≤ n := by omega
  have n6 : n ≤ 6 := by omega
  obtain ⟨W, ps, pt2, c2, W0, W54, hl, hp2⟩ := law_chances_ok (by omega) hp1 n n2 n6
  have e1 : ((1 : Nat) : Rat) = 1 := rfl
  obtain ⟨cs, pt3, c3, lcs, hpr, hp3⟩ := law_bounds_ok (by omega) hp2 W0 W54 ps hl n6 (fun p hp => by have := (hl.lt p hp).hi; rwa [e1] at this)
  have smv : ∀ {q : Rat} {M D : Nat}, Lt M D q → 0 < M → M ≤ 1000000000 → D ≤ 1000000000 → Sm q := fun h a b c => (h.sh a b c).sm
  have hw : ∀ q ∈ ps.zip cs, q.2.1 ≤ q.1 ∧ q.1 ≤ q.2.2 := fun q hq => ⟨(hpr q hq).lo, (hpr q hq).hi⟩
  have hcs : ∀ c ∈ cs, Lt (W * 12) 1 c.1 ∧ Lt (W * 12) 1 c.2 ∧ 0 ≤ c.1 ∧ c.2 ≤ 1 := fun c hc => by
    obtain ⟨p, hpc⟩ := zip_of_mem lcs hc
    have := hpr _ hpc
    exact ⟨this.lt.1, this.lt.2, this.lo0, this.hi1⟩
  have ti := tight_ti lcs hw (fun c hc => ⟨(hcs c hc).2.2.1, (hcs c hc).2.2.2⟩) hl.one
  have twin := tg_within lcs hw hl.one
  have hcl : LtB (W * 12) 1 cs := fun c hc => ⟨(hcs c hc).1, (hcs c hc).2.1⟩
  have bt : BT (W * 12) (cs.map (tg (lows cs) (highs cs))) := by
    refine ⟨by omega, by omega, fun b hb => ?_, by rw [List.length_map, lcs, hl.len]; exact n2, by rw [List.length_map, lcs, hl.len]; exact n6, ti⟩
    have tb := ti.le b hb
    obtain ⟨c, hc, rfl⟩ := List.mem_map.mp hb
    have t := tg_lt (hcl c hc) hcl.lows hcl.highs
    exact ⟨t.1.in01 tb.1 (Rat.le_trans tb.2.1 tb.2.2), t.2.in01 (Rat.le_trans tb.1 tb.2.1) tb.2.2⟩
  have lbs : (cs.map (tg (lows cs) (highs cs))).length = n := by rw [List.length_map, lcs, hl.len]
  have c4 := law_is_within_ok (cs.map (tg (lows cs) (highs cs))) ps pt3 (fun x hx => smv (hl.lt x hx) W0 (by omega) (by omega)) (fun b hb => ⟨smv (bt.lt b hb).1 (by omega) (by omega) (by omega), smv (bt.lt b hb).2 (by omega) (by omega) (by omega)⟩) (by rw [hl.len]; omega)
  rw [withinB_iff.mpr (fun q hq => by
    rw [List.zip_map_right] at hq
    obtain ⟨r, hr, rfl⟩ := List.mem_map.mp hq
    exact twin r hr)] at c4
  generalize cs.map (tg (lows cs) (highs cs)) = bs at *
  obtain ⟨pt4, c5, hp4⟩ := law_are_sums_right_ok (by omega) bt hp3
  obtain ⟨bet, pt5, c6, lbet, hbet, hp5⟩ := bet_lc (by omega) hp4 n n6 [.pot, .val (.int n), .val (frD ps), .val (bdD bs), .un, .un] (fun x => ⟨[.pot, .val (.int n), .val (frD ps), .val (bdD bs), .un, .val x], by simp [defn, cI, isiB, bTuple, bInt, cIs, cIsNot, isNon, cEq_ii, cNe_ii, notOwn_ob, notOwn_val, notOwn_un, notOwn_pot, notOwn_succ, items_tup, items_lst], rfl⟩)
  have lb : bet.length = bs.length := by rw [lbet, lbs]
  obtain ⟨v, x, t⟩ := bt.top lb
  have f5 := hp5.flat
  have bl : ∀ x ∈ bet, Lt 12 6 x := fun x hx => (hbet x hx).1
  have gs := t.sum bt (pot := pt5) (by omega) (by omega) bl lb (by omega) (by omega) f5
  have tv := t.lt bt bl
  have sv := smv tv (by omega) (by omega) (by omega)
  have c7 := is_fair_ok (pot := pt5) bt.bd f5 (by omega) (by omega) bl lb (by omega) (by omega) (fun x hx => (hbet x hx).2) t.eq sv
  obtain ⟨pt6, c8, hp6⟩ := law_are_ends_right_ok (by omega) bt hp5
  rw [lbs] at c5 c8
  have one : Lt 1 1 1 := lt_one (by omega)
  have s1 := smv one (by omega) (by omega) (by omega)
  refine ⟨pt6, ?_, hp6.mono (by omega)⟩
  have n1 : (n : Int) ≤ 16777216 ∧ (-16777216 : Int) ≤ (n : Int) := by omega
  have n3 : ((n : Int).toNat) = n := by omega
  have n4 : n ≤ 16777216 := by omega
  have fm : ∀ l : List Rat, D.tup (l.map fr) = frD l := fun _ => rfl
  unfold G__law_right m__law_right
  simp only [defn, List.length_cons, List.length_nil]
  simp [defn, cI, isiB, bTuple, bInt, cIs, cIsNot, isNon, cEq_ii, cNe_ii, notOwn_ob, notOwn_val, notOwn_un, notOwn_pot, notOwn_succ, items_tup, items_lst, fAdd, iAdd, c1, hn, c2, c3, c4, c5, ev_iRng1, n1, n3, n4, rng_map, wipeE, c6, fm, c7, gs, fx0, fr_one, law_is_below_ok, s1, sv, cNe_bl, c8, -List.map_map]
/-! ## the pot -/
theorem pow1 : iPow (.int 10) (.int 60) = some (.int (10 ^ 60)) := by
  simp only [iPow]
  rw [if_pos (.inl ⟨by decide, by decide, by decide⟩)]
  rfl
theorem pow2 : iPow (.int (10 ^ 60)) (.int 5) = some (.int ((10 ^ 60) ^ 5)) := by
  simp only [iPow]
  rw [if_pos (.inr ⟨by decide, by decide +kernel⟩)]
  rfl
theorem pow3 : iPow (.int 10) (.int 18) = some (.int (10 ^ 18)) := by
  simp only [iPow]
  rw [if_pos (.inl ⟨by decide, by decide, by decide⟩)]
  rfl
theorem big_sz {m : Int} (h0 : 0 ≤ m) (h : m < (10 ^ 60) ^ 5) : Sz m := by
  have e : ((10 ^ 60) ^ 5 : Int).natAbs < 2 ^ 4000 := by decide +kernel
  unfold Sz
  omega
theorem law_pot_ok (ns : List Int) (j : Nat) (hj : j ≤ 2) (pot : Pot) : ∃ a b : Int, G__law_pot [.val (.lst (ns.map D.int)), .val (.int (j : Int))] pot = some ([.int a, .int b, .int 0], pot) ∧ PotB 0 (some [.int a, .int b, .int 0]) := by
  -- the cell
  obtain ⟨cell, hc⟩ : ∃ cell : Int, (dIf (dT (d2 cLt (dV 1) (dB bLen (aCons (dV 0) aNil)))) (d2 fIx (dV 0) (dV 1)) (d2 fAdd (d2 fAdd (d2 iMod (dB bSum (aCons (dSl (dV 0) oNone (oSome (dC (.int 1)))) aNil)) (dC (.int 1000003))) (d2 fMul (dC (.int 65490)) (dV 1))) (dC (.int 20980)))) [.val (.lst (ns.map D.int)), .val (.int (j : Int)), .un, .un, .un] pot = some (.int cell, pot) := by
    by_cases h : j < ns.length
    · refine ⟨ns[j], ?_⟩
      have f : fIx (.lst (ns.map D.int)) (.int (j : Int)) = some (.int ns[j]) := by
        show L2.atI (ns.map D.int) (j : Int) = _
        exact L2.atI_nat (by rw [List.getElem?_map, List.getElem?_eq_getElem h]; rfl)
      simp [cI, bLen, h, f]
    · refine ⟨(ns.take 1).sum % 1000003 + 65490 * (j : Int) + 20980, ?_⟩
      have cu : cutD (ns.map D.int) none (some (1 : Int)) = (ns.take 1).map D.int := by
        have : cutD (ns.map D.int) none (some ((1 : Nat) : Int)) = ((ns.map D.int).drop 0).take (min 1 (ns.map D.int).length - 0) := by
          unfold cutD
          rw [HT.sIx_none, HT.sIx_nat]
        rw [show (1 : Int) = ((1 : Nat) : Int) from rfl, this, List.map_take]
        cases ns with
        | nil => rfl
        | cons a l => simp
      have m : fMul (.int 65490) (.int (j : Int)) = some (.int (65490 * (j : Int))) := fMul_ev (sz64 (by decide)) (sz64 (by omega))
      have hlt : ¬ ((j : Int) < (ns.length : Int)) := by omega
      simp [cI, bLen, hlt, h, cu, bSum_map, iMod, fAdd, iAdd, m, -List.map_take]
  have ha : 0 ≤ (if cell < 0 then -cell else cell) := by split <;> omega
  generalize hA : (if cell < 0 then -cell else cell) = A at ha
  have p0 : (0 : Int) < (10 ^ 60) ^ 5 := by decide +kernel
  have m0 := Int.emod_nonneg A (show ((10 ^ 60) ^ 5 : Int) ≠ 0 by omega)
  have m1 := Int.emod_lt_of_pos A p0
  have s1 : ∀ k : Int, k = 0 ∨ k = 1 → fMul (.int (A % (10 ^ 60) ^ 5)) (.int k) = some (.int (A % (10 ^ 60) ^ 5 * k)) := fun k hk => fMul_ev (big_sz m0 m1) (sz64 (by omega))
  have q0 := Int.emod_nonneg cell (show (2305843009213693951 : Int) ≠ 0 by decide)
  have q1 := Int.emod_lt_of_pos cell (show (0 : Int) < 2305843009213693951 by decide)
  generalize hS : cell % 2305843009213693951 = sm at q0 q1
  have f1 : fMul (.int sm) (.int 493060) = some (.int (sm * 493060)) := fMul_ev (sz64 (by omega)) (sz64 (by decide))
  have f2 : fMul (.int 64934) (.int (j : Int)) = some (.int (64934 * (j : Int))) := fMul_ev (sz64 (by decide)) (sz64 (by omega))
  have f3 : fMul (.int (64934 * (j : Int))) (.int (j : Int)) = some (.int (64934 * (j : Int) * (j : Int))) := fMul_ev (sz64 (by omega)) (sz64 (by omega))
  have r0 := Int.emod_nonneg (sm * 493060 + 64934 * (j : Int) * (j : Int) + 40002) (show (2305843009213693921 : Int) ≠ 0 by decide)
  have r1 := Int.emod_lt_of_pos (sm * 493060 + 64934 * (j : Int) * (j : Int) + 40002) (show (0 : Int) < 2305843009213693921 by decide)
  have p0' : iMod (.int A) (.int ((10 ^ 60) ^ 5)) = some (.int (A % (10 ^ 60) ^ 5)) := by simp only [iMod]; rw [if_pos p0]
  have pw1 := pow1
  have pw2 := pow2
  have pw3 := pow3
  generalize hP : ((10 ^ 60) ^ 5 : Int) = P at *
  generalize hT : (10 ^ 60 : Int) = T at pw1 pw2
  generalize hE : (10 ^ 18 : Int) = E at pw3
  refine ⟨A % P * (if E ≤ A then 1 else 0), (sm * 493060 + 64934 * (j : Int) * (j : Int) + 40002) % 2305843009213693921, ?_, _, _, 0, rfl, ?_, r0, by omega, by omega, by omega⟩
  · have hab : ∀ c : Int, bAbs [.int c] = some (.int (if c < 0 then -c else c)) := fun _ => rfl
    have hmod : iMod (.int cell) (.int 2305843009213693951) = some (.int sm) := by simp only [iMod]; rw [if_pos (by decide), hS]
    have hmod2 : ∀ t : Int, iMod (.int t) (.int 2305843009213693921) = some (.int (t % 2305843009213693921)) := fun t => by simp only [iMod]; rw [if_pos (by decide)]
    unfold G__law_pot m__law_pot
    simp only [defL, List.length_cons, List.length_nil]
    rw [ev_mSeq, ev_mAsg]
    simp only [List.length_cons, List.length_nil, List.replicate, List.cons_append, List.nil_append, Nat.reduceSub, Nat.reduceAdd]
    rw [hc]
    by_cases k : E ≤ A <;> simp [defn, cI, isiB, bTuple, bInt, cIs, cIsNot, isNon, cEq_ii, cNe_ii, notOwn_ob, notOwn_val, notOwn_un, notOwn_pot, notOwn_succ, items_tup, items_lst, fAdd, iAdd, hab, hA, pw1, pw2, pw3, p0', k, s1, hmod, hmod2, f1, f2, f3]
  · split
    · rw [Int.mul_one]; exact m0
    · rw [Int.mul_zero]; exact Int.le_refl 0
theorem plain (ns : List Int) (h : ns.length ≤ 63) : ∃ pot', m_law (.val (.lst (ns.map D.int)) :: List.replicate (N_law.length - 1) .un) none = some (.rt (.bl true) pot') := by
  -- the cells
  obtain ⟨k, k1, k3, ck⟩ : ∃ k : Nat, 1 ≤ k ∧ k ≤ 3 ∧ G__law_cells [.val (.lst (ns.map D.int)), .val (.int 3)] none = some (.lst ((List.range k).map iD), none) := by
    have e : ∃ k : Nat, 1 ≤ k ∧ k ≤ 3 ∧ (if (if (ns.length : Int) < 3 then (ns.length : Int) else 3) > 1 then (if (ns.length : Int) < 3 then (ns.length : Int) else 3) else 1) = (k : Int) := by
      refine ⟨(if (if (ns.length : Int) < 3 then (ns.length : Int) else 3) > 1 then (if (ns.length : Int) < 3 then (ns.length : Int) else 3) else 1).toNat, ?_, ?_, ?_⟩ <;> split <;> (try split) <;> omega
    obtain ⟨k, h1, h2, h3⟩ := e
    refine ⟨k, h1, h2, ?_⟩
    have b1 : bLen [.lst (ns.map D.int)] = some (.int ns.length) := by simp [bLen]
    have b2 : bMin [.int 3, .int ns.length] = some (.int (if (ns.length : Int) < 3 then (ns.length : Int) else 3)) := rfl
    have b3 : bMax [.int 1, .int (if (ns.length : Int) < 3 then (ns.length : Int) else 3)] = some (.int (k : Int)) := by
      rw [← h3]
      rfl
    have n1 : (k : Int) ≤ 16777216 ∧ (-16777216 : Int) ≤ (k : Int) := by omega
    have n2 : ((k : Int).toNat) = k := by omega
    unfold G__law_cells m__law_cells
    simp only [defn, List.length_cons, List.length_nil]
    simp [fListRg, b1, b2, b3, n1, n2, rng_iD, -List.map_map]
  obtain ⟨env', pot', c1, o1, b2, o3, e1, e2, e3⟩ := for_inv (g := gN 1) (mb := Lb_law_2) iD
    (fun done env p => ∃ (o1 : Option D) (b2 : B) (o3 : Option D), env = [.val (.lst (ns.map D.int)), ob o1, b2, ob o3] ∧ (b2 = .un ∨ b2 = .pot) ∧ flatP p = true) (List.range k)
    (env := [.val (.lst (ns.map D.int)), .un, .un, .un]) (pot := none) ⟨none, .un, none, rfl, .inl rfl, rfl⟩ (fun d j r env p hd hi => by
      obtain ⟨o1, b2, o3, rfl, hb2, hf⟩ := hi
      have hj : j ≤ 2 := by
        have : j < k := List.mem_range.mp (by rw [hd]; simp)
        omega
      obtain ⟨a, b, cp, hp⟩ := law_pot_ok ns j hj p
      obtain ⟨ds, pt, l1, l2, l3, l4⟩ := lc_pot (g := gN 3) (mt := tYes1) (me := Ce_law_1) (env := [.val (.lst (ns.map D.int)), .val (.int (j : Int)), .pot, .un]) iD (fun _ d => d = .bl true) (fun i pot => PotB (100 * i) pot) 3 (List.range 3) 0 (some [.int a, .int b, .int 0]) (by simp) hp (fun x hx i pot hi hp => by
        obtain ⟨pt, t1, t2⟩ := law_right_ok (by omega) hp
        exact ⟨[.val (.lst (ns.map D.int)), .val (.int (j : Int)), .pot, .val (iD x)], .bl true, pt, by simp [defn, cI, isiB, bTuple, bInt, cIs, cIsNot, isNon, cEq_ii, cNe_ii, notOwn_ob, notOwn_val, notOwn_un, notOwn_pot, notOwn_succ, items_tup, items_lst], rfl, by simp [Ce_law_1, t1], rfl, by rw [show 100 * (i + 1) = 100 * i + 100 by omega]; exact t2⟩)
      have hds : ds = (List.range 3).map fun _ => .bl true := by
        apply List.ext_getElem
        · rw [l2]; simp
        · intro i h1 h2
          have hz : ((List.range 3)[i]'(by rw [← l2]; exact h1), ds[i]) ∈ (List.range 3).zip ds := by
            rw [List.mem_iff_getElem]
            exact ⟨i, by rw [List.length_zip, l2]; rw [l2] at h1; omega, by rw [List.getElem_zip]⟩
          rw [List.getElem_map]
          exact l3 _ hz
      subst hds
      have ba := bAll_true (List.range 3)
      refine ⟨[.val (.lst (ns.map D.int)), .val (iD j), b2, ob o3], [.val (.lst (ns.map D.int)), .val (iD j), .pot, ob o3], pt, by simp [defn, cI, isiB, bTuple, bInt, cIs, cIsNot, isNon, cEq_ii, cNe_ii, notOwn_ob, notOwn_val, notOwn_un, notOwn_pot, notOwn_succ, items_tup, items_lst], ?_, some (iD j), .pot, o3, rfl, .inr rfl, l4.flat⟩
      have i3 : isPot (ob o3) = false := by cases o3 <;> rfl
      have r3 : rng 0 3 = (List.range 3).map iD := rng_iD 3
      have b2n : notOwn [.val (.lst (ns.map D.int)), .val (iD j), b2, ob o3] 2 = true := by
        rcases hb2 with z | z <;> (rw [z]; rfl)
      have l1' : lcLoop (gN 3) tYes1 Ce_law_1 [.val (.lst (ns.map D.int)), .val (iD j), .pot, .un] ((List.range 3).map iD) (some [.int a, .int b, .int 0]) = some ((List.range 3).map (fun _ => .bl true), pt) := l1
      have cp' : G__law_pot [.val (.lst (ns.map D.int)), .val (iD j)] p = some ([.int a, .int b, .int 0], p) := cp
      unfold Lb_law_2
      rw [ev_mSeq, ev_mPot]
      have ac : aCall G__law_pot (bCons (dV 0) (bCons (dV 1) bNil)) [.val (.lst (ns.map D.int)), .val (iD j), b2, ob o3] p = some ([.int a, .int b, .int 0], p) := by simp [cp']
      rw [ac]
      dsimp only
      rw [if_pos ⟨b2n, hf, by simp, by cases o3 <;> simp [ob, isPot]⟩]
      dsimp only
      rw [show ([.val (.lst (ns.map D.int)), .val (iD j), b2, ob o3] : List B).set 2 .pot = [.val (.lst (ns.map D.int)), .val (iD j), .pot, ob o3] from rfl]
      simp [ev_iRng1, r3, defn, cI, isiB, bTuple, bInt, cIs, cIsNot, isNon, cEq_ii, cNe_ii, notOwn_ob, notOwn_val, notOwn_un, notOwn_pot, notOwn_succ, items_tup, items_lst, wipeE, l1', ba, -List.map_map, -List.map_const_fun])
  refine ⟨pot', ?_⟩
  have i1 : items (.lst ((List.range k).map iD)) = some ((List.range k).map iD) := rfl
  unfold m_law
  show mSeq _ _ [.val (.lst (ns.map D.int)), .un, .un, .un] none = _
  subst e1
  simp [ck, i1, c1, -List.map_map]
end K47
set_option Elab.async false
set_option linter.all false
set_option maxRecDepth 100000
set_option maxHeartbeats 0
namespace K47
open PySem PySem.Spec PyProof.Rows L2 DL
def fn0 : List He.DefD := [⟨("_law_cells", none), "_law_cells", "_law_cells", defArgs st__law_cells, defBody st__law_cells, defScope st__law_cells, [], []⟩, ⟨("_law_pot", none), "_law_pot", "_law_pot", defArgs st__law_pot, defBody st__law_pot, defScope st__law_pot, [], []⟩, ⟨("_law_take", none), "_law_take", "_law_take", defArgs st__law_take, defBody st__law_take, defScope st__law_take, [], []⟩, ⟨("_law_cut", none), "_law_cut", "_law_cut", defArgs st__law_cut, defBody st__law_cut, defScope st__law_cut, [], []⟩, ⟨("_law_chances", none), "_law_chances", "_law_chances", defArgs st__law_chances, defBody st__law_chances, defScope st__law_chances, [], []⟩, ⟨("_law_added", none), "_law_added", "_law_added", defArgs st__law_added, defBody st__law_added, defScope st__law_added, [], []⟩, ⟨("_law_total", none), "_law_total", "_law_total", defArgs st__law_total, defBody st__law_total, defScope st__law_total, [], []⟩, ⟨("_law_less", none), "_law_less", "_law_less", defArgs st__law_less, defBody st__law_less, defScope st__law_less, [], []⟩, ⟨("_law_is_below", none), "_law_is_below", "_law_is_below", defArgs st__law_is_below, defBody st__law_is_below, defScope st__law_is_below, [], []⟩, ⟨("_law_tight", none), "_law_tight", "_law_tight", defArgs st__law_tight, defBody st__law_tight, defScope st__law_tight, [], []⟩, ⟨("_law_of", none), "_law_of", "_law_of", defArgs st__law_of, defBody st__law_of, defScope st__law_of, [], []⟩, ⟨("_law_bounds", none), "_law_bounds", "_law_bounds", defArgs st__law_bounds, defBody st__law_bounds, defScope st__law_bounds, [], []⟩, ⟨("common", none), "common", "common", defArgs st_common, defBody st_common, defScope st_common, [], []⟩, ⟨("reduced", none), "reduced", "reduced", defArgs st_reduced, defBody st_reduced, defScope st_reduced, [], []⟩, ⟨("sum_of", none), "sum_of", "sum_of", defArgs st_sum_of, defBody st_sum_of, defScope st_sum_of, [], []⟩, ⟨("dot_of", none), "dot_of", "dot_of", defArgs st_dot_of, defBody st_dot_of, defScope st_dot_of, [], []⟩, ⟨("is_less", none), "is_less", "is_less", defArgs st_is_less, defBody st_is_less, defScope st_is_less, [], []⟩, ⟨("greatest_by", none), "greatest_by", "greatest_by", defArgs st_greatest_by, defBody st_greatest_by, defScope st_greatest_by, [], []⟩, ⟨("difference", none), "difference", "difference", defArgs st_difference, defBody st_difference, defScope st_difference, [], []⟩, ⟨("lies_within", none), "lies_within", "lies_within", defArgs st_lies_within, defBody st_lies_within, defScope st_lies_within, [], []⟩]
def fn1 : List He.DefD := [⟨("corners_within", none), "corners_within", "corners_within", defArgs st_corners_within, defBody st_corners_within, defScope st_corners_within, [], []⟩, ⟨("greatest_told", none), "greatest_told", "greatest_told", defArgs st_greatest_told, defBody st_greatest_told, defScope st_greatest_told, [], []⟩, ⟨("is_integer", none), "is_integer", "is_integer", defArgs st_is_integer, defBody st_is_integer, defScope st_is_integer, [], []⟩, ⟨("is_told_fraction", none), "is_told_fraction", "is_told_fraction", defArgs st_is_told_fraction, defBody st_is_told_fraction, defScope st_is_told_fraction, [], []⟩, ⟨("is_fraction", none), "is_fraction", "is_fraction", defArgs st_is_fraction, defBody st_is_fraction, defScope st_is_fraction, [], []⟩, ⟨("are_pairs_of", none), "are_pairs_of", "are_pairs_of", defArgs st_are_pairs_of, defBody st_are_pairs_of, defScope st_are_pairs_of, [], []⟩, ⟨("lows_and_highs", none), "lows_and_highs", "lows_and_highs", defArgs st_lows_and_highs, defBody st_lows_and_highs, defScope st_lows_and_highs, [], []⟩, ⟨("narrowed", none), "narrowed", "narrowed", defArgs st_narrowed, defBody st_narrowed, defScope st_narrowed, [], []⟩, ⟨("is_bounds_of", none), "is_bounds_of", "is_bounds_of", defArgs st_is_bounds_of, defBody st_is_bounds_of, defScope st_is_bounds_of, [], []⟩, ⟨("is_any_bounds", none), "is_any_bounds", "is_any_bounds", defArgs st_is_any_bounds, defBody st_is_any_bounds, defScope st_is_any_bounds, [], []⟩, ⟨("are_fractions", none), "are_fractions", "are_fractions", defArgs st_are_fractions, defBody st_are_fractions, defScope st_are_fractions, [], []⟩, ⟨("greatest_sum", none), "greatest_sum", "greatest_sum", defArgs st_greatest_sum, defBody st_greatest_sum, defScope st_greatest_sum, [], []⟩, ⟨("tight_bounds", none), "tight_bounds", "tight_bounds", defArgs st_tight_bounds, defBody st_tight_bounds, defScope st_tight_bounds, [], []⟩, ⟨("is_between", none), "is_between", "is_between", defArgs st_is_between, defBody st_is_between, defScope st_is_between, [], []⟩, ⟨("checked_signs", none), "checked_signs", "checked_signs", defArgs st_checked_signs, defBody st_checked_signs, defScope st_checked_signs, [], []⟩, ⟨("is_bounds", none), "is_bounds", "is_bounds", defArgs st_is_bounds, defBody st_is_bounds, defScope st_is_bounds, [], []⟩, ⟨("_law_are_ends_right", none), "_law_are_ends_right", "_law_are_ends_right", defArgs st__law_are_ends_right, defBody st__law_are_ends_right, defScope st__law_are_ends_right, [], []⟩, ⟨("checked_bounds", none), "checked_bounds", "checked_bounds", defArgs st_checked_bounds, defBody st_checked_bounds, defScope st_checked_bounds, [], []⟩, ⟨("is_bet_of", none), "is_bet_of", "is_bet_of", defArgs st_is_bet_of, defBody st_is_bet_of, defScope st_is_bet_of, [], []⟩, ⟨("checked_bet", none), "checked_bet", "checked_bet", defArgs st_checked_bet, defBody st_checked_bet, defScope st_checked_bet, [], []⟩]
def fn2 : List He.DefD := [⟨("is_fair_for", none), "is_fair_for", "is_fair_for", defArgs st_is_fair_for, defBody st_is_fair_for, defScope st_is_fair_for, [], []⟩, ⟨("is_fair", none), "is_fair", "is_fair", defArgs st_is_fair, defBody st_is_fair, defScope st_is_fair, [], []⟩, ⟨("_law_is_within", none), "_law_is_within", "_law_is_within", defArgs st__law_is_within, defBody st__law_is_within, defScope st__law_is_within, [], []⟩, ⟨("is_law_of", none), "is_law_of", "is_law_of", defArgs st_is_law_of, defBody st_is_law_of, defScope st_is_law_of, [], []⟩, ⟨("is_any_law", none), "is_any_law", "is_any_law", defArgs st_is_any_law, defBody st_is_any_law, defScope st_is_any_law, [], []⟩, ⟨("added", none), "added", "added", defArgs st_added, defBody st_added, defScope st_added, [], []⟩, ⟨("product_of", none), "product_of", "product_of", defArgs st_product_of, defBody st_product_of, defScope st_product_of, [], []⟩, ⟨("mixed_law", none), "mixed_law", "mixed_law", defArgs st_mixed_law, defBody st_mixed_law, defScope st_mixed_law, [], []⟩, ⟨("_law_numbers", none), "_law_numbers", "_law_numbers", defArgs st__law_numbers, defBody st__law_numbers, defScope st__law_numbers, [], []⟩, ⟨("is_law", none), "is_law", "is_law", defArgs st_is_law, defBody st_is_law, defScope st_is_law, [], []⟩, ⟨("_law_times", none), "_law_times", "_law_times", defArgs st__law_times, defBody st__law_times, defScope st__law_times, [], []⟩, ⟨("_law_sum", none), "_law_sum", "_law_sum", defArgs st__law_sum, defBody st__law_sum, defScope st__law_sum, [], []⟩, ⟨("_law_best", none), "_law_best", "_law_best", defArgs st__law_best, defBody st__law_best, defScope st__law_best, [], []⟩, ⟨("_law_are_sums_right", none), "_law_are_sums_right", "_law_are_sums_right", defArgs st__law_are_sums_right, defBody st__law_are_sums_right, defScope st__law_are_sums_right, [], []⟩, ⟨("_law_right", none), "_law_right", "_law_right", defArgs st__law_right, defBody st__law_right, defScope st__law_right, [], []⟩, ⟨("law", none), "law", "law", defArgs st_law, defBody st_law, defScope st_law, [], []⟩]
def fn : List He.DefD := fn0 ++ fn1 ++ fn2
def fa0 : List He.Fa := [.glo "_law_cells", .glo "_law_pot", .glo "_law_take", .glo "_law_cut", .glo "_law_chances", .glo "_law_added", .glo "_law_total", .glo "_law_less", .glo "_law_is_below", .glo "_law_tight", .glo "_law_of", .glo "_law_bounds", .glo "common", .glo "reduced", .glo "sum_of", .glo "dot_of", .glo "is_less", .glo "greatest_by", .glo "difference", .glo "lies_within", .glo "corners_within", .glo "greatest_told", .glo "is_integer", .glo "is_told_fraction", .glo "is_fraction", .glo "are_pairs_of", .glo "lows_and_highs", .glo "narrowed", .glo "is_bounds_of", .glo "is_any_bounds"]
def fa1 : List He.Fa := [.glo "are_fractions", .glo "greatest_sum", .glo "tight_bounds", .glo "is_between", .glo "checked_signs", .glo "is_bounds", .glo "_law_are_ends_right", .glo "checked_bounds", .glo "is_bet_of", .glo "checked_bet", .glo "is_fair_for", .glo "is_fair", .glo "_law_is_within", .glo "is_law_of", .glo "is_any_law", .glo "added", .glo "product_of", .glo "mixed_law", .glo "_law_numbers", .glo "is_law", .glo "_law_times", .glo "_law_sum", .glo "_law_best", .glo "_law_are_sums_right", .glo "_law_right", .glo "law", .free "abs", .free "all", .free "any", .free "bool"]
def fa2 : List He.Fa := [.free "enumerate", .free "int", .free "isinstance", .free "len", .free "list", .free "max", .free "min", .free "range", .free "sum", .free "tuple", .free "zip", .int "LEAST_SIGNS" 2, .int "MOST_SIGNS_TOLD" 6, .glo "ONE", .glo "ZERO"]
def fa : List He.Fa := fa0 ++ fa1 ++ fa2
def ex (K : PySem.W.Frag) : Bool := He.tupB K "ONE" [(.int 1), (.int 1)] && He.tupB K "ZERO" [(.int 0), (.int 1)]
abbrev R : PySem.W.OpenRow := PySem.W.OpenLaw.row PySem.Challenge.rw_themomentitturned_k47_whole_sums_within
abbrev hk : PySem.W.Hook := He.hookX 4 fa fn [] [] ex
def ob (s : PySem.W.SharedT) : He.AlX := He.obsX 4 fa fn [] [] ex (HandSHeadRun.getT s)
theorem ob_eq (s : PySem.W.SharedT) : ob s = hk.obs s.abs := He.obsX_eq (HandSHeadRun.getT_eq s)
def lo0 : List Str := ["TurnError", "BadBet", "BadBounds", "BadLaw", "BadNumber", "is_integer", "is_between", "ZERO", "ONE", "common", "reduced", "added", "difference", "product_of", "sum_of", "dot_of", "is_less", "is_told_fraction", "are_fractions", "is_fraction", "LEAST_SIGNS", "MOST_SIGNS_TOLD", "checked_signs", "is_law_of", "is_any_law", "are_pairs_of", "lows_and_highs", "is_bounds_of", "narrowed", "is_law"]
def lo1 : List Str := ["is_bounds", "mixed_law", "tight_bounds", "is_any_bounds", "lies_within", "corners_within", "greatest_by", "greatest_told", "greatest_sum", "is_bet_of", "checked_bounds", "checked_bet", "is_fair_for", "is_fair", "_law_pot", "_law_take", "_law_of", "_law_some", "_law_cells", "_law_cut", "_law_added", "_law_less", "_law_times", "_law_is_below", "_law_total", "_law_chances", "_law_bounds", "_law_tight", "_law_sum", "_law_is_within"]
def lo2 : List Str := ["_law_numbers", "_law_best", "_law_are_sums_right", "_law_are_ends_right", "_law_right"]
def loose : List Str := lo0 ++ lo1 ++ lo2
theorem run (w : World) : HandSHeadRun.RunEq R (PySem.W.view R.prog [73]) hk ob 4000 loose w := by
  intro os
  kernel_rfl
section
variable {P : Program} {w : World} {K : PySem.W.Frag} {h : Heap} {mg : Str → Option Value}
theorem facts (X : K.In h) (G : h.Ns mainGlobals mg) (c : He.SaysD fa fn K) (cx : ex K = true) : Facts K mg where
  b_abs := He.free_ok X G (c.facts (by unfold fa; simp [fa0, fa1, fa2]))
  b_all := He.free_ok X G (c.facts (by unfold fa; simp [fa0, fa1, fa2]))
  b_any := He.free_ok X G (c.facts (by unfold fa; simp [fa0, fa1, fa2]))
  b_bool := He.free_ok X G (c.facts (by unfold fa; simp [fa0, fa1, fa2]))
  b_enumerate := He.free_ok X G (c.facts (by unfold fa; simp [fa0, fa1, fa2]))
  b_int := He.free_ok X G (c.facts (by unfold fa; simp [fa0, fa1, fa2]))
  b_isinstance := He.free_ok X G (c.facts (by unfold fa; simp [fa0, fa1, fa2]))
  b_len := He.free_ok X G (c.facts (by unfold fa; simp [fa0, fa1, fa2]))
  b_list := He.free_ok X G (c.facts (by unfold fa; simp [fa0, fa1, fa2]))
  b_max := He.free_ok X G (c.facts (by unfold fa; simp [fa0, fa1, fa2]))
  b_min := He.free_ok X G (c.facts (by unfold fa; simp [fa0, fa1, fa2]))
  b_range := He.free_ok X G (c.facts (by unfold fa; simp [fa0, fa1, fa2]))
  b_sum := He.free_ok X G (c.facts (by unfold fa; simp [fa0, fa1, fa2]))
  b_tuple := He.free_ok X G (c.facts (by unfold fa; simp [fa0, fa1, fa2]))
  b_zip := He.free_ok X G (c.facts (by unfold fa; simp [fa0, fa1, fa2]))
  g_LEAST_SIGNS := gl_int (He.int_ok X G (c.facts (by unfold fa; simp [fa0, fa1, fa2])))
  g_MOST_SIGNS_TOLD := gl_int (He.int_ok X G (c.facts (by unfold fa; simp [fa0, fa1, fa2])))
  g_ONE := gl_tup (He.glo_ok X G (c.facts (by unfold fa; simp [fa0, fa1, fa2]))) (vs := [(.int 1), (.int 1)]) (by simp only [ex, Bool.and_eq_true] at cx; simp [cx]) (fun M H => by simp only [List.map, He.Dv.v, RepL, Rep]; exact ⟨_, _, rfl, rfl, _, _, rfl, rfl, rfl⟩)
  g_ZERO := gl_tup (He.glo_ok X G (c.facts (by unfold fa; simp [fa0, fa1, fa2]))) (vs := [(.int 0), (.int 1)]) (by simp only [ex, Bool.and_eq_true] at cx; simp [cx]) (fun M H => by simp only [List.map, He.Dv.v, RepL, Rep]; exact ⟨_, _, rfl, rfl, _, _, rfl, rfl, rfl⟩)
theorem gm__law_cells (X : K.In h) (G : h.Ns mainGlobals mg) (c : He.SaysD fa fn K) : mg "_law_cells" = some (.ref (He.ga K "_law_cells")) := He.glo_ok X G (c.fact 0 (f := .glo "_law_cells") rfl)
theorem gm__law_pot (X : K.In h) (G : h.Ns mainGlobals mg) (c : He.SaysD fa fn K) : mg "_law_pot" = some (.ref (He.ga K "_law_pot")) := He.glo_ok X G (c.fact 1 (f := .glo "_law_pot") rfl)
theorem gm__law_take (X : K.In h) (G : h.Ns mainGlobals mg) (c : He.SaysD fa fn K) : mg "_law_take" = some (.ref (He.ga K "_law_take")) := He.glo_ok X G (c.fact 2 (f := .glo "_law_take") rfl)
theorem gm__law_cut (X : K.In h) (G : h.Ns mainGlobals mg) (c : He.SaysD fa fn K) : mg "_law_cut" = some (.ref (He.ga K "_law_cut")) := He.glo_ok X G (c.fact 3 (f := .glo "_law_cut") rfl)
theorem gm__law_chances (X : K.In h) (G : h.Ns mainGlobals mg) (c : He.SaysD fa fn K) : mg "_law_chances" = some (.ref (He.ga K "_law_chances")) := He.glo_ok X G (c.fact 4 (f := .glo "_law_chances") rfl)
theorem gm__law_added (X : K.In h) (G : h.Ns mainGlobals mg) (c : He.SaysD fa fn K) : mg "_law_added" = some (.ref (He.ga K "_law_added")) := He.glo_ok X G (c.fact 5 (f := .glo "_law_added") rfl)
theorem gm__law_total (X : K.In h) (G : h.Ns mainGlobals mg) (c : He.SaysD fa fn K) : mg "_law_total" = some (.ref (He.ga K "_law_total")) := He.glo_ok X G (c.fact 6 (f := .glo "_law_total") rfl)
theorem gm__law_less (X : K.In h) (G : h.Ns mainGlobals mg) (c : He.SaysD fa fn K) : mg "_law_less" = some (.ref (He.ga K "_law_less")) := He.glo_ok X G (c.fact 7 (f := .glo "_law_less") rfl)
theorem gm__law_is_below (X : K.In h) (G : h.Ns mainGlobals mg) (c : He.SaysD fa fn K) : mg "_law_is_below" = some (.ref (He.ga K "_law_is_below")) := He.glo_ok X G (c.fact 8 (f := .glo "_law_is_below") rfl)
theorem gm__law_tight (X : K.In h) (G : h.Ns mainGlobals mg) (c : He.SaysD fa fn K) : mg "_law_tight" = some (.ref (He.ga K "_law_tight")) := He.glo_ok X G (c.fact 9 (f := .glo "_law_tight") rfl)
theorem gm__law_of (X : K.In h) (G : h.Ns mainGlobals mg) (c : He.SaysD fa fn K) : mg "_law_of" = some (.ref (He.ga K "_law_of")) := He.glo_ok X G (c.fact 10 (f := .glo "_law_of") rfl)
theorem gm__law_bounds (X : K.In h) (G : h.Ns mainGlobals mg) (c : He.SaysD fa fn K) : mg "_law_bounds" = some (.ref (He.ga K "_law_bounds")) := He.glo_ok X G (c.fact 11 (f := .glo "_law_bounds") rfl)
theorem gm_common (X : K.In h) (G : h.Ns mainGlobals mg) (c : He.SaysD fa fn K) : mg "common" = some (.ref (He.ga K "common")) := He.glo_ok X G (c.fact 12 (f := .glo "common") rfl)
theorem gm_reduced (X : K.In h) (G : h.Ns mainGlobals mg) (c : He.SaysD fa fn K) : mg "reduced" = some (.ref (He.ga K "reduced")) := He.glo_ok X G (c.fact 13 (f := .glo "reduced") rfl)
theorem gm_sum_of (X : K.In h) (G : h.Ns mainGlobals mg) (c : He.SaysD fa fn K) : mg "sum_of" = some (.ref (He.ga K "sum_of")) := He.glo_ok X G (c.fact 14 (f := .glo "sum_of") rfl)
theorem gm_dot_of (X : K.In h) (G : h.Ns mainGlobals mg) (c : He.SaysD fa fn K) : mg "dot_of" = some (.ref (He.ga K "dot_of")) := He.glo_ok X G (c.fact 15 (f := .glo "dot_of") rfl)
theorem gm_is_less (X : K.In h) (G : h.Ns mainGlobals mg) (c : He.SaysD fa fn K) : mg "is_less" = some (.ref (He.ga K "is_less")) := He.glo_ok X G (c.fact 16 (f := .glo "is_less") rfl)
theorem gm_greatest_by (X : K.In h) (G : h.Ns mainGlobals mg) (c : He.SaysD fa fn K) : mg "greatest_by" = some (.ref (He.ga K "greatest_by")) := He.glo_ok X G (c.fact 17 (f := .glo "greatest_by") rfl)
theorem gm_difference (X : K.In h) (G : h.Ns mainGlobals mg) (c : He.SaysD fa fn K) : mg "difference" = some (.ref (He.ga K "difference")) := He.glo_ok X G (c.fact 18 (f := .glo "difference") rfl)
theorem gm_lies_within (X : K.In h) (G : h.Ns mainGlobals mg) (c : He.SaysD fa fn K) : mg "lies_within" = some (.ref (He.ga K "lies_within")) := He.glo_ok X G (c.fact 19 (f := .glo "lies_within") rfl)
theorem gm_corners_within (X : K.In h) (G : h.Ns mainGlobals mg) (c : He.SaysD fa fn K) : mg "corners_within" = some (.ref (He.ga K "corners_within")) := He.glo_ok X G (c.fact 20 (f := .glo "corners_within") rfl)
theorem gm_greatest_told (X : K.In h) (G : h.Ns mainGlobals mg) (c : He.SaysD fa fn K) : mg "greatest_told" = some (.ref (He.ga K "greatest_told")) := He.glo_ok X G (c.fact 21 (f := .glo "greatest_told") rfl)
theorem gm_is_integer (X : K.In h) (G : h.Ns mainGlobals mg) (c : He.SaysD fa fn K) : mg "is_integer" = some (.ref (He.ga K "is_integer")) := He.glo_ok X G (c.fact 22 (f := .glo "is_integer") rfl)
theorem gm_is_told_fraction (X : K.In h) (G : h.Ns mainGlobals mg) (c : He.SaysD fa fn K) : mg "is_told_fraction" = some (.ref (He.ga K "is_told_fraction")) := He.glo_ok X G (c.fact 23 (f := .glo "is_told_fraction") rfl)
theorem gm_is_fraction (X : K.In h) (G : h.Ns mainGlobals mg) (c : He.SaysD fa fn K) : mg "is_fraction" = some (.ref (He.ga K "is_fraction")) := He.glo_ok X G (c.fact 24 (f := .glo "is_fraction") rfl)
theorem gm_are_pairs_of (X : K.In h) (G : h.Ns mainGlobals mg) (c : He.SaysD fa fn K) : mg "are_pairs_of" = some (.ref (He.ga K "are_pairs_of")) := He.glo_ok X G (c.fact 25 (f := .glo "are_pairs_of") rfl)
theorem gm_lows_and_highs (X : K.In h) (G : h.Ns mainGlobals mg) (c : He.SaysD fa fn K) : mg "lows_and_highs" = some (.ref (He.ga K "lows_and_highs")) := He.glo_ok X G (c.fact 26 (f := .glo "lows_and_highs") rfl)
theorem gm_narrowed (X : K.In h) (G : h.Ns mainGlobals mg) (c : He.SaysD fa fn K) : mg "narrowed" = some (.ref (He.ga K "narrowed")) := He.glo_ok X G (c.fact 27 (f := .glo "narrowed") rfl)
theorem gm_is_bounds_of (X : K.In h) (G : h.Ns mainGlobals mg) (c : He.SaysD fa fn K) : mg "is_bounds_of" = some (.ref (He.ga K "is_bounds_of")) := He.glo_ok X G (c.fact 28 (f := .glo "is_bounds_of") rfl)
theorem gm_is_any_bounds (X : K.In h) (G : h.Ns mainGlobals mg) (c : He.SaysD fa fn K) : mg "is_any_bounds" = some (.ref (He.ga K "is_any_bounds")) := He.glo_ok X G (c.fact 29 (f := .glo "is_any_bounds") rfl)
theorem gm_are_fractions (X : K.In h) (G : h.Ns mainGlobals mg) (c : He.SaysD fa fn K) : mg "are_fractions" = some (.ref (He.ga K "are_fractions")) := He.glo_ok X G (c.fact 30 (f := .glo "are_fractions") rfl)
theorem gm_greatest_sum (X : K.In h) (G : h.Ns mainGlobals mg) (c : He.SaysD fa fn K) : mg "greatest_sum" = some (.ref (He.ga K "greatest_sum")) := He.glo_ok X G (c.fact 31 (f := .glo "greatest_sum") rfl)
theorem gm_tight_bounds (X : K.In h) (G : h.Ns mainGlobals mg) (c : He.SaysD fa fn K) : mg "tight_bounds" = some (.ref (He.ga K "tight_bounds")) := He.glo_ok X G (c.fact 32 (f := .glo "tight_bounds") rfl)
theorem gm_is_between (X : K.In h) (G : h.Ns mainGlobals mg) (c : He.SaysD fa fn K) : mg "is_between" = some (.ref (He.ga K "is_between")) := He.glo_ok X G (c.fact 33 (f := .glo "is_between") rfl)
theorem gm_checked_signs (X : K.In h) (G : h.Ns mainGlobals mg) (c : He.SaysD fa fn K) : mg "checked_signs" = some (.ref (He.ga K "checked_signs")) := He.glo_ok X G (c.fact 34 (f := .glo "checked_signs") rfl)
theorem gm_is_bounds (X : K.In h) (G : h.Ns mainGlobals mg) (c : He.SaysD fa fn K) : mg "is_bounds" = some (.ref (He.ga K "is_bounds")) := He.glo_ok X G (c.fact 35 (f := .glo "is_bounds") rfl)
theorem gm__law_are_ends_right (X : K.In h) (G : h.Ns mainGlobals mg) (c : He.SaysD fa fn K) : mg "_law_are_ends_right" = some (.ref (He.ga K "_law_are_ends_right")) := He.glo_ok X G (c.fact 36 (f := .glo "_law_are_ends_right") rfl)
theorem gm_checked_bounds (X : K.In h) (G : h.Ns mainGlobals mg) (c : He.SaysD fa fn K) : mg "checked_bounds" = some (.ref (He.ga K "checked_bounds")) := He.glo_ok X G (c.fact 37 (f := .glo "checked_bounds") rfl)
theorem gm_is_bet_of (X : K.In h) (G : h.Ns mainGlobals mg) (c : He.SaysD fa fn K) : mg "is_bet_of" = some (.ref (He.ga K "is_bet_of")) := He.glo_ok X G (c.fact 38 (f := .glo "is_bet_of") rfl)
theorem gm_checked_bet (X : K.In h) (G : h.Ns mainGlobals mg) (c : He.SaysD fa fn K) : mg "checked_bet" = some (.ref (He.ga K "checked_bet")) := He.glo_ok X G (c.fact 39 (f := .glo "checked_bet") rfl)
theorem gm_is_fair_for (X : K.In h) (G : h.Ns mainGlobals mg) (c : He.SaysD fa fn K) : mg "is_fair_for" = some (.ref (He.ga K "is_fair_for")) := He.glo_ok X G (c.fact 40 (f := .glo "is_fair_for") rfl)
theorem gm_is_fair (X : K.In h) (G : h.Ns mainGlobals mg) (c : He.SaysD fa fn K) : mg "is_fair" = some (.ref (He.ga K "is_fair")) := He.glo_ok X G (c.fact 41 (f := .glo "is_fair") rfl)
theorem gm__law_is_within (X : K.In h) (G : h.Ns mainGlobals mg) (c : He.SaysD fa fn K) : mg "_law_is_within" = some (.ref (He.ga K "_law_is_within")) := He.glo_ok X G (c.fact 42 (f := .glo "_law_is_within") rfl)
theorem gm_is_law_of (X : K.In h) (G : h.Ns mainGlobals mg) (c : He.SaysD fa fn K) : mg "is_law_of" = some (.ref (He.ga K "is_law_of")) := He.glo_ok X G (c.fact 43 (f := .glo "is_law_of") rfl)
theorem gm_is_any_law (X : K.In h) (G : h.Ns mainGlobals mg) (c : He.SaysD fa fn K) : mg "is_any_law" = some (.ref (He.ga K "is_any_law")) := He.glo_ok X G (c.fact 44 (f := .glo "is_any_law") rfl)
theorem gm_added (X : K.In h) (G : h.Ns mainGlobals mg) (c : He.SaysD fa fn K) : mg "added" = some (.ref (He.ga K "added")) := He.glo_ok X G (c.fact 45 (f := .glo "added") rfl)
theorem gm_product_of (X : K.In h) (G : h.Ns mainGlobals mg) (c : He.SaysD fa fn K) : mg "product_of" = some (.ref (He.ga K "product_of")) := He.glo_ok X G (c.fact 46 (f := .glo "product_of") rfl)
theorem gm_mixed_law (X : K.In h) (G : h.Ns mainGlobals mg) (c : He.SaysD fa fn K) : mg "mixed_law" = some (.ref (He.ga K "mixed_law")) := He.glo_ok X G (c.fact 47 (f := .glo "mixed_law") rfl)
theorem gm__law_numbers (X : K.In h) (G : h.Ns mainGlobals mg) (c : He.SaysD fa fn K) : mg "_law_numbers" = some (.ref (He.ga K "_law_numbers")) := He.glo_ok X G (c.fact 48 (f := .glo "_law_numbers") rfl)
theorem gm_is_law (X : K.In h) (G : h.Ns mainGlobals mg) (c : He.SaysD fa fn K) : mg "is_law" = some (.ref (He.ga K "is_law")) := He.glo_ok X G (c.fact 49 (f := .glo "is_law") rfl)
theorem gm__law_times (X : K.In h) (G : h.Ns mainGlobals mg) (c : He.SaysD fa fn K) : mg "_law_times" = some (.ref (He.ga K "_law_times")) := He.glo_ok X G (c.fact 50 (f := .glo "_law_times") rfl)
theorem gm__law_sum (X : K.In h) (G : h.Ns mainGlobals mg) (c : He.SaysD fa fn K) : mg "_law_sum" = some (.ref (He.ga K "_law_sum")) := He.glo_ok X G (c.fact 51 (f := .glo "_law_sum") rfl)
theorem gm__law_best (X : K.In h) (G : h.Ns mainGlobals mg) (c : He.SaysD fa fn K) : mg "_law_best" = some (.ref (He.ga K "_law_best")) := He.glo_ok X G (c.fact 52 (f := .glo "_law_best") rfl)
theorem gm__law_are_sums_right (X : K.In h) (G : h.Ns mainGlobals mg) (c : He.SaysD fa fn K) : mg "_law_are_sums_right" = some (.ref (He.ga K "_law_are_sums_right")) := He.glo_ok X G (c.fact 53 (f := .glo "_law_are_sums_right") rfl)
theorem gm__law_right (X : K.In h) (G : h.Ns mainGlobals mg) (c : He.SaysD fa fn K) : mg "_law_right" = some (.ref (He.ga K "_law_right")) := He.glo_ok X G (c.fact 54 (f := .glo "_law_right") rfl)
theorem gm_law (X : K.In h) (G : h.Ns mainGlobals mg) (c : He.SaysD fa fn K) : mg "law" = some (.ref (He.ga K "law")) := He.glo_ok X G (c.fact 55 (f := .glo "law") rfl)
theorem law_fn {most : Nat} {f : Addr} (X : K.In h) (G : h.Ns mainGlobals mg) (c : He.SaysD fa fn K) (cx : ex K = true) (hfa : mg "law" = some (.ref f))
    (plain : ∀ ns : List Int, ns.length ≤ most → ∃ pot', m_law (.val (.lst (ns.map D.int)) :: List.replicate (N_law.length - 1) .un) none = some (.rt (.bl true) pot')) :
    ∃ fd : FuncData, (∀ (s : Shared) (v : Value), BindsTo s fd ⟨[v], []⟩ [("script", v)]) ∧ ∀ base : Heap, FnOk P w K mg base CX0 12 f fd ["script"] (spLaw K most) := by
  have C := facts X G c cx
  obtain ⟨fd, F⟩ := c.def_ 55 (d := ⟨("law", none), "law", "law", defArgs st_law, defBody st_law, defScope st_law, [], []⟩) rfl
  have e := hfa.symm.trans (gm_law X G c)
  cases e
  have b := FunD.bindsA (ps := ["script"]) F fun _ _ _ _ _ _ us hl => match us, hl with | [_], _ => rfl
  refine ⟨fd, fun s v => b s [v] rfl, fun base => ?_⟩
  have h__law_cells := k__law_cells (P := P) (w := w) (base := base) C  (c.def_ 0 (d := ⟨("_law_cells", none), "_law_cells", "_law_cells", defArgs st__law_cells, defBody st__law_cells, defScope st__law_cells, [], []⟩) rfl) (gm__law_cells X G c)
  have h__law_pot := k__law_pot (P := P) (w := w) (base := base) C  (c.def_ 1 (d := ⟨("_law_pot", none), "_law_pot", "_law_pot", defArgs st__law_pot, defBody st__law_pot, defScope st__law_pot, [], []⟩) rfl) (gm__law_pot X G c)
  have h__law_take := k__law_take (P := P) (w := w) (base := base) C  (c.def_ 2 (d := ⟨("_law_take", none), "_law_take", "_law_take", defArgs st__law_take, defBody st__law_take, defScope st__law_take, [], []⟩) rfl) (gm__law_take X G c)
  have h__law_cut := k__law_cut (P := P) (w := w) (base := base) C  (c.def_ 3 (d := ⟨("_law_cut", none), "_law_cut", "_law_cut", defArgs st__law_cut, defBody st__law_cut, defScope st__law_cut, [], []⟩) rfl) (gm__law_cut X G c)
  have h__law_chances := k__law_chances (P := P) (w := w) (base := base) C h__law_take h__law_cut (c.def_ 4 (d := ⟨("_law_chances", none), "_law_chances", "_law_chances", defArgs st__law_chances, defBody st__law_chances, defScope st__law_chances, [], []⟩) rfl) (gm__law_chances X G c)
  have h__law_added := k__law_added (P := P) (w := w) (base := base) C h__law_cut (c.def_ 5 (d := ⟨("_law_added", none), "_law_added", "_law_added", defArgs st__law_added, defBody st__law_added, defScope st__law_added, [], []⟩) rfl) (gm__law_added X G c)
  have h__law_total := k__law_total (P := P) (w := w) (base := base) C h__law_added (c.def_ 6 (d := ⟨("_law_total", none), "_law_total", "_law_total", defArgs st__law_total, defBody st__law_total, defScope st__law_total, [], []⟩) rfl) (gm__law_total X G c)
  have h__law_less := k__law_less (P := P) (w := w) (base := base) C h__law_cut (c.def_ 7 (d := ⟨("_law_less", none), "_law_less", "_law_less", defArgs st__law_less, defBody st__law_less, defScope st__law_less, [], []⟩) rfl) (gm__law_less X G c)
  have h__law_is_below := k__law_is_below (P := P) (w := w) (base := base) C  (c.def_ 8 (d := ⟨("_law_is_below", none), "_law_is_below", "_law_is_below", defArgs st__law_is_below, defBody st__law_is_below, defScope st__law_is_below, [], []⟩) rfl) (gm__law_is_below X G c)
  have h__law_tight := k__law_tight (P := P) (w := w) (base := base) C h__law_added h__law_total h__law_less h__law_is_below (c.def_ 9 (d := ⟨("_law_tight", none), "_law_tight", "_law_tight", defArgs st__law_tight, defBody st__law_tight, defScope st__law_tight, [], []⟩) rfl) (gm__law_tight X G c)
  have h__law_of := k__law_of (P := P) (w := w) (base := base) C h__law_take (c.def_ 10 (d := ⟨("_law_of", none), "_law_of", "_law_of", defArgs st__law_of, defBody st__law_of, defScope st__law_of, [], []⟩) rfl) (gm__law_of X G c)
  have h__law_bounds := k__law_bounds (P := P) (w := w) (base := base) C h__law_added h__law_less h__law_is_below h__law_tight h__law_of (c.def_ 11 (d := ⟨("_law_bounds", none), "_law_bounds", "_law_bounds", defArgs st__law_bounds, defBody st__law_bounds, defScope st__law_bounds, [], []⟩) rfl) (gm__law_bounds X G c)
  have h_common := k_common (P := P) (w := w) (base := base) C  (c.def_ 12 (d := ⟨("common", none), "common", "common", defArgs st_common, defBody st_common, defScope st_common, [], []⟩) rfl) (gm_common X G c)
  have h_reduced := k_reduced (P := P) (w := w) (base := base) C h_common (c.def_ 13 (d := ⟨("reduced", none), "reduced", "reduced", defArgs st_reduced, defBody st_reduced, defScope st_reduced, [], []⟩) rfl) (gm_reduced X G c)
  have h_sum_of := k_sum_of (P := P) (w := w) (base := base) C h_reduced (c.def_ 14 (d := ⟨("sum_of", none), "sum_of", "sum_of", defArgs st_sum_of, defBody st_sum_of, defScope st_sum_of, [], []⟩) rfl) (gm_sum_of X G c)
  have h_dot_of := k_dot_of (P := P) (w := w) (base := base) C h_sum_of (c.def_ 15 (d := ⟨("dot_of", none), "dot_of", "dot_of", defArgs st_dot_of, defBody st_dot_of, defScope st_dot_of, [], []⟩) rfl) (gm_dot_of X G c)
  have h_is_less := k_is_less (P := P) (w := w) (base := base) C  (c.def_ 16 (d := ⟨("is_less", none), "is_less", "is_less", defArgs st_is_less, defBody st_is_less, defScope st_is_less, [], []⟩) rfl) (gm_is_less X G c)
  have h_greatest_by := k_greatest_by (P := P) (w := w) (base := base) C h_dot_of h_is_less (c.def_ 17 (d := ⟨("greatest_by", none), "greatest_by", "greatest_by", defArgs st_greatest_by, defBody st_greatest_by, defScope st_greatest_by, [], []⟩) rfl) (gm_greatest_by X G c)
  have h_difference := k_difference (P := P) (w := w) (base := base) C h_reduced (c.def_ 18 (d := ⟨("difference", none), "difference", "difference", defArgs st_difference, defBody st_difference, defScope st_difference, [], []⟩) rfl) (gm_difference X G c)
  have h_lies_within := k_lies_within (P := P) (w := w) (base := base) C h_is_less (c.def_ 19 (d := ⟨("lies_within", none), "lies_within", "lies_within", defArgs st_lies_within, defBody st_lies_within, defScope st_lies_within, [], []⟩) rfl) (gm_lies_within X G c)
  have h_corners_within := k_corners_within (P := P) (w := w) (base := base) C h_sum_of h_difference h_lies_within (c.def_ 20 (d := ⟨("corners_within", none), "corners_within", "corners_within", defArgs st_corners_within, defBody st_corners_within, defScope st_corners_within, [], []⟩) rfl) (gm_corners_within X G c)
  have h_greatest_told := k_greatest_told (P := P) (w := w) (base := base) C h_greatest_by h_corners_within (c.def_ 21 (d := ⟨("greatest_told", none), "greatest_told", "greatest_told", defArgs st_greatest_told, defBody st_greatest_told, defScope st_greatest_told, [], []⟩) rfl) (gm_greatest_told X G c)
  have h_is_integer := k_is_integer (P := P) (w := w) (base := base) C  (c.def_ 22 (d := ⟨("is_integer", none), "is_integer", "is_integer", defArgs st_is_integer, defBody st_is_integer, defScope st_is_integer, [], []⟩) rfl) (gm_is_integer X G c)
  have h_is_told_fraction := k_is_told_fraction (P := P) (w := w) (base := base) C h_common h_is_integer (c.def_ 23 (d := ⟨("is_told_fraction", none), "is_told_fraction", "is_told_fraction", defArgs st_is_told_fraction, defBody st_is_told_fraction, defScope st_is_told_fraction, [], []⟩) rfl) (gm_is_told_fraction X G c)
  have h_is_fraction := k_is_fraction (P := P) (w := w) (base := base) C h_is_told_fraction (c.def_ 24 (d := ⟨("is_fraction", none), "is_fraction", "is_fraction", defArgs st_is_fraction, defBody st_is_fraction, defScope st_is_fraction, [], []⟩) rfl) (gm_is_fraction X G c)
  have h_are_pairs_of := k_are_pairs_of (P := P) (w := w) (base := base) C h_is_fraction (c.def_ 25 (d := ⟨("are_pairs_of", none), "are_pairs_of", "are_pairs_of", defArgs st_are_pairs_of, defBody st_are_pairs_of, defScope st_are_pairs_of, [], []⟩) rfl) (gm_are_pairs_of X G c)
  have h_lows_and_highs := k_lows_and_highs (P := P) (w := w) (base := base) C h_sum_of (c.def_ 26 (d := ⟨("lows_and_highs", none), "lows_and_highs", "lows_and_highs", defArgs st_lows_and_highs, defBody st_lows_and_highs, defScope st_lows_and_highs, [], []⟩) rfl) (gm_lows_and_highs X G c)
  have h_narrowed := k_narrowed (P := P) (w := w) (base := base) C h_is_less h_difference h_lows_and_highs (c.def_ 27 (d := ⟨("narrowed", none), "narrowed", "narrowed", defArgs st_narrowed, defBody st_narrowed, defScope st_narrowed, [], []⟩) rfl) (gm_narrowed X G c)
  have h_is_bounds_of := k_is_bounds_of (P := P) (w := w) (base := base) C h_are_pairs_of h_narrowed (c.def_ 28 (d := ⟨("is_bounds_of", none), "is_bounds_of", "is_bounds_of", defArgs st_is_bounds_of, defBody st_is_bounds_of, defScope st_is_bounds_of, [], []⟩) rfl) (gm_is_bounds_of X G c)
  have h_is_any_bounds := k_is_any_bounds (P := P) (w := w) (base := base) C h_is_bounds_of (c.def_ 29 (d := ⟨("is_any_bounds", none), "is_any_bounds", "is_any_bounds", defArgs st_is_any_bounds, defBody st_is_any_bounds, defScope st_is_any_bounds, [], []⟩) rfl) (gm_is_any_bounds X G c)
  have h_are_fractions := k_are_fractions (P := P) (w := w) (base := base) C h_is_told_fraction (c.def_ 30 (d := ⟨("are_fractions", none), "are_fractions", "are_fractions", defArgs st_are_fractions, defBody st_are_fractions, defScope st_are_fractions, [], []⟩) rfl) (gm_are_fractions X G c)
  have h_greatest_sum := k_greatest_sum (P := P) (w := w) (base := base) C h_greatest_told h_is_any_bounds h_are_fractions (c.def_ 31 (d := ⟨("greatest_sum", none), "greatest_sum", "greatest_sum", defArgs st_greatest_sum, defBody st_greatest_sum, defScope st_greatest_sum, [], []⟩) rfl) (gm_greatest_sum X G c)
  have h_tight_bounds := k_tight_bounds (P := P) (w := w) (base := base) C h_are_pairs_of h_narrowed (c.def_ 32 (d := ⟨("tight_bounds", none), "tight_bounds", "tight_bounds", defArgs st_tight_bounds, defBody st_tight_bounds, defScope st_tight_bounds, [], []⟩) rfl) (gm_tight_bounds X G c)
  have h_is_between := k_is_between (P := P) (w := w) (base := base) C h_is_integer (c.def_ 33 (d := ⟨("is_between", none), "is_between", "is_between", defArgs st_is_between, defBody st_is_between, defScope st_is_between, [], []⟩) rfl) (gm_is_between X G c)
  have h_checked_signs := k_checked_signs (P := P) (w := w) (base := base) C h_is_between (c.def_ 34 (d := ⟨("checked_signs", none), "checked_signs", "checked_signs", defArgs st_checked_signs, defBody st_checked_signs, defScope st_checked_signs, [], []⟩) rfl) (gm_checked_signs X G c)
  have h_is_bounds := k_is_bounds (P := P) (w := w) (base := base) C h_is_bounds_of h_checked_signs (c.def_ 35 (d := ⟨("is_bounds", none), "is_bounds", "is_bounds", defArgs st_is_bounds, defBody st_is_bounds, defScope st_is_bounds, [], []⟩) rfl) (gm_is_bounds X G c)
  have h__law_are_ends_right := k__law_are_ends_right (P := P) (w := w) (base := base) C h__law_take h__law_added h__law_total h__law_less h_greatest_sum h_tight_bounds h_is_bounds (c.def_ 36 (d := ⟨("_law_are_ends_right", none), "_law_are_ends_right", "_law_are_ends_right", defArgs st__law_are_ends_right, defBody st__law_are_ends_right, defScope st__law_are_ends_right, [], []⟩) rfl) (gm__law_are_ends_right X G c)
  have h_checked_bounds := k_checked_bounds (P := P) (w := w) (base := base) C h_is_any_bounds (c.def_ 37 (d := ⟨("checked_bounds", none), "checked_bounds", "checked_bounds", defArgs st_checked_bounds, defBody st_checked_bounds, defScope st_checked_bounds, [], []⟩) rfl) (gm_checked_bounds X G c)
  have h_is_bet_of := k_is_bet_of (P := P) (w := w) (base := base) C h_are_fractions (c.def_ 38 (d := ⟨("is_bet_of", none), "is_bet_of", "is_bet_of", defArgs st_is_bet_of, defBody st_is_bet_of, defScope st_is_bet_of, [], []⟩) rfl) (gm_is_bet_of X G c)
  have h_checked_bet := k_checked_bet (P := P) (w := w) (base := base) C h_checked_bounds h_is_bet_of (c.def_ 39 (d := ⟨("checked_bet", none), "checked_bet", "checked_bet", defArgs st_checked_bet, defBody st_checked_bet, defScope st_checked_bet, [], []⟩) rfl) (gm_checked_bet X G c)
  have h_is_fair_for := k_is_fair_for (P := P) (w := w) (base := base) C h_is_less h_greatest_told (c.def_ 40 (d := ⟨("is_fair_for", none), "is_fair_for", "is_fair_for", defArgs st_is_fair_for, defBody st_is_fair_for, defScope st_is_fair_for, [], []⟩) rfl) (gm_is_fair_for X G c)
  have h_is_fair := k_is_fair (P := P) (w := w) (base := base) C h_checked_bet h_is_fair_for (c.def_ 41 (d := ⟨("is_fair", none), "is_fair", "is_fair", defArgs st_is_fair, defBody st_is_fair, defScope st_is_fair, [], []⟩) rfl) (gm_is_fair X G c)
  have h__law_is_within := k__law_is_within (P := P) (w := w) (base := base) C h__law_is_below (c.def_ 42 (d := ⟨("_law_is_within", none), "_law_is_within", "_law_is_within", defArgs st__law_is_within, defBody st__law_is_within, defScope st__law_is_within, [], []⟩) rfl) (gm__law_is_within X G c)
  have h_is_law_of := k_is_law_of (P := P) (w := w) (base := base) C h_sum_of h_is_fraction (c.def_ 43 (d := ⟨("is_law_of", none), "is_law_of", "is_law_of", defArgs st_is_law_of, defBody st_is_law_of, defScope st_is_law_of, [], []⟩) rfl) (gm_is_law_of X G c)
  have h_is_any_law := k_is_any_law (P := P) (w := w) (base := base) C h_is_law_of (c.def_ 44 (d := ⟨("is_any_law", none), "is_any_law", "is_any_law", defArgs st_is_any_law, defBody st_is_any_law, defScope st_is_any_law, [], []⟩) rfl) (gm_is_any_law X G c)
  have h_added := k_added (P := P) (w := w) (base := base) C h_reduced (c.def_ 45 (d := ⟨("added", none), "added", "added", defArgs st_added, defBody st_added, defScope st_added, [], []⟩) rfl) (gm_added X G c)
  have h_product_of := k_product_of (P := P) (w := w) (base := base) C h_reduced (c.def_ 46 (d := ⟨("product_of", none), "product_of", "product_of", defArgs st_product_of, defBody st_product_of, defScope st_product_of, [], []⟩) rfl) (gm_product_of X G c)
  have h_mixed_law := k_mixed_law (P := P) (w := w) (base := base) C h_is_less h_difference h_is_fraction h_is_law_of h_is_any_law h_added h_product_of (c.def_ 47 (d := ⟨("mixed_law", none), "mixed_law", "mixed_law", defArgs st_mixed_law, defBody st_mixed_law, defScope st_mixed_law, [], []⟩) rfl) (gm_mixed_law X G c)
  have h__law_numbers := k__law_numbers (P := P) (w := w) (base := base) C h__law_take h__law_cut (c.def_ 48 (d := ⟨("_law_numbers", none), "_law_numbers", "_law_numbers", defArgs st__law_numbers, defBody st__law_numbers, defScope st__law_numbers, [], []⟩) rfl) (gm__law_numbers X G c)
  have h_is_law := k_is_law (P := P) (w := w) (base := base) C h_checked_signs h_is_law_of (c.def_ 49 (d := ⟨("is_law", none), "is_law", "is_law", defArgs st_is_law, defBody st_is_law, defScope st_is_law, [], []⟩) rfl) (gm_is_law X G c)
  have h__law_times := k__law_times (P := P) (w := w) (base := base) C h__law_cut (c.def_ 50 (d := ⟨("_law_times", none), "_law_times", "_law_times", defArgs st__law_times, defBody st__law_times, defScope st__law_times, [], []⟩) rfl) (gm__law_times X G c)
  have h__law_sum := k__law_sum (P := P) (w := w) (base := base) C h__law_total h__law_times (c.def_ 51 (d := ⟨("_law_sum", none), "_law_sum", "_law_sum", defArgs st__law_sum, defBody st__law_sum, defScope st__law_sum, [], []⟩) rfl) (gm__law_sum X G c)
  have h__law_best := k__law_best (P := P) (w := w) (base := base) C h__law_added h__law_less h__law_is_below h__law_times (c.def_ 52 (d := ⟨("_law_best", none), "_law_best", "_law_best", defArgs st__law_best, defBody st__law_best, defScope st__law_best, [], []⟩) rfl) (gm__law_best X G c)
  have h__law_are_sums_right := k__law_are_sums_right (P := P) (w := w) (base := base) C h__law_take h__law_cut h__law_added h__law_less h__law_is_below h_greatest_sum h__law_is_within h_mixed_law h__law_numbers h_is_law h__law_times h__law_sum h__law_best (c.def_ 53 (d := ⟨("_law_are_sums_right", none), "_law_are_sums_right", "_law_are_sums_right", defArgs st__law_are_sums_right, defBody st__law_are_sums_right, defScope st__law_are_sums_right, [], []⟩) rfl) (gm__law_are_sums_right X G c)
  have h__law_right := k__law_right (P := P) (w := w) (base := base) C h__law_take h__law_cut h__law_chances h__law_is_below h__law_bounds h_greatest_sum h__law_are_ends_right h_is_fair h__law_is_within h__law_are_sums_right (c.def_ 54 (d := ⟨("_law_right", none), "_law_right", "_law_right", defArgs st__law_right, defBody st__law_right, defScope st__law_right, [], []⟩) rfl) (gm__law_right X G c)
  exact law_ok F sc_law (fun cdv A outer s H E hr => b_law C h__law_cells h__law_pot h__law_right _ cdv A outer s H E hr) plain
end
end K47
open PySem PySem.W PySem.Calls PyProof.Rows
theorem PySem.Challenge.cw_themomentitturned_k47_whole_sums_within_holds : PySem.Challenge.rw_themomentitturned_k47_whole_sums_within.Holds := by
  w_on; o_law
  refine HandSHeadRun.head_any (r := OpenLaw.row PySem.Challenge.rw_themomentitturned_k47_whole_sums_within) (q := view (OpenLaw.row PySem.Challenge.rw_themomentitturned_k47_whole_sums_within).prog [73]) (H := K47.hk) (ob := K47.ob) (M := 4000) (loose := K47.loose) (d := HandSHeadRun.topDef (OpenLaw.row PySem.Challenge.rw_themomentitturned_k47_whole_sums_within).prog 73) (kwd := []) K47.ob_eq
    (by kernel_rfl) (fun s => by kernel_rfl) K47.run (by kernel_rfl) (by kernel_rfl) (by kernel_rfl) (by rfl) (by first | assumption | decide +kernel) (by decide +kernel) ⟨rfl, rfl, rfl, rfl, rfl, by decide +kernel⟩ ?hw ?hc
  case hw => w_witness2
  case hc =>
    refine L2.walk_ofE (l := PySem.Challenge.rw_themomentitturned_k47_whole_sums_within) (n := 63) (k := 12) (x := "script") (CX := L2.CX0) rfl (by decide) (by kernel_rfl) ⟨rfl, by decide, by decide⟩ ?F (fun _ _ _ _ z => z)
    intro w mg fa h Y G hmg0
    obtain ⟨K, KX, c⟩ := Y
    have hmg : mg ("law" : PySem.Str) = some (.ref fa) := by
      have e : (HandSHeadRun.topDef (OpenLaw.row PySem.Challenge.rw_themomentitturned_k47_whole_sums_within).prog 73).name = ("law" : PySem.Str) := by kernel_rfl
      rw [← e]
      exact hmg0
    obtain ⟨fd, hb, hF⟩ := K47.law_fn (P := (PySem.Challenge.rw_themomentitturned_k47_whole_sums_within).prog) (w := w) KX G c.t.d c.more hmg K47.plain
    exact ⟨K, fd, DL.spLaw K 63, KX, hb, fun H a ns hl _ hS => ⟨a, ns, rfl, hl, hS, fun _ => rfl⟩, fun base _ _ => hF base⟩
