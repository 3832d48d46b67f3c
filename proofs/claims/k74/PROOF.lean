import PyProof.Rows.All
import Wide.All
import OpenK.AllK
import Wide.FinOn
import HandS.ForMost
import HandS.Text
import HandS.Wide
import HandS.WideBits
import HandS.TupAny
import HandS.Deep
import HandS.Gcd
import HandS.IsInst
import HandS.Style
import HandS.SortOrd
import HandS.SortKw
import KE.LtSeq
import KE.KSortTup
import KE.SortKeyHeap
import HandS.Iter
import HandS.Strs
import HandS.Zip
import HandS.Codes
import PyProof.Rows.FactsN_isinstance
import PyProof.Rows.FactsT3
import PyProof.Rows.FactsN_abs
import HandS.SetKeys
import HandS.More
import HandS.Words
import HandS.WordsExc
import HandS.Defaults
import KE.KStateDown
import HandS.Head0
import HandS.Head1
import HandS.Head2
import HandS.HeadEnd
import HandS.HeadHook1
import HandS.HeadHook2
import HandS.HeadHook4
import HandS.Head3
import KE.Datum
import KE.DataEq
import KE.IntBitsLaws
import PySem.Challenge.RW_rightchance_k74_lots_without_a_fact
section RC1
set_option Elab.async false
set_option linter.all false
set_option maxRecDepth 100000
set_option autoImplicit false
set_option maxHeartbeats 4000000
/-! RC1: plain data, what a value denotes, the frame relation -/
namespace RC
open PySem PySem.Spec PyProof.Rows L2

abbrev D := PyData
def keyD : Key → D
  | .inl i => .int i
  | .inr s => .str s

mutual
inductive Den (K : PySem.W.Frag) (G : Hp) : V → D → Prop
  | non : Den K G .non .none
  | bl (b : Bool) : Den K G (.bl b) (.bool b)
  | int (i : Int) : Den K G (.int i) (.int i)
  | str (x : Str) : Den K G (.str x) (.str x)
  | lst {a : Addr} {xs : List V} {ds : List D} : SqL K G a xs → DenAll K G xs ds → Den K G (.ref a) (.list ds)
  | tup {a : Addr} {o : Obj} {xs : List V} {ds : List D} : G a = some (.frz o (.tup xs)) → o.dict = none → DenAll K G xs ds → Den K G (.ref a) (.tuple ds)
  | dct {a : Addr} {kvs : List (Key × V)} {ds : List (D × D)} : G a = some (.dK kvs) → DenKV K G kvs ds → Den K G (.ref a) (.dict ds)
inductive DenAll (K : PySem.W.Frag) (G : Hp) : List V → List D → Prop
  | nil : DenAll K G [] []
  | cons {v : V} {vs : List V} {d : D} {ds : List D} : Den K G v d → DenAll K G vs ds → DenAll K G (v :: vs) (d :: ds)
inductive DenKV (K : PySem.W.Frag) (G : Hp) : List (Key × V) → List (D × D) → Prop
  | nil : DenKV K G [] []
  | cons {k : Key} {v : V} {vs : List (Key × V)} {d : D} {ds : List (D × D)} : Den K G v d → DenKV K G vs ds → DenKV K G ((k, v) :: vs) ((keyD k, d) :: ds)
end

theorem Same.rd {H H' : Hp} {a : Addr} {u : HO} (e : Same H H') (h : Rd H a u) : Rd H' a u := by
  rcases h with h | ⟨o, h⟩
  · exact .inl (e _ _ h)
  · exact .inr ⟨o, e _ _ h⟩

theorem Same.sql {K : PySem.W.Frag} {H H' : Hp} {a : Addr} {xs : List V} (e : Same H H') (h : SqL K H a xs) : SqL K H' a xs := h.elim (fun r => .inl (Same.rd e r)) .inr
section
variable {K : PySem.W.Frag} {G G' : Hp}
mutual
theorem Den.ext (e : Same G G') : ∀ {v : V} {d : D}, Den K G v d → Den K G' v d
  | _, _, .non => .non
  | _, _, .bl b => .bl b
  | _, _, .int i => .int i
  | _, _, .str x => .str x
  | _, _, .lst h t => .lst (Same.sql e h) (DenAll.ext e t)
  | _, _, .tup h q t => .tup (e _ _ h) q (DenAll.ext e t)
  | _, _, .dct h t => .dct (e _ _ h) (DenKV.ext e t)
theorem DenAll.ext (e : Same G G') : ∀ {v : List V} {d : List D}, DenAll K G v d → DenAll K G' v d
  | _, _, .nil => .nil
  | _, _, .cons h t => .cons (Den.ext e h) (DenAll.ext e t)
theorem DenKV.ext (e : Same G G') : ∀ {v : List (Key × V)} {d : List (D × D)}, DenKV K G v d → DenKV K G' v d
  | _, _, .nil => .nil
  | _, _, .cons h t => .cons (Den.ext e h) (DenKV.ext e t)
end
theorem DenAll.len : ∀ {vs : List V} {ds : List D}, DenAll K G vs ds → vs.length = ds.length
  | _, _, .nil => rfl
  | _, _, .cons _ t => congrArg (· + 1) t.len
theorem DenAll.get : ∀ {vs : List V} {ds : List D} {i : Nat} {d : D}, DenAll K G vs ds → ds[i]? = some d → ∃ v, vs[i]? = some v ∧ Den K G v d
  | _, _, _, _, .nil, h => by simp at h
  | _, _, 0, _, .cons h t, e => by
    simp at e; subst e; exact ⟨_, rfl, h⟩
  | _, _, i + 1, d, .cons h t, e => by
    obtain ⟨v, h1, h2⟩ := DenAll.get (i := i) (d := d) t (by simpa using e)
    exact ⟨v, by simpa using h1, h2⟩
theorem DenAll.get' : ∀ {vs : List V} {ds : List D} {i : Nat} {v : V}, DenAll K G vs ds → vs[i]? = some v → ∃ d, ds[i]? = some d ∧ Den K G v d
  | _, _, _, _, .nil, h => by simp at h
  | _, _, 0, _, .cons h t, e => by
    simp at e; subst e; exact ⟨_, rfl, h⟩
  | _, _, i + 1, d, .cons h t, e => by
    obtain ⟨v, h1, h2⟩ := DenAll.get' (i := i) (v := d) t (by simpa using e)
    exact ⟨v, by simpa using h1, h2⟩
theorem DenAll.app : ∀ {vs : List V} {ds : List D} {us : List V} {es : List D}, DenAll K G vs ds → DenAll K G us es → DenAll K G (vs ++ us) (ds ++ es)
  | _, _, _, _, .nil, h => h
  | _, _, _, _, .cons h t, s => .cons h (DenAll.app t s)
theorem DenAll.tk : ∀ {vs : List V} {ds : List D} (n : Nat), DenAll K G vs ds → DenAll K G (vs.take n) (ds.take n)
  | _, _, 0, _ => .nil
  | _, _, _ + 1, .nil => .nil
  | _, _, n + 1, .cons h t => .cons h (DenAll.tk n t)
theorem DenAll.dp : ∀ {vs : List V} {ds : List D} (n : Nat), DenAll K G vs ds → DenAll K G (vs.drop n) (ds.drop n)
  | _, _, 0, h => h
  | _, _, _ + 1, .nil => .nil
  | _, _, n + 1, .cons _ t => DenAll.dp n t
theorem DenAll.st {v : V} {d : D} (r : Den K G v d) : ∀ {vs : List V} {ds : List D} (n : Nat), DenAll K G vs ds → DenAll K G (vs.set n v) (ds.set n d)
  | _, _, _, .nil => .nil
  | _, _, 0, .cons _ t => .cons r t
  | _, _, n + 1, .cons h t => .cons h (DenAll.st r n t)
theorem DenAll.rev {vs : List V} {ds : List D} (h : DenAll K G vs ds) : DenAll K G vs.reverse ds.reverse := by
  induction vs generalizing ds with
  | nil => cases h; exact .nil
  | cons v vs ih =>
    cases h with
    | cons h t =>
      rw [List.reverse_cons, List.reverse_cons]
      exact (ih t).app (.cons h .nil)
theorem DenAll.dl {vs : List V} {ds : List D} (h : DenAll K G vs ds) : DenAll K G vs.dropLast ds.dropLast := by
  rw [List.dropLast_eq_take, List.dropLast_eq_take, h.len]
  exact h.tk _
theorem DenAll.er : ∀ {vs : List V} {ds : List D} (n : Nat), DenAll K G vs ds → DenAll K G (vs.eraseIdx n) (ds.eraseIdx n)
  | _, _, _, .nil => .nil
  | _, _, 0, .cons _ t => t
  | _, _, n + 1, .cons h t => .cons h (DenAll.er n t)
theorem DenAll.insIdx {v : V} {d : D} (r : Den K G v d) : ∀ {vs : List V} {ds : List D} (n : Nat), DenAll K G vs ds → DenAll K G (vs.take n ++ v :: vs.drop n) (ds.take n ++ d :: ds.drop n) := fun n h =>
  (h.tk n).app (.cons r (h.dp n))
theorem DenAll.snoc {vs : List V} {ds : List D} {v : V} {d : D} (h : DenAll K G vs ds) (r : Den K G v d) : DenAll K G (vs ++ [v]) (ds ++ [d]) := h.app (.cons r .nil)
end

/-- what stands at an owned cell -/
inductive Cell (K : PySem.W.Frag) (G : Hp) : Option HO → D → Prop
  | lst {xs : List V} {ds : List D} : DenAll K G xs ds → Cell K G (some (.lst xs)) (.list ds)
  | dct {kvs : List (Key × V)} {ds : List (D × D)} : DenKV K G kvs ds → Cell K G (some (.dK kvs)) (.dict ds)
theorem Cell.ext {K : PySem.W.Frag} {G G' : Hp} (e : Same G G') {o : Option HO} {d : D} (h : Cell K G o d) : Cell K G' o d := by
  cases h with
  | lst h => exact .lst (h.ext e)
  | dct h => exact .dct (h.ext e)
theorem same_upd {G : Hp} {p : Addr} {o : HO} (h : G p = none) : Same G (upd G p o) := fun b u e => by
  rw [upd_ne (ne_of_none e h)]; exact e
/-- an owned cell is frozen -/
theorem Cell.frozen {K : PySem.W.Frag} {G : Hp} {o : HO} {d : D} {p : Addr} (h : Cell K G (some o) d) (hn : G p = none) : Den K (upd G p o) (.ref p) d := by
  cases h with
  | lst h => exact .lst (.inl (.inl upd_same)) (h.ext (same_upd hn))
  | dct h => exact .dct upd_same (h.ext (same_upd hn))
theorem Cell.some {K : PySem.W.Frag} {G : Hp} {o : Option HO} {d : D} (h : Cell K G o d) : ∃ u, o = some u := by
  cases h <;> exact ⟨_, rfl⟩

/-- kinds of a slot: frozen data; a list or dict of this frame's own; one that was handed in by the caller and may be changed; one of those, frozen meanwhile -/
inductive Kd where
  | imm | own | bor | fb
  deriving DecidableEq
structure En where
  k : Kd
  lk : Bool
  d : D
def En.ow (e : En) : Bool := match e.k with
  | .own => true
  | .bor => true
  | _ => false
abbrev Rho := List (Option En)
/-- the entry of a frame: the abstract heap, the frozen part, the addresses that were handed in, by slot -/
structure Amb where
  H0 : Hp
  G0 : Hp
  B : Nat → Option Addr
  /-- the slots that are walked by a loop just now: what they hold -/
  lks : List (Nat × Addr × D)
  /-- what is being built just now and must stay -/
  kps : List (Addr × HO)
def frzK : Kd → Kd
  | .own => .imm
  | .bor => .fb
  | k => k
inductive EnOk (K : PySem.W.Frag) (a : Amb) (G H : Hp) (i : Nat) : En → V → Prop
  | imm {lk : Bool} {d : D} {v : V} : Den K G v d → EnOk K a G H i ⟨.imm, lk, d⟩ v
  | own {lk : Bool} {d : D} {p : Addr} : G p = none → a.H0 p = none → Cell K G (H p) d → EnOk K a G H i ⟨.own, lk, d⟩ (.ref p)
  | bor {lk : Bool} {d : D} {p : Addr} : G p = none → a.B i = some p → Cell K G (H p) d → EnOk K a G H i ⟨.bor, lk, d⟩ (.ref p)
  | fb {lk : Bool} {d : D} {p : Addr} : a.B i = some p → Den K G (.ref p) d → EnOk K a G H i ⟨.fb, lk, d⟩ (.ref p)
/-- the own list of no slot -/
def Free (ρ : Rho) (σ : L2.St) (p : Addr) : Prop := ∀ (i : Nat) (e : En), ρ[i]? = some (some e) → e.ow = true → σ[i]? ≠ some (some (.ref p))
structure RelG (K : PySem.W.Frag) (a : Amb) (G : Hp) (ρ : Rho) (σ : L2.St) (H : Hp) : Prop where
  len : ρ.length = σ.length
  sub : Same G H
  old : Same a.G0 G
  new : ∀ b o, G b = some o → a.G0 b = none → a.H0 b = none ∨ ∃ i, a.B i = some b
  amb : ∀ b o, a.H0 b = some o → (∀ i, a.B i ≠ some b) → H b = some o
  pres : ∀ i b, a.B i = some b → ∃ o, H b = some o
  ent : ∀ (i : Nat) (e : En), ρ[i]? = some (some e) → ∃ v, σ[i]? = some (some v) ∧ EnOk K a G H i e v
  sep : ∀ (i j : Nat) (e f : En) (p : Addr), ρ[i]? = some (some e) → ρ[j]? = some (some f) → e.ow = true → f.ow = true → σ[i]? = some (some (.ref p)) → σ[j]? = some (some (.ref p)) → i = j
  lck : ∀ q, q ∈ a.lks → ∃ e, ρ[q.1]? = some (some e) ∧ e.lk = true ∧ e.d = q.2.2 ∧ σ[q.1]? = some (some (.ref q.2.1))
  kep : ∀ q, q ∈ a.kps → H q.1 = some q.2 ∧ G q.1 = none ∧ Free ρ σ q.1 ∧ a.H0 q.1 = none

/-- an expression's value: frozen data; a new list or dict that nothing else holds; the list or dict of a slot -/
inductive W where
  | imm (d : D) | fr (d : D) | al (i : Nat)
def lkp (ρ : Rho) (i : Nat) : Option En := (ρ[i]?).bind id
theorem lkp_some {ρ : Rho} {i : Nat} {e : En} : lkp ρ i = some e ↔ ρ[i]? = some (some e) := by
  unfold lkp
  cases h : ρ[i]? with
  | none => simp
  | some o => simp
def der (ρ : Rho) : W → Option D
  | .imm d => some d
  | .fr d => some d
  | .al i => (lkp ρ i).map (·.d)
inductive WOk (K : PySem.W.Frag) (a : Amb) (G H : Hp) (ρ : Rho) (σ : L2.St) : W → V → Prop
  | imm {d : D} {v : V} : Den K G v d → WOk K a G H ρ σ (.imm d) v
  | fr {d : D} {p : Addr} : G p = none → a.H0 p = none → Free ρ σ p → (∀ q, q ∈ a.kps → q.1 ≠ p) → Cell K G (H p) d → WOk K a G H ρ σ (.fr d) (.ref p)
  | al {i : Nat} {v : V} {e : En} : ρ[i]? = some (some e) → e.ow = true → σ[i]? = some (some v) → WOk K a G H ρ σ (.al i) v

section
variable {K : PySem.W.Frag} {a : Amb} {G G' H H' : Hp} {ρ ρ' : Rho} {σ : L2.St} {p : Addr} {o : HO} {d : D} {v : V} {i : Nat} {e : En}
theorem RelG.notB (R : RelG K a G ρ σ H) (hn : H p = none) : ∀ i, a.B i ≠ some p := fun i h => by
  obtain ⟨o, q⟩ := R.pres i p h
  rw [hn] at q; cases q
theorem RelG.new0 (R : RelG K a G ρ σ H) (hn : H p = none) : a.H0 p = none := by
  cases q : a.H0 p with
  | none => rfl
  | some o =>
    have := R.amb p o q (R.notB hn)
    rw [hn] at this; cases this
theorem RelG.newG (R : RelG K a G ρ σ H) (hn : H p = none) : G p = none := R.sub.free hn
theorem RelG.newFree (R : RelG K a G ρ σ H) (hn : H p = none) : Free ρ σ p := fun i e he ho hs => by
  obtain ⟨v, hv, k⟩ := R.ent i e he
  rw [hs] at hv; cases hv
  cases k with
  | imm h => cases ho
  | own _ _ c => obtain ⟨u, q⟩ := c.some; rw [hn] at q; cases q
  | bor _ _ c => obtain ⟨u, q⟩ := c.some; rw [hn] at q; cases q
  | fb _ _ => cases ho
theorem RelG.newKep (R : RelG K a G ρ σ H) (hn : H p = none) : ∀ q, q ∈ a.kps → q.1 ≠ p := fun q hq z => by
  have := (R.kep q hq).1
  rw [z, hn] at this; cases this
theorem EnOk.ext {e : En} (h : EnOk K a G H i e v) (hg : Same G G') (hk : e.ow = true → ∀ p, v = .ref p → H' p = H p ∧ G' p = none) : EnOk K a G' H' i e v := by
  cases h with
  | imm h => exact .imm (h.ext hg)
  | own h1 h2 h3 =>
    obtain ⟨q1, q2⟩ := hk rfl _ rfl
    exact .own q2 h2 (by rw [q1]; exact h3.ext hg)
  | bor h1 h2 h3 =>
    obtain ⟨q1, q2⟩ := hk rfl _ rfl
    exact .bor q2 h2 (by rw [q1]; exact h3.ext hg)
  | fb h1 h2 => exact .fb h1 (h2.ext hg)
/-- something new is laid -/
theorem RelG.laid (R : RelG K a G ρ σ H) (hn : H p = none) : RelG K a G ρ σ (upd H p o) := by
  refine ⟨R.len, R.sub.trans (same_upd hn), R.old, R.new, fun b u e h => ?_, fun i b h => ?_, fun i e h => ?_, R.sep, R.lck, fun q hq => let ⟨k1, k2, k3, k4⟩ := R.kep q hq; ⟨same_upd hn _ _ k1, k2, k3, k4⟩⟩
  · have := R.amb b u e h
    exact same_upd hn _ _ this
  · obtain ⟨u, q⟩ := R.pres i b h
    exact ⟨u, same_upd hn _ _ q⟩
  · obtain ⟨v, hv, k⟩ := R.ent i e h
    refine ⟨v, hv, k.ext (Same.refl _) fun ho p' z => ?_⟩
    subst z
    have np : p' ≠ p := fun q => R.newFree hn i e h ho (by rw [← q]; exact hv)
    refine ⟨upd_ne np, ?_⟩
    cases k with
    | imm h => cases ho
    | own h1 _ _ => exact h1
    | bor h1 _ _ => exact h1
    | fb _ _ => cases ho
/-- what is tracked and owned by no slot is frozen -/
theorem RelG.freeze (R : RelG K a G ρ σ H) (hn : G p = none) (h0 : a.H0 p = none ∨ ∃ i, a.B i = some p) (hf : Free ρ σ p) (hk : ∀ q, q ∈ a.kps → q.1 ≠ p) (ho : H p = some o) : RelG K a (upd G p o) ρ σ H := by
  refine ⟨R.len, fun b u e => ?_, R.old.trans (same_upd hn), fun b u e g => ?_, R.amb, R.pres, fun i e h => ?_, R.sep, R.lck, fun q hq => let ⟨k1, k2, k3, k4⟩ := R.kep q hq; ⟨k1, by rw [upd_ne (hk q hq)]; exact k2, k3, k4⟩⟩
  · by_cases hb : b = p
    · subst hb; rw [upd_same] at e; cases e; exact ho
    · rw [upd_ne hb] at e; exact R.sub _ _ e
  · by_cases hb : b = p
    · subst hb; exact h0
    · rw [upd_ne hb] at e; exact R.new b u e g
  · obtain ⟨v, hv, k⟩ := R.ent i e h
    refine ⟨v, hv, k.ext (same_upd hn) fun ho' p' z => ⟨rfl, ?_⟩⟩
    subst z
    have np : p' ≠ p := fun q => hf i e h ho' (by rw [← q]; exact hv)
    rw [upd_ne np]
    cases k with
    | imm h => cases ho'
    | own h1 _ _ => exact h1
    | bor h1 _ _ => exact h1
    | fb _ _ => cases ho'
/-- a new frozen object -/
theorem RelG.laidF (R : RelG K a G ρ σ H) (hn : H p = none) : RelG K a (upd G p o) ρ σ (upd H p o) :=
  (R.laid (o := o) hn).freeze (R.newG hn) (.inl (R.new0 hn)) (R.newFree hn) (R.newKep hn) upd_same
theorem get_set_ne {α : Type} {l : List α} {i j : Nat} {x : α} (h : j ≠ i) : (l.set i x)[j]? = l[j]? := List.getElem?_set_ne (Ne.symm h)
theorem get_set_self {α : Type} {l : List α} {i : Nat} {x y : α} (h : l[i]? = some y) : (l.set i x)[i]? = some x := by
  rw [List.getElem?_set_self]
  exact (List.getElem?_eq_some_iff.mp h).1
theorem get_set_some {α : Type} {l : List α} {i j : Nat} {x y : α} (h : (l.set i x)[j]? = some y) : (j = i ∧ y = x ∧ i < l.length) ∨ (j ≠ i ∧ l[j]? = some y) := by
  by_cases e : j = i
  · subst e
    by_cases hl : j < l.length
    · rw [List.getElem?_set_self hl] at h
      exact .inl ⟨rfl, (Option.some.inj h).symm, hl⟩
    · rw [List.getElem?_eq_none (by simpa using hl)] at h; cases h
  · exact .inr ⟨e, by rw [get_set_ne e] at h; exact h⟩
/-- an entry is turned into another one that holds the same value; it owns no more than before -/
theorem RelG.turn {e e' : En} (R : RelG K a G ρ σ H) (h : ρ[i]? = some (some e)) (hv : σ[i]? = some (some v)) (k : EnOk K a G H i e' v) (ho : e'.ow = true → e.ow = true) (hk : e.lk = true → e'.lk = true) (hd : e'.d = e.d) : RelG K a G (ρ.set i (some e')) σ H := by
  refine ⟨by rw [List.length_set]; exact R.len, R.sub, R.old, R.new, R.amb, R.pres, fun j f hj => ?_, fun j l f g p h1 h2 o1 o2 s1 s2 => ?_, fun q hq => ?_, fun q hq => let ⟨k1, k2, k3, k4⟩ := R.kep q hq; ⟨k1, k2, fun j f hj fo => ?_, k4⟩⟩
  · rcases get_set_some hj with ⟨rfl, e1, _⟩ | ⟨_, hj⟩
    · cases e1; exact ⟨v, hv, k⟩
    · exact R.ent j f hj
  · have A : ∀ {j : Nat} {f : En}, (ρ.set i (some e'))[j]? = some (some f) → f.ow = true → ∃ f', ρ[j]? = some (some f') ∧ f'.ow = true := fun {j f} q z => by
      rcases get_set_some q with ⟨rfl, e1, _⟩ | ⟨_, hj⟩
      · cases e1; exact ⟨e, h, ho z⟩
      · exact ⟨f, hj, z⟩
    obtain ⟨f', a1, a2⟩ := A h1 o1
    obtain ⟨g', b1, b2⟩ := A h2 o2
    exact R.sep j l f' g' p a1 b1 a2 b2 s1 s2
  · obtain ⟨f, h1, h2, h3, h4⟩ := R.lck q hq
    by_cases hi : q.1 = i
    · rw [hi] at h1 h4 ⊢
      rw [h] at h1; cases h1
      exact ⟨e', get_set_self h, hk h2, hd.trans h3, h4⟩
    · exact ⟨f, by rw [get_set_ne hi]; exact h1, h2, h3, h4⟩
  · rcases get_set_some hj with ⟨rfl, e1, _⟩ | ⟨_, hj⟩
    · cases e1; exact k3 j e h (ho fo)
    · exact k3 j f hj fo
/-- a slot's list or dict is frozen -/
theorem RelG.frzSlot {e : En} (R : RelG K a G ρ σ H) (h : ρ[i]? = some (some e)) (ho : e.ow = true) (hv : σ[i]? = some (some (.ref p))) (hu : H p = some o) : RelG K a (upd G p o) (ρ.set i (some { e with k := frzK e.k })) σ H := by
  obtain ⟨v, hv', k⟩ := R.ent i e h
  rw [hv] at hv'; cases hv'
  have gp : G p = none := by
    cases k with
    | imm h => cases ho
    | own h1 _ _ => exact h1
    | bor h1 _ _ => exact h1
    | fb _ _ => cases ho
  refine ⟨by rw [List.length_set]; exact R.len, fun b u q => ?_, R.old.trans (same_upd gp), fun b u q g => ?_, R.amb, R.pres, fun j f hj => ?_, fun j l f g p' h1 h2 o1 o2 s1 s2 => ?_, fun q hq => ?_, fun q hq => let ⟨k1, k2, k3, k4⟩ := R.kep q hq; ⟨k1, by rw [upd_ne (fun z => k3 i e h ho (by rw [z]; exact hv))]; exact k2, fun j f hj fo => ?_, k4⟩⟩
  · by_cases hb : b = p
    · subst hb; rw [upd_same] at q; cases q; exact hu
    · rw [upd_ne hb] at q; exact R.sub _ _ q
  · by_cases hb : b = p
    · subst hb
      cases k with
      | imm h => cases ho
      | own _ h2 _ => exact .inl h2
      | bor _ h2 _ => exact .inr ⟨_, h2⟩
      | fb _ _ => cases ho
    · rw [upd_ne hb] at q; exact R.new b u q g
  · rcases get_set_some hj with ⟨rfl, e1, _⟩ | ⟨nj, hj⟩
    · cases e1
      refine ⟨_, hv, ?_⟩
      cases k with
      | imm h => cases ho
      | own h1 h2 c => rw [hu] at c; exact .imm (c.frozen h1)
      | bor h1 h2 c => rw [hu] at c; exact .fb h2 (c.frozen h1)
      | fb _ _ => cases ho
    · obtain ⟨w, hw, kw⟩ := R.ent j f hj
      refine ⟨w, hw, kw.ext (same_upd gp) fun of p' z => ⟨rfl, ?_⟩⟩
      subst z
      have nb : p' ≠ p := fun q => nj (R.sep j i f e p hj h of ho (by rw [← q]; exact hw) hv)
      rw [upd_ne nb]
      cases kw with
      | imm h => cases of
      | own h1 _ _ => exact h1
      | bor h1 _ _ => exact h1
      | fb _ _ => cases of
  · have A : ∀ {j : Nat} {f : En}, (ρ.set i (some { e with k := frzK e.k }))[j]? = some (some f) → f.ow = true → ∃ f', ρ[j]? = some (some f') ∧ f'.ow = true := fun {j f} q z => by
      rcases get_set_some q with ⟨rfl, e1, _⟩ | ⟨_, hj⟩
      · cases e1; exact ⟨e, h, ho⟩
      · exact ⟨f, hj, z⟩
    obtain ⟨f', a1, a2⟩ := A h1 o1
    obtain ⟨g', b1, b2⟩ := A h2 o2
    exact R.sep j l f' g' p' a1 b1 a2 b2 s1 s2
  · obtain ⟨f, h1, h2, h3, h4⟩ := R.lck q hq
    by_cases hi : q.1 = i
    · rw [hi] at h1 h4 ⊢
      rw [h] at h1; cases h1
      exact ⟨_, get_set_self h, h2, h3, h4⟩
    · exact ⟨f, by rw [get_set_ne hi]; exact h1, h2, h3, h4⟩
  · rcases get_set_some hj with ⟨rfl, e1, _⟩ | ⟨_, hj⟩
    · cases e1; exact k3 j e h ho
    · exact k3 j f hj fo
/-- an owned cell's content changes -/
theorem RelG.change {e : En} {d' : D} {o' : HO} (R : RelG K a G ρ σ H) (h : ρ[i]? = some (some e)) (ho : e.ow = true) (hl : e.lk = false) (hv : σ[i]? = some (some (.ref p))) (c : Cell K G (some o') d') : RelG K a G (ρ.set i (some { e with d := d' })) σ (upd H p o') := by
  obtain ⟨v, hv', k⟩ := R.ent i e h
  rw [hv] at hv'; cases hv'
  have gp : G p = none := by
    cases k with
    | imm h => cases ho
    | own h1 _ _ => exact h1
    | bor h1 _ _ => exact h1
    | fb _ _ => cases ho
  have np : ∀ {b : Addr} {u : HO}, G b = some u → b ≠ p := fun {b u} q z => by rw [z, gp] at q; cases q
  refine ⟨by rw [List.length_set]; exact R.len, fun b u q => by rw [upd_ne (np q)]; exact R.sub b u q, R.old, R.new, fun b u q z => ?_, fun j b q => ?_, fun j f hj => ?_, fun j l f g p' h1 h2 o1 o2 s1 s2 => ?_, fun q hq => ?_, fun q hq => let ⟨k1, k2, k3, k4⟩ := R.kep q hq; ⟨by rw [upd_ne (fun z => k3 i e h ho (by rw [z]; exact hv))]; exact k1, k2, fun j f hj fo => ?_, k4⟩⟩
  · have nb : b ≠ p := fun q' => by
      subst q'
      cases k with
      | imm h => cases ho
      | own _ h2 _ => rw [h2] at q; cases q
      | bor _ h2 _ => exact z _ h2
      | fb _ _ => cases ho
    rw [upd_ne nb]; exact R.amb b u q z
  · by_cases hb : b = p
    · subst hb; exact ⟨_, upd_same⟩
    · rw [upd_ne hb]; exact R.pres j b q
  · rcases get_set_some hj with ⟨rfl, e1, _⟩ | ⟨nj, hj⟩
    · cases e1
      refine ⟨_, hv, ?_⟩
      cases k with
      | imm h => cases ho
      | own h1 h2 _ => exact .own h1 h2 (by rw [upd_same]; exact c)
      | bor h1 h2 _ => exact .bor h1 h2 (by rw [upd_same]; exact c)
      | fb _ _ => cases ho
    · obtain ⟨w, hw, kw⟩ := R.ent j f hj
      refine ⟨w, hw, kw.ext (Same.refl _) fun of p' z => ?_⟩
      subst z
      have nb : p' ≠ p := fun q => nj (R.sep j i f e p hj h of ho (by rw [← q]; exact hw) hv)
      refine ⟨upd_ne nb, ?_⟩
      cases kw with
      | imm h => cases of
      | own h1 _ _ => exact h1
      | bor h1 _ _ => exact h1
      | fb _ _ => cases of
  · have A : ∀ {j : Nat} {f : En}, (ρ.set i (some { e with d := d' }))[j]? = some (some f) → f.ow = true → ∃ f', ρ[j]? = some (some f') ∧ f'.ow = true := fun {j f} q z => by
      rcases get_set_some q with ⟨rfl, e1, _⟩ | ⟨_, hj⟩
      · cases e1; exact ⟨e, h, ho⟩
      · exact ⟨f, hj, z⟩
    obtain ⟨f', a1, a2⟩ := A h1 o1
    obtain ⟨g', b1, b2⟩ := A h2 o2
    exact R.sep j l f' g' p' a1 b1 a2 b2 s1 s2
  · obtain ⟨f, h1, h2, h3, h4⟩ := R.lck q hq
    by_cases hi : q.1 = i
    · rw [hi] at h1
      rw [h] at h1; cases h1
      rw [hl] at h2; cases h2
    · exact ⟨f, by rw [get_set_ne hi]; exact h1, h2, h3, h4⟩
  · rcases get_set_some hj with ⟨rfl, e1, _⟩ | ⟨_, hj⟩
    · cases e1; exact k3 j e h ho
    · exact k3 j f hj fo
/-- a slot is given a new value: frozen data, or a new own cell -/
def mayStore (ρ : Rho) (i : Nat) : Bool := match lkp ρ i with
  | some e => !e.lk && (match e.k with
    | .imm => true
    | .own => true
    | _ => false)
  | none => true
theorem RelG.store {e : En} (R : RelG K a G ρ σ H) (hl : i < σ.length) (hk : ∀ e0, ρ[i]? = some (some e0) → e0.lk = false) (k : EnOk K a G H i e v) (hf : e.ow = true → ∀ p, v = .ref p → ∀ (j : Nat) (f : En), j ≠ i → ρ[j]? = some (some f) → f.ow = true → σ[j]? ≠ some (some (.ref p))) (hq : e.ow = true → ∀ p, v = .ref p → ∀ q, q ∈ a.kps → q.1 ≠ p) :
    RelG K a G (ρ.set i (some e)) (σ.set i (some v)) H := by
  refine ⟨by rw [List.length_set, List.length_set]; exact R.len, R.sub, R.old, R.new, R.amb, R.pres, fun j f hj => ?_, fun j l f g p h1 h2 o1 o2 s1 s2 => ?_, fun q hq => ?_, fun q hm => let ⟨k1, k2, k3, k4⟩ := R.kep q hm; ⟨k1, k2, fun j f hj fo => ?_, k4⟩⟩
  · rcases get_set_some hj with ⟨rfl, e1, _⟩ | ⟨nj, hj⟩
    · cases e1; exact ⟨v, List.getElem?_set_self hl, k⟩
    · obtain ⟨w, hw, kw⟩ := R.ent j f hj
      exact ⟨w, by rw [get_set_ne nj]; exact hw, kw⟩
  · rcases get_set_some h1 with ⟨rfl, e1, _⟩ | ⟨nj, q1⟩
    · rcases get_set_some h2 with ⟨rfl, e2, _⟩ | ⟨nl, h2⟩
      · rfl
      · cases e1
        rw [List.getElem?_set_self hl] at s1
        cases s1
        rw [get_set_ne nl] at s2
        exact absurd s2 (hf o1 p rfl l g nl h2 o2)
    · rw [get_set_ne nj] at s1
      rcases get_set_some h2 with ⟨rfl, e2, _⟩ | ⟨nl, h2⟩
      · cases e2
        rw [List.getElem?_set_self hl] at s2
        cases s2
        exact absurd s1 (hf o2 p rfl j f nj q1 o1)
      · rw [get_set_ne nl] at s2
        exact R.sep j l f g p q1 h2 o1 o2 s1 s2
  · obtain ⟨f, h1, h2, h3, h4⟩ := R.lck q hq
    by_cases hi : q.1 = i
    · rw [hi] at h1
      rw [hk f h1] at h2; cases h2
    · exact ⟨f, by rw [get_set_ne hi]; exact h1, h2, h3, by rw [get_set_ne hi]; exact h4⟩
  · rcases get_set_some hj with ⟨rfl, e1, _⟩ | ⟨nj, hj⟩
    · cases e1
      rw [List.getElem?_set_self hl]
      exact fun z => hq fo q.1 (by cases z; rfl) q hm rfl
    · rw [get_set_ne nj]
      exact k3 j f hj fo
/-- slots are forgotten -/
theorem RelG.sub' {σ' : L2.St} (R : RelG K a G ρ σ H) (hl : ρ'.length = σ'.length) (h : ∀ (i : Nat) (e : En), ρ'[i]? = some (some e) → ρ[i]? = some (some e) ∧ σ'[i]? = σ[i]?) (hk : ∀ q, q ∈ a.lks → ρ'[q.1]? = ρ[q.1]?) : RelG K a G ρ' σ' H := by
  refine ⟨hl, R.sub, R.old, R.new, R.amb, R.pres, fun j f hj => ?_, fun j l f g p h1 h2 o1 o2 s1 s2 => ?_, fun q hq => ?_, fun q hq => let ⟨k1, k2, k3, k4⟩ := R.kep q hq; ⟨k1, k2, fun j f hj fo => ?_, k4⟩⟩
  · obtain ⟨a1, a2⟩ := h j f hj
    obtain ⟨v, hv, k⟩ := R.ent j f a1
    exact ⟨v, by rw [a2]; exact hv, k⟩
  · obtain ⟨a1, a2⟩ := h j f h1
    obtain ⟨b1, b2⟩ := h l g h2
    rw [a2] at s1
    rw [b2] at s2
    exact R.sep j l f g p a1 b1 o1 o2 s1 s2
  · obtain ⟨f, h1, h2, h3, h4⟩ := R.lck q hq
    have z := (hk q hq).trans h1
    exact ⟨f, z, h2, h3, by rw [(h q.1 f z).2]; exact h4⟩
  · obtain ⟨a1, a2⟩ := h j f hj
    rw [a2]
    exact k3 j f a1 fo
/-- a slot is walked from now on -/
theorem RelG.lock {e : En} (R : RelG K a G ρ σ H) (h : ρ[i]? = some (some e)) (hv : σ[i]? = some (some (.ref p))) : RelG K { a with lks := (i, p, e.d) :: a.lks } G (ρ.set i (some { e with lk := true })) σ H := by
  obtain ⟨v, hv', k⟩ := R.ent i e h
  rw [hv] at hv'; cases hv'
  have k' : EnOk K a G H i { e with lk := true } (.ref p) := by
    cases k with
    | imm h => exact .imm h
    | own h1 h2 h3 => exact .own h1 h2 h3
    | bor h1 h2 h3 => exact .bor h1 h2 h3
    | fb h1 h2 => exact .fb h1 h2
  have R1 := R.turn h hv k' (fun z => z) (fun _ => rfl) rfl
  refine ⟨R1.len, R1.sub, R1.old, R1.new, R1.amb, R1.pres, fun j f hj => ?_, R1.sep, fun q hq => ?_, R1.kep⟩
  · obtain ⟨w, z1, z2⟩ := R1.ent j f hj
    refine ⟨w, z1, ?_⟩
    cases z2 with
    | imm h => exact .imm h
    | own y1 y2 y3 => exact .own y1 y2 y3
    | bor y1 y2 y3 => exact .bor y1 y2 y3
    | fb y1 y2 => exact .fb y1 y2
  · rcases List.mem_cons.mp hq with rfl | hq
    · exact ⟨_, get_set_self h, rfl, rfl, hv⟩
    · exact R1.lck q hq
/-- .. and no longer -/
theorem RelG.unlock {e : En} {d : D} {b : Bool} (R : RelG K { a with lks := (i, p, d) :: a.lks } G ρ σ H) (h : ρ[i]? = some (some e)) (hb : (∃ q, q ∈ a.lks ∧ q.1 = i) → b = true) : RelG K a G (ρ.set i (some { e with lk := b })) σ H := by
  have en : ∀ {j : Nat} {f : En} {v : V}, EnOk K { a with lks := (i, p, d) :: a.lks } G H j f v → EnOk K a G H j f v := fun {j f v} k => by
    cases k with
    | imm h => exact .imm h
    | own h1 h2 h3 => exact .own h1 h2 h3
    | bor h1 h2 h3 => exact .bor h1 h2 h3
    | fb h1 h2 => exact .fb h1 h2
  refine ⟨by rw [List.length_set]; exact R.len, R.sub, R.old, R.new, R.amb, R.pres, fun j f hj => ?_, fun j l f g p h1 h2 o1 o2 s1 s2 => ?_, fun q hq => ?_, fun q hq => let ⟨k1, k2, k3, k4⟩ := R.kep q hq; ⟨k1, k2, fun j f hj fo => ?_, k4⟩⟩
  · rcases get_set_some hj with ⟨rfl, e1, _⟩ | ⟨_, hj⟩
    · cases e1
      obtain ⟨v, hv, k⟩ := R.ent j e h
      refine ⟨v, hv, ?_⟩
      have k := en k
      cases k with
      | imm h => exact .imm h
      | own h1 h2 h3 => exact .own h1 h2 h3
      | bor h1 h2 h3 => exact .bor h1 h2 h3
      | fb h1 h2 => exact .fb h1 h2
    · obtain ⟨v, hv, k⟩ := R.ent j f hj
      exact ⟨v, hv, en k⟩
  · have A : ∀ {j : Nat} {f : En}, (ρ.set i (some { e with lk := b }))[j]? = some (some f) → f.ow = true → ∃ f', ρ[j]? = some (some f') ∧ f'.ow = true := fun {j f} q z => by
      rcases get_set_some q with ⟨rfl, e1, _⟩ | ⟨_, hj⟩
      · cases e1; exact ⟨e, h, z⟩
      · exact ⟨f, hj, z⟩
    obtain ⟨f', a1, a2⟩ := A h1 o1
    obtain ⟨g', b1, b2⟩ := A h2 o2
    exact R.sep j l f' g' p a1 b1 a2 b2 s1 s2
  · obtain ⟨f, h1, h2, h3, h4⟩ := R.lck q (List.mem_cons_of_mem _ hq)
    by_cases hi : q.1 = i
    · have hb' := hb ⟨q, hq, hi⟩
      rw [hi] at h1 h4 ⊢
      rw [h] at h1; cases h1
      exact ⟨_, get_set_self h, hb', h3, h4⟩
    · exact ⟨f, by rw [get_set_ne hi]; exact h1, h2, h3, h4⟩
  · rcases get_set_some hj with ⟨rfl, e1, _⟩ | ⟨_, hj⟩
    · cases e1; exact k3 j e h fo
    · exact k3 j f hj fo
/-- the same, told of other locks and of other kept things -/
theorem EnOk.amb {a' : Amb} {j : Nat} {f : En} {v : V} (k : EnOk K a G H j f v) (h0 : a'.H0 = a.H0) (hB : a'.B = a.B) : EnOk K a' G H j f v := by
  cases k with
  | imm h => exact .imm h
  | own h1 h2 h3 => exact .own h1 (by rw [h0]; exact h2) h3
  | bor h1 h2 h3 => exact .bor h1 (by rw [hB]; exact h2) h3
  | fb h1 h2 => exact .fb (by rw [hB]; exact h1) h2
theorem RelG.less {l : List (Nat × Addr × D)} {k : List (Addr × HO)} (R : RelG K a G ρ σ H) (hl : ∀ q, q ∈ l → q ∈ a.lks) (hk : ∀ q, q ∈ k → q ∈ a.kps) : RelG K { a with lks := l, kps := k } G ρ σ H :=
  ⟨R.len, R.sub, R.old, R.new, R.amb, R.pres, fun i e h => let ⟨v, h1, h2⟩ := R.ent i e h; ⟨v, h1, h2.amb rfl rfl⟩, R.sep, fun q hq => R.lck q (hl q hq), fun q hq => R.kep q (hk q hq)⟩
/-- a new thing that is being built -/
theorem RelG.build (R : RelG K a G ρ σ H) (hn : H p = none) : RelG K { a with kps := (p, o) :: a.kps } G ρ σ (upd H p o) := by
  have R1 := R.laid (o := o) hn
  refine ⟨R1.len, R1.sub, R1.old, R1.new, R1.amb, R1.pres, fun i e h => let ⟨v, h1, h2⟩ := R1.ent i e h; ⟨v, h1, h2.amb rfl rfl⟩, R1.sep, R1.lck, fun q hq => ?_⟩
  rcases List.mem_cons.mp hq with rfl | hq
  · exact ⟨upd_same, R.newG hn, R.newFree hn, R.new0 hn⟩
  · exact R1.kep q hq
/-- .. grows -/
theorem RelG.grow {o' : HO} {k : List (Addr × HO)} (R : RelG K { a with kps := (p, o) :: k } G ρ σ H) (hk : ∀ q, q ∈ k → q.1 ≠ p) : RelG K { a with kps := (p, o') :: k } G ρ σ (upd H p o') := by
  obtain ⟨k1, k2, k3, k4⟩ := R.kep (p, o) List.mem_cons_self
  have np : ∀ {b : Addr} {u : HO}, G b = some u → b ≠ p := fun {b u} q z => by rw [z, k2] at q; cases q
  have nB : ∀ i, a.B i ≠ some p ∨ ∃ u, H p = some u := fun i => .inr ⟨o, k1⟩
  refine ⟨R.len, fun b u q => by rw [upd_ne (np q)]; exact R.sub b u q, R.old, R.new, fun b u q z => ?_, fun i b q => ?_, fun i e h => ?_, R.sep, R.lck, fun q hq => ?_⟩
  · have nb : b ≠ p := fun q' => by
      subst q'
      have k4 : a.H0 b = none := k4
      rw [k4] at q; cases q
    rw [upd_ne nb]; exact R.amb b u q z
  · by_cases hb : b = p
    · subst hb; exact ⟨_, upd_same⟩
    · rw [upd_ne hb]; exact R.pres i b q
  · obtain ⟨v, h1, h2⟩ := R.ent i e h
    refine ⟨v, h1, ?_⟩
    have h2 : EnOk K a G H i e v := h2.amb rfl rfl
    have h3 : EnOk K a G (upd H p o') i e v := h2.ext (Same.refl _) fun ho p' z => by
      subst z
      have ne : p' ≠ p := fun z => k3 i e h ho (by rw [← z]; exact h1)
      refine ⟨upd_ne ne, ?_⟩
      cases h2 with
      | imm h => cases ho
      | own h1 _ _ => exact h1
      | bor h1 _ _ => exact h1
      | fb _ _ => cases ho
    exact h3.amb rfl rfl
  · rcases List.mem_cons.mp hq with rfl | hq
    · exact ⟨upd_same, k2, k3, k4⟩
    · obtain ⟨j1, j2, j3, j4⟩ := R.kep q (List.mem_cons_of_mem _ hq)
      exact ⟨by rw [upd_ne (hk q hq)]; exact j1, j2, j3, j4⟩
end
end RC
end RC1
section RC2
set_option Elab.async false
set_option linter.all false
set_option maxRecDepth 100000
set_option autoImplicit false
set_option maxHeartbeats 4000000
/-! RC2: the small syntax and what it computes on plain data -/
namespace RC
open PySem

inductive BOp where
  | add | sub | mul | fdiv | md | pow
  deriving DecidableEq
inductive COp where
  | eq | ne | lt | le | gt | ge | isin | nin
  deriving DecidableEq
inductive Blt where
  | len | int | abs | all | any | tuple | list | dict | gcd
  deriving DecidableEq
inductive Ty where
  | tint | tstr | tbool | ttup | tlst
  deriving DecidableEq
/-- what a loop walks: a value's items; range(a); zip(a, b); d.items() -/
inductive Sk where
  | val | rng | zip | items
  deriving DecidableEq
/-- a target: a slot; a tuple of targets -/
inductive Tg where
  | n (i : Nat) | tp (t : Tg) | nl | cs (t u : Tg)
  deriving DecidableEq
inductive IE where
  | v (i : Nat)
  | non | bl (b : Bool) | int (i : Int) | str (s : String)
  | nil | cons (a r : IE)
  | nild
  | tup (es : IE) | lst (es : IE)
  | bin (o : BOp) (a b : IE)
  | neg (a : IE)
  | cmp (o : COp) (a b : IE)
  | chn (o p : COp) (a b c : IE)
  | isn (a : IE) | isnn (a : IE)
  | ist (k : Bool) (a : IE)
  | and (a b : IE) | or (a b : IE) | not (a : IE)
  | ite (c a b : IE)
  | ix (a b : IE)
  | sl (a lo hi : IE)
  | call (f : String) (es : IE)
  | blt (b : Blt) (es : IE)
  | isi (ts : List Ty) (a : IE)
  | srt (a : IE) | srtk (f : String) (a : IE) | srtl (a : IE) | srts (a : IE)
  | pop (i : Nat) | popAt (i : Nat) (a : IE) | app (i : Nat) (a : IE) | ext (i : Nat) (a : IE) | ins (i : Nat) (a b : IE) | rev (i : Nat)
  | idx (a b : IE) | join (a b : IE) | sdef (i : Nat) (a b : IE) | get (a b c : IE) | bits (a : IE)
  | comp (k : Sk) (a b : IE) (tg : Tg) (vs : List Nat) (c : IE) (e : IE)
inductive IS where
  | skip
  | seq (s t : IS)
  | ex (e : IE)
  | set (i : Nat) (e : IE)
  | put (i : Nat) (a e : IE)
  | ite (c : IE) (s t : IS)
  | loop (k : Sk) (a b : IE) (tg : Tg) (s : IS)
  | ret (e : IE)
  | brk
  | rais

inductive Rs (α : Type) where
  | ok (a : α) (ρ : Rho) | ex (e : D) (ρ : Rho) | no
def Rs.bnd {α β : Type} (x : Rs α) (f : α → Rho → Rs β) : Rs β := match x with
  | .ok a ρ => f a ρ
  | .ex e ρ => .ex e ρ
  | .no => .no
theorem bnd_ok {α β : Type} {a : α} {ρ : Rho} {f : α → Rho → Rs β} : (Rs.ok a ρ).bnd f = f a ρ := rfl
theorem bnd_of {α β : Type} {x : Rs α} {f : α → Rho → Rs β} {b : β} {ρ' : Rho} (h : x.bnd f = .ok b ρ') : ∃ a ρ, x = .ok a ρ ∧ f a ρ = .ok b ρ' := by
  cases x with
  | ok a ρ => exact ⟨a, ρ, rfl, h⟩
  | ex e ρ => cases h
  | no => cases h
def opt {α : Type} (o : Option α) (ρ : Rho) : Rs α := match o with
  | some a => .ok a ρ
  | none => .no
theorem opt_of {α : Type} {o : Option α} {ρ ρ' : Rho} {a : α} (h : opt o ρ = .ok a ρ') : o = some a ∧ ρ' = ρ := by
  cases o with
  | none => cases h
  | some b => cases h; exact ⟨rfl, rfl⟩

/-! ### operations on data -/
def mulOk (i j : Int) : Bool := (decide (-(2 ^ 64) < i) && decide (i < 2 ^ 64)) || (decide (-(2 ^ 64) < j) && decide (j < 2 ^ 64)) || decide (i.natAbs.log2 + j.natAbs.log2 < 1000000)
def shp (d : D) : Bool := SeqAt.shaped d
def line : Nat := 16777216
def binD : BOp → D → D → Option W
  | .add, .int i, .int j => some (.imm (.int (i + j)))
  | .add, .str x, .str y => if x.length + y.length ≤ line then some (.imm (.str (x ++ y))) else none
  | .add, .list xs, .list ys => if xs.length + ys.length ≤ line then some (.fr (.list (xs ++ ys))) else none
  | .add, .tuple xs, .tuple ys => if xs.length + ys.length ≤ line then some (.imm (.tuple (xs ++ ys))) else none
  | .sub, .int i, .int j => some (.imm (.int (i - j)))
  | .mul, .int i, .int j => if mulOk i j then some (.imm (.int (i * j))) else none
  | .fdiv, .int i, .int j => if 0 < j ∧ j.natAbs.log2 < 9000 then some (.imm (.int (i / j))) else none
  | .md, .int i, .int j => if 0 < j then some (.imm (.int (i % j))) else none
  | .pow, .int i, .int j => if 0 ≤ j ∧ j ≤ 1000000 ∧ i.natAbs < 2 ^ 64 then some (.imm (.int (i ^ j.toNat))) else none
  | _, _, _ => none
def seqD : D → Option (List D)
  | .list ds => some ds
  | .tuple ds => some ds
  | _ => none
def cmpD : COp → D → D → Option Bool
  | .eq, x, y => if shp x && shp y then some (PyData.eqv x y) else none
  | .ne, x, y => if shp x && shp y then some (!PyData.eqv x y) else none
  | .lt, .int i, .int j => some (decide (i < j))
  | .le, .int i, .int j => some (decide (i ≤ j))
  | .gt, .int i, .int j => some (decide (j < i))
  | .ge, .int i, .int j => some (decide (j ≤ i))
  | .isin, x, y => (seqD y).bind fun ds => if shp x && shp y then some (ds.any fun z => PyData.eqv z x) else none
  | .nin, x, y => (seqD y).bind fun ds => if shp x && shp y then some (!ds.any fun z => PyData.eqv z x) else none
  | _, _, _ => none
def ixD : D → D → Option D
  | .list ds, .int i => L2.atI ds i
  | .tuple ds, .int i => L2.atI ds i
  | .str z, .int i => if z.length ≤ line then (L2.atI z.cps.toList i).map fun c => .str ⟨#[c]⟩ else none
  | _, _ => none
/-- a bound of a slice: absent, or an int -/
def sIx (n d : Nat) : Option Int → Nat := HT.sIx n d
def cutD (xs : List D) (lo hi : Option Int) : List D := (xs.drop (HT.sIx xs.length 0 lo)).take (HT.sIx xs.length xs.length hi - HT.sIx xs.length 0 lo)
def slD : D → Option Int → Option Int → Option W
  | .list ds, lo, hi => some (.fr (.list (cutD ds lo hi)))
  | .tuple ds, lo, hi => some (.imm (.tuple (cutD ds lo hi)))
  | _, _, _ => none
def bitLen (n : Int) : Int := (Builtin.Int.intBits n : Nat)
def boolsD : List D → Option (List Bool)
  | [] => some []
  | .bool b :: r => (boolsD r).map (b :: ·)
  | _ :: _ => none
def intsD : List D → Option (List Int)
  | [] => some []
  | .int b :: r => (intsD r).map (b :: ·)
  | _ :: _ => none
def strsD : List D → Option (List Str)
  | [] => some []
  | .str b :: r => (strsD r).map (b :: ·)
  | _ :: _ => none
def bltD : Blt → List D → Option W
  | .len, [.list ds] => some (.imm (.int ds.length))
  | .len, [.tuple ds] => some (.imm (.int ds.length))
  | .int, [.int i] => some (.imm (.int i))
  | .int, [.bool b] => some (.imm (.int (if b then 1 else 0)))
  | .abs, [.int i] => some (.imm (.int (if i < 0 then -i else i)))
  | .all, [.list ds] => (boolsD ds).map fun bs => .imm (.bool (bs.all id))
  | .any, [.list ds] => (boolsD ds).map fun bs => .imm (.bool (bs.any id))
  | .tuple, [.list ds] => some (.imm (.tuple ds))
  | .tuple, [.tuple ds] => some (.imm (.tuple ds))
  | .list, [.list ds] => some (.fr (.list ds))
  | .list, [.tuple ds] => some (.fr (.list ds))
  | .dict, [.dict kvs] => some (.fr (.dict kvs))
  | .gcd, [.int i, .int j] => some (.imm (.int (Nat.gcd i.natAbs j.natAbs : Nat)))
  | _, _ => none
def isTy : Ty → D → Bool
  | .tint, .int _ => true
  | .tint, .bool _ => true
  | .tbool, .bool _ => true
  | .tstr, .str _ => true
  | .ttup, .tuple _ => true
  | .tlst, .list _ => true
  | _, _ => false
/-! sorting: a stable insertion sort -/
section
variable {α : Type}
def insBy (lt : α → α → Bool) (x : α) : List α → List α
  | [] => [x]
  | y :: l => if lt x y then x :: y :: l else y :: insBy lt x l
/-- stable: the items are put in from the left, each behind those that are not greater -/
def sortBy (lt : α → α → Bool) (l : List α) : List α := l.foldl (fun acc x => insBy lt x acc) []
end
def strLt (x y : Str) : Bool := decide (x.cps.toList < y.cps.toList)
def rkD : D → Nat
  | .int _ => 0
  | .str _ => 1
  | .tuple _ => 2
  | .list _ => 3
  | .none => 4
  | .bool _ => 5
  | .dict _ => 6
mutual
/-- not told apart by the order -/
def sameD : D → D → Bool
  | .int i, .int j => decide (i = j)
  | .str x, .str y => decide (x.cps.toList = y.cps.toList)
  | .tuple xs, .tuple ys => sameDs xs ys
  | .list xs, .list ys => sameDs xs ys
  | x, y => decide (rkD x = rkD y)
def sameDs : List D → List D → Bool
  | [], [] => true
  | [], _ :: _ => false
  | _ :: _, [] => false
  | x :: xs, y :: ys => sameD x y && sameDs xs ys
end
mutual
/-- x < y for keys: ints, texts, tuples and lists of such (things of other kinds are ordered by their kind) -/
def ltD : D → D → Bool
  | .int i, .int j => decide (i < j)
  | .str x, .str y => strLt x y
  | .tuple xs, .tuple ys => ltDs xs ys
  | .list xs, .list ys => ltDs xs ys
  | x, y => decide (rkD x < rkD y)
def ltDs : List D → List D → Bool
  | [], [] => false
  | [], _ :: _ => true
  | _ :: _, [] => false
  | x :: xs, y :: ys => if sameD x y then ltDs xs ys else ltD x y
end
mutual
/-- may be compared by < with each other -/
def cmpb : D → D → Bool
  | .int _, .int _ => true
  | .str _, .str _ => true
  | .tuple xs, .tuple ys => cmpbs xs ys
  | .list xs, .list ys => cmpbs xs ys
  | _, _ => false
def cmpbs : List D → List D → Bool
  | x :: xs, y :: ys => cmpb x y && (!PyData.eqv x y || cmpbs xs ys)
  | _, _ => true
end
/-- keys of one type that is not tuple; or tuples, all with a first item, all first items of one type -/
def hdD : D → Option D
  | .tuple (x :: _) => some x
  | _ => none
def kindOk (ks : List D) : Bool := match ks with
  | [] => true
  | k :: _ => (ks.all fun x => decide (rkD x = rkD k) && decide (rkD x ≠ 2)) || (match hdD k with
    | some h => ks.all fun x => match hdD x with
      | some y => decide (rkD y = rkD h)
      | none => false
    | none => false)
def keysOk (ks : List D) : Bool := ks.all shp && (ks.all fun x => ks.all fun y => cmpb x y) && (decide (ks.length < 2) || kindOk ks)
/-- sorted by the keys ks -/
def srtkD (ks ds : List D) : Option (List D) :=
  if ks.length = ds.length ∧ keysOk ks = true then some ((sortBy (fun a b => ltD a.1 b.1) (ks.zip ds)).map (·.2)) else none
def srtD (ds : List D) : Option (List D) := srtkD ds ds
def sortInts (l : List Int) : List Int := sortBy (fun a b => decide (a < b)) l
def sortStrs (l : List Str) : List Str := sortBy strLt l
def dedup {α : Type} [DecidableEq α] : List α → List α
  | [] => []
  | x :: l => x :: (dedup l).filter fun y => decide (y ≠ x)
/-- sorted(set(xs)) -/
def srtsD (ds : List D) : Option (List D) := match intsD ds, strsD ds with
  | some ns, _ => some ((sortInts (dedup ns)).map .int)
  | _, some xs => some ((sortStrs (dedup xs)).map .str)
  | _, _ => none
def lensD : List D → Option (List D)
  | [] => some []
  | d :: r => (seqD d).bind fun ds => (lensD r).map (.int ds.length :: ·)
def joinD (x : Str) (l : List Str) : Str := Txt.join x l
def joinO : D → D → Option D
  | .str s, .list ds => (strsD ds).bind fun zs => if (zs.map Str.length).sum + zs.length * s.length ≤ line then some (.str (joinD s zs)) else none
  | _, _ => none
def dget (kvs : List (D × D)) (k : Str) : Option D := match kvs with
  | [] => none
  | (.str j, d) :: r => if j = k then some d else dget r k
  | _ :: r => dget r k

/-! ### slots -/
def wipeR (ρ : Rho) : List Nat → Rho
  | [] => ρ
  | v :: vs => (wipeR ρ vs).set v none
/-- the slots vs as they were -/
def back (ρ0 ρ1 : Rho) : List Nat → Rho
  | [] => ρ1
  | v :: vs => (back ρ0 ρ1 vs).set v ((ρ0[v]?).join)
def hidOk (ρ : Rho) (vs : List Nat) : Bool := vs.all fun v => match lkp ρ v with
  | some e => !e.lk && (match e.k with
    | .imm => true
    | _ => false)
  | none => true
/-- a value becomes frozen data -/
def frzW (w : W) (ρ : Rho) : Rs D := match w with
  | .imm d => .ok d ρ
  | .fr d => .ok d ρ
  | .al i => match lkp ρ i with
    | some e => .ok e.d (ρ.set i (some { e with k := frzK e.k }))
    | none => .no
def frzs : List W → Rho → Rs (List D)
  | [], ρ => .ok [] ρ
  | w :: ws, ρ => (frzW w ρ).bnd fun d ρ1 => (frzs ws ρ1).bnd fun ds ρ2 => .ok (d :: ds) ρ2
def ders (ρ : Rho) : List W → Option (List D)
  | [] => some []
  | w :: ws => (der ρ w).bind fun d => (ders ρ ws).map (d :: ·)
/-- locks the slot that is walked; tells whether it was locked -/
def lock (ρ : Rho) (w : W) : Rho := match w with
  | .al i => match lkp ρ i with
    | some e => ρ.set i (some { e with lk := true })
    | none => ρ
  | _ => ρ
def wasLk (ρ : Rho) (w : W) : Bool := match w with
  | .al i => match lkp ρ i with
    | some e => e.lk
    | none => false
  | _ => false
def unlock (ρ : Rho) (w : W) (b : Bool) : Rho := match w with
  | .al i => match lkp ρ i with
    | some e => ρ.set i (some { e with lk := b })
    | none => ρ
  | _ => ρ
def asg : Tg → List D → Rho → Option Rho
  | .n i, [d], ρ => if mayStore ρ i && decide (i < ρ.length) then some (ρ.set i (some ⟨.imm, false, d⟩)) else none
  | .tp t, [.tuple ds], ρ => asg t ds ρ
  | .nl, [], ρ => some ρ
  | .cs t u, d :: ds, ρ => (asg t [d] ρ).bind fun ρ1 => asg u ds ρ1
  | _, _, _ => none
/-- a change of the list or dict of a slot -/
def chg {α : Type} (i : Nat) (f : D → Option (D × α)) (ρ : Rho) : Rs α := match lkp ρ i with
  | some e => if e.ow && !e.lk then (match f e.d with
      | some (d, a) => .ok a (ρ.set i (some { e with d := d }))
      | none => .no) else .no
  | none => .no
/-- the slot holds a list that may be changed -/
def hasL (i : Nat) (ρ : Rho) : Bool := match lkp ρ i with
  | some e => e.ow && (match e.d with
    | .list _ => true
    | _ => false)
  | none => false
def hasD (i : Nat) (ρ : Rho) : Bool := match lkp ρ i with
  | some e => e.ow && (match e.d with
    | .dict _ => true
    | _ => false)
  | none => false
def popD : D → Option (D × D)
  | .list ds => (ds[ds.length - 1]?).map fun d => (.list ds.dropLast, d)
  | _ => none
def popAtD (i : D) : D → Option (D × D)
  | .list ds => match i with
    | .int k => (L2.ixN ds.length k).bind fun j => if ds.length ≤ line then (ds[j]?).map fun d => (.list (ds.eraseIdx j), d) else none
    | _ => none
  | _ => none
def appD (x : D) : D → Option (D × D)
  | .list ds => if ds.length < line then some (.list (ds ++ [x]), .none) else none
  | _ => none
def extD (x : D) : D → Option (D × D)
  | .list ds => match x with
    | .list es => if ds.length + es.length ≤ line then some (.list (ds ++ es), .none) else none
    | .tuple es => if ds.length + es.length ≤ line then some (.list (ds ++ es), .none) else none
    | _ => none
  | _ => none
def insD (i x : D) : D → Option (D × D)
  | .list ds => match i with
    | .int k => if 0 ≤ k ∧ k ≤ ds.length ∧ ds.length < line then some (.list (ds.take k.toNat ++ x :: ds.drop k.toNat), .none) else none
    | _ => none
  | _ => none
def revD : D → Option (D × D)
  | .list ds => some (.list ds.reverse, .none)
  | _ => none
def sdefD (k x : D) : D → Option (D × D)
  | .dict kvs => match k with
    | .str s => match dget kvs s with
      | some d => if kvs.length < line then some (.dict kvs, d) else none
      | none => if kvs.length < line then some (.dict (kvs ++ [(.str s, x)]), x) else none
    | _ => none
  | _ => none
def putD (i x : D) : D → Option (D × Unit)
  | .list ds => match i with
    | .int k => (L2.ixN ds.length k).map fun j => (.list (ds.set j x), ())
    | _ => none
  | _ => none
def idxD : D → D → Option D
  | y, x => (seqD y).bind fun ds => if shp x && shp y then (ds.findIdx? fun z => PyData.eqv z x).map fun j => .int (j : Nat) else none
def srcD : Sk → List D → Option (List D)
  | .rng, [.int n] => if -(2 ^ 62) ≤ n ∧ n < 2 ^ 62 then some ((List.range n.toNat).map fun k => .int (k : Nat)) else none
  | .zip, [.list xs, .list ys] => some ((xs.zip ys).map fun p => .tuple [p.1, p.2])
  | .zip, [.tuple xs, .tuple ys] => some ((xs.zip ys).map fun p => .tuple [p.1, p.2])
  | _, _ => none
/-- the loop of a comprehension: f hands back an item or none -/
def compL (f : D → Rho → Rs (Option D)) : List D → Rho → List D → Rs (List D)
  | [], ρ, acc => .ok acc ρ
  | d :: ds, ρ, acc => (f d ρ).bnd fun o ρ1 => match o with
    | none => compL f ds ρ1 acc
    | some x => if acc.length < line then compL f ds ρ1 (acc ++ [x]) else .no
/-- calls by name, from the left -/
def mapC (cal : String → List En → Option (W × List En)) (f : String) : List D → Option (List D)
  | [] => some []
  | d :: ds => match cal f [⟨.imm, false, d⟩] with
    | some (w, _) => (match w with
      | .imm k => (mapC cal f ds).map (k :: ·)
      | .fr k => (mapC cal f ds).map (k :: ·)
      | .al _ => none)
    | none => none
/-- what a loop walks just now is frozen before it is handed on -/
def preW : List W → Rho → Rs (List W)
  | [], ρ => .ok [] ρ
  | w :: ws, ρ => match w with
    | .al i => (match lkp ρ i with
      | some e => if e.lk then (frzW w ρ).bnd fun d ρ1 => (preW ws ρ1).bnd fun us ρ2 => .ok (.imm d :: us) ρ2 else (preW ws ρ).bnd fun us ρ2 => .ok (w :: us) ρ2
      | none => .no)
    | w => (preW ws ρ).bnd fun us ρ2 => .ok (w :: us) ρ2
def arg1 (ρ : Rho) : W → Option En
  | .imm d => some ⟨.imm, false, d⟩
  | .fr d => some ⟨.imm, false, d⟩
  | .al i => (lkp ρ i).bind fun e => if e.ow && !e.lk then some ⟨.bor, false, e.d⟩ else none
/-- the arguments as the callee sees them -/
def argE (ρ : Rho) : List W → Option (List En)
  | [] => some []
  | w :: ws => (arg1 ρ w).bind fun e => (argE ρ ws).map (e :: ·)
/-- the slots that were handed to a callee, behind the call -/
def outE : List W → List En → Rho → Option Rho
  | [], [], ρ => some ρ
  | w :: ws, o :: os, ρ => match w with
    | .al i => match lkp ρ i with
      | some e => (match o.k with
        | .bor => outE ws os (ρ.set i (some { e with d := o.d }))
        | .fb => outE ws os (ρ.set i (some { e with k := frzK e.k, d := o.d }))
        | _ => none)
      | none => none
    | _ => outE ws os ρ
  | _, _, _ => none
def als : List W → List Nat
  | [] => []
  | .al i :: r => i :: als r
  | _ :: r => als r
/-- what is walked: the items, and the value that is locked meanwhile -/
def srcW (k : Sk) (ws : List W) (ρ : Rho) : Rs (List D × W) := match k with
  | .val => (match ws with
    | [w] => (match der ρ w with
      | some d => opt ((seqD d).map fun ds => (ds, w)) ρ
      | none => .no)
    | _ => .no)
  | k => (frzs ws ρ).bnd fun ds ρ1 => opt ((srcD k ds).map fun items => (items, W.imm .none)) ρ1
def constD : IE → Option D
  | .non => some .none
  | .bl b => some (.bool b)
  | .int i => some (.int i)
  | .str s => some (.str (Str.ofString s))
  | _ => none
def one {α : Type} (k : W → Rho → Rs α) (ws : List W) (ρ : Rho) : Rs α := match ws with
  | [w] => k w ρ
  | _ => .no
def two {α : Type} (k : D → D → Rho → Rs α) (xs ys : List W) (ρ : Rho) : Rs α := match xs, ys with
  | [x], [y] => match der ρ x, der ρ y with
    | some d, some e => k d e ρ
    | _, _ => .no
  | _, _ => .no
def asB (ws : List W) (ρ : Rho) : Rs Bool := match ws with
  | [w] => match der ρ w with
    | some (.bool b) => .ok b ρ
    | _ => .no
  | _ => .no
def oneD {α : Type} (k : D → Rho → Rs α) (ws : List W) (ρ : Rho) : Rs α := match ws with
  | [w] => match der ρ w with
    | some d => k d ρ
    | none => .no
  | _ => .no
def intP (ws : List W) (ρ : Rho) : Rs (Option Int) := match ws with
  | [] => .ok none ρ
  | [w] => match der ρ w with
    | some (.int i) => .ok (some i) ρ
    | _ => .no
  | _ => .no

section
variable (cal : String → List En → Option (W × List En))
def callW (f : String) (ws : List W) (ρ : Rho) : Rs (List W) := (preW ws ρ).bnd fun ws ρ => if (als ws).Nodup then (match argE ρ ws with
  | some es => (match cal f es with
    | some (w, os) => (match w with
      | .al _ => .no
      | w => (match outE ws os ρ with
        | some ρ1 => .ok [w] ρ1
        | none => .no))
    | none => .no)
  | none => .no) else .no
def ev : IE → Rho → Rs (List W)
  | .v i, ρ => match lkp ρ i with
    | some e => if e.ow then .ok [.al i] ρ else .ok [.imm e.d] ρ
    | none => .no
  | .non, ρ => .ok [.imm .none] ρ
  | .bl b, ρ => .ok [.imm (.bool b)] ρ
  | .int i, ρ => .ok [.imm (.int i)] ρ
  | .str s, ρ => .ok [.imm (.str (Str.ofString s))] ρ
  | .nil, ρ => .ok [] ρ
  | .nild, ρ => .ok [.fr (.dict [])] ρ
  | .cons a r, ρ => (ev a ρ).bnd fun ws ρ1 => one (fun w ρ1 => (ev r ρ1).bnd fun us ρ2 => .ok (w :: us) ρ2) ws ρ1
  | .tup es, ρ => (ev es ρ).bnd fun ws ρ1 => (frzs ws ρ1).bnd fun ds ρ2 => if ds.length ≤ line then .ok [.imm (.tuple ds)] ρ2 else .no
  | .lst es, ρ => (ev es ρ).bnd fun ws ρ1 => (frzs ws ρ1).bnd fun ds ρ2 => if ds.length ≤ line then .ok [.fr (.list ds)] ρ2 else .no
  | .bin o a b, ρ => (ev a ρ).bnd fun xs ρ1 => (ev b ρ1).bnd fun ys ρ2 => two (fun x y ρ => opt ((binD o x y).map fun w => [w]) ρ) xs ys ρ2
  | .neg a, ρ => (ev a ρ).bnd fun xs ρ1 => oneD (fun x ρ => match x with
    | .int i => .ok [.imm (.int (-i))] ρ
    | _ => .no) xs ρ1
  | .cmp o a b, ρ => (ev a ρ).bnd fun xs ρ1 => (ev b ρ1).bnd fun ys ρ2 => two (fun x y ρ => opt ((cmpD o x y).map fun c => [W.imm (.bool c)]) ρ) xs ys ρ2
  | .chn o p a b c, ρ => (ev a ρ).bnd fun xs ρ1 => (ev b ρ1).bnd fun ys ρ2 => two (fun x y ρ => match y with
    | .int j => (match cmpD o x (.int j) with
      | some false => .ok [.imm (.bool false)] ρ
      | some true => (ev c ρ).bnd fun zs ρ3 => oneD (fun z ρ => opt ((cmpD p (.int j) z).map fun c => [W.imm (.bool c)]) ρ) zs ρ3
      | none => .no)
    | _ => .no) xs ys ρ2
  | .isn a, ρ => (ev a ρ).bnd fun xs ρ1 => oneD (fun x ρ => .ok [.imm (.bool (match x with
    | .none => true
    | _ => false))] ρ) xs ρ1
  | .isnn a, ρ => (ev a ρ).bnd fun xs ρ1 => oneD (fun x ρ => .ok [.imm (.bool (match x with
    | .none => false
    | _ => true))] ρ) xs ρ1
  | .ist k a, ρ => (ev a ρ).bnd fun xs ρ1 => oneD (fun x ρ => match x with
    | .bool b => .ok [.imm (.bool (if k then b else !b))] ρ
    | _ => .no) xs ρ1
  | .and a b, ρ => (ev a ρ).bnd fun xs ρ1 => (asB xs ρ1).bnd fun c ρ2 => if c then ev b ρ2 else .ok [.imm (.bool false)] ρ2
  | .or a b, ρ => (ev a ρ).bnd fun xs ρ1 => (asB xs ρ1).bnd fun c ρ2 => if c then .ok [.imm (.bool true)] ρ2 else ev b ρ2
  | .not a, ρ => (ev a ρ).bnd fun xs ρ1 => (asB xs ρ1).bnd fun c ρ2 => .ok [.imm (.bool (!c))] ρ2
  | .ite c a b, ρ => (ev c ρ).bnd fun xs ρ1 => (asB xs ρ1).bnd fun c ρ2 => if c then ev a ρ2 else ev b ρ2
  | .ix a b, ρ => (ev a ρ).bnd fun xs ρ1 => (ev b ρ1).bnd fun ys ρ2 => two (fun x y ρ => opt ((ixD x y).map fun d => [W.imm d]) ρ) xs ys ρ2
  | .sl a lo hi, ρ => (ev a ρ).bnd fun xs ρ1 => (ev lo ρ1).bnd fun ls ρ2 => (intP ls ρ2).bnd fun l ρ3 => (ev hi ρ3).bnd fun hs ρ4 => (intP hs ρ4).bnd fun h ρ5 => oneD (fun x ρ => opt ((slD x l h).map fun w => [w]) ρ) xs ρ5
  | .call f es, ρ => (ev es ρ).bnd fun ws ρ1 => callW cal f ws ρ1
  | .blt b es, ρ => (ev es ρ).bnd fun ws ρ1 => match ders ρ1 ws with
    | some ds => opt ((bltD b ds).map fun w => [w]) ρ1
    | none => .no
  | .isi ts a, ρ => (ev a ρ).bnd fun xs ρ1 => oneD (fun x ρ => .ok [.imm (.bool (ts.any fun t => isTy t x))] ρ) xs ρ1
  | .srt a, ρ => (ev a ρ).bnd fun xs ρ1 => oneD (fun x ρ => opt (((seqD x).bind srtD).map fun ds => [W.fr (.list ds)]) ρ) xs ρ1
  | .srts a, ρ => (ev a ρ).bnd fun xs ρ1 => oneD (fun x ρ => opt (((seqD x).bind srtsD).map fun ds => [W.fr (.list ds)]) ρ) xs ρ1
  | .srtl a, ρ => (ev a ρ).bnd fun xs ρ1 => oneD (fun x ρ => opt (((seqD x).bind fun ds => (lensD ds).bind fun ks => srtkD ks ds).map fun ds => [W.fr (.list ds)]) ρ) xs ρ1
  | .srtk f a, ρ => (ev a ρ).bnd fun xs ρ1 => oneD (fun x ρ => opt (((seqD x).bind fun ds => (mapC cal f ds).bind fun ks => srtkD ks ds).map fun ds => [W.fr (.list ds)]) ρ) xs ρ1
  | .pop i, ρ => (chg i popD ρ).bnd fun d ρ1 => .ok [.imm d] ρ1
  | .popAt i a, ρ => if !hasL i ρ then .no else (ev a ρ).bnd fun xs ρ1 => oneD (fun x ρ => (chg i (popAtD x) ρ).bnd fun d ρ2 => .ok [.imm d] ρ2) xs ρ1
  | .app i a, ρ => if !hasL i ρ then .no else (ev a ρ).bnd fun xs ρ1 => one (fun x ρ => (frzW x ρ).bnd fun x ρ => (chg i (appD x) ρ).bnd fun d ρ2 => .ok [.imm d] ρ2) xs ρ1
  | .ext i a, ρ => if !hasL i ρ then .no else (ev a ρ).bnd fun xs ρ1 => oneD (fun x ρ => (chg i (extD x) ρ).bnd fun d ρ2 => .ok [.imm d] ρ2) xs ρ1
  | .ins i a b, ρ => if !hasL i ρ then .no else (ev a ρ).bnd fun xs ρ1 => (ev b ρ1).bnd fun ys ρ2 => oneD (fun x ρ => one (fun y ρ => (frzW y ρ).bnd fun y ρ => (chg i (insD x y) ρ).bnd fun d ρ2 => .ok [.imm d] ρ2) ys ρ) xs ρ2
  | .rev i, ρ => (chg i revD ρ).bnd fun d ρ1 => .ok [.imm d] ρ1
  | .idx a b, ρ => (ev a ρ).bnd fun xs ρ1 => one (fun x ρ => (frzW x ρ).bnd fun c ρ2 => (ev b ρ2).bnd fun ys ρ3 => oneD (fun y ρ => opt ((idxD c y).map fun d => [W.imm d]) ρ) ys ρ3) xs ρ1
  | .join a b, ρ => (ev a ρ).bnd fun xs ρ1 => one (fun x ρ => (frzW x ρ).bnd fun c ρ2 => (ev b ρ2).bnd fun ys ρ3 => oneD (fun y ρ => opt ((joinO c y).map fun d => [W.imm d]) ρ) ys ρ3) xs ρ1
  | .sdef i a b, ρ => if !hasD i ρ then .no else (ev a ρ).bnd fun xs ρ1 => (ev b ρ1).bnd fun ys ρ2 => oneD (fun x ρ => one (fun y ρ => (frzW y ρ).bnd fun y ρ => (chg i (sdefD x y) ρ).bnd fun d ρ2 => .ok [.imm d] ρ2) ys ρ) xs ρ2
  | .get a b c, ρ => .no
  | .bits a, ρ => (ev a ρ).bnd fun xs ρ1 => oneD (fun x ρ => match x with
    | .int i => .ok [.imm (.int (bitLen i))] ρ
    | _ => .no) xs ρ1
  | .comp k a b tg vs c e, ρ => (ev a ρ).bnd fun xs ρ1 => (ev b ρ1).bnd fun ys ρ2 => (srcW k (xs ++ ys) ρ2).bnd fun iw ρ3 => if hidOk (lock ρ3 iw.2) vs then
      (compL (fun d ρ => match asg tg [d] ρ with
        | some ρ4 => (ev c ρ4).bnd fun cs ρ5 => (asB cs ρ5).bnd fun t ρ6 => if t then (ev e ρ6).bnd fun zs ρ7 => one (fun z ρ => (frzW z ρ).bnd fun x ρ8 => .ok (some x) (wipeR ρ8 vs)) zs ρ7 else .ok none (wipeR ρ6 vs)
        | none => .no) iw.1 (wipeR (lock ρ3 iw.2) vs) []).bnd fun out ρ9 => .ok [.fr (.list out)] (back (lock ρ3 iw.2) (unlock ρ9 iw.2 (wasLk ρ3 iw.2)) vs)
    else .no

/-- how a statement ends -/
inductive Fl where
  | nx | bk | rt (w : W)
/-- a value that is returned: an own list leaves its slot -/
def retW (w : W) (ρ : Rho) : Rs Fl := match w with
  | .al i => match lkp ρ i with
    | some e => (match e.k, e.lk with
      | .own, false => .ok (.rt (.fr e.d)) (ρ.set i none)
      | _, _ => (frzW w ρ).bnd fun d ρ1 => .ok (.rt (.imm d)) ρ1)
    | none => .no
  | w => .ok (.rt w) ρ
def setW (i : Nat) (w : W) (ρ : Rho) : Rs Fl := if mayStore ρ i && decide (i < ρ.length) then (match w with
  | .fr d => .ok .nx (ρ.set i (some ⟨.own, false, d⟩))
  | w => (frzW w ρ).bnd fun d ρ1 => .ok .nx (ρ1.set i (some ⟨.imm, false, d⟩))) else .no
def loopL (f : D → Rho → Rs Fl) : List D → Rho → Rs Fl
  | [], ρ => .ok .nx ρ
  | d :: ds, ρ => (f d ρ).bnd fun o ρ1 => match o with
    | .nx => loopL f ds ρ1
    | .bk => .ok .nx ρ1
    | .rt w => .ok (.rt w) ρ1
def exs : IS → Rho → Rs Fl
  | .skip, ρ => .ok .nx ρ
  | .seq s t, ρ => (exs s ρ).bnd fun o ρ1 => match o with
    | .nx => exs t ρ1
    | o => .ok o ρ1
  | .ex e, ρ => (ev cal e ρ).bnd fun ws ρ1 => one (fun _ ρ1 => .ok .nx ρ1) ws ρ1
  | .set i e, ρ => (ev cal e ρ).bnd fun ws ρ1 => one (setW i) ws ρ1
  | .put i a e, ρ => (ev cal e ρ).bnd fun ys ρ1 => if !hasL i ρ1 then .no else (ev cal a ρ1).bnd fun xs ρ2 => oneD (fun x ρ => one (fun y ρ => (frzW y ρ).bnd fun y ρ => (chg i (putD x y) ρ).bnd fun _ ρ3 => .ok .nx ρ3) ys ρ) xs ρ2
  | .ite c s t, ρ => (ev cal c ρ).bnd fun xs ρ1 => (asB xs ρ1).bnd fun c ρ2 => if c then exs s ρ2 else exs t ρ2
  | .loop k a b tg s, ρ => (ev cal a ρ).bnd fun xs ρ1 => (ev cal b ρ1).bnd fun ys ρ2 => (srcW k (xs ++ ys) ρ2).bnd fun iw ρ3 =>
      (loopL (fun d ρ => match asg tg [d] ρ with
        | some ρ4 => exs s ρ4
        | none => .no) iw.1 (lock ρ3 iw.2)).bnd fun o ρ8 => match o with
          | .rt w' => .ok (.rt w') ρ8
          | _ => .ok .nx (unlock ρ8 iw.2 (wasLk ρ3 iw.2))
  | .ret e, ρ => (ev cal e ρ).bnd fun ws ρ1 => one retW ws ρ1
  | .brk, ρ => .ok .bk ρ
  | .rais, _ => .no
end

/-- a def: its number of parameters, of slots, its body -/
structure Fn where
  np : Nat
  ns : Nat
  body : IS
abbrev Tab := List (String × Fn)
/-- the parameters' end: what was handed in and may have changed -/
def outs : Nat → List En → Rho → Option (List En)
  | _, [], _ => some []
  | i, a :: as, ρ => (match a.k with
    | .bor => (lkp ρ i).bind fun e => match e.k with
      | .bor => some { e with lk := false }
      | .fb => some { e with lk := false }
      | _ => none
    | _ => some a).bind fun o => (outs (i + 1) as ρ).map (o :: ·)
def runF (cal : String → List En → Option (W × List En)) (f : Fn) (args : List En) : Option (W × List En) :=
  if args.length = f.np ∧ f.np ≤ f.ns then
    match exs cal f.body (args.map some ++ List.replicate (f.ns - f.np) none) with
    | .ok .nx ρ => (outs 0 args ρ).map fun os => (.imm .none, os)
    | .ok (.rt w) ρ => (match w with
      | .al _ => none
      | w => (outs 0 args ρ).map fun os => (w, os))
    | _ => none
  else none
def callN (T : Tab) : Nat → String → List En → Option (W × List En)
  | 0, _, _ => none
  | n + 1, f, args => match T.lookup f with
    | some fn => runF (callN T n) fn args
    | none => none
end RC
end RC2
section RC3
set_option Elab.async false
set_option linter.all false
set_option maxRecDepth 100000
set_option autoImplicit false
set_option maxHeartbeats 4000000
/-! RC3: freezing, reading, the readings of the small syntax -/
namespace RC
open PySem PySem.Spec PyProof.Rows L2

inductive Sees (K : PySem.W.Frag) (G H : Hp) : V → D → Prop
  | den {v : V} {d : D} : Den K G v d → Sees K G H v d
  | cell {p : Addr} {d : D} : Cell K G (H p) d → Sees K G H (.ref p) d
def TOk (K : PySem.W.Frag) (G : Hp) (σ : L2.St) (w : W) (v : V) : Prop := match w with
  | .imm d => Den K G v d
  | .fr d => Den K G v d
  | .al i => σ[i]? = some (some v)
inductive TsOk (K : PySem.W.Frag) (G : Hp) (σ : L2.St) : List W → List V → Prop
  | nil : TsOk K G σ [] []
  | cons {w : W} {v : V} {ws : List W} {vs : List V} : TOk K G σ w v → TsOk K G σ ws vs → TsOk K G σ (w :: ws) (v :: vs)

section
variable {K : PySem.W.Frag} {a : Amb} {G G' H H' : Hp} {ρ ρ' : Rho} {σ : L2.St} {p : Addr} {o : HO} {d : D} {v : V} {i : Nat} {e : En} {w : W}
theorem Cell.full (s : Same G H) (c : Cell K G (H p) d) : Den K H (.ref p) d := by
  generalize e : H p = x at c
  cases c with
  | lst h => exact .lst (.inl (.inl e)) (h.ext s)
  | dct h => exact .dct e (h.ext s)
theorem Sees.full (s : Same G H) (h : Sees K G H v d) : Den K H v d := by
  cases h with
  | den h => exact h.ext s
  | cell h => exact h.full s
theorem TOk.ext (s : Same G G') (h : TOk K G σ w v) : TOk K G' σ w v := by
  cases w with
  | imm d => exact Den.ext s h
  | fr d => exact Den.ext s h
  | al i => exact h
theorem TsOk.ext (s : Same G G') {ws : List W} {vs : List V} (h : TsOk K G σ ws vs) : TsOk K G' σ ws vs := by
  induction h with
  | nil => exact .nil
  | cons h _ ih => exact .cons (h.ext s) ih
theorem TsOk.app {ws us : List W} {vs xs : List V} (h : TsOk K G σ ws vs) (g : TsOk K G σ us xs) : TsOk K G σ (ws ++ us) (vs ++ xs) := by
  induction h with
  | nil => exact g
  | cons h _ ih => exact .cons h ih
theorem RelG.owG (R : RelG K a G ρ σ H) (h : ρ[i]? = some (some e)) (ho : e.ow = true) (hv : σ[i]? = some (some v)) : ∃ p, v = .ref p ∧ G p = none ∧ Cell K G (H p) e.d ∧ (a.H0 p = none ∨ ∃ j, a.B j = some p) ∧ EnOk K a G H i e v := by
  obtain ⟨v', hv', k⟩ := R.ent i e h
  rw [hv] at hv'
  cases hv'
  cases k with
  | imm h => cases ho
  | own h1 h2 h3 => exact ⟨_, rfl, h1, h3, .inl h2, .own h1 h2 h3⟩
  | bor h1 h2 h3 => exact ⟨_, rfl, h1, h3, .inr ⟨_, h2⟩, .bor h1 h2 h3⟩
  | fb _ _ => cases ho
/-- a temporary that is new is frozen -/
theorem RelG.thaw (R : RelG K a G ρ σ H) (h : WOk K a G H ρ σ w v) : ∃ G', Same G G' ∧ RelG K a G' ρ σ H ∧ TOk K G' σ w v := by
  cases h with
  | imm h => exact ⟨G, Same.refl _, R, h⟩
  | @fr d p h1 h2 h3 hk h4 =>
    obtain ⟨u, hu⟩ := h4.some
    refine ⟨upd G p u, same_upd h1, R.freeze h1 (.inl h2) h3 hk hu, ?_⟩
    rw [hu] at h4
    exact h4.frozen h1
  | al h1 h2 h3 => exact ⟨G, Same.refl _, R, h3⟩
theorem EnOk.sees (k : EnOk K a G H i e v) : Sees K G H v e.d := by
  cases k with
  | imm h => exact .den h
  | own _ _ h => exact .cell h
  | bor _ _ h => exact .cell h
  | fb _ h => exact .den h
theorem RelG.sees (R : RelG K a G ρ σ H) (h : TOk K G σ w v) (hd : der ρ w = some d) : Sees K G H v d := by
  cases w with
  | imm d' => cases hd; exact .den h
  | fr d' => cases hd; exact .den h
  | al i =>
    have h : σ[i]? = some (some v) := h
    obtain ⟨e, he, rfl⟩ := Option.map_eq_some_iff.mp (show (lkp ρ i).map (·.d) = some d from hd)
    obtain ⟨v', hv', k⟩ := R.ent i e (lkp_some.mp he)
    rw [h] at hv'
    cases hv'
    exact k.sees
inductive SeesAll (K : PySem.W.Frag) (G H : Hp) : List V → List D → Prop
  | nil : SeesAll K G H [] []
  | cons {v : V} {d : D} {vs : List V} {ds : List D} : Sees K G H v d → SeesAll K G H vs ds → SeesAll K G H (v :: vs) (d :: ds)
theorem RelG.seesAll (R : RelG K a G ρ σ H) {ws : List W} {vs : List V} (h : TsOk K G σ ws vs) : ∀ {ds : List D}, ders ρ ws = some ds → SeesAll K G H vs ds := by
  induction h with
  | nil => intro ds hd; cases hd; exact .nil
  | cons h _ ih =>
    intro ds hd
    obtain ⟨d, h1, h2⟩ := Option.bind_eq_some_iff.mp (show (der ρ _).bind _ = some ds from hd)
    obtain ⟨r, h3, rfl⟩ := Option.map_eq_some_iff.mp h2
    exact .cons (R.sees h h1) (ih h3)
theorem Sees.seq (h : Sees K G H v d) (s : Same G H) {ds : List D} (hd : seqD d = some ds) : ∃ b xs, v = .ref b ∧ (SqL K H b xs ∨ Rd H b (.tup xs)) ∧ DenAll K G xs ds := by
  cases h with
  | den h =>
    cases h with
    | lst h t => cases hd; exact ⟨_, _, rfl, .inl (Same.sql s h), t⟩
    | tup h q t => cases hd; exact ⟨_, _, rfl, .inr (.inr ⟨_, s _ _ h⟩), t⟩
    | non => cases hd
    | bl b => cases hd
    | int b => cases hd
    | str b => cases hd
    | dct _ _ => cases hd
  | @cell p d c =>
    generalize e : H p = x at c
    cases c with
    | lst h => cases hd; exact ⟨_, _, rfl, .inl (.inl (.inl e)), h⟩
    | dct h => cases hd
theorem Sees.lst {ds : List D} (h : Sees K G H v (.list ds)) (s : Same G H) : ∃ b xs, v = .ref b ∧ SqL K H b xs ∧ DenAll K G xs ds := by
  cases h with
  | den h =>
    cases h with
    | lst h t => exact ⟨_, _, rfl, Same.sql s h, t⟩
  | @cell p d c =>
    generalize e : H p = x at c
    cases c with
    | lst h => exact ⟨_, _, rfl, .inl (.inl e), h⟩
theorem Sees.tup {ds : List D} (h : Sees K G H v (.tuple ds)) (s : Same G H) : ∃ b xs, v = .ref b ∧ (∃ o : Obj, H b = some (.frz o (.tup xs)) ∧ o.dict = none) ∧ DenAll K G xs ds ∧ Den K G v (.tuple ds) := by
  cases h with
  | den h =>
    cases h with
    | tup h q t => exact ⟨_, _, rfl, ⟨_, s _ _ h, q⟩, t, .tup h q t⟩
  | @cell p d c =>
    generalize e : H p = x at c
    cases c
theorem Sees.dct {ds : List (D × D)} (h : Sees K G H v (.dict ds)) (s : Same G H) : ∃ b kvs, v = .ref b ∧ H b = some (.dK kvs) ∧ DenKV K G kvs ds := by
  cases h with
  | den h =>
    cases h with
    | dct h t => exact ⟨_, _, rfl, s _ _ h, t⟩
  | @cell p d c =>
    generalize e : H p = x at c
    cases c with
    | dct h => exact ⟨_, _, rfl, e, h⟩
theorem Sees.int {n : Int} (h : Sees K G H v (.int n)) : v = .int n := by
  cases h with
  | den h => cases h; rfl
  | @cell p d c => generalize e : H p = x at c; cases c
theorem Sees.bl {n : Bool} (h : Sees K G H v (.bool n)) : v = .bl n := by
  cases h with
  | den h => cases h; rfl
  | @cell p d c => generalize e : H p = x at c; cases c
theorem Sees.str {n : Str} (h : Sees K G H v (.str n)) : v = .str n := by
  cases h with
  | den h => cases h; rfl
  | @cell p d c => generalize e : H p = x at c; cases c
theorem Sees.non (h : Sees K G H v .none) : v = .non := by
  cases h with
  | den h => cases h; rfl
  | @cell p d c => generalize e : H p = x at c; cases c
theorem lkp_get (h : lkp ρ i = some e) : ρ[i]? = some (some e) := lkp_some.mp h
/-- a value becomes frozen data -/
theorem RelG.frz (R : RelG K a G ρ σ H) (h : TOk K G σ w v) (hf : frzW w ρ = .ok d ρ') : ∃ G', Same G G' ∧ RelG K a G' ρ' σ H ∧ Den K G' v d := by
  cases w with
  | imm d' => cases hf; exact ⟨G, Same.refl _, R, h⟩
  | fr d' => cases hf; exact ⟨G, Same.refl _, R, h⟩
  | al i =>
    have h : σ[i]? = some (some v) := h
    cases he : lkp ρ i with
    | none => simp only [frzW, he] at hf; cases hf
    | some e =>
      simp only [frzW, he] at hf
      cases hf
      have hg := lkp_get he
      obtain ⟨v', hv', k⟩ := R.ent i e hg
      rw [h] at hv'
      cases hv'
      obtain ⟨ek, el, ed⟩ := e
      cases k with
      | imm q => exact ⟨G, Same.refl _, R.turn hg h (EnOk.imm q) (fun z => by cases z) (fun z => z) rfl, q⟩
      | fb q1 q2 => exact ⟨G, Same.refl _, R.turn hg h (EnOk.fb q1 q2) (fun z => by cases z) (fun z => z) rfl, q2⟩
      | @own lk d' p q1 q2 q3 =>
        obtain ⟨u, hu⟩ := q3.some
        rw [hu] at q3
        exact ⟨upd G p u, same_upd q1, R.frzSlot hg rfl h hu, q3.frozen q1⟩
      | @bor lk d' p q1 q2 q3 =>
        obtain ⟨u, hu⟩ := q3.some
        rw [hu] at q3
        exact ⟨upd G p u, same_upd q1, R.frzSlot hg rfl h hu, q3.frozen q1⟩
theorem RelG.frzAll {ws : List W} {vs : List V} (hw : TsOk K G σ ws vs) : ∀ {ρ ρ' : Rho} {ds : List D}, RelG K a G ρ σ H → frzs ws ρ = .ok ds ρ' → ∃ G', Same G G' ∧ RelG K a G' ρ' σ H ∧ DenAll K G' vs ds := by
  induction vs generalizing G ws with
  | nil =>
    cases hw
    intro ρ ρ' ds R h
    cases h
    exact ⟨G, Same.refl _, R, .nil⟩
  | cons v vs ih =>
    cases hw with
    | cons h1 h2 =>
      intro ρ ρ' ds R h
      obtain ⟨d, ρ1, e1, h⟩ := bnd_of h
      obtain ⟨r, ρ2, e2, h⟩ := bnd_of h
      cases h
      obtain ⟨G1, s1, R1, q1⟩ := R.frz h1 e1
      obtain ⟨G2, s2, R2, q2⟩ := ih (h2.ext s1) R1 e2
      exact ⟨G2, s1.trans s2, R2, .cons (q1.ext s2) q2⟩
end

/-! ### readings -/
section
variable (K : PySem.W.Frag)
/-- an expression that computes f -/
def tI (f : Rho → Rs (List W)) : TE := fun σ H Q => ∃ (a : Amb) (G : Hp) (ρ : Rho) (w : W) (ρ' : Rho), f ρ = .ok [w] ρ' ∧ RelG K a G ρ σ H ∧
  ∀ v H' G', Same G G' → RelG K a G' ρ' σ H' → WOk K a G' H' ρ' σ w v → Q v H'
def tT (f : Rho → Rs (List W)) : TT := fun σ H Q => ∃ (a : Amb) (G : Hp) (ρ : Rho) (b : Bool) (ρ' : Rho), (f ρ).bnd asB = .ok b ρ' ∧ RelG K a G ρ σ H ∧
  ∀ H' G', Same G G' → RelG K a G' ρ' σ H' → Q b H'
def tA (f : Rho → Rs (List W)) : TA := fun σ H Q => ∃ (a : Amb) (G : Hp) (ρ : Rho) (ws : List W) (ρ' : Rho), f ρ = .ok ws ρ' ∧ RelG K a G ρ σ H ∧
  ∀ vs H' G', Same G G' → RelG K a G' ρ' σ H' → TsOk K G' σ ws vs → Q vs H'
/-- what must hold behind a statement that ends so -/
def EndOk (a : Amb) (G : Hp) (D : Ends) (o : Fl) (ρ' : Rho) : Prop := match o with
  | .nx => ∀ σ' H' G', Same G G' → RelG K a G' ρ' σ' H' → D.nx σ' H'
  | .bk => ∀ σ' H' G', Same G G' → RelG K a G' ρ' σ' H' → D.bk σ' H'
  | .rt w => ∀ σ' v H' G', Same G G' → RelG K a G' ρ' σ' H' → WOk K a G' H' ρ' σ' w v → D.rt v H'
def tS (f : Rho → Rs Fl) : TS := fun D σ H => ∃ (a : Amb) (G : Hp) (ρ : Rho) (o : Fl) (ρ' : Rho), f ρ = .ok o ρ' ∧ RelG K a G ρ σ H ∧ EndOk K a G D o ρ'
end
theorem EndOk.ext {K : PySem.W.Frag} {a : Amb} {G G' : Hp} {D : Ends} {o : Fl} {ρ' : Rho} (h : EndOk K a G D o ρ') (s : Same G G') : EndOk K a G' D o ρ' := by
  cases o with
  | nx => exact fun σ' H' G1 s1 R => h σ' H' G1 (s.trans s1) R
  | bk => exact fun σ' H' G1 s1 R => h σ' H' G1 (s.trans s1) R
  | rt w => exact fun σ' v H' G1 s1 R q => h σ' v H' G1 (s.trans s1) R q
section
variable {X : Cx}
theorem pe_imp {e : Expr} {t t' : TE} (h : PE X e t) (i : ∀ σ H Q, t' σ H Q → t σ H Q) : PE X e t' := ⟨fun pins s σ H Q I q => h.run pins s σ H Q I (i σ H Q q)⟩
theorem pt_imp {e : Expr} {t t' : TT} (h : PT X e t) (i : ∀ σ H Q, t' σ H Q → t σ H Q) : PT X e t' := ⟨fun pins s σ H Q I q => h.run pins s σ H Q I (i σ H Q q)⟩
theorem pa_imp {e : List Expr} {t t' : TA} (h : PA X e t) (i : ∀ σ H Q, t' σ H Q → t σ H Q) : PA X e t' := ⟨fun pos pins s σ H Q I q => h.run pos pins s σ H Q I (i σ H Q q)⟩
theorem ps_imp {e : Stmt} {t t' : TS} (h : PS X e t) (i : ∀ σ H Q, t' Q σ H → t Q σ H) : PS X e t' := ⟨fun pins s σ H Q I q => h.run pins s σ H Q I (i σ H Q q)⟩
theorem pss_imp {e : List Stmt} {t t' : TS} (h : PSs X e t) (i : ∀ σ H Q, t' Q σ H → t Q σ H) : PSs X e t' := ⟨fun pins s σ H Q I q => h.run pins s σ H Q I (i σ H Q q)⟩
end
/-- one expression, then k -/
theorem tI_then {K : PySem.W.Frag} {f : Rho → Rs (List W)} {α : Type} {g : List W → Rho → Rs α} {a : Amb} {G : Hp} {ρ : Rho} {σ : L2.St} {H : Hp} {r : α} {ρ' : Rho} {Q : V → Hp → Prop}
    (h : (f ρ).bnd g = .ok r ρ') (one : ∀ ws ρ1, f ρ = .ok ws ρ1 → g ws ρ1 = .ok r ρ' → ∃ w, ws = [w]) (R : RelG K a G ρ σ H)
    (k : ∀ w ρ1 v H1 G1, f ρ = .ok [w] ρ1 → g [w] ρ1 = .ok r ρ' → Same G G1 → RelG K a G1 ρ1 σ H1 → TOk K G1 σ w v → Q v H1) : tI K f σ H Q := by
  obtain ⟨ws, ρ1, e1, e2⟩ := bnd_of h
  obtain ⟨w, rfl⟩ := one ws ρ1 e1 e2
  refine ⟨a, G, ρ, w, ρ1, e1, R, fun v H1 G1 s1 R1 q => ?_⟩
  obtain ⟨G2, s2, R2, q2⟩ := R1.thaw q
  exact k w ρ1 v H1 G2 e1 e2 (s1.trans s2) R2 q2
end RC
end RC3
section RC4
set_option Elab.async false
set_option linter.all false
set_option maxRecDepth 100000
set_option autoImplicit false
set_option maxHeartbeats 4000000
/-! RC4: operations by values -/
namespace RC
open PySem PySem.Spec PyProof.Rows L2

def tupO (its : List Value) : Obj := { cls := .type "tuple", data := .seq its.toArray }
/-- a tuple that was just laid -/
def TupNew (H : Hp) (p : Addr) (xs : List V) (H' : Hp) : Prop := ∃ o : Obj, o.dict = none ∧ H' = upd H p (.frz o (.tup xs))
inductive Res (K : PySem.W.Frag) (G H : Hp) : W → V → Hp → Prop
  | same {d : D} {v : V} : Den K G v d → Res K G H (.imm d) v H
  | newI {p : Addr} {o : HO} {d : D} : H p = none → Den K (upd G p o) (.ref p) d → Res K G H (.imm d) (.ref p) (upd H p o)
  | newF {p : Addr} {o : HO} {d : D} : H p = none → Cell K G (some o) d → Res K G H (.fr d) (.ref p) (upd H p o)
section
variable {K : PySem.W.Frag} {a : Amb} {G G' H H' : Hp} {ρ ρ' : Rho} {σ : L2.St} {p : Addr} {o : HO} {d : D} {v : V} {i : Nat} {e : En} {w : W}
theorem Res.tup {xs : List V} {ds : List D} (s : Same G H) (hn : H p = none) (t : DenAll K G xs ds) (h : TupNew H p xs H') : Res K G H (.imm (.tuple ds)) (.ref p) H' := by
  obtain ⟨o, h1, rfl⟩ := h
  exact .newI hn (.tup upd_same h1 (t.ext (same_upd (s.free hn))))
theorem RelG.res (R : RelG K a G ρ σ H) (h : Res K G H w v H') : ∃ G', Same G G' ∧ RelG K a G' ρ σ H' ∧ WOk K a G' H' ρ σ w v := by
  cases h with
  | same h => exact ⟨G, Same.refl _, R, .imm h⟩
  | @newI p o d h1 h2 => exact ⟨_, same_upd (R.newG h1), R.laidF h1, .imm h2⟩
  | @newF p o d h1 h2 => exact ⟨G, Same.refl _, R.laid h1, .fr (R.newG h1) (R.new0 h1) (R.newFree h1) (R.newKep h1) (by rw [upd_same]; exact h2)⟩
mutual
theorem Den.dpp : ∀ {v : V} {d : D}, Den K H v d → d.canLay0 = true → Dp K H v d
  | _, _, .non, _ => .non
  | _, _, .bl b, _ => .bl b
  | _, _, .int i, _ => .int i
  | _, _, .str x, _ => .str x
  | _, _, .lst h t, c => .lst h (DenAll.dpp t (by simpa [PyData.canLay0] using c))
  | _, _, .tup h _ t, c => .tup (.inl (.inr ⟨_, h⟩)) (DenAll.dpp t (by simpa [PyData.canLay0] using c))
  | _, _, .dct h t, c => by simp [PyData.canLay0] at c
theorem DenAll.dpp : ∀ {v : List V} {d : List D}, DenAll K H v d → PyData.canLayAll0 d = true → DpAll K H v d
  | _, _, .nil, _ => .nil
  | _, _, .cons h t, c => by
    have c' := Bool.and_eq_true_iff.mp (show (PyData.canLay0 _ && PyData.canLayAll0 _) = true by simpa [PyData.canLayAll0] using c)
    exact .cons (Den.dpp h c'.1) (DenAll.dpp t c'.2)
end
theorem Sees.dp (h : Sees K G H v d) (s : Same G H) (hs : shp d = true) : Dp K H v d := (h.full s).dpp (SeqAt.canLay_of_shaped hs)
end
theorem line_eq : line = sizeLine := by decide
theorem shp_eq {d : D} (h : shp d = true) : SeqAt.shaped d = true := h

/-- the library's laying of a tuple, told as an object that is known -/
theorem inv_tnew {X : Cx} {pins : List (Addr × Obj)} {σ : L2.St} {H : Hp} {s : Shared} {xs : List V} {its : List Value} (I : Inv X pins σ H s) (hv : Vals xs its) (hz : xs.length ≤ sizeLine) :
    Inv X pins σ (upd H s.heap.objs.size (.frz (tupO its) (.tup xs))) { s with heap := s.heap.push (tupO its) } :=
  I.laid (t' := s.toks) (fun b o e => Heap.get?_push_of_some _ e) (Nat.le_refl _) ⟨Heap.get?_push_size _ rfl, hz, its, hv, ⟨_, Heap.get?_push_size _ rfl, rfl, _, rfl⟩⟩
theorem inv_rdL {X : Cx} {pins : List (Addr × Obj)} {σ : L2.St} {H : Hp} {s : Shared} {a : Addr} {xs : List V} (I : Inv X pins σ H s) (h : SqL X.K H a xs) : xs.length ≤ sizeLine ∧ ∃ (its : List Value) (n : Nat) (dd : Option Addr) (sl : Array (Option Value)), Vals xs its ∧ s.heap.get? a = some { cls := .type "list", dict := dd, data := .seq its.toArray n, slots := sl } := by
  obtain ⟨its, r, ⟨⟨cls, dd, data, sl⟩, n, e, hc, _, hd⟩, hz⟩ := I.list h
  simp only at hc hd
  subst hc hd
  exact ⟨hz, its, n, dd, sl, r, e⟩
theorem inv_rdT {X : Cx} {pins : List (Addr × Obj)} {σ : L2.St} {H : Hp} {s : Shared} {a : Addr} {o : Obj} {xs : List V} (I : Inv X pins σ H s) (h : H a = some (.frz o (.tup xs))) : s.heap.get? a = some o ∧ xs.length ≤ sizeLine ∧ ∃ its : List Value, Vals xs its ∧ IsTup s.heap a its.toArray := I.hok a _ h

def rD (K : PySem.W.Frag) (f : D → D → Option W) : R2 := fun x y H Q => ∃ (G : Hp) (c d : D) (w : W), Same G H ∧ Sees K G H x c ∧ Sees K G H y d ∧ f c d = some w ∧ ∀ v H', Res K G H w v H' → Q v H'
section
variable {X : Cx}
theorem or_add : OpR X (binaryOp .Add) (rD X.K (binD .add)) := by
  intro pins s σ H x y v u Q I rx ry h
  obtain ⟨G, c, d, w, sg, sx, sy, hf, q⟩ := h
  cases c with
  | int i =>
    cases d with
    | int j =>
      cases hf
      exact op_add pins s σ H x y v u Q I rx ry ⟨i, j, sx.int, sy.int, q _ _ (.same (.int _))⟩
    | _ => simp [binD] at hf
  | str i =>
    cases d with
    | str j =>
      simp only [binD] at hf
      split at hf
      · rename_i hl
        cases hf
        exact op_add_str pins s σ H x y v u Q I rx ry ⟨i, j, sx.str, sy.str, by rw [← line_eq]; exact hl, q _ _ (.same (.str _))⟩
      · cases hf
    | _ => simp [binD] at hf
  | list xs =>
    cases d with
    | list ys =>
      simp only [binD] at hf
      split at hf
      · rename_i hl
        cases hf
        obtain ⟨l, as, rfl, h1, t1⟩ := sx.lst sg
        obtain ⟨b, bs, rfl, h2, t2⟩ := sy.lst sg
        cases rx
        cases ry
        obtain ⟨z, its, n, dd, sl, r, e⟩ := inv_rdL I h1
        obtain ⟨z2, its2, n2, dd2, sl2, r2, e2⟩ := inv_rdL I h2
        have hsum : as.length + bs.length ≤ sizeLine := by rw [t1.len, t2.len, ← line_eq]; exact hl
        have ea : its.toArray ++ its2.toArray = (its ++ its2).toArray := by simp
        refine concat_meets ⟨_, e, rfl⟩ ⟨_, e2, rfl⟩ noFill_list_add seq_list_add PySem.F.slot_list_add PySem.F.entry_list_add (PySem.F.args_list_add_2 _ _) (list_addW l b its.toArray its2.toArray n n2 dd dd2 sl sl2 (by rw [List.size_toArray, List.size_toArray, ← r.length, ← r2.length]; exact hsum)) ⟨e, e2, ?_⟩
        rw [ea]
        exact ⟨.ref _, _, I.lnew (t' := s.toks) (r.append r2) (by rw [List.length_append]; exact hsum), rfl, q _ _ (.newF I.fresh (.lst (t1.app t2)))⟩
      · cases hf
    | _ => simp [binD] at hf
  | tuple xs =>
    cases d with
    | tuple ys =>
      simp only [binD] at hf
      split at hf
      · rename_i hl
        cases hf
        obtain ⟨l, as, rfl, ⟨o1, h1, _⟩, t1, dn1⟩ := sx.tup sg
        obtain ⟨b, bs, rfl, ⟨o2, h2, _⟩, t2, dn2⟩ := sy.tup sg
        cases rx
        cases ry
        obtain ⟨_, _, its, r, p1⟩ := inv_rdT I h1
        obtain ⟨_, _, its2, r2, p2⟩ := inv_rdT I h2
        have hsum : as.length + bs.length ≤ sizeLine := by rw [t1.len, t2.len, ← line_eq]; exact hl
        by_cases hx : its = []
        · subst hx
          cases r
          cases t1
          exact cat_tup0 p1 p2 ⟨.ref b, H, I, rfl, q _ _ (.same dn2)⟩
        · refine HT.cat_tup p1 p2 hx (fun z => ?_) (fun z => ?_) (by rw [← r.length, ← r2.length]; exact hsum)
          · subst z
            cases r2
            cases t2
            rw [List.append_nil] at q
            exact ⟨.ref l, H, I, rfl, q _ _ (.same dn1)⟩
          · exact ⟨.ref _, _, inv_tnew I (r.append r2) (by rw [List.length_append]; exact hsum), rfl, q _ _ (.tup sg I.fresh (t1.app t2) ⟨_, rfl, rfl⟩)⟩
      · cases hf
    | _ => simp [binD] at hf
  | _ => simp [binD] at hf
theorem or_sub : OpR X (binaryOp .Sub) (rD X.K (binD .sub)) := by
  intro pins s σ H x y v u Q I rx ry h
  obtain ⟨G, c, d, w, sg, sx, sy, hf, q⟩ := h
  cases c with
  | int i =>
    cases d with
    | int j =>
      cases hf
      exact op_sub pins s σ H x y v u Q I rx ry ⟨i, j, sx.int, sy.int, q _ _ (.same (.int _))⟩
    | _ => simp [binD] at hf
  | _ => simp [binD] at hf
theorem or_mul : OpR X (binaryOp .Mult) (rD X.K (binD .mul)) := by
  intro pins s σ H x y v u Q I rx ry h
  obtain ⟨G, c, d, w, sg, sx, sy, hf, q⟩ := h
  cases c with
  | int i =>
    cases d with
    | int j =>
      simp only [binD] at hf
      split at hf
      · rename_i hm
        cases hf
        unfold mulOk at hm
        simp only [Bool.or_eq_true, Bool.and_eq_true, decide_eq_true_eq] at hm
        rcases hm with (hm | hm) | hm
        · exact op_mul pins s σ H x y v u Q I rx ry ⟨i, j, sx.int, sy.int, .inl hm, q _ _ (.same (.int _))⟩
        · exact op_mul pins s σ H x y v u Q I rx ry ⟨i, j, sx.int, sy.int, .inr hm, q _ _ (.same (.int _))⟩
        · exact op_mulW pins s σ H x y v u Q I rx ry ⟨i, j, sx.int, sy.int, hm, q _ _ (.same (.int _))⟩
      · cases hf
    | _ => simp [binD] at hf
  | _ => simp [binD] at hf
theorem or_fdiv : OpR X (binaryOp .FloorDiv) (rD X.K (binD .fdiv)) := by
  intro pins s σ H x y v u Q I rx ry h
  obtain ⟨G, c, d, w, sg, sx, sy, hf, q⟩ := h
  cases c with
  | int i =>
    cases d with
    | int j =>
      simp only [binD] at hf
      split at hf
      · rename_i hm
        cases hf
        exact op_fdivW pins s σ H x y v u Q I rx ry ⟨i, j, sx.int, sy.int, hm, q _ _ (.same (.int _))⟩
      · cases hf
    | _ => simp [binD] at hf
  | _ => simp [binD] at hf
theorem or_md : OpR X (binaryOp .Mod) (rD X.K (binD .md)) := by
  intro pins s σ H x y v u Q I rx ry h
  obtain ⟨G, c, d, w, sg, sx, sy, hf, q⟩ := h
  cases c with
  | int i =>
    cases d with
    | int j =>
      simp only [binD] at hf
      split at hf
      · rename_i hm
        cases hf
        exact op_mod pins s σ H x y v u Q I rx ry ⟨i, j, sx.int, sy.int, hm, q _ _ (.same (.int _))⟩
      · cases hf
    | _ => simp [binD] at hf
  | _ => simp [binD] at hf
theorem or_pow : OpR X (binaryOp .Pow) (rD X.K (binD .pow)) := by
  intro pins s σ H x y v u Q I rx ry h
  obtain ⟨G, c, d, w, sg, sx, sy, hf, q⟩ := h
  cases c with
  | int i =>
    cases d with
    | int j =>
      simp only [binD] at hf
      split at hf
      · rename_i hm
        cases hf
        exact op_pow pins s σ H x y v u Q I rx ry ⟨i, j, sx.int, sy.int, hm, q _ _ (.same (.int _))⟩
      · cases hf
    | _ => simp [binD] at hf
  | _ => simp [binD] at hf
/-- comparisons -/
def rC (K : PySem.W.Frag) (f : D → D → Option Bool) : R2 := fun x y H Q => ∃ (G : Hp) (c d : D) (b : Bool), Same G H ∧ Sees K G H x c ∧ Sees K G H y d ∧ f c d = some b ∧ Q (.bl b) H
theorem oc_eq (hu : X.A.units + 64 < cLine) : OpR X (compareOp .Eq) (rC X.K (cmpD .eq)) := by
  intro pins s σ H x y v u Q I rx ry h
  obtain ⟨G, c, d, b, sg, sx, sy, hf, q⟩ := h
  simp only [cmpD] at hf
  split at hf
  · rename_i hs
    cases hf
    obtain ⟨h1, h2⟩ := Bool.and_eq_true_iff.mp hs
    exact op_eqD hu pins s σ H x y v u Q I rx ry ⟨c, d, sx.dp sg h1, sy.dp sg h2, h1, h2, q⟩
  · cases hf
theorem oc_ne (hu : X.A.units + 64 < cLine) : OpR X (compareOp .NotEq) (rC X.K (cmpD .ne)) := by
  intro pins s σ H x y v u Q I rx ry h
  obtain ⟨G, c, d, b, sg, sx, sy, hf, q⟩ := h
  simp only [cmpD] at hf
  split at hf
  · rename_i hs
    cases hf
    obtain ⟨h1, h2⟩ := Bool.and_eq_true_iff.mp hs
    exact op_neD hu pins s σ H x y v u Q I rx ry ⟨c, d, sx.dp sg h1, sy.dp sg h2, h1, h2, q⟩
  · cases hf
theorem oc_ints {op : CmpOp} {o : COp} {g : Int → Int → Bool} (ho : OpR X (compareOp op) (rI0 fun i j => .bl (g i j))) (hc : ∀ c d b, cmpD o c d = some b → ∃ i j, c = .int i ∧ d = .int j ∧ b = g i j) : OpR X (compareOp op) (rC X.K (cmpD o)) := by
  intro pins s σ H x y v u Q I rx ry h
  obtain ⟨G, c, d, b, sg, sx, sy, hf, q⟩ := h
  obtain ⟨i, j, rfl, rfl, rfl⟩ := hc _ _ _ hf
  exact ho pins s σ H x y v u Q I rx ry ⟨i, j, sx.int, sy.int, q⟩
theorem oc_lt : OpR X (compareOp .Lt) (rC X.K (cmpD .lt)) := oc_ints op_lt fun c d b h => by
  cases c <;> cases d <;> first | (simp [cmpD] at h; done) | (cases h; exact ⟨_, _, rfl, rfl, rfl⟩)
theorem oc_le : OpR X (compareOp .LtE) (rC X.K (cmpD .le)) := oc_ints op_le fun c d b h => by
  cases c <;> cases d <;> first | (simp [cmpD] at h; done) | (cases h; exact ⟨_, _, rfl, rfl, rfl⟩)
theorem oc_gt : OpR X (compareOp .Gt) (rC X.K (cmpD .gt)) := oc_ints op_gt fun c d b h => by
  cases c <;> cases d <;> first | (simp [cmpD] at h; done) | (cases h; exact ⟨_, _, rfl, rfl, rfl⟩)
theorem oc_ge : OpR X (compareOp .GtE) (rC X.K (cmpD .ge)) := oc_ints op_ge fun c d b h => by
  cases c <;> cases d <;> first | (simp [cmpD] at h; done) | (cases h; exact ⟨_, _, rfl, rfl, rfl⟩)
theorem seqD_of {d : D} {ds : List D} (h : seqD d = some ds) : d = .list ds ∨ d = .tuple ds := by
  cases d <;> first | (simp [seqD] at h; done) | skip
  · cases h; exact .inl rfl
  · cases h; exact .inr rfl
theorem oc_in (hu : X.A.units + 65 < cLine) : OpR X (compareOp .In) (rC X.K (cmpD .isin)) := by
  intro pins s σ H x y v u Q I rx ry h
  obtain ⟨G, c, d, b, sg, sx, sy, hf, q⟩ := h
  obtain ⟨ds, hd, hf⟩ := Option.bind_eq_some_iff.mp (show (seqD d).bind _ = some b from hf)
  split at hf
  · rename_i hs
    cases hf
    obtain ⟨h1, h2⟩ := Bool.and_eq_true_iff.mp hs
    rcases seqD_of hd with rfl | rfl
    · exact op_inD hu pins s σ H x y v u Q I rx ry ⟨c, ds, sx.dp sg h1, sy.dp sg h2, h1, h2, q⟩
    · obtain ⟨as, r1⟩ := Dp.reads I c x v (sx.dp sg h1) rx
      obtain ⟨bs, r2⟩ := Dp.reads I (.tuple ds) y u (sy.dp sg h2) ry
      exact SeqAt.in_tuple_reads r2 r1 (SeqAt.canLay_of_shaped h2) (SeqAt.canLay_of_shaped h1) (room_in_shaped h1 hu) ⟨.bl _, H, I, rfl, q⟩
  · cases hf
theorem oc_nin (hu : X.A.units + 65 < cLine) : OpR X (compareOp .NotIn) (rC X.K (cmpD .nin)) := by
  intro pins s σ H x y v u Q I rx ry h
  obtain ⟨G, c, d, b, sg, sx, sy, hf, q⟩ := h
  obtain ⟨ds, hd, hf⟩ := Option.bind_eq_some_iff.mp (show (seqD d).bind _ = some b from hf)
  split at hf
  · rename_i hs
    cases hf
    obtain ⟨h1, h2⟩ := Bool.and_eq_true_iff.mp hs
    rcases seqD_of hd with rfl | rfl
    · exact op_notInD hu pins s σ H x y v u Q I rx ry ⟨c, ds, sx.dp sg h1, sy.dp sg h2, h1, h2, q⟩
    · obtain ⟨as, r1⟩ := Dp.reads I c x v (sx.dp sg h1) rx
      obtain ⟨bs, r2⟩ := Dp.reads I (.tuple ds) y u (sy.dp sg h2) ry
      exact SeqAt.notIn_tuple_reads r2 r1 (SeqAt.canLay_of_shaped h2) (SeqAt.canLay_of_shaped h1) (room_in_shaped h1 hu) ⟨.bl _, H, I, rfl, q⟩
  · cases hf
/-- subscripts -/
theorem DenAll.at {K : PySem.W.Frag} {G : Hp} {xs : List V} {ds : List D} {i : Int} {d : D} (t : DenAll K G xs ds) (h : atI ds i = some d) : ∃ v, atI xs i = some v ∧ Den K G v d := by
  unfold atI at h ⊢
  rw [t.len]
  obtain ⟨j, h1, h2⟩ := Option.bind_eq_some_iff.mp h
  obtain ⟨v, h3, h4⟩ := t.get h2
  exact ⟨v, by rw [h1]; exact h3, h4⟩
def rIxD (K : PySem.W.Frag) : R2 := rD K fun x y => (ixD x y).map W.imm
theorem oix : IxR X (rIxD X.K) := by
  intro value slice pins s σ H x y v u Q I rx ry h hs
  obtain ⟨G, c, d, w, sg, sx, sy, hf, q⟩ := h
  obtain ⟨z, hz, rfl⟩ := Option.map_eq_some_iff.mp hf
  cases c with
  | list ds =>
    cases d with
    | int i =>
      obtain ⟨l, xs, rfl, h1, t1⟩ := sx.lst sg
      obtain ⟨y', e1, e2⟩ := t1.at (show atI ds i = some z from hz)
      exact ix_list value slice pins s σ H _ y v u Q I rx ry ⟨l, xs, i, y', rfl, sy.int, h1, e1, q _ _ (.same e2)⟩ hs
    | _ => simp [ixD] at hz
  | tuple ds =>
    cases d with
    | int i =>
      obtain ⟨l, xs, rfl, ⟨o, h1, _⟩, t1, _⟩ := sx.tup sg
      obtain ⟨y', e1, e2⟩ := t1.at (show atI ds i = some z from hz)
      exact ix_tup value slice pins s σ H _ y v u Q I rx ry ⟨l, xs, i, y', rfl, sy.int, .inl (.inr ⟨o, h1⟩), e1, q _ _ (.same e2)⟩ hs
    | _ => simp [ixD] at hz
  | str t =>
    cases d with
    | int i =>
      simp only [ixD] at hz
      split at hz
      · rename_i hl
        obtain ⟨cc, e1, rfl⟩ := Option.map_eq_some_iff.mp hz
        exact ix_str value slice pins s σ H _ y v u Q I rx ry ⟨t, i, cc, sx.str, sy.int, by rw [← line_eq]; exact hl, e1, q _ _ (.same (.str _))⟩ hs
      · cases hz
    | _ => simp [ixD] at hz
  | _ => simp [ixD] at hz
/-- slices -/
def rSlD (K : PySem.W.Frag) : V → Option Int → Option Int → Hp → VK → Prop := fun x lo hi H Q => ∃ (G : Hp) (c : D) (w : W), Same G H ∧ Sees K G H x c ∧ slD c lo hi = some w ∧ ∀ v H', Res K G H w v H' → Q v H'
theorem DenAll.cut {K : PySem.W.Frag} {G : Hp} {xs : List V} {ds : List D} (t : DenAll K G xs ds) (lo hi : Option Int) : DenAll K G (cutV xs lo hi) (cutD ds lo hi) := by
  unfold cutV cutD
  rw [t.len]
  exact (t.dp _).tk _
theorem cut_whole {ds : List D} {lo hi : Option Int} (h : HT.sIx ds.length 0 lo = 0 ∧ HT.sIx ds.length ds.length hi = ds.length) : cutD ds lo hi = ds := by
  unfold cutD
  rw [h.1, h.2]
  simp
theorem osl : SlR X (rSlD X.K) := by
  intro pins s σ H x v vl vu lo hi sl Q I rx hs pl pu h
  obtain ⟨G, c, w, sg, sx, hf, q⟩ := h
  cases c with
  | list ds =>
    cases hf
    obtain ⟨l, xs, rfl, h1, t1⟩ := sx.lst sg
    exact sl_list pins s σ H _ v vl vu lo hi sl Q I rx hs pl pu ⟨l, xs, rfl, h1, fun p hp => q _ _ (.newF hp (.lst (t1.cut lo hi)))⟩
  | tuple ds =>
    cases hf
    obtain ⟨l, xs, rfl, ⟨o, h1, _⟩, t1, dn⟩ := sx.tup sg
    cases rx
    obtain ⟨_, hz, its, r, ht⟩ := inv_rdT I h1
    have hlen : its.toArray.size = ds.length := by rw [List.size_toArray, ← r.length]; exact t1.len
    refine ⟨"tuple", _, PyProof.Rows.slot_tuple_getitem.lookup, ht.typeIs, ?_⟩
    by_cases hw : HT.sIx ds.length 0 lo = 0 ∧ HT.sIx ds.length ds.length hi = ds.length
    · rw [cut_whole hw] at q
      exact getItem_tuple_whole ht hs pl pu (by rw [hlen]; exact hw) ⟨.ref l, H, I, rfl, q _ _ (.same dn)⟩
    · refine HT.getItem_tuple_cut ht hs pl pu (by rw [hlen]; exact hw) ?_ (by rw [hlen, ← t1.len]; exact hz)
      have e : (its.toArray.toList.drop (HT.sIx its.toArray.size 0 lo)).take (HT.sIx its.toArray.size its.toArray.size hi - HT.sIx its.toArray.size 0 lo) = (its.drop (HT.sIx xs.length 0 lo)).take (HT.sIx xs.length xs.length hi - HT.sIx xs.length 0 lo) := by
        rw [hlen, t1.len]
      rw [e]
      exact ⟨.ref _, _, inv_tnew I ((r.drop _).take _) (Nat.le_trans (cutV_length xs lo hi) hz), rfl, q _ _ (.tup sg I.fresh (t1.cut lo hi) ⟨_, rfl, rfl⟩)⟩
  | _ => simp [slD] at hf
end
end RC
end RC4
section RC5
set_option Elab.async false
set_option linter.all false
set_option maxRecDepth 100000
set_option autoImplicit false
set_option maxHeartbeats 4000000
/-! RC5: built-in calls by values -/
namespace RC
open PySem PySem.Spec PyProof.Rows L2

def rB (K : PySem.W.Frag) (f : List D → Option W) : List V → Hp → VK → Prop := fun vs H Q => ∃ (G : Hp) (ds : List D) (w : W), Same G H ∧ SeesAll K G H vs ds ∧ f ds = some w ∧ ∀ v H', Res K G H w v H' → Q v H'
section
variable {K : PySem.W.Frag} {G H : Hp}
theorem SeesAll.one {vs : List V} {d : D} (h : SeesAll K G H vs [d]) : ∃ v, vs = [v] ∧ Sees K G H v d := by
  cases h with
  | cons h t => cases t; exact ⟨_, rfl, h⟩
theorem SeesAll.two {vs : List V} {d e : D} (h : SeesAll K G H vs [d, e]) : ∃ v w, vs = [v, w] ∧ Sees K G H v d ∧ Sees K G H w e := by
  cases h with
  | cons h t =>
    cases t with
    | cons g t => cases t; exact ⟨_, _, rfl, h, g⟩
theorem boolsD_map : ∀ {ds : List D} {bs : List Bool}, boolsD ds = some bs → ds = bs.map .bool
  | [], bs, h => by cases h; rfl
  | d :: r, bs, h => by
    cases d with
    | bool b =>
      obtain ⟨cs, e1, rfl⟩ := Option.map_eq_some_iff.mp (show (boolsD r).map (b :: ·) = some bs from h)
      rw [boolsD_map e1]; rfl
    | _ => cases h
theorem intsD_map : ∀ {ds : List D} {bs : List Int}, intsD ds = some bs → ds = bs.map .int
  | [], bs, h => by cases h; rfl
  | d :: r, bs, h => by
    cases d with
    | int b =>
      obtain ⟨cs, e1, rfl⟩ := Option.map_eq_some_iff.mp (show (intsD r).map (b :: ·) = some bs from h)
      rw [intsD_map e1]; rfl
    | _ => cases h
theorem strsD_map : ∀ {ds : List D} {bs : List Str}, strsD ds = some bs → ds = bs.map .str
  | [], bs, h => by cases h; rfl
  | d :: r, bs, h => by
    cases d with
    | str b =>
      obtain ⟨cs, e1, rfl⟩ := Option.map_eq_some_iff.mp (show (strsD r).map (b :: ·) = some bs from h)
      rw [strsD_map e1]; rfl
    | _ => cases h
theorem DenAll.bools : ∀ {bs : List Bool} {xs : List V}, DenAll K G xs (bs.map .bool) → xs = bs.map .bl
  | [], _, h => by cases h; rfl
  | b :: bs, _, h => by
    cases h with
    | cons h t => cases h; rw [DenAll.bools t]; rfl
theorem DenAll.ints : ∀ {bs : List Int} {xs : List V}, DenAll K G xs (bs.map .int) → xs = bs.map .int
  | [], _, h => by cases h; rfl
  | b :: bs, _, h => by
    cases h with
    | cons h t => cases h; rw [DenAll.ints t]; rfl
theorem DenAll.strs : ∀ {bs : List Str} {xs : List V}, DenAll K G xs (bs.map .str) → xs = bs.map .str
  | [], _, h => by cases h; rfl
  | b :: bs, _, h => by
    cases h with
    | cons h t => cases h; rw [DenAll.strs t]; rfl
theorem DenAll.ofInts : ∀ {bs : List Int}, DenAll K G (bs.map .int) (bs.map .int)
  | [] => .nil
  | b :: bs => .cons (.int b) DenAll.ofInts
theorem DenAll.ofStrs : ∀ {bs : List Str}, DenAll K G (bs.map .str) (bs.map .str)
  | [] => .nil
  | b :: bs => .cons (.str b) DenAll.ofStrs
end
section
variable {X : Cx}
theorem cb_len : CallR X (.builtin "len") (rB X.K (bltD .len)) := by
  intro pins s σ H xs us Q I r h
  obtain ⟨G, ds, w, sg, sa, hf, q⟩ := h
  have c : (∃ es, ds = [.list es] ∧ w = .imm (.int es.length)) ∨ (∃ es, ds = [.tuple es] ∧ w = .imm (.int es.length)) := by
    unfold bltD at hf
    split at hf <;> simp_all
  rcases c with ⟨es, rfl, rfl⟩ | ⟨es, rfl, rfl⟩
  · obtain ⟨v, rfl, s1⟩ := sa.one
    obtain ⟨l, as, rfl, h1, t1⟩ := s1.lst sg
    exact call_len_seq pins s σ H _ us Q I r ⟨l, as, rfl, .inl h1, by rw [t1.len]; exact q _ _ (.same (.int _))⟩
  · obtain ⟨v, rfl, s1⟩ := sa.one
    obtain ⟨l, as, rfl, ⟨o, h1, _⟩, t1, _⟩ := s1.tup sg
    exact call_len_seq pins s σ H _ us Q I r ⟨l, as, rfl, .inr (.inl (.inr ⟨o, h1⟩)), by rw [t1.len]; exact q _ _ (.same (.int _))⟩
theorem cb_int : CallR X (.type "int") (rB X.K (bltD .int)) := by
  intro pins s σ H xs us Q I r h
  obtain ⟨G, ds, w, sg, sa, hf, q⟩ := h
  have c : (∃ i, ds = [.int i] ∧ w = .imm (.int i)) ∨ (∃ b : Bool, ds = [.bool b] ∧ w = .imm (.int (if b then 1 else 0))) := by
    unfold bltD at hf
    split at hf <;> simp_all
  rcases c with ⟨es, rfl, rfl⟩ | ⟨es, rfl, rfl⟩
  · obtain ⟨v, rfl, s1⟩ := sa.one
    exact call_int1 pins s σ H _ us Q I r (.inl ⟨es, by rw [s1.int], q _ _ (.same (.int _))⟩)
  · obtain ⟨v, rfl, s1⟩ := sa.one
    exact call_int1 pins s σ H _ us Q I r (.inr ⟨es, by rw [s1.bl], q _ _ (.same (.int _))⟩)
theorem cb_abs : CallR X (.builtin "abs") (rB X.K (bltD .abs)) := by
  intro pins s σ H xs us Q I r h
  obtain ⟨G, ds, w, sg, sa, hf, q⟩ := h
  have c : ∃ i : Int, ds = [.int i] ∧ w = .imm (.int (if i < 0 then -i else i)) := by
    unfold bltD at hf
    split at hf <;> simp_all
  obtain ⟨i, rfl, rfl⟩ := c
  obtain ⟨v, rfl, s1⟩ := sa.one
  exact call_abs pins s σ H _ us Q I r ⟨i, by rw [s1.int], q _ _ (.same (.int _))⟩
theorem cb_gcd : CallR X (.builtin "math.gcd") (rB X.K (bltD .gcd)) := by
  intro pins s σ H xs us Q I r h
  obtain ⟨G, ds, w, sg, sa, hf, q⟩ := h
  have c : ∃ i j : Int, ds = [.int i, .int j] ∧ w = .imm (.int (Nat.gcd i.natAbs j.natAbs : Nat)) := by
    unfold bltD at hf
    split at hf <;> first | (exact ⟨_, _, rfl, (Option.some.inj hf).symm⟩) | simp_all
  obtain ⟨i, j, rfl, rfl⟩ := c
  obtain ⟨v, v', rfl, s1, s2⟩ := sa.two
  exact cr_gcd pins s σ H _ us Q I r ⟨i, j, by rw [s1.int, s2.int], q _ _ (.same (.int _))⟩
theorem cb_all (hc : X.calm = true) : CallR X (.builtin "all") (rB X.K (bltD .all)) := by
  intro pins s σ H xs us Q I r h
  obtain ⟨G, ds, w, sg, sa, hf, q⟩ := h
  have c : ∃ es bs, ds = [.list es] ∧ boolsD es = some bs ∧ w = .imm (.bool (bs.all id)) := by
    unfold bltD at hf
    split at hf <;> simp_all
    obtain ⟨bs, h1, rfl⟩ := hf
    exact ⟨bs, h1, rfl⟩
  obtain ⟨es, bs, rfl, hb, rfl⟩ := c
  obtain ⟨v, rfl, s1⟩ := sa.one
  obtain ⟨l, as, rfl, h1, t1⟩ := s1.lst sg
  rw [boolsD_map hb] at t1
  rw [t1.bools] at h1
  exact cr_all hc pins s σ H _ us Q I r ⟨l, bs, rfl, h1, q _ _ (.same (.bl _))⟩
theorem cb_any (hc : X.calm = true) : CallR X (.builtin "any") (rB X.K (bltD .any)) := by
  intro pins s σ H xs us Q I r h
  obtain ⟨G, ds, w, sg, sa, hf, q⟩ := h
  have c : ∃ es bs, ds = [.list es] ∧ boolsD es = some bs ∧ w = .imm (.bool (bs.any id)) := by
    unfold bltD at hf
    split at hf <;> simp_all
    obtain ⟨bs, h1, rfl⟩ := hf
    exact ⟨bs, h1, rfl⟩
  obtain ⟨es, bs, rfl, hb, rfl⟩ := c
  obtain ⟨v, rfl, s1⟩ := sa.one
  obtain ⟨l, as, rfl, h1, t1⟩ := s1.lst sg
  rw [boolsD_map hb] at t1
  rw [t1.bools] at h1
  exact cr_any hc pins s σ H _ us Q I r ⟨l, bs, rfl, h1, q _ _ (.same (.bl _))⟩
theorem cb_list : CallR X (.type "list") (rB X.K (bltD .list)) := by
  intro pins s σ H xs us Q I r h
  obtain ⟨G, ds, w, sg, sa, hf, q⟩ := h
  have c : (∃ es, ds = [.list es] ∧ w = .fr (.list es)) ∨ (∃ es, ds = [.tuple es] ∧ w = .fr (.list es)) := by
    unfold bltD at hf
    split at hf <;> simp_all
  rcases c with ⟨es, rfl, rfl⟩ | ⟨es, rfl, rfl⟩
  · obtain ⟨v, rfl, s1⟩ := sa.one
    obtain ⟨l, as, rfl, h1, t1⟩ := s1.lst sg
    exact call_list_of pins s σ H _ us Q I r ⟨l, as, rfl, .inl h1, fun p hp => q _ _ (.newF hp (.lst t1))⟩
  · obtain ⟨v, rfl, s1⟩ := sa.one
    obtain ⟨l, as, rfl, ⟨o, h1, _⟩, t1, _⟩ := s1.tup sg
    exact call_list_of pins s σ H _ us Q I r ⟨l, as, rfl, .inr (.inl (.inr ⟨o, h1⟩)), fun p hp => q _ _ (.newF hp (.lst t1))⟩
theorem cb_tuple : CallR X (.type "tuple") (rB X.K (bltD .tuple)) := by
  intro pins s σ H xs us Q I r h
  obtain ⟨G, ds, w, sg, sa, hf, q⟩ := h
  have c : (∃ es, ds = [.list es] ∧ w = .imm (.tuple es)) ∨ (∃ es, ds = [.tuple es] ∧ w = .imm (.tuple es)) := by
    unfold bltD at hf
    split at hf <;> simp_all
  rcases c with ⟨es, rfl, rfl⟩ | ⟨es, rfl, rfl⟩
  · obtain ⟨v, rfl, s1⟩ := sa.one
    obtain ⟨l, as, rfl, h1, t1⟩ := s1.lst sg
    obtain ⟨u, rfl, rx⟩ := vals1 r
    cases rx
    obtain ⟨hz, its, n, dd, sl, r', e⟩ := inv_rdL I h1
    have hl : s.heap.IsList l its.toArray := ⟨_, e, rfl, n, rfl⟩
    refine call_tuple_list hl (fun h' kp => ?_) (by rw [List.size_toArray, ← r'.length]; exact hz)
    have I1 : Inv X pins σ H { s with heap := h' } := I.kept (t' := s.toks) kp
    exact ⟨.ref h'.objs.size, _, inv_tnew I1 r' hz, rfl, q _ _ (.tup sg (I1.hok.fresh (Nat.le_refl _)) t1 ⟨_, rfl, rfl⟩)⟩
  · obtain ⟨v, rfl, s1⟩ := sa.one
    obtain ⟨l, as, rfl, ⟨o, h1, _⟩, t1, dn⟩ := s1.tup sg
    exact call_tuple_of pins s σ H _ us Q I r ⟨l, as, rfl, .inr ⟨.inl (.inr ⟨o, h1⟩), q _ _ (.same dn)⟩⟩
/-- isinstance -/
def tyName : Ty → String
  | .tint => "int"
  | .tstr => "str"
  | .tbool => "bool"
  | .ttup => "tuple"
  | .tlst => "list"
def dTy : D → String
  | .none => "NoneType"
  | .bool _ => "bool"
  | .int _ => "int"
  | .str _ => "str"
  | .list _ => "list"
  | .tuple _ => "tuple"
  | .dict _ => "dict"
theorem kit_sees {pins : List (Addr × Obj)} {σ : L2.St} {G H : Hp} {s : Shared} {x : V} {u : Value} {d : D} (I : Inv X pins σ H s) (sg : Same G H) (rx : RelV x u) (h : Sees X.K G H x d) :
    ∃ P : Heap → Prop, PySem.W.KitX X.K u (.type (dTy d)) P ∧ P s.heap ∧ u ≠ .builtin "__main__.__loader__#opaque" := by
  cases d with
  | none => rw [h.non] at rx; cases (show u = Value.none from rx); exact ⟨_, PySem.W.kitx_none, True.intro, fun z => nomatch z⟩
  | bool b => rw [h.bl] at rx; cases (show u = Value.bool b from rx); exact ⟨_, PySem.W.kitx_bool, True.intro, fun z => nomatch z⟩
  | int i => rw [h.int] at rx; obtain ⟨t, q⟩ := (show ∃ t, u = Value.int i t from rx); cases q; exact ⟨_, PySem.W.kitx_int, True.intro, fun z => nomatch z⟩
  | str y => rw [h.str] at rx; obtain ⟨t, q⟩ := (show ∃ t, u = Value.str y t from rx); cases q; exact ⟨_, PySem.W.kitx_str, True.intro, fun z => nomatch z⟩
  | list ds =>
    obtain ⟨l, as, rfl, h1, t1⟩ := h.lst sg
    cases (show u = Value.ref l from rx)
    obtain ⟨_, its, n, dd, sl, _, e⟩ := inv_rdL I h1
    exact ⟨_, PySem.W.kitx_list, ⟨_, e, rfl⟩, fun z => nomatch z⟩
  | tuple ds =>
    obtain ⟨l, as, rfl, ⟨o, h1, _⟩, t1, _⟩ := h.tup sg
    cases (show u = Value.ref l from rx)
    obtain ⟨_, _, its, _, o', e1, e2, _⟩ := inv_rdT I h1
    exact ⟨_, PySem.W.kitx_tuple, ⟨o', e1, e2⟩, fun z => nomatch z⟩
  | dict kvs =>
    obtain ⟨l, ks, rfl, h1, t1⟩ := h.dct sg
    cases (show u = Value.ref l from rx)
    obtain ⟨_, _, vs, _, o, es, ep, e1, e2, _⟩ := I.hok l _ h1
    exact ⟨_, PySem.W.kitx_dict, ⟨o, e1, e2.1⟩, fun z => nomatch z⟩
theorem kit_isTy {K : PySem.W.Frag} (t : Ty) (d : D) : PySem.W.kitOne K (.type (dTy d)) (.type (tyName t)) = some (isTy t d) := by
  cases t <;> cases d <;> refine kit_ty ?_ <;> simp only [dTy, tyName, isTy] <;> decide +kernel
theorem kit_anyTy {K : PySem.W.Frag} (d : D) : ∀ ts : List Ty, PySem.W.kitAny K (.type (dTy d)) (ts.map fun t => .type (tyName t)) = some (ts.any fun t => isTy t d)
  | [] => rfl
  | t :: ts => by
    rw [List.map_cons, List.any_cons]
    refine kitAny_cons (kit_isTy t d) (fun h => ?_) (fun h => ?_)
    · rw [h, Bool.false_or]; exact kit_anyTy d ts
    · rw [h, Bool.true_or]
def rIsiS (K : PySem.W.Frag) (t : Ty) : List V → Hp → VK → Prop := fun vs H Q => ∃ (G : Hp) (x : V) (d : D), Same G H ∧ vs = [x, .ty (tyName t)] ∧ Sees K G H x d ∧ Q (.bl (isTy t d)) H
theorem cb_isi (t : Ty) : CallR X (.builtin "isinstance") (rIsiS X.K t) := by
  intro pins s σ H xs us Q I r h
  obtain ⟨G, x, d, sg, rfl, sx, q⟩ := h
  obtain ⟨u1, u2, rfl, r1, r2⟩ := vals2 r
  cases (show u2 = Value.type _ from r2)
  obtain ⟨P, Z, p, hx⟩ := kit_sees I sg r1 sx
  exact PySem.W.kia_one Z I.kIn p (kit_isTy t d) hx fun tk => ⟨.bl _, H, I.tok tk, rfl, q⟩
def rIsiM (K : PySem.W.Frag) (ts : List Ty) : List V → Hp → VK → Prop := fun vs H Q => ∃ (G : Hp) (x : V) (tp : Addr) (d : D), Same G H ∧ vs = [x, .ref tp] ∧ H tp = some (.tup (ts.map fun t => .ty (tyName t))) ∧ Sees K G H x d ∧ Q (.bl (ts.any fun t => isTy t d)) H
theorem vals_ty : ∀ {ts : List Ty} {us : List Value}, Vals (ts.map fun t => V.ty (tyName t)) us → us = ts.map fun t => Value.type (tyName t)
  | [], us, h => by cases h; rfl
  | t :: ts, us, h => by
    cases h with
    | cons h g =>
      rename_i u us
      have e : u = Value.type (tyName t) := h
      rw [vals_ty g, e]; rfl
theorem cb_isiM (ts : List Ty) : CallR X (.builtin "isinstance") (rIsiM X.K ts) := by
  intro pins s σ H xs us Q I r h
  obtain ⟨G, x, tp, d, sg, rfl, hT, sx, q⟩ := h
  obtain ⟨u1, u2, rfl, r1, r2⟩ := vals2 r
  cases (show u2 = Value.ref tp from r2)
  obtain ⟨P, Z, p, hx⟩ := kit_sees I sg r1 sx
  obtain ⟨_, its, rv, o, h1, h2, n, h3⟩ := (show ObjOk X.prog X.w H s.heap tp (.tup _) from I.hok tp _ hT)
  have e3 := vals_ty rv
  subst e3
  obtain ⟨oc, od, dt, sl⟩ := o
  simp only at h2 h3
  subst h2 h3
  exact PySem.W.kia_tup Z I.kIn p h1 (kit_anyTy d ts) hx fun tk => ⟨.bl _, H, I.tok tk, rfl, q⟩
end
end RC
end RC5
section RC6a
set_option Elab.async false
set_option linter.all false
set_option maxRecDepth 100000
set_option autoImplicit false
set_option maxHeartbeats 4000000
/-! RC6a: sorting on plain data: one sorted stable list -/
namespace RC
open PySem SrtO

section
variable {α β : Type} {lt : α → α → Bool} {lt' : β → β → Bool}
theorem insBy_split (O : Swo lt) (x : α) : ∀ {l : List α}, Srtd lt l → ∃ M N, l = M ++ N ∧ insBy lt x l = M ++ x :: N ∧ (∀ y ∈ M, lt x y = false) ∧ (∀ y ∈ N, lt x y = true)
  | [], _ => ⟨[], [], rfl, rfl, (fun _ h => nomatch h), (fun _ h => nomatch h)⟩
  | y :: l, h => by
    unfold insBy
    by_cases hl : lt x y = true
    · rw [if_pos hl]
      exact ⟨[], y :: l, rfl, rfl, (fun _ h => nomatch h), O.lt_all h hl⟩
    · rw [if_neg hl]
      obtain ⟨M, N, e1, e2, h1, h2⟩ := insBy_split O x (List.pairwise_cons.mp h).2
      refine ⟨y :: M, N, by rw [e1]; rfl, by rw [e2]; rfl, fun z hz => ?_, h2⟩
      rcases List.mem_cons.mp hz with rfl | hz
      · exact Bool.eq_false_iff.mpr hl
      · exact h1 z hz
theorem sortBy_go (O : Swo lt) : ∀ (l acc O1 : List α), Srtd lt acc → Stb lt acc O1 → Srtd lt (l.foldl (fun acc x => insBy lt x acc) acc) ∧ Stb lt (l.foldl (fun acc x => insBy lt x acc) acc) (O1 ++ l)
  | [], acc, O1, h, s => by rw [List.append_nil]; exact ⟨h, s⟩
  | x :: l, acc, O1, h, s => by
    obtain ⟨M, N, e1, e2, h1, h2⟩ := insBy_split O x h
    rw [List.foldl_cons, e2]
    rw [e1] at h s
    have := sortBy_go O l (M ++ x :: N) (O1 ++ [x]) (ins_srtd O h h1 h2) (ins_stb O h2 s)
    rw [List.append_assoc] at this
    exact this
theorem sortBy_ok (O : Swo lt) (l : List α) : Srtd lt (sortBy lt l) ∧ Stb lt (sortBy lt l) l := sortBy_go O l [] [] List.Pairwise.nil (Stb.refl _)
theorem Stb.symm {l m : List α} (h : Stb lt l m) : Stb lt m l := ⟨h.perm.symm, fun x => (h.cls x).symm⟩
/-- one list alone is sorted and stable -/
theorem srtd_unique (O : Swo lt) : ∀ {l r : List α}, Srtd lt l → Srtd lt r → Stb lt l r → l = r
  | [], r, _, _, s => by
    have := s.len
    cases r with
    | nil => rfl
    | cons _ _ => cases this
  | a :: l, [], _, _, s => by have := s.len; cases this
  | a :: l, b :: r, h1, h2, s => by
    have ha : a ∈ b :: r := s.perm.mem_iff.mp List.mem_cons_self
    have hb : b ∈ a :: l := s.perm.mem_iff.mpr List.mem_cons_self
    have e1 : lt a b = false := by
      rcases List.mem_cons.mp ha with rfl | ha
      · exact O.refl _
      · exact srtd_head h2 a ha
    have e2 : lt b a = false := by
      rcases List.mem_cons.mp hb with rfl | hb
      · exact O.refl _
      · exact srtd_head h1 b hb
    have c := s.cls a
    rw [List.filter_cons_of_pos (eqv_iff.mpr ⟨O.refl a, O.refl a⟩), List.filter_cons_of_pos (eqv_iff.mpr ⟨e1, e2⟩)] at c
    injection c with c1 c2
    subst c1
    have s' : Stb lt l r := ⟨(List.perm_cons a).mp s.perm, fun x => by
      have := s.cls x
      by_cases hx : eqv lt x a = true
      · rw [List.filter_cons_of_pos hx, List.filter_cons_of_pos hx] at this
        injection this
      · rw [List.filter_cons_of_neg hx, List.filter_cons_of_neg hx] at this
        exact this⟩
    rw [srtd_unique O (List.pairwise_cons.mp h1).2 (List.pairwise_cons.mp h2).2 s']
theorem sortBy_unique (O : Swo lt) {l m : List α} (h : Srtd lt l) (s : Stb lt l m) : l = sortBy lt m :=
  srtd_unique O h (sortBy_ok O m).1 (Stb.trans s (Stb.symm (sortBy_ok O m).2))
/-- sorting respects a relation under which the orders agree -/
theorem insBy_rel {R : α → β → Prop} (hlt : ∀ a b a' b', R a b → R a' b' → lt a a' = lt' b b') {x : α} {y : β} (hx : R x y) : ∀ {l : List α} {m : List β}, Paired R l m → Paired R (insBy lt x l) (insBy lt' y m)
  | _, _, .nil => .cons hx .nil
  | _, _, .cons h t => by
    unfold insBy
    rw [hlt _ _ _ _ hx h]
    split
    · exact .cons hx (.cons h t)
    · exact .cons h (insBy_rel hlt hx t)
theorem sortBy_rel {R : α → β → Prop} (hlt : ∀ a b a' b', R a b → R a' b' → lt a a' = lt' b b') {l : List α} {m : List β} (h : Paired R l m) : Paired R (sortBy lt l) (sortBy lt' m) := by
  have go : ∀ {l : List α} {m : List β} {a : List α} {b : List β}, Paired R l m → Paired R a b → Paired R (l.foldl (fun acc x => insBy lt x acc) a) (m.foldl (fun acc x => insBy lt' x acc) b) := by
    intro l m a b h
    induction h generalizing a b with
    | nil => exact fun k => k
    | cons h _ ih => exact fun k => ih (insBy_rel hlt h k)
  exact go h .nil
theorem sortBy_mem {l : List α} {x : α} : x ∈ sortBy lt l ↔ x ∈ l := by
  have hi : ∀ (y : α) (m : List α), x ∈ insBy lt y m ↔ x = y ∨ x ∈ m := by
    intro y m
    induction m with
    | nil => simp [insBy]
    | cons z m ih =>
      unfold insBy
      split
      · simp
      · rw [List.mem_cons, ih, List.mem_cons]
        constructor
        · rintro (h | h | h)
          · exact .inr (.inl h)
          · exact .inl h
          · exact .inr (.inr h)
        · rintro (h | h | h)
          · exact .inr (.inl h)
          · exact .inl h
          · exact .inr (.inr h)
  have go : ∀ (l acc : List α), x ∈ l.foldl (fun acc x => insBy lt x acc) acc ↔ x ∈ l ∨ x ∈ acc := by
    intro l
    induction l with
    | nil => intro acc; simp
    | cons y l ih =>
      intro acc
      rw [List.foldl_cons, ih, hi, List.mem_cons]
      constructor
      · rintro (h | h | h)
        · exact .inl (.inr h)
        · exact .inl (.inl h)
        · exact .inr h
      · rintro ((h | h) | h)
        · exact .inr (.inl h)
        · exact .inl h
        · exact .inr (.inr h)
  unfold sortBy
  rw [go]
  simp
theorem insBy_len (x : α) : ∀ l : List α, (insBy lt x l).length = l.length + 1
  | [] => rfl
  | y :: l => by
    unfold insBy
    split
    · rfl
    · rw [List.length_cons, insBy_len x l, List.length_cons]
theorem sortBy_len (l : List α) : (sortBy lt l).length = l.length := by
  have go : ∀ (l acc : List α), (l.foldl (fun acc x => insBy lt x acc) acc).length = acc.length + l.length := by
    intro l
    induction l with
    | nil => intro acc; rfl
    | cons y l ih => intro acc; rw [List.foldl_cons, ih, insBy_len, List.length_cons]; omega
  unfold sortBy
  rw [go]
  simp
/-- an order by a key -/
theorem swo_key (O : Swo lt') (k : α → β) : Swo fun a b => lt' (k a) (k b) := ⟨fun x y h => O.asym _ _ h, fun x y z h1 h2 => O.tr _ _ _ h1 h2⟩
end

theorem swo_strs : Swo strLt := by
  refine ⟨fun x y h => ?_, fun x y z h1 h2 => ?_⟩
  · have a : x.cps.toList < y.cps.toList := of_decide_eq_true h
    exact decide_eq_false fun b => List.lt_asymm a b
  · have a : ¬ y.cps.toList < x.cps.toList := of_decide_eq_false h1
    have b : ¬ z.cps.toList < y.cps.toList := of_decide_eq_false h2
    refine decide_eq_false fun c => ?_
    exact (List.not_lt.mpr (List.le_trans (List.not_lt.mp a) (List.not_lt.mp b))) c
theorem swo_ints : Swo fun a b : Int => decide (a < b) := by
  refine ⟨fun x y h => ?_, fun x y z h1 h2 => ?_⟩
  · have a := of_decide_eq_true h
    exact decide_eq_false (by omega)
  · have a := of_decide_eq_false h1
    have b := of_decide_eq_false h2
    exact decide_eq_false (by omega)
end RC
end RC6a
section RC6b
set_option Elab.async false
set_option linter.all false
set_option maxRecDepth 100000
set_option autoImplicit false
set_option maxHeartbeats 4000000
/-! RC6b: the order of data is a strict weak order: data as lists of numbers -/
namespace RC
open PySem SrtO

def encC : List Nat → List Int
  | [] => [0]
  | c :: cs => (c + 1 : Nat) :: encC cs
mutual
def enc : D → List Int
  | .int i => [0, i]
  | .str x => 1 :: encC x.cps.toList
  | .tuple xs => 2 :: encs xs
  | .list xs => 3 :: encs xs
  | .none => [4]
  | .bool _ => [5]
  | .dict _ => [6]
def encs : List D → List Int
  | [] => [0]
  | x :: xs => 1 :: (enc x ++ encs xs)
end
theorem encC_lt : ∀ (a b : List Nat) (r s : List Int), (encC a ++ r < encC b ++ s) ↔ (a < b ∨ (a = b ∧ r < s))
  | [], [], r, s => by simp [encC]
  | [], c :: b, r, s => by
    show (0 : Int) :: r < ((c + 1 : Nat) : Int) :: (encC b ++ s) ↔ _
    rw [List.cons_lt_cons_iff]
    exact ⟨fun _ => .inl (by simp), fun _ => .inl (by omega)⟩
  | c :: a, [], r, s => by
    show ((c + 1 : Nat) : Int) :: (encC a ++ r) < (0 : Int) :: s ↔ _
    rw [List.cons_lt_cons_iff]
    constructor
    · rintro (h | ⟨h, _⟩) <;> omega
    · rintro (h | ⟨h, _⟩)
      · simp at h
      · cases h
  | c :: a, d :: b, r, s => by
    show ((c + 1 : Nat) : Int) :: (encC a ++ r) < ((d + 1 : Nat) : Int) :: (encC b ++ s) ↔ _
    rw [List.cons_lt_cons_iff, encC_lt a b r s, List.cons_lt_cons_iff]
    constructor
    · rintro (h | ⟨h1, h2 | ⟨h2, h3⟩⟩)
      · exact .inl (.inl (by omega))
      · exact .inl (.inr ⟨by omega, h2⟩)
      · exact .inr ⟨by rw [h2, show c = d by omega], h3⟩
    · rintro ((h | ⟨h1, h2⟩) | ⟨h1, h2⟩)
      · exact .inl (by omega)
      · exact .inr ⟨by omega, .inl h2⟩
      · injection h1 with h3 h4
        exact .inr ⟨by omega, .inr ⟨h4, h2⟩⟩
theorem enc_head : ∀ x : D, ∃ t, enc x = (rkD x : Int) :: t
  | .int i => ⟨_, rfl⟩
  | .str x => ⟨_, rfl⟩
  | .tuple x => ⟨_, rfl⟩
  | .list x => ⟨_, rfl⟩
  | .none => ⟨_, rfl⟩
  | .bool _ => ⟨_, rfl⟩
  | .dict _ => ⟨_, rfl⟩
theorem lt_rk {x y : D} (h : rkD x ≠ rkD y) : ltD x y = decide (rkD x < rkD y) ∧ sameD x y = false := by
  cases x <;> cases y <;> first | (exact absurd rfl h) | (exact ⟨by simp [ltD, rkD], by simp [sameD, rkD]⟩)
theorem enc_rk {x y : D} (h : rkD x ≠ rkD y) (r s : List Int) : (enc x ++ r < enc y ++ s) ↔ (ltD x y = true ∨ (sameD x y = true ∧ r < s)) := by
  obtain ⟨t, e1⟩ := enc_head x
  obtain ⟨u, e2⟩ := enc_head y
  obtain ⟨h1, h2⟩ := lt_rk h
  rw [e1, e2, h1, h2]
  show (rkD x : Int) :: (t ++ r) < (rkD y : Int) :: (u ++ s) ↔ _
  rw [List.cons_lt_cons_iff, decide_eq_true_eq]
  constructor
  · rintro (h3 | ⟨h3, _⟩)
    · exact .inl (by omega)
    · exact absurd (by omega) h
  · rintro (h3 | ⟨h3, _⟩)
    · exact .inl (by omega)
    · cases h3
mutual
theorem same_lt : ∀ x y : D, sameD x y = true → ltD x y = false
  | .int i, y, h => by
    cases y <;> simp_all [sameD, ltD, rkD]
  | .str x, y, h => by
    cases y <;> simp_all [sameD, ltD, rkD, strLt]
  | .tuple xs, y, h => by
    cases y with
    | tuple ys => simp only [ltD]; exact same_lts xs ys (by simpa [sameD] using h)
    | _ => simp [sameD, rkD] at h
  | .list xs, y, h => by
    cases y with
    | list ys => simp only [ltD]; exact same_lts xs ys (by simpa [sameD] using h)
    | _ => simp [sameD, rkD] at h
  | .none, y, h => by cases y <;> simp_all [sameD, ltD, rkD]
  | .bool _, y, h => by cases y <;> simp_all [sameD, ltD, rkD]
  | .dict _, y, h => by cases y <;> simp_all [sameD, ltD, rkD]
theorem same_lts : ∀ x y : List D, sameDs x y = true → ltDs x y = false
  | [], [], _ => by simp [ltDs]
  | [], _ :: _, h => by simp [sameDs] at h
  | _ :: _, [], h => by simp [sameDs] at h
  | x :: xs, y :: ys, h => by
    simp only [sameDs, Bool.and_eq_true] at h
    simp only [ltDs, h.1, if_true]
    exact same_lts xs ys h.2
end
mutual
theorem enc_lt : ∀ (x y : D) (r s : List Int), (enc x ++ r < enc y ++ s) ↔ (ltD x y = true ∨ (sameD x y = true ∧ r < s))
  | .int i, y, r, s => by
    cases y with
    | int j =>
      simp only [enc, ltD, sameD, decide_eq_true_eq]
      show (0 : Int) :: i :: r < (0 : Int) :: j :: s ↔ _
      rw [List.cons_lt_cons_iff, List.cons_lt_cons_iff]
      simp
    | _ => exact enc_rk (by simp [rkD]) r s
  | .str a, y, r, s => by
    cases y with
    | str b =>
      simp only [enc, ltD, sameD, strLt, decide_eq_true_eq]
      show (1 : Int) :: (encC a.cps.toList ++ r) < (1 : Int) :: (encC b.cps.toList ++ s) ↔ _
      rw [List.cons_lt_cons_iff, encC_lt]
      simp
    | _ => exact enc_rk (by simp [rkD]) r s
  | .tuple xs, y, r, s => by
    cases y with
    | tuple ys =>
      simp only [enc, ltD, sameD]
      show (2 : Int) :: (encs xs ++ r) < (2 : Int) :: (encs ys ++ s) ↔ _
      rw [List.cons_lt_cons_iff, encs_lt xs ys]
      simp
    | _ => exact enc_rk (by simp [rkD]) r s
  | .list xs, y, r, s => by
    cases y with
    | list ys =>
      simp only [enc, ltD, sameD]
      show (3 : Int) :: (encs xs ++ r) < (3 : Int) :: (encs ys ++ s) ↔ _
      rw [List.cons_lt_cons_iff, encs_lt xs ys]
      simp
    | _ => exact enc_rk (by simp [rkD]) r s
  | .none, y, r, s => by
    cases y with
    | none =>
      simp only [enc, ltD, sameD]
      show (4 : Int) :: r < (4 : Int) :: s ↔ _
      rw [List.cons_lt_cons_iff]
      simp
    | _ => exact enc_rk (by simp [rkD]) r s
  | .bool _, y, r, s => by
    cases y with
    | bool b =>
      simp only [enc, ltD, sameD, rkD]
      show (5 : Int) :: r < (5 : Int) :: s ↔ _
      rw [List.cons_lt_cons_iff]
      simp
    | _ => exact enc_rk (by simp [rkD]) r s
  | .dict _, y, r, s => by
    cases y with
    | dict b =>
      simp only [enc, ltD, sameD, rkD]
      show (6 : Int) :: r < (6 : Int) :: s ↔ _
      rw [List.cons_lt_cons_iff]
      simp
    | _ => exact enc_rk (by simp [rkD]) r s
theorem encs_lt : ∀ (x y : List D) (r s : List Int), (encs x ++ r < encs y ++ s) ↔ (ltDs x y = true ∨ (sameDs x y = true ∧ r < s))
  | [], [], r, s => by simp [encs, ltDs, sameDs]
  | [], y :: ys, r, s => by
    show (0 : Int) :: r < (1 : Int) :: (enc y ++ encs ys ++ s) ↔ _
    rw [List.cons_lt_cons_iff]
    exact ⟨fun _ => .inl (by simp [ltDs]), fun _ => .inl (by omega)⟩
  | x :: xs, [], r, s => by
    show (1 : Int) :: (enc x ++ encs xs ++ r) < (0 : Int) :: s ↔ _
    rw [List.cons_lt_cons_iff]
    constructor
    · rintro (h | ⟨h, _⟩) <;> omega
    · rintro (h | ⟨h, _⟩)
      · simp [ltDs] at h
      · simp [sameDs] at h
  | x :: xs, y :: ys, r, s => by
    simp only [encs]
    show (1 : Int) :: (enc x ++ encs xs ++ r) < (1 : Int) :: (enc y ++ encs ys ++ s) ↔ _
    rw [List.cons_lt_cons_iff, List.append_assoc, List.append_assoc, enc_lt x y, encs_lt xs ys]
    simp only [ltDs, sameDs, Bool.and_eq_true]
    by_cases h : sameD x y = true
    · rw [if_pos h, same_lt x y h]
      simp [h]
    · rw [if_neg h]
      simp [h]
end
theorem ltD_enc (x y : D) : ltD x y = decide (enc x < enc y) := by
  have h := enc_lt x y [] []
  rw [List.append_nil, List.append_nil] at h
  have h2 : enc x < enc y ↔ ltD x y = true := h.trans ⟨fun z => z.elim id fun q => absurd q.2 (by simp), .inl⟩
  rw [Bool.eq_iff_iff, decide_eq_true_eq, h2]
theorem swo_D : Swo ltD := by
  have O : Swo fun a b : List Int => decide (a < b) := by
    refine ⟨fun x y h => ?_, fun x y z h1 h2 => ?_⟩
    · have a : x < y := of_decide_eq_true h
      exact decide_eq_false fun b => List.lt_asymm a b
    · have a : ¬ y < x := of_decide_eq_false h1
      have b : ¬ z < y := of_decide_eq_false h2
      refine decide_eq_false fun c => ?_
      exact (List.not_lt.mpr (List.le_trans (List.not_lt.mp a) (List.not_lt.mp b))) c
  have := swo_key O enc
  refine ⟨fun x y h => ?_, fun x y z h1 h2 => ?_⟩
  · rw [ltD_enc] at h ⊢; exact this.asym x y h
  · rw [ltD_enc] at h1 h2 ⊢; exact this.tr x y z h1 h2
mutual
/-- where two things may be compared, the order and == agree -/
theorem cmpb_same : ∀ x y : D, cmpb x y = true → sameD x y = PyData.eqv x y
  | .int i, y, h => by cases y <;> simp_all [cmpb, sameD, PyData.eqv, Int.decEq]; exact Bool.beq_eq_decide_eq _ _ |>.symm
  | .str x, y, h => by
    cases y with
    | str z =>
      obtain ⟨⟨x⟩⟩ := x
      obtain ⟨⟨z⟩⟩ := z
      simp only [sameD, PyData.eqv]
      by_cases e : x = z
      · subst e; simp
      · have : ((⟨⟨x⟩⟩ : Str) == ⟨⟨z⟩⟩) = false := beq_eq_false_iff_ne.mpr fun q => e (by injection q with q; injection q)
        rw [this]; simp [e]
    | _ => simp [cmpb] at h
  | .tuple xs, y, h => by
    cases y with
    | tuple ys => simp only [sameD, PyData.eqv]; exact cmpbs_same xs ys (by simpa [cmpb] using h)
    | _ => simp [cmpb] at h
  | .list xs, y, h => by
    cases y with
    | list ys => simp only [sameD, PyData.eqv]; exact cmpbs_same xs ys (by simpa [cmpb] using h)
    | _ => simp [cmpb] at h
  | .none, y, h => by simp [cmpb] at h
  | .bool _, y, h => by simp [cmpb] at h
  | .dict _, y, h => by simp [cmpb] at h
theorem cmpbs_same : ∀ x y : List D, cmpbs x y = true → sameDs x y = PyData.eqvAll x y
  | [], [], _ => rfl
  | [], _ :: _, _ => rfl
  | _ :: _, [], _ => rfl
  | x :: xs, y :: ys, h => by
    simp only [sameDs, PyData.eqvAll]
    simp only [cmpbs, Bool.and_eq_true] at h
    rw [cmpb_same x y h.1]
    by_cases e : PyData.eqv x y = true
    · rw [e, Bool.true_and, Bool.true_and]
      exact cmpbs_same xs ys (by simpa [e] using h.2)
    · rw [Bool.eq_false_iff.mpr e, Bool.false_and, Bool.false_and]
end
end RC
end RC6b
section RC6c
set_option Elab.async false
set_option linter.all false
set_option maxRecDepth 100000
set_option autoImplicit false
set_option maxHeartbeats 4000000
/-! RC6c: < of tuples and lists: only the first two items that differ are compared -/
namespace RC
open PySem PySem.SeqAt MeetsSeq MeetsSeq2 MeetsSeq3 SeqRoads2

/-- from place i on, k places left -/
def lexF (e r : Nat → Bool) (z : Bool) : Nat → Nat → Bool
  | _, 0 => z
  | i, k + 1 => if e i then lexF e r z (i + 1) k else r i
section
variable (p q : Addr) (xs ys : Array Value) (m m2 : Nat) (dx dy : Option Addr) (sx sy : Array (Option Value)) (e r : Nat → Bool)
/-- what is known of the items: which pairs are equal, and what the first unequal one says -/
structure Firsts (A : Around) (s : Shared) : Prop where
  eq : ∀ j (h1 : j < xs.size) (h2 : j < ys.size), EqAt A.in1 s xs[j] ys[j] (e j)
  lt : ∀ j (h1 : j < xs.size) (h2 : j < ys.size), (∀ i, i < j → e i = true) → e j = false → RcLt A.in1 s xs[j] ys[j] (r j)
abbrev lexR : Bool := lexF e r (decide (xs.size < ys.size)) 0 (min xs.size ys.size)
theorem tup_lt1 : Meets (Builtin.«tuple.__lt__» ⟨[.ref p, .ref q], []⟩) (fun A R s => s.heap.get? p = some { cls := .type "tuple", dict := dx, data := .seq xs m, slots := sx } ∧
    s.heap.get? q = some { cls := .type "tuple", dict := dy, data := .seq ys m2, slots := sy } ∧ Firsts xs ys e r A s ∧ R (.ok (.ret (.bool (lexR xs ys e r)))) s) :=
  .of_wp fun prog w A R st hyp => by
    obtain ⟨hp', gs, dr, tk', os'⟩ := st
    obtain ⟨hx, hy, F, fin'⟩ := hyp
    have g2 := AutoSeq1.sub_tuple_tuple
    have hlen : (xs.toList.zip ys.toList).length = min xs.size ys.size := by simp
    wp_walk using AutoSeq1.wpAny_loadPart' hx, AutoSeq1.wpAny_loadPart' hy, wpAny_forIn_list _ (fun rest c s' => c.1 = none ∧ s' = ⟨hp', gs, dr, tk', os'⟩ ∧ ∃ i, rest = (xs.toList.zip ys.toList).drop i ∧ (∀ j, j < i → e j = true) ∧
      R (.ok (.ret (.bool (lexF e r (decide (xs.size < ys.size)) i (min xs.size ys.size - i))))) ⟨hp', gs, dr, tk', os'⟩) _
    case turn =>
      rintro ⟨u, v⟩ rest c s' ⟨hc, rfl, i, hz, before, hR⟩
      by_cases hlt : i < (xs.toList.zip ys.toList).length
      · have hm : i < min xs.size ys.size := hlen ▸ hlt
        have b1 : i < xs.size := by omega
        have b2 : i < ys.size := by omega
        rw [List.drop_eq_getElem_cons hlt] at hz
        injection hz with huv hrest
        obtain rfl : u = xs[i] := by simpa using congrArg Prod.fst huv
        obtain rfl : v = ys[i] := by simpa using congrArg Prod.snd huv
        have hk : min xs.size ys.size - i = (min xs.size ys.size - (i + 1)) + 1 := by omega
        rw [hk] at hR
        unfold lexF at hR
        refine wpAny_bind (F.eq i b1 b2 prog w _ _ ?_)
        cases ei : e i with
        | true =>
          rw [ei, if_pos rfl] at hR
          wp_walk
          refine ⟨rfl, rfl, i + 1, hrest, fun j hj => ?_, hR⟩
          by_cases hji : j = i
          · rw [hji]; exact ei
          · exact before j (by omega)
        | false =>
          rw [ei, if_neg (by simp)] at hR
          have step := F.lt i b1 b2 before ei prog w
          wp_walk using step
          exact ⟨_, rfl, by simpa using hR⟩
      · rw [List.drop_of_length_le (by omega)] at hz
        cases hz
    case fin =>
      rintro ⟨c1, c2⟩ s' ⟨hc, rfl, i, hz, before, hR⟩
      simp only at hc
      subst hc
      by_cases hlt : i < (xs.toList.zip ys.toList).length
      · rw [List.drop_eq_getElem_cons hlt] at hz; cases hz
      · have hk : min xs.size ys.size - i = 0 := by omega
        rw [hk] at hR
        unfold lexF at hR
        wp_walk
        exact ⟨_, rfl, by simpa [Builtin.Tuple.tupleCompareSizes] using hR⟩
    case h => exact ⟨rfl, rfl, 0, rfl, fun j hj => absurd hj (Nat.not_lt_zero j), by simpa using fin'⟩
theorem lst_loop1 (k : Nat) : ∀ i : Nat, min xs.size ys.size - i = k → Meets (Builtin.«list.__eq__.loop» ⟨[.ref p, .ref q, rawInt i, rawInt 0], []⟩)
    (fun A R s => s.heap.get? p = some { cls := .type "list", dict := dx, data := .seq xs m, slots := sx } ∧ s.heap.get? q = some { cls := .type "list", dict := dy, data := .seq ys m2, slots := sy } ∧
      Firsts xs ys e r A s ∧ (∀ j, j < i → e j = true) ∧ R (.ok (.ret (.bool (lexF e r (decide (xs.size < ys.size)) i (min xs.size ys.size - i))))) s) := by
  induction k with
  | zero =>
    intro i hk prog w A R st hyp
    obtain ⟨hp', gs, dr, tk', os'⟩ := st
    obtain ⟨hx, hy, F, before, fin'⟩ := hyp
    rw [hk] at fin'
    unfold lexF at fin'
    wp_walk using AutoSeq1.wpAny_loadPart' hx, AutoSeq1.wpAny_loadPart' hy
    by_cases c1 : xs.size ≤ i
    · have n1 : xs[((i : Nat) : Int).toNat]? = none := by simp; omega
      rw [n1]
      wp_walk using AutoSeq1.wpAny_loadPart' hx, AutoSeq1.wpAny_loadPart' hy
      exact fin'
    · have b1 : i < xs.size := by omega
      have n1 : xs[((i : Nat) : Int).toNat]? = some xs[i] := by simp [b1]
      have n2 : ys[((i : Nat) : Int).toNat]? = none := by simp; omega
      rw [n1, n2]
      wp_walk using AutoSeq1.wpAny_loadPart' hx, AutoSeq1.wpAny_loadPart' hy
      exact fin'
  | succ k ih =>
    intro i hk prog w A R st hyp
    obtain ⟨hp', gs, dr, tk', os'⟩ := st
    obtain ⟨hx, hy, F, before, fin'⟩ := hyp
    wp_walk using AutoSeq1.wpAny_loadPart' hx, AutoSeq1.wpAny_loadPart' hy
    have b1 : i < xs.size := by omega
    have b2 : i < ys.size := by omega
    have n1 : xs[((i : Nat) : Int).toNat]? = some xs[i] := by simp [b1]
    have n2 : ys[((i : Nat) : Int).toNat]? = some ys[i] := by simp [b2]
    have up : ((i : Int) + 1) = ((i + 1 : Nat) : Int) := by omega
    have hk2 : min xs.size ys.size - (i + 1) = k := by omega
    rw [hk] at fin'
    unfold lexF at fin'
    rw [n1, n2]
    refine wpAny_bind (F.eq i b1 b2 prog w _ _ ?_)
    cases ei : e i with
    | true =>
      rw [ei, if_pos rfl] at fin'
      wp_walk
      rw [up]
      refine ⟨plainId_quiet plain_eq_loop _, codeAny_builtin entry_eq_loop ?_⟩
      rw [Around.under_plainId plain_eq_loop _]
      refine ih (i + 1) hk2 prog w A R _ ⟨hx, hy, F, fun j hj => ?_, by rw [hk2]; exact fin'⟩
      by_cases hji : j = i
      · rw [hji]; exact ei
      · exact before j (by omega)
    | false =>
      rw [ei, if_neg (by simp)] at fin'
      wp_walk using AutoSeq1.wpAny_loadPart' hx, AutoSeq1.wpAny_loadPart' hy
      rw [n1, n2]
      have step := F.lt i b1 b2 before ei prog w
      wp_walk using step
      exact fin'
theorem lst_lt1 : Meets (Builtin.«list.__lt__» ⟨[.ref p, .ref q], []⟩) (fun A R s => s.heap.get? p = some { cls := .type "list", dict := dx, data := .seq xs m, slots := sx } ∧
    s.heap.get? q = some { cls := .type "list", dict := dy, data := .seq ys m2, slots := sy } ∧ Firsts xs ys e r A s ∧ R (.ok (.ret (.bool (lexR xs ys e r)))) s) := by
  intro prog w A R st hyp
  obtain ⟨hp', gs, dr, tk', os'⟩ := st
  obtain ⟨hx, hy, F, fin'⟩ := hyp
  have g3 := AutoSeq1.sub_list_list
  wp_walk using AutoSeq1.wpAny_loadPart' hx, AutoSeq1.wpAny_loadPart' hy
  refine ⟨plainId_quiet plain_eq_loop _, codeAny_builtin entry_eq_loop ?_⟩
  rw [Around.under_plainId plain_eq_loop _]
  exact lst_loop1 p q xs ys m m2 dx dy sx sy e r _ 0 rfl prog w A R _ ⟨hx, hy, F, fun j hj => absurd hj (Nat.not_lt_zero j), by simpa using fin'⟩
end
end RC
end RC6c
section RC6d
set_option Elab.async false
set_option linter.all false
set_option maxRecDepth 100000
set_option autoImplicit false
set_option maxHeartbeats 4000000
/-! RC6d: the order of values that read as data; the kinds of keys; sorting items by keys -/
namespace RC
open PySem PySem.SeqAt PySem.Calls PyProof.Rows SrtO PySem.W

theorem lexF_shift (e r : Nat → Bool) (z : Bool) : ∀ k i, lexF e r z (i + 1) k = lexF (fun j => e (j + 1)) (fun j => r (j + 1)) z i k
  | 0, _ => rfl
  | k + 1, i => by
    show (if e (i + 1) then lexF e r z (i + 1 + 1) k else r (i + 1)) = _
    rw [lexF_shift e r z k (i + 1)]
    rfl
abbrev ltAt (xs ys : List D) (j : Nat) : Bool := ltD (xs.getD j .none) (ys.getD j .none)
theorem lexF_ltDs : ∀ xs ys : List D, cmpbs xs ys = true → lexF (pairEq xs ys) (ltAt xs ys) (decide (xs.length < ys.length)) 0 (min xs.length ys.length) = ltDs xs ys
  | [], [], _ => by simp [lexF, ltDs]
  | [], _ :: _, _ => by simp [lexF, ltDs]
  | _ :: _, [], _ => by simp [lexF, ltDs]
  | x :: xs, y :: ys, h => by
    simp only [cmpbs, Bool.and_eq_true] at h
    have hm : min (x :: xs).length (y :: ys).length = min xs.length ys.length + 1 := by simp
    rw [hm]
    show (if PyData.eqv x y then _ else ltD x y) = _
    rw [lexF_shift]
    simp only [ltDs]
    rw [cmpb_same x y h.1]
    by_cases e : PyData.eqv x y = true
    · rw [if_pos e, if_pos e]
      have hz : decide ((x :: xs).length < (y :: ys).length) = decide (xs.length < ys.length) := by simp
      rw [hz]
      exact lexF_ltDs xs ys (by simpa [e] using h.2)
    · rw [if_neg e, if_neg e]
mutual
/-- < of values that read as data -/
theorem rcLt_reads : ∀ (x y : D) (A : Around) (s : Shared) (u v : Value) (as bs : List Addr), Reads s.heap u x as → Reads s.heap v y bs → x.canLay0 = true → y.canLay0 = true → cmpb x y = true → A.units + min x.depth y.depth < cLine → RcLt A s u v (ltD x y)
  | .none, _, _, _, _, _, _, _, _, _, _, _, h, _ => by simp [cmpb] at h
  | .bool _, _, _, _, _, _, _, _, _, _, _, _, h, _ => by simp [cmpb] at h
  | .dict _, _, _, _, _, _, _, _, _, _, _, _, h, _ => by simp [cmpb] at h
  | .int i, y, A, s, u, v, as, bs, ra, rb, _, _, h, _ => by
    cases y with
    | int j =>
      cases ra
      cases rb
      intro prog w E Q hq
      simp only [ltD] at hq
      exact P.lt_int hq
    | _ => simp [cmpb] at h
  | .str i, y, A, s, u, v, as, bs, ra, rb, _, _, h, _ => by
    cases y with
    | str j =>
      cases ra
      cases rb
      intro prog w E Q hq
      simp only [ltD, strLt] at hq
      exact P.lt_str hq
    | _ => simp [cmpb] at h
  | .list xs, y, A, s, u, v, as, bs, ra, rb, ca, cb, h, hu => by
    cases y with
    | list ys =>
      have hal : cmpbs xs ys = true := by simpa [cmpb] using h
      cases ra with
      | @list l o vs n _ as₁ h1 h2 h3 h4 =>
        cases rb with
        | @list l' o' vs' n' _ bs₁ k1 k2 k3 k4 =>
          have n1 : vs.size = xs.length := by simpa using ReadsAll.length _ _ _ h4
          have n2 : vs'.size = ys.length := by simpa using ReadsAll.length _ _ _ k4
          obtain ⟨cls, dd, data, sl⟩ := o
          obtain ⟨cls2, dd2, data2, sl2⟩ := o'
          simp only at h2 h3 k2 k3
          subst h2 h3 k2 k3
          intro prog w E Q hq
          simp only [ltD] at hq
          rw [← lexF_ltDs xs ys hal, ← n1, ← n2] at hq
          refine richCompare_meets_room (op := .Lt) ⟨_, h1, rfl⟩ ⟨_, k1, rfl⟩ F.slot_list_lt F.entry_list_lt (F.args_list_lt_2 _ _) (lst_lt1 l l' vs vs' n n' dd dd2 sl sl2 (pairEq xs ys) (ltAt xs ys))
            ⟨h1, k1, ⟨fun j j1 j2 => ?_, fun j j1 j2 jb je => ?_⟩, (fun x => nomatch x), hq⟩ (room_here hu)
          · have := eqAt_readsAll xs ys A.in1 s vs.toList vs'.toList _ _ h4 k4 (by simpa [PyData.canLay0] using ca) (by simpa [PyData.canLay0] using cb) (room_in hu) j (by simpa using j1) (by simpa using j2)
            simpa using this
          · have := rcLt_readsAll xs ys A.in1 s vs.toList vs'.toList _ _ h4 k4 (by simpa [PyData.canLay0] using ca) (by simpa [PyData.canLay0] using cb) hal (room_in hu) j (by simpa using j1) (by simpa using j2) jb je
            simpa using this
    | _ => simp [cmpb] at h
  | .tuple xs, y, A, s, u, v, as, bs, ra, rb, ca, cb, h, hu => by
    cases y with
    | tuple ys =>
      have hal : cmpbs xs ys = true := by simpa [cmpb] using h
      cases ra with
      | @tuple l o vs n _ as₁ h1 h2 h3 h4 =>
        cases rb with
        | @tuple l' o' vs' n' _ bs₁ k1 k2 k3 k4 =>
          have n1 : vs.size = xs.length := by simpa using ReadsAll.length _ _ _ h4
          have n2 : vs'.size = ys.length := by simpa using ReadsAll.length _ _ _ k4
          obtain ⟨cls, dd, data, sl⟩ := o
          obtain ⟨cls2, dd2, data2, sl2⟩ := o'
          simp only at h2 h3 k2 k3
          subst h2 h3 k2 k3
          intro prog w E Q hq
          simp only [ltD] at hq
          rw [← lexF_ltDs xs ys hal, ← n1, ← n2] at hq
          refine richCompare_meets_room (op := .Lt) ⟨_, h1, rfl⟩ ⟨_, k1, rfl⟩ F.slot_tuple_lt F.entry_tuple_lt (F.args_tuple_lt_2 _ _) (tup_lt1 l l' vs vs' n n' dd dd2 sl sl2 (pairEq xs ys) (ltAt xs ys))
            ⟨h1, k1, ⟨fun j j1 j2 => ?_, fun j j1 j2 jb je => ?_⟩, (fun x => nomatch x), hq⟩ (room_here hu)
          · have := eqAt_readsAll xs ys A.in1 s vs.toList vs'.toList _ _ h4 k4 (by simpa [PyData.canLay0] using ca) (by simpa [PyData.canLay0] using cb) (room_in hu) j (by simpa using j1) (by simpa using j2)
            simpa using this
          · have := rcLt_readsAll xs ys A.in1 s vs.toList vs'.toList _ _ h4 k4 (by simpa [PyData.canLay0] using ca) (by simpa [PyData.canLay0] using cb) hal (room_in hu) j (by simpa using j1) (by simpa using j2) jb je
            simpa using this
    | _ => simp [cmpb] at h
theorem rcLt_readsAll : ∀ (xs ys : List D) (A : Around) (s : Shared) (vs ws : List Value) (as bs : List Addr), ReadsAll s.heap vs xs as → ReadsAll s.heap ws ys bs → PyData.canLayAll0 xs = true → PyData.canLayAll0 ys = true → cmpbs xs ys = true →
    A.units + min (PyData.depthAll xs) (PyData.depthAll ys) < cLine → ∀ j (h1 : j < vs.length) (h2 : j < ws.length), (∀ i, i < j → pairEq xs ys i = true) → pairEq xs ys j = false → RcLt A s vs[j] ws[j] (ltAt xs ys j)
  | [], _, _, _, _, _, _, _, ra, _, _, _, _, _, j, h1, _, _, _ => by cases ra; exact absurd h1 (Nat.not_lt_zero _)
  | _ :: _, [], _, _, _, _, _, _, _, rb, _, _, _, _, j, _, h2, _, _ => by cases rb; exact absurd h2 (Nat.not_lt_zero _)
  | x :: xs, y :: ys, A, s, _, _, _, _, ra, rb, ca, cb, h, hu, j, h1, h2, hb, he => by
    have ha' : x.canLay0 = true ∧ PyData.canLayAll0 xs = true := by simpa [PyData.canLayAll0] using ca
    have hb' : y.canLay0 = true ∧ PyData.canLayAll0 ys = true := by simpa [PyData.canLayAll0] using cb
    simp only [cmpbs, Bool.and_eq_true] at h
    cases ra with
    | cons r rs =>
      cases rb with
      | cons r' rs' =>
        cases j with
        | zero => exact rcLt_reads x y A s _ _ _ _ r r' ha'.1 hb'.1 h.1 (room_head hu)
        | succ j =>
          have e0 : PyData.eqv x y = true := hb 0 (Nat.succ_pos j)
          exact rcLt_readsAll xs ys A s _ _ _ _ rs rs' ha'.2 hb'.2 (by simpa [e0] using h.2) (room_tail hu) j (Nat.lt_of_succ_lt_succ h1) (Nat.lt_of_succ_lt_succ h2) (fun i hi => hb (i + 1) (Nat.succ_lt_succ hi)) he
end

/-! as sorting compares -/
section
variable {prog : Program} {w : World} {A : Around} {E : Value → Shared → Prop} {s : Shared}
theorem oneLt_reads {f : Bool} {x y : D} {a b : Value} {as bs : List Addr} {Q : Bool → Shared → Prop} (hf : f = true → ∀ xs, x ≠ .tuple xs) (ra : Reads s.heap a x as) (rb : Reads s.heap b y bs) (ca : x.canLay0 = true) (cb : y.canLay0 = true) (h : cmpb x y = true)
    (hu : A.units + min x.depth y.depth < cLine) (hq : Q (ltD x y) s) : wpAny (model prog w) A (oneLt' f a b) Q E s := by
  cases f with
  | false =>
    rw [oneLt'_eq]
    simp only [Bool.false_eq_true, if_false]
    exact wpAny_bind (rcLt_reads x y A s a b as bs ra rb ca cb h hu prog w E _ (wpAny_truthy_bool hq))
  | true =>
    cases x with
    | none => simp [cmpb] at h
    | bool x => simp [cmpb] at h
    | dict x => simp [cmpb] at h
    | int x =>
      cases y with
      | int y =>
        cases ra
        cases rb
        simp only [ltD] at hq
        exact oneLt_int hq
      | _ => simp [cmpb] at h
    | str x =>
      cases y with
      | str y =>
        cases ra
        cases rb
        simp only [ltD, strLt] at hq
        exact oneLt_str hq
      | _ => simp [cmpb] at h
    | list xs =>
      cases y with
      | list ys =>
        have hal : cmpbs xs ys = true := by simpa [cmpb] using h
        cases ra with
        | @list l o vs n _ as₁ h1 h2 h3 h4 =>
          cases rb with
          | @list l' o' vs' n' _ bs₁ k1 k2 k3 k4 =>
            have n1 : vs.size = xs.length := by simpa using ReadsAll.length _ _ _ h4
            have n2 : vs'.size = ys.length := by simpa using ReadsAll.length _ _ _ k4
            obtain ⟨cls, dd, data, sl⟩ := o
            obtain ⟨cls2, dd2, data2, sl2⟩ := o'
            simp only at h2 h3 k2 k3
            subst h2 h3 k2 k3
            simp only [ltD] at hq
            rw [← lexF_ltDs xs ys hal, ← n1, ← n2] at hq
            rw [oneLt'_eq]
            simp only [if_true]
            refine wpAny_bind (wpAny_cRoomFor (room_here hu) ?_)
            refine wpAny_bind (wpAny_callSpecialIfBound?_slot (T := "list") ⟨_, h1, rfl⟩ F.slot_list_lt (call_meets F.slot_list_lt ⟨_, h1, rfl⟩ F.entry_list_lt (F.args_list_lt_2 _ _) (lst_lt1 l l' vs vs' n n' dd dd2 sl sl2 (pairEq xs ys) (ltAt xs ys)) ⟨h1, k1, ⟨fun j j1 j2 => ?_, fun j j1 j2 jb je => ?_⟩, ?_⟩))
            · have := eqAt_readsAll xs ys A.in1 s vs.toList vs'.toList _ _ h4 k4 (by simpa [PyData.canLay0] using ca) (by simpa [PyData.canLay0] using cb) (room_in hu) j (by simpa using j1) (by simpa using j2)
              simpa using this
            · have := rcLt_readsAll xs ys A.in1 s vs.toList vs'.toList _ _ h4 k4 (by simpa [PyData.canLay0] using ca) (by simpa [PyData.canLay0] using cb) hal (room_in hu) j (by simpa using j1) (by simpa using j2) jb je
              simpa using this
            · exact wpAny_truthy_bool hq
      | _ => simp [cmpb] at h
    | tuple xs => exact absurd rfl (hf rfl xs)
theorem katLex_reads {b fin : Bool} {Q : Bool → Shared → Prop} : ∀ (xs ys : List D) (i : Nat) (vs ws : List Value) (as bs : List Addr), ReadsAll s.heap vs xs as → ReadsAll s.heap ws ys bs → PyData.canLayAll0 xs = true → PyData.canLayAll0 ys = true → cmpbs xs ys = true →
    A.units + min (PyData.depthAll xs) (PyData.depthAll ys) < cLine → (b = true → i = 0 → ∀ x r t, xs = x :: r → x ≠ .tuple t) → fin = decide (xs.length < ys.length) → Q (ltDs xs ys) s → KatLex prog w A b fin Q (vs.zip ws) i s
  | [], [], i, _, _, _, _, ra, rb, _, _, _, _, _, hf, hq => by
    cases ra
    cases rb
    subst hf
    simpa [KatLex, ltDs] using hq
  | [], _ :: _, i, _, _, _, _, ra, rb, _, _, _, _, _, hf, hq => by
    cases ra
    subst hf
    simpa [KatLex, ltDs] using hq
  | _ :: _, [], i, _, _, _, _, ra, rb, _, _, _, _, _, hf, hq => by
    cases rb
    subst hf
    rw [List.zip_nil_right]
    simpa [KatLex, ltDs] using hq
  | x :: xs, y :: ys, i, _, _, _, _, ra, rb, ca, cb, h, hu, ht, hf, hq => by
    have ha' : x.canLay0 = true ∧ PyData.canLayAll0 xs = true := by simpa [PyData.canLayAll0] using ca
    have hb' : y.canLay0 = true ∧ PyData.canLayAll0 ys = true := by simpa [PyData.canLayAll0] using cb
    simp only [cmpbs, Bool.and_eq_true] at h
    cases ra with
    | cons r rs =>
      cases rb with
      | cons r' rs' =>
        rw [List.zip_cons_cons]
        simp only [ltDs] at hq
        rw [cmpb_same x y h.1] at hq
        refine kat_cons (eqAt_reads x y A s _ _ _ _ r r' ha'.1 hb'.1 (room_head hu) prog w _ _ ?_)
        cases e : PyData.eqv x y with
        | true =>
          rw [e, if_pos rfl] at hq
          exact kat_yes (katLex_reads xs ys (i + 1) _ _ _ _ rs rs' ha'.2 hb'.2 (by simpa [e] using h.2) (room_tail hu) (fun _ z => absurd z (Nat.succ_ne_zero i)) (by rw [hf]; simp) hq)
        | false =>
          rw [e, if_neg (by simp)] at hq
          refine kat_no (oneLt_reads (fun hb t z => ?_) r r' ha'.1 hb'.1 h.1 (room_head hu) hq)
          simp only [Bool.and_eq_true, beq_iff_eq] at hb
          exact ht hb.1 hb.2 x xs t rfl z
end
def rkTy : Nat → String
  | 0 => "int"
  | 1 => "str"
  | 2 => "tuple"
  | 3 => "list"
  | 4 => "NoneType"
  | 5 => "bool"
  | _ => "dict"
theorem rk_type (d : D) : dataType d = .type (rkTy (rkD d)) := by cases d <;> rfl
inductive RdAll (h : Heap) : List Value → List D → Prop
  | nil : RdAll h [] []
  | cons {v : Value} {d : D} {vs : List Value} {ds : List D} : (∃ as, Reads h v d as) → RdAll h vs ds → RdAll h (v :: vs) (d :: ds)
theorem RdAll.len {h : Heap} {vs : List Value} {ds : List D} (r : RdAll h vs ds) : vs.length = ds.length := by
  induction r with
  | nil => rfl
  | cons _ _ ih => simp [ih]
theorem RdAll.mem {h : Heap} {vs : List Value} {ds : List D} (r : RdAll h vs ds) {v : Value} (hv : v ∈ vs) : ∃ d, d ∈ ds ∧ ∃ as, Reads h v d as := by
  induction r with
  | nil => cases hv
  | cons h t ih =>
    rcases List.mem_cons.mp hv with rfl | hv
    · exact ⟨_, List.mem_cons_self, h⟩
    · obtain ⟨d, h1, h2⟩ := ih hv
      exact ⟨d, List.mem_cons_of_mem _ h1, h2⟩
theorem RdAll.tups {h : Heap} {vs : List Value} {ds : List D} (r : RdAll h vs ds) (ht : ∀ d ∈ ds, ∃ x xs, d = .tuple (x :: xs)) : ∃ fs, KatTups h vs fs ∧ fs.length = vs.length ∧ ∀ f ∈ fs, ∃ x xs as, PyData.tuple (x :: xs) ∈ ds ∧ Reads h f x as := by
  induction r with
  | nil => exact ⟨[], KatTups.nil, rfl, fun f hf => nomatch hf⟩
  | @cons v d vs ds hr t ih =>
    obtain ⟨fs, h1, h2, h3⟩ := ih fun d hd => ht d (List.mem_cons_of_mem _ hd)
    obtain ⟨x, rest, rfl⟩ := ht d List.mem_cons_self
    obtain ⟨as, hr⟩ := hr
    cases hr with
    | @tuple a o xs n _ _ ho hc hd hr =>
      cases q : xs.toList with
      | nil => rw [q] at hr; cases hr
      | cons f fr =>
        rw [q] at hr
        cases hr with
        | cons r1 r2 =>
          have hf : xs[0]? = some f := by rw [← Array.getElem?_toList, q]; rfl
          refine ⟨f :: fs, KatTups.cons ho hc hd hf h1, by rw [List.length_cons, List.length_cons, h2], fun g hg => ?_⟩
          rcases List.mem_cons.mp hg with rfl | hg
          · exact ⟨x, rest, _, List.mem_cons_self, r1⟩
          · obtain ⟨x', r', as', m1, m2⟩ := h3 g hg
            exact ⟨x', r', as', List.mem_cons_of_mem _ m1, m2⟩
/-- the keys may be compared with each other -/
structure KeysOk (ks : List D) : Prop where
  lay : ∀ k ∈ ks, k.canLay0 = true
  cmp : ∀ k ∈ ks, ∀ l ∈ ks, cmpb k l = true
  kind : ks.length < 2 ∨ kindOk ks = true
section
variable {prog : Program} {w : World} {A : Around} {s : Shared}
theorem KeysOk.of {ks : List D} (h : keysOk ks = true) : KeysOk ks ∧ ∀ k ∈ ks, k.depth ≤ 64 := by
  unfold keysOk at h
  simp only [Bool.and_eq_true, List.all_eq_true, Bool.or_eq_true, decide_eq_true_eq] at h
  exact ⟨⟨fun k hk => canLay_of_shaped (h.1.1 k hk), fun k hk l hl => h.1.2 k hk l hl, h.2⟩, fun k hk => depth_of_shaped (h.1.1 k hk)⟩
/-- what a value stands for -/
noncomputable def dOf (h : Heap) (v : Value) : D := open Classical in if q : ∃ d : D, d.canLay0 = true ∧ ∃ as, Reads h v d as then q.choose else .none
theorem dOf_eq {h : Heap} {v : Value} {d : D} {as : List Addr} (c : d.canLay0 = true) (r : Reads h v d as) : dOf h v = d := by
  have q : ∃ d : D, d.canLay0 = true ∧ ∃ as, Reads h v d as := ⟨d, c, as, r⟩
  have e : dOf h v = q.choose := by
    show (open Classical in if q : ∃ d : D, d.canLay0 = true ∧ ∃ as, Reads h v d as then q.choose else .none) = _
    rw [dif_pos q]
  obtain ⟨h1, as', h2⟩ := q.choose_spec
  rw [e]
  exact PySem.SeqAt.Reads.unique _ _ _ _ _ h1 h2 r
/-- keys that read as data are sorted by their order -/
theorem keys_sort {vs : List Value} {ds : List D} (h2 : 2 ≤ ds.length) (r : RdAll s.heap vs ds) (K : KeysOk ds) (hu : ∀ d ∈ ds, A.units + d.depth < cLine) :
    ∃ κ, (∀ (E : Value → Shared → Prop) {Q : SortKind → Shared → Prop}, Q κ s → wpAny (model prog w) A (keyKind' vs.toArray) Q E s) ∧
      Cmp prog w A s κ (fun p => p.1 ∈ vs) (fun p q => ltD (dOf s.heap p.1) (dOf s.heap q.1)) := by
  have room : ∀ {d d' : D}, d ∈ ds → A.units + min d.depth d'.depth < cLine := fun {d d'} hd => Nat.lt_of_le_of_lt (Nat.add_le_add_left (Nat.min_le_left _ _) _) (hu d hd)
  have hk : kindOk ds = true := K.kind.resolve_left (by omega)
  obtain ⟨d₀, ds₀, e₀⟩ : ∃ d₀ ds₀, ds = d₀ :: ds₀ := by
    cases ds with
    | nil => simp at h2
    | cons a b => exact ⟨a, b, rfl⟩
  have hk' : ((ds.all fun x => decide (rkD x = rkD d₀) && decide (rkD x ≠ 2)) || (match hdD d₀ with
    | some h => ds.all fun x => match hdD x with
      | some y => decide (rkD y = rkD h)
      | none => false
    | none => false)) = true := by
    rw [e₀] at hk ⊢
    exact hk
  rcases Bool.or_eq_true_iff.mp hk' with h1 | h1
  · rw [List.all_eq_true] at h1
    have hh : ∀ d ∈ ds, rkD d = rkD d₀ ∧ rkD d ≠ 2 := fun d hd => by
      have := h1 d hd
      simpa using this
    have hd0 : rkD d₀ ≠ 2 := (hh d₀ (by rw [e₀]; exact List.mem_cons_self)).2
    refine ⟨oneType', fun E Q hq => kas_kind (T := .type (rkTy (rkD d₀))) (by rw [r.len]; exact h2) (fun v hv => ?_) ?_ (by simp) hq, fun p q hp hq => ?_⟩
    · obtain ⟨d, hd, as, rr⟩ := r.mem hv
      have := looks_reads (M := model prog w) rr
      rw [rk_type, (hh d hd).1] at this
      exact this
    · cases d₀ <;> first | (exact absurd rfl hd0) | rfl | (simp only [rkD]; decide)
    · obtain ⟨d, hd, as, ra⟩ := r.mem hp
      obtain ⟨d', hd', as', rb⟩ := r.mem hq
      rw [keyLt'_oneType]
      refine oneLt_reads (fun _ xs z => ?_) ra rb (K.lay d hd) (K.lay d' hd') (K.cmp d hd d' hd') (room hd) ⟨rfl, ?_⟩
      · subst z; exact (hh _ hd).2 rfl
      · show ltD d d' = ltD (dOf s.heap p.1) (dOf s.heap q.1)
        rw [dOf_eq (K.lay d hd) ra, dOf_eq (K.lay d' hd') rb]
  · cases e1 : hdD d₀ with
    | none => rw [e1] at h1; cases h1
    | some y₀ =>
      rw [e1] at h1
      have h1 : (ds.all fun x => match hdD x with
        | some y => decide (rkD y = rkD y₀)
        | none => false) = true := h1
      rw [List.all_eq_true] at h1
      have hh : ∀ d ∈ ds, ∃ x xs, d = .tuple (x :: xs) ∧ rkD x = rkD y₀ := fun d hd => by
        have z := h1 d hd
        cases d with
        | tuple xs =>
          cases xs with
          | nil => simp [hdD] at z
          | cons x xs => exact ⟨x, xs, rfl, by simpa [hdD] using z⟩
        | _ => simp [hdD] at z
      obtain ⟨fs, f1, f2, f3⟩ := r.tups fun d hd => by
        obtain ⟨x, xs, h, _⟩ := hh d hd
        exact ⟨x, xs, h⟩
      refine ⟨tuples' (Value.type (rkTy (rkD y₀)) != Value.type "tuple"), fun E Q hq => kat_kind (T := .type (rkTy (rkD y₀))) f1 (by rw [f2, r.len]; omega) (fun f hf => ?_) (by simp) hq, fun p q hp hq => ?_⟩
      · obtain ⟨x, xs, as, m, rr⟩ := f3 f hf
        obtain ⟨x', xs', e3, e4⟩ := hh _ m
        cases e3
        have := looks_reads (M := model prog w) rr
        rw [rk_type, e4] at this
        exact this
      · obtain ⟨d, hd, as, ra⟩ := r.mem hp
        obtain ⟨d', hd', as', rb⟩ := r.mem hq
        have ea : dOf s.heap p.1 = d := dOf_eq (K.lay d hd) ra
        have eb : dOf s.heap q.1 = d' := dOf_eq (K.lay d' hd') rb
        have hc := K.cmp d hd d' hd'
        have la := K.lay d hd
        have lb := K.lay d' hd'
        have hr := room (d' := d') hd
        obtain ⟨x, xs, rfl, h3⟩ := hh d hd
        obtain ⟨x', xs', rfl, h4⟩ := hh d' hd'
        show wpAny (model prog w) A (keyLt' _ p.1 q.1) (fun r s' => s' = s ∧ r = ltD (dOf s.heap p.1) (dOf s.heap q.1)) (fun _ _ => False) s
        rw [ea, eb]
        generalize p.1 = u at ra
        generalize q.1 = v at rb
        cases ra with
        | @tuple l o vs n _ as₁ h1 h2 h3' h4' =>
          cases rb with
          | @tuple l' o' vs' n' _ bs₁ k1 k2 k3 k4 =>
            have n1 : vs.size = (x :: xs).length := by simpa using ReadsAll.length _ _ _ h4'
            have n2 : vs'.size = (x' :: xs').length := by simpa using ReadsAll.length _ _ _ k4
            refine kat_lt h1 h3' k1 k3 (katLex_reads (x :: xs) (x' :: xs') 0 _ _ _ _ h4' k4 (by simpa [PyData.canLay0] using la) (by simpa [PyData.canLay0] using lb) (by simpa [cmpb] using hc) ?_ (fun hb _ z r' t e5 e6 => ?_) (by rw [n1, n2]) ⟨rfl, ?_⟩)
            · have := hr
              simp only [PyData.depth] at this
              omega
            · cases e5
              rw [← h3, e6] at hb
              exact absurd hb (by simp [rkD, rkTy])
            · simp only [ltD]
end
end RC
end RC6d
section RC6e
set_option Elab.async false
set_option linter.all false
set_option maxRecDepth 100000
set_option autoImplicit false
set_option maxHeartbeats 4000000
/-! RC6e: sorted(xs), sorted(xs, key=f) -/
namespace RC
open PySem PySem.Spec PySem.Calls PyProof.Rows L2
open SrtO (Swo Srtd Stb Cmp AllL SortableO lt2)

section pure
variable {K : PySem.W.Frag} {G : Hp}
theorem Paired.vals {α : Type} {val : α → Value} {F : α → D × D → Prop} (h : ∀ p q, F p q → ∃ x, RelV x (val p) ∧ Den K G x q.2) : ∀ {l : List α} {m : List (D × D)}, Paired F l m → ∃ ys, Vals ys (l.map val) ∧ DenAll K G ys (m.map (·.2))
  | _, _, .nil => ⟨[], .nil, .nil⟩
  | _, _, .cons q t => by
    obtain ⟨x, r, d⟩ := h _ _ q
    obtain ⟨ys, r2, d2⟩ := Paired.vals h t
    exact ⟨x :: ys, .cons r r2, .cons d d2⟩
theorem sort_out {α : Type} (key : α → D) (val : α → Value) {l : List α} {m : List (D × D)} (P : Paired (fun p q => key p = q.1 ∧ ∃ x, RelV x (val p) ∧ Den K G x q.2) l m) :
    ∃ ys, Vals ys ((sortBy (fun a b => ltD (key a) (key b)) l).map val) ∧ DenAll K G ys ((sortBy (fun a b => ltD a.1 b.1) m).map (·.2)) := by
  have q := sortBy_rel (lt := fun a b => ltD (key a) (key b)) (lt' := fun a b : D × D => ltD a.1 b.1) (R := fun p q => key p = q.1 ∧ ∃ x, RelV x (val p) ∧ Den K G x q.2) (fun a b a' b' h h' => by rw [h.1, h'.1]) P
  exact Paired.vals (fun p q h => h.2) q
end pure

section
variable {prog : Program} {w : World} {A : Around} {E : Value → Shared → Prop} {s : Shared}
theorem collect_seq {l : Addr} {o : Obj} {T : String} {vs : List Value} {n : Nat} {Q : List Value → Shared → Prop} (ho : s.heap.get? l = some o) (hc : o.cls = .type T) (hT : T = "list" ∨ T = "tuple") (hd : o.data = .seq vs.toArray n)
    (h : Q vs { s with heap := (s.heap.push (seqObj "list" #[] 0)).update s.heap.objs.size (Obj.mapSeq (· ++ vs.toArray)) }) (hsz : vs.length ≤ sizeLine) :
    wpAny (model prog w) A (collect (.ref l)) Q E s := by
  unfold collect
  refine wpAny_bind (wpAny_runValue (codeAny_builtin entry_proto_collect' ?_))
  show wpAny _ _ (do again (.builtin "list.__iadd__" ⟨[← newList [], .ref l], []⟩)) _ _ s
  refine wpAny_bind (wpAny_newList (wpAny_pure ⟨Code.quiet_builtin _ (by decide +kernel), codeAny_builtin entry_list_iadd' ?_⟩))
  show wpAny _ _ (Builtin.List.listExtendWith (.ref s.heap.objs.size) (.ref l) (.ref s.heap.objs.size)) _ _ { s with heap := s.heap.push (seqObj "list" #[] 0) }
  unfold Builtin.List.listExtendWith
  have ho' : (s.heap.push (seqObj "list" #[] 0)).get? l = some o := Heap.get?_push_of_some _ ho
  refine wpAny_bind (wpAny_typeOf (T := T) ⟨o, ho', hc⟩ ?_)
  have ht : (Value.type T == Value.type T) = true := by rcases hT with rfl | rfl <;> rfl
  rw [if_pos (by rcases hT with rfl | rfl <;> rw [ht] <;> simp)]
  refine wpAny_bind (listItems_at ho' hd ?_)
  refine wpAny_bind (listItems_at (xs := #[]) (n := 0) (Heap.get?_push_size _ rfl) rfl ?_)
  rw [if_neg (by simp)]
  refine wpAny_bind (listUpdate_at (xs := #[]) (n := 0) (Heap.get?_push_size _ rfl) rfl ?_ (Nat.zero_le _) (by show (#[] ++ vs.toArray).size ≤ sizeLine + 1; simp only [Array.size_append, List.size_toArray, List.length_nil]; omega))
  refine wpAny_pure ?_
  show wpAny (model prog w) A (do
      let o ← load s.heap.objs.size
      match o.data with
      | .seq xs _ => pure xs.toList
      | _ => unsupported "internal:collect") Q E { s with heap := (s.heap.push (seqObj "list" #[] 0)).update s.heap.objs.size (Obj.mapSeq (· ++ vs.toArray)) }
  refine wpAny_bind (wpAny_load (get?_update_seq (Heap.get?_push_size _ rfl) _) ?_)
  show wpAny _ _ (pure ((#[] : Array Value) ++ vs.toArray).toList) Q E _
  rw [show ((#[] : Array Value) ++ vs.toArray).toList = vs by simp]
  exact wpAny_pure h
/-- sorted(xs, ..) sorts a new list of the items -/
theorem sorted_enter {l : Addr} {o : Obj} {T : String} {vs : List Value} {n : Nat} {kw : List (Str × Value)} {Q : Value → Shared → Prop} (ho : s.heap.get? l = some o) (hc : o.cls = .type T) (hT : T = "list" ∨ T = "tuple") (hd : o.data = .seq vs.toArray n) (hz : vs.length ≤ sizeLine)
    (ha1 : argsOk "sorted" ⟨[.ref l], kw⟩) (ha2 : ∀ a, argsOk "list.sort" ⟨[a], kw⟩)
    (h : (PySem.W.copyHeap s.heap vs).get? (s.heap.objs.size + 1) = some (seqObj "list" vs.toArray 0) → (∀ b o, s.heap.get? b = some o → b ≠ s.heap.objs.size + 1 ∧ (PySem.W.copyHeap s.heap vs).get? b = some o) →
      wpAny (model prog w) A.in1.in1 (Builtin.«list.sort» ⟨[.ref (s.heap.objs.size + 1)], kw⟩) (fun fin s' => fin = .done (.ret .none) ∧ Q (.ref (s.heap.objs.size + 1)) s') E { s with heap := PySem.W.copyHeap s.heap vs }) :
    wpAny (model prog w) A (call (.builtin "sorted") [.ref l] kw) Q E s := by
  refine call_function_entry_kw kind_sorted plain_sorted entry_sorted ha1 ?_
  unfold Builtin.«sorted»
  refine wpAny_bind (m := checkCount "sorted" 1 1 _) (wpAny_pure ?_)
  refine wpAny_bind (collect_seq ho hc hT hd ?_ hz)
  refine wpAny_bind (wpAny_newList ?_ hz)
  have hsz : ((s.heap.push (seqObj "list" #[] 0)).update s.heap.objs.size (Obj.mapSeq (· ++ vs.toArray))).objs.size = s.heap.objs.size + 1 := by
    rw [Heap.size_update, size_push']
  have hoL : (PySem.W.copyHeap s.heap vs).get? (s.heap.objs.size + 1) = some (seqObj "list" vs.toArray 0) := by
    unfold PySem.W.copyHeap
    rw [← hsz]; exact Heap.get?_push_size _ rfl
  have keep : ∀ b o, s.heap.get? b = some o → b ≠ s.heap.objs.size + 1 ∧ (PySem.W.copyHeap s.heap vs).get? b = some o := fun b o q => by
    have hlt : b < s.heap.objs.size := Heap.lt_size q
    refine ⟨Nat.ne_of_lt (Nat.lt_succ_of_lt hlt), Heap.get?_push_of_some _ ?_⟩
    rw [Heap.get?_update_ne _ _ _ _ (Nat.ne_of_lt hlt)]
    exact Heap.get?_push_of_some _ q
  show wpAny _ _ _ _ _ { s with heap := PySem.W.copyHeap s.heap vs }
  rw [hsz]
  refine wpAny_bind (wpAny_holding (wpAny_call_entry_kw slot_list_sort ⟨_, hoL, rfl⟩ entry_list_sort (wpAny_mono (h hoL keep) (fun fin s' q => ⟨.none, q.1, wpAny_pure ⟨_, rfl, q.2⟩⟩) fun _ _ e => e) (ha2 _)))
end
theorem RdAll.keeps {h h' : Heap} (k : ∀ b o, h.get? b = some o → h'.get? b = some o) {vs : List Value} {ds : List D} (r : RdAll h vs ds) : RdAll h' vs ds := by
  induction r with
  | nil => exact .nil
  | cons h _ ih => exact .cons (let ⟨as, q⟩ := h; ⟨as, PyProof.Rows.Reads.keeps k q⟩) ih
theorem RdAll.dOf {h : Heap} {vs : List Value} {ds : List D} (r : RdAll h vs ds) (c : ∀ d ∈ ds, d.canLay0 = true) : vs.map (dOf h) = ds := by
  induction r with
  | nil => rfl
  | @cons v d vs ds q _ ih =>
    obtain ⟨as, q⟩ := q
    rw [List.map_cons, dOf_eq (c d List.mem_cons_self) q, ih fun d hd => c d (List.mem_cons_of_mem _ hd)]
section
variable {X : Cx} {pins : List (Addr × Obj)} {σ : L2.St} {H : Hp} {s : Shared} {G : Hp}
theorem DenAll.rd (I : Inv X pins σ H s) (sg : Same G H) : ∀ {xs : List V} {ds : List D} {us : List Value}, DenAll X.K G xs ds → Vals xs us → (∀ d ∈ ds, d.canLay0 = true) → RdAll s.heap us ds
  | _, _, _, .nil, r, _ => by cases r; exact .nil
  | _, _, _, .cons h t, r, c => by
    cases r with
    | cons r1 r2 =>
      refine .cons ?_ (DenAll.rd I sg t r2 fun d hd => c d (List.mem_cons_of_mem _ hd))
      exact Dp.reads I _ _ _ ((h.ext sg).dpp (c _ List.mem_cons_self)) r1
theorem paired_self (I : Inv X pins σ H s) (sg : Same G H) : ∀ {xs : List V} {ds : List D} {us : List Value}, DenAll X.K G xs ds → Vals xs us → (∀ d ∈ ds, d.canLay0 = true) →
    Paired (fun (p : Value) (q : D × D) => dOf s.heap p = q.1 ∧ ∃ x, RelV x p ∧ Den X.K G x q.2) us (ds.zip ds)
  | _, _, _, .nil, r, _ => by cases r; exact .nil
  | _, _, _, .cons h t, r, c => by
    cases r with
    | cons r1 r2 =>
      rw [List.zip_cons_cons]
      refine .cons ⟨?_, _, r1, h⟩ (paired_self I sg t r2 fun d hd => c d (List.mem_cons_of_mem _ hd))
      obtain ⟨as, q⟩ := Dp.reads I _ _ _ ((h.ext sg).dpp (c _ List.mem_cons_self)) r1
      exact dOf_eq (c _ List.mem_cons_self) q
end
section
variable {X : Cx}
theorem srtkD_of {ks ds out : List D} (h : srtkD ks ds = some out) : ks.length = ds.length ∧ keysOk ks = true ∧ out = (sortBy (fun a b => ltD a.1 b.1) (ks.zip ds)).map (·.2) := by
  unfold srtkD at h
  split at h
  · rename_i q; cases h; exact ⟨q.1, q.2, rfl⟩
  · cases h
/-- the items of a list or tuple as the heap has them -/
theorem Sees.at {pins : List (Addr × Obj)} {σ : L2.St} {H : Hp} {s : Shared} {G : Hp} {x : V} {u : Value} {d : D} {ds : List D} (I : Inv X pins σ H s) (sg : Same G H) (rx : RelV x u) (h : Sees X.K G H x d) (hd : seqD d = some ds) :
    ∃ (l : Addr) (o : Obj) (T : String) (n : Nat) (xs : List V) (vs : List Value), u = .ref l ∧ s.heap.get? l = some o ∧ o.cls = .type T ∧ (T = "list" ∨ T = "tuple") ∧ o.data = .seq vs.toArray n ∧ vs.length ≤ sizeLine ∧ Vals xs vs ∧ DenAll X.K G xs ds := by
  rcases seqD_of hd with rfl | rfl
  · obtain ⟨l, xs, rfl, h1, t⟩ := h.lst sg
    cases rx
    obtain ⟨hz, its, n, dd, sl, r, e⟩ := inv_rdL I h1
    exact ⟨l, _, _, _, xs, its, rfl, e, rfl, .inl rfl, rfl, by rw [← r.length]; exact hz, r, t⟩
  · obtain ⟨l, xs, rfl, ⟨o, h1, _⟩, t, _⟩ := h.tup sg
    cases rx
    obtain ⟨e0, hz, its, r, o', e, hc, n, hd'⟩ := inv_rdT I h1
    exact ⟨l, o', _, n, xs, its, rfl, e, hc, .inr rfl, hd', by rw [← r.length]; exact hz, r, t⟩
/-- sorted(xs) -/
theorem cb_sorted (hu : X.A.units + 70 < cLine) : CallR X (.builtin "sorted") (rB X.K fun ds => match ds with
    | [d] => ((seqD d).bind srtD).map fun r => .fr (.list r)
    | _ => none) := by
  intro pins s σ H xs us Q I r h
  obtain ⟨G, ds, w, sg, sa, hf, q⟩ := h
  cases sa with
  | nil => cases hf
  | @cons x d vs' ds' sx t =>
    cases t with
    | cons _ _ => cases hf
    | nil =>
      obtain ⟨out, h1, rfl⟩ := Option.map_eq_some_iff.mp (show ((seqD d).bind srtD).map _ = some w from hf)
      obtain ⟨es, h2, h3⟩ := Option.bind_eq_some_iff.mp h1
      obtain ⟨u, rfl, rx⟩ := vals1 r
      obtain ⟨l, o, T, n, as, vs, rfl, e1, e2, e3, e4, e5, rv, t1⟩ := sx.at I sg rx h2
      obtain ⟨_, hk, rfl⟩ := srtkD_of h3
      obtain ⟨KO, dp⟩ := KeysOk.of hk
      have rd : RdAll s.heap vs es := DenAll.rd I sg t1 rv KO.lay
      refine sorted_enter e1 e2 e3 e4 e5 (args_sorted1 _) args_list_sort fun hoL keep => ?_
      refine SrtO.list_sort_ord (ltv := fun a b => ltD (dOf s.heap a) (dOf s.heap b)) (swo_key swo_D (dOf s.heap)) hoL e5 (fun hl h' kk => ?_) fun o1 s1 s2 => ⟨rfl, ?_⟩
      · have kp : ∀ b o, s.heap.get? b = some o → h'.get? b = some o := fun b o e => kk b o (keep b o e).1 (keep b o e).2
        have rd' := rd.keeps kp
        obtain ⟨κ, k1, k2⟩ := keys_sort (prog := X.prog) (w := X.w) (A := X.A.in1.in1) (s := { s with heap := h' }) (by rw [← rd.len]; exact hl) rd' KO fun d hd => by
          have := dp d hd
          show X.A.units + 1 + 1 + d.depth < cLine
          omega
        refine ⟨κ, fun Q E hq => k1 E hq, fun p q hp hq => ?_⟩
        obtain ⟨d1, m1, as1, r1⟩ := rd.mem hp
        obtain ⟨d2, m2, as2, r2⟩ := rd.mem hq
        have z : wpAny (model X.prog X.w) X.A.in1.in1 (keyLt' κ p.1 q.1) (fun r s' => s' = { s with heap := h' } ∧ r = ltD (dOf h' p.1) (dOf h' q.1)) (fun _ _ => False) { s with heap := h' } := k2 p q hp hq
        rw [dOf_eq (KO.lay _ m1) (PyProof.Rows.Reads.keeps kp r1), dOf_eq (KO.lay _ m2) (PyProof.Rows.Reads.keeps kp r2)] at z
        show wpAny (model X.prog X.w) X.A.in1.in1 (keyLt' κ p.1 q.1) (fun r s' => s' = { s with heap := h' } ∧ r = ltD (dOf s.heap p.1) (dOf s.heap q.1)) (fun _ _ => False) { s with heap := h' }
        rw [dOf_eq (KO.lay _ m1) r1, dOf_eq (KO.lay _ m2) r2]
        exact z
      · have eo : o1 = sortBy (fun a b => ltD (dOf s.heap a) (dOf s.heap b)) vs := sortBy_unique (swo_key swo_D (dOf s.heap)) s1 s2
        obtain ⟨ys, y1, y2⟩ := sort_out (dOf s.heap) id (paired_self I sg t1 rv KO.lay)
        rw [List.map_id, ← eo] at y1
        obtain ⟨ep, he'⟩ := PyProof.Rows.sortedAll_at s.heap vs o1.toArray
        have hlen : ys.length ≤ sizeLine := by
          rw [y1.length, eo, sortBy_len]; exact e5
        exact ⟨.ref _, upd H (s.heap.objs.size + 1) (.lst ys), I.laid (t' := s.toks) (fun _ _ => PyProof.Rows.sortedAll_old) (Nat.le_succ _) ⟨hlen, _, ep, y1, he'⟩, rfl, q _ _ (.newF (I.hok.fresh (Nat.le_succ _)) (.lst y2))⟩
end
end RC
end RC6e
section RC6f
set_option Elab.async false
set_option linter.all false
set_option maxRecDepth 100000
set_option autoImplicit false
set_option maxHeartbeats 4000000
/-! RC6f: sorted(xs, key=f) -/
namespace RC
open PySem PySem.Spec PySem.Calls PyProof.Rows L2
open SrtO (Swo Srtd Stb Cmp AllL)

section
variable {X : Cx} {pins : List (Addr × Obj)} {σ : L2.St} {H : Hp} {s : Shared}
/-- the context inside a built-in's calls -/
abbrev atA (X : Cx) (A' : Around) : Cx := { X with A := A' }
theorem inv_at {A' : Around} (I : Inv X pins σ H s) (hf : A'.frames = X.A.frames) (hh : A'.handled = X.A.handled) : Inv (atA X A') pins σ H s :=
  ⟨⟨I.ok.mod, I.ok.kind, I.ok.glob, I.ok.blt, I.ok.above, I.ok.inj, I.ok.has, I.ok.cab, fun c => hh.trans (I.ok.hd c), hf.trans I.ok.frames, I.ok.stk, I.ok.exf, I.ok.bs, I.ok.bsz, I.ok.noex, I.ok.exfs, I.ok.funs, I.ok.frf⟩, I.os, I.bare, I.base, I.loc, I.cell, I.free, I.freeC, I.pin, I.hok, I.len⟩
theorem inv_of {A' : Around} (I : Inv (atA X A') pins σ H s) (ok : X.Ok) : Inv X pins σ H s := ⟨ok, I.os, I.bare, I.base, I.loc, I.cell, I.free, I.freeC, I.pin, I.hok, I.len⟩
/-- an object of ours that stands already is tracked from now on -/
theorem inv_track {L : Addr} {o : HO} (I : Inv X pins σ H s) (f : FpOk X pins H L) (hs : X.s_0.heap.objs.size ≤ L) (new : ObjOk X.prog X.w (upd H L o) s.heap L o) : Inv X pins σ (upd H L o) s := by
  obtain ⟨f0, f1, f2, f3, f4, f5⟩ := f
  have ne0 : ∀ b o, X.s_0.heap.get? b = some o → b ≠ L := fun b o e z => by
    subst z
    exact absurd (Nat.lt_of_lt_of_le (Heap.lt_size e) hs) (Nat.lt_irrefl _)
  refine ⟨I.ok, I.os, I.bare, ⟨I.base.keep, I.base.slot, fun b ob e n hx => ?_, I.base.there, fun b xs e => ?_, fun b ob u e => ?_, fun b ps e => ?_⟩, I.loc, I.cell, ?_, fun x c e => ?_, fun p hp => ?_, fun b u e => ?_, I.len⟩
  · rw [upd_ne (ne0 b ob e)]; exact I.base.free b ob e n hx
  · have q := I.base.tups b xs e
    rw [upd_ne (ne_of_none q f0)]; exact q
  · have q := I.base.frzs b ob u e
    rw [upd_ne (ne_of_none q f0)]; exact q
  · obtain ⟨more, q⟩ := I.base.tbls b ps e
    exact ⟨more, by rw [upd_ne (ne_of_none q f0)]; exact q⟩
  · rw [upd_ne f1.symm]; exact I.free
  · rw [upd_ne (f4 x c e)]; exact I.freeC x c e
  · obtain ⟨p1, p2, p3, p4, p5⟩ := I.pin p hp
    exact ⟨p1, by rw [upd_ne (f5 p hp)]; exact p2, p3, p4, p5⟩
  · by_cases hb : b = L
    · subst hb; rw [upd_same] at e; cases e; exact new
    · rw [upd_ne hb] at e
      exact (I.hok b u e).stay (fun c v _ q => q) (fun c q => by rw [upd_ne (ne_of_none q f0)]; exact q) fun c xs q => by rw [upd_ne (ne_of_none q f0)]; exact q
end
section
variable {prog : Program} {w : World} {A : Around} {E : Value → Shared → Prop} {s : Shared} {a kS : Addr} {vs us : List Value} {e e1 : Nat} {P : PySem.Fin → Shared → Prop}
theorem kd_tail {st : SortSt} {out : List Value} (nk : s.heap.get? kS = some (seqObj "list" us.toArray e)) (na : s.heap.get? a = some (seqObj "list" #[] e1)) (hka : kS ≠ a)
    (hsz : us.length ≤ sizeLine) (hz : out.length ≤ sizeLine) (hfl : failedOf st = none) (ho : (arrOf st).map (·.2) = out.toArray)
    (h : ∀ h' tk c, (∀ b o, b ≠ a → b ≠ kS → s.heap.get? b = some o → h'.get? b = some o) → h'.get? a = some (seqObj "list" out.toArray c) → (∃ u, h'.get? kS = some u) → P (.done (.ret .none)) { s with heap := h', toks := tk }) :
    wpAny (model prog w) A (ksk_tail a false e1 (.ref kS) st) P E s := by
  have s1 := Heap.SameBut.update s.heap kS (Obj.mapSeq fun _ => (#[] : Array Value))
  have na1 : (s.heap.update kS (Obj.mapSeq fun _ => (#[] : Array Value))).get? a = some (seqObj "list" #[] e1) := (s1.2 a hka.symm).trans na
  have s2 := Heap.SameBut.update (s.heap.update kS (Obj.mapSeq fun _ => (#[] : Array Value))) a (Obj.mapSeq fun _ => out.toArray)
  obtain ⟨c2, hc2⟩ : ∃ c2, ((s.heap.update kS (Obj.mapSeq fun _ => (#[] : Array Value))).update a (Obj.mapSeq fun _ => out.toArray)).get? a = some (seqObj "list" out.toArray c2) :=
    ⟨_, get?_update_seq na1 fun _ => out.toArray⟩
  obtain ⟨c3, hc3⟩ : ∃ c3, (s.heap.update kS (Obj.mapSeq fun _ => (#[] : Array Value))).get? kS = some (seqObj "list" #[] c3) := ⟨_, get?_update_seq nk fun _ => #[]⟩
  have hz2 : out.toArray.size ≤ sizeLine + 1 := by
    rw [List.size_toArray]
    exact Nat.le_succ_of_le hz
  unfold ksk_tail
  try dsimp only
  simp only [Bool.false_eq_true, if_false]
  rw [ho]
  refine wpAny_bind (listUpdate_at nk rfl ?_ (by rw [List.size_toArray]; exact hsz) (Nat.zero_le _))
  refine wpAny_bind (wpAny_letGo ?_)
  refine wpAny_bind (seqEpoch_at na1 rfl ?_)
  refine wpAny_bind (listUpdate_at na1 rfl ?_ (Nat.zero_le _) hz2)
  rw [hfl]
  simp only [bne_self_eq_false, Bool.false_eq_true, if_false]
  exact wpAny_pure (h _ _ c2 (fun b o ha hk q => (s2.2 b ha).trans ((s1.2 b hk).trans q)) hc2 ⟨_, (s2.2 kS hka).trans hc3⟩)
theorem kd_end {ks : List D} (KO : KeysOk ks) (dp : ∀ k ∈ ks, k.depth ≤ 64) (hu : A.units + 64 < cLine) (rd : RdAll s.heap us ks) (hl : us.length = vs.length) (hZ : vs.length ≤ sizeLine)
    (nk : s.heap.get? kS = some (seqObj "list" us.toArray e)) (na : s.heap.get? a = some (seqObj "list" #[] e1)) (hka : kS ≠ a)
    (h : ∀ h' tk c, (∀ b o, b ≠ a → b ≠ kS → s.heap.get? b = some o → h'.get? b = some o) → h'.get? a = some (seqObj "list" ((sortBy (fun p q => ltD (dOf s.heap p.1) (dOf s.heap q.1)) (us.zip vs)).map (·.2)).toArray c) → (∃ u, h'.get? kS = some u) → P (.done (.ret .none)) { s with heap := h', toks := tk }) :
    wpAny (model prog w) A (ksk_end a false vs.toArray e1 (.ref kS) us.toArray) P E s := by
  have O : Swo (fun p q : Keyed => ltD (dOf s.heap p.1) (dOf s.heap q.1)) := swo_key swo_D fun p : Keyed => dOf s.heap p.1
  have ez : (us.toArray.zip vs.toArray).toList = us.zip vs := by simp
  have zl : (us.zip vs).length = vs.length := by rw [List.length_zip, hl, Nat.min_self]
  have hol : ((sortBy (fun p q : Keyed => ltD (dOf s.heap p.1) (dOf s.heap q.1)) (us.zip vs)).map (·.2)).length = vs.length := by rw [List.length_map, sortBy_len, zl]
  have fin : ∀ st' : SortSt, (arrOf st').toList = sortBy (fun p q : Keyed => ltD (dOf s.heap p.1) (dOf s.heap q.1)) (us.zip vs) → (arrOf st').map (·.2) = ((sortBy (fun p q : Keyed => ltD (dOf s.heap p.1) (dOf s.heap q.1)) (us.zip vs)).map (·.2)).toArray := fun st' q => by
    apply Array.toList_inj.mp
    rw [Array.toList_map, q]
  unfold ksk_end
  try dsimp only
  rw [if_neg (by simp)]
  by_cases hl2 : vs.toArray.size < 2
  · rw [if_pos hl2, if_pos hl2]
    refine wpAny_bind (wpAny_pure ?_)
    rw [StateT.run_pure]
    refine wpAny_bind (wpAny_pure ?_)
    try dsimp only
    refine kd_tail (st := SortSt.mk' general' (if false = true then (us.toArray.zip vs.toArray).reverse else us.toArray.zip vs.toArray) #[] 7 none) nk na hka (by rw [hl]; exact hZ) (by rw [hol]; exact hZ) rfl (fin _ ?_) h
    show (us.toArray.zip vs.toArray).toList = _
    rw [ez]
    rw [List.size_toArray] at hl2
    refine sortBy_unique O ?_ (Stb.refl _)
    match hz : us.zip vs, zl with
    | [], _ => exact List.Pairwise.nil
    | [v], _ => exact List.pairwise_singleton _ _
    | _ :: _ :: l, zl => exact absurd hl2 (by rw [← zl, List.length_cons, List.length_cons]; omega)
  · rw [if_neg hl2, if_neg hl2]
    rw [List.size_toArray] at hl2
    obtain ⟨κ, k1, k2⟩ := keys_sort (prog := prog) (w := w) (A := A) (s := s) (by rw [← rd.len, hl]; omega) rd KO fun d hd => by
      have := dp d hd
      omega
    refine wpAny_bind (k1 _ ?_)
    have hall : AllL (fun p : Keyed => p.1 ∈ us) (us.toArray.zip vs.toArray).toList := fun p hp => by
      rw [ez] at hp
      exact (List.of_mem_zip hp).1
    refine wpAny_bind (wpAny_mono (SrtO.wpS_sortO (st0 := SortSt.mk' κ (if false = true then (us.toArray.zip vs.toArray).reverse else us.toArray.zip vs.toArray) #[] 7 none)
      (Q := fun _ st' => Srtd (fun p q : Keyed => ltD (dOf s.heap p.1) (dOf s.heap q.1)) (arrOf st').toList ∧ Stb (fun p q : Keyed => ltD (dOf s.heap p.1) (dOf s.heap q.1)) (arrOf st').toList (us.toArray.zip vs.toArray).toList ∧ failedOf st' = none) O k2 rfl hall rfl rfl fun st' a1 a2 a3 => ⟨a1, a2, a3⟩) ?_ fun _ _ e => e)
    rintro ⟨⟨⟩, st'⟩ s' ⟨rfl, hp1, hp2, hf⟩
    try dsimp only
    rw [ez] at hp2
    exact kd_tail nk na hka (by rw [hl]; exact hZ) (by rw [hol]; exact hZ) hf (fin _ (sortBy_unique O hp1 hp2)) h
end
def mapO (g : D → Option D) : List D → Option (List D)
  | [] => some []
  | d :: ds => (g d).bind fun k => (mapO g ds).map (k :: ·)
theorem mapO_get {g : D → Option D} : ∀ {ds ks : List D} {i : Nat} {d : D}, mapO g ds = some ks → ds[i]? = some d → ∃ k, ks[i]? = some k ∧ g d = some k
  | [], _, _, _, _, h => by simp at h
  | d :: ds, ks, i, x, h, hi => by
    obtain ⟨k, h1, h2⟩ := Option.bind_eq_some_iff.mp (show (g d).bind _ = some ks from h)
    obtain ⟨r, h3, rfl⟩ := Option.map_eq_some_iff.mp h2
    cases i with
    | zero => simp at hi; subst hi; exact ⟨k, rfl, h1⟩
    | succ i => exact mapO_get (i := i) h3 (by simpa using hi)
theorem mapO_len {g : D → Option D} : ∀ {ds ks : List D}, mapO g ds = some ks → ks.length = ds.length
  | [], _, h => by cases h; rfl
  | d :: ds, ks, h => by
    obtain ⟨k, h1, h2⟩ := Option.bind_eq_some_iff.mp (show (g d).bind _ = some ks from h)
    obtain ⟨r, h3, rfl⟩ := Option.map_eq_some_iff.mp h2
    simp [mapO_len h3]
/-- a key function that computes g on data -/
def KeyR (X : Cx) (f : Value) (g : D → Option D) : Prop :=
  ∀ (pins : List (Addr × Obj)) (s : Shared) (σ : L2.St) (H : Hp) (v : V) (u : Value) (d k : D) (a : Amb) (G : Hp) (ρ : Rho) (Q : VK), Inv X pins σ H s → RelV v u → Den X.K G v d → RelG X.K a G ρ σ H → g d = some k →
    (∀ v' H' G', Same G G' → RelG X.K a G' ρ σ H' → Den X.K G' v' k → Q v' H') → wpAny (model X.prog X.w) X.A (call f [u]) (EP X pins σ Q) (fun _ _ => False) s
theorem paired_keys {K : PySem.W.Frag} {G : Hp} (kf : Value → D) : ∀ {xs : List V} {vs us : List Value} {ks ds : List D}, us.map kf = ks → us.length = vs.length → Vals xs vs → DenAll K G xs ds →
    Paired (fun (p : Value × Value) (q : D × D) => kf p.1 = q.1 ∧ ∃ x, RelV x p.2 ∧ Den K G x q.2) (us.zip vs) (ks.zip ds)
  | _, _, us, _, _, hk, hl, .nil, t => by
    cases t
    have : us = [] := List.length_eq_zero_iff.mp hl
    subst this
    cases hk
    exact .nil
  | _, _, [], _, _, hk, hl, .cons r1 r2, t => by cases hl
  | _, _, u :: us, _, _, hk, hl, .cons r1 r2, t => by
    cases t with
    | cons h t =>
      cases hk
      rw [List.zip_cons_cons, List.map_cons, List.zip_cons_cons]
      exact .cons ⟨rfl, _, r1, h⟩ (paired_keys kf rfl (Nat.succ.inj hl) r2 t)
section
variable {X : Cx} {pins : List (Addr × Obj)} {σ : L2.St} {H : Hp} {s : Shared} {am : Amb} {G : Hp} {ρ : Rho} {f : Value} {g : D → Option D} {a kS : Addr} {e1 : Nat} {vs : List Value} {xs : List V} {ds ks : List D} {P : PySem.Fin → Shared → Prop} {E : Value → Shared → Prop}
theorem kd_rest (hf : KeyR X f g) (I : Inv X pins σ H s) (R : RelG X.K am G ρ σ H) (fk : FpOk X pins H kS) (fa : FpOk X pins H a) (hka : kS ≠ a) (rv : Vals xs vs) (t : DenAll X.K G xs ds) (hks : mapO g ds = some ks) (hZ : vs.length ≤ sizeLine)
    (hko : keysOk ks = true) (hu : X.A.units + 64 < cLine) (nk : s.heap.get? kS = some (seqObj "list" #[] 0)) (na : s.heap.get? a = some (seqObj "list" #[] e1))
    (h : ∀ s' H' G' ys c, Inv X pins σ H' s' → RelG X.K am G' ρ σ H' → Same G G' → H' a = none → s'.heap.get? a = some (seqObj "list" ys c) → (∃ yv, Vals yv ys.toList ∧ DenAll X.K G' yv ((sortBy (fun a b => ltD a.1 b.1) (ks.zip ds)).map (·.2))) → P (.done (.ret .none)) s') :
    wpAny (model X.prog X.w) X.A (ksk_rest a f false vs.toArray e1 (.ref kS)) P E s := by
  obtain ⟨KO, dp⟩ := KeysOk.of hko
  have hlx : xs.length = vs.length := rv.length
  have hld : xs.length = ds.length := t.len
  have hlk : ks.length = ds.length := mapO_len hks
  unfold ksk_rest
  refine wpAny_bind (wpAny_rule ?_)
  first
    | rw [List.forIn_toArray]
    | (rw [← Array.forIn_toList]; simp only [List.toList_toArray])
    | rw [← Array.forIn_toList]
  refine wpAny_bind (ksk_fold (fun i s' => ∃ (H' G' : Hp) (kvs : List V) (kus : List Value) (e : Nat), Inv X pins σ H' s' ∧ RelG X.K am G' ρ σ H' ∧ Same G G' ∧ s'.heap.get? kS = some (seqObj "list" kus.toArray e) ∧ Vals kvs kus ∧ DenAll X.K G' kvs (ks.take i) ∧
    s'.heap.get? a = some (seqObj "list" #[] e1) ∧ H' kS = none ∧ H' a = none) vs 0 s ⟨H, G, [], [], 0, I, R, Same.refl _, nk, .nil, by rw [List.take_zero]; exact .nil, na, fk.1, fa.1⟩ ?step ?done)
  case step =>
    rintro j x s1 hx ⟨H1, G1, kvs, kus, e, I1, R1, sg1, nk1, rk1, dk1, na1, h1k, h1a⟩
    simp only [Nat.zero_add] at dk1 ⊢
    have hj : j < vs.length := (List.getElem?_eq_some_iff.mp hx).1
    obtain ⟨xv, hxv⟩ : ∃ xv, xs[j]? = some xv := ⟨_, List.getElem?_eq_getElem (by omega)⟩
    obtain ⟨u', e2, rx⟩ := rv.get hxv
    rw [hx] at e2; cases e2
    obtain ⟨d, hd, dn⟩ := t.get' hxv
    obtain ⟨k, hk, hg⟩ := mapO_get hks hd
    have fk1 : FpOk X pins H1 kS := ⟨h1k, fk.2⟩
    have fa1 : FpOk X pins H1 a := ⟨h1a, fa.2⟩
    have I1' : Inv X (pins ++ pinsAt [kS, a] s1.heap) σ H1 s1 := I1.pinned (fun b hb => by
      rcases List.mem_cons.mp hb with rfl | hb
      · exact fk1
      · rw [List.mem_singleton.mp hb]; exact fa1) fun b hb => by
      rcases List.mem_cons.mp hb with rfl | hb
      · exact ⟨_, nk1, fun v z => by cases z⟩
      · rw [List.mem_singleton.mp hb]; exact ⟨_, na1, fun v z => by cases z⟩
    have hkl : kus.length = j := by
      have q1 := rk1.length
      have q2 := dk1.len
      rw [List.length_take] at q2
      omega
    refine wpAny_bind (wpAny_attempt (wpAny_mono (hf _ s1 σ H1 xv x d k am G1 ρ (fun v' H' => ∃ G', Same G1 G' ∧ RelG X.K am G' ρ σ H' ∧ Den X.K G' v' k) I1' rx (dn.ext sg1) R1 hg fun v' H' G' q1 q2 q3 => ⟨G', q1, q2, q3⟩) (fun v s2 he => ?_) fun _ _ hF => hF.elim))
    obtain ⟨v', H2, I2, rv2, G2, sg2, R2, dn2⟩ := he
    try dsimp only
    have pk := I2.pin (kS, _) (List.mem_append_right _ (List.mem_append_right _ (mem_pinsAt (by simp) nk1)))
    have pa := I2.pin (a, _) (List.mem_append_right _ (List.mem_append_right _ (mem_pinsAt (by simp) na1)))
    have nk2 : s2.heap.get? kS = some (seqObj "list" kus.toArray e) := pk.1
    have na2 : s2.heap.get? a = some (seqObj "list" #[] e1) := pa.1
    have fk2 : FpOk X pins H2 kS := ⟨pk.2.1, fk.2⟩
    have z1 := Heap.SameBut.update s2.heap kS (Obj.mapSeq (·.push v))
    obtain ⟨c2, hc2⟩ : ∃ c2, (s2.heap.update kS (Obj.mapSeq (·.push v))).get? kS = some (seqObj "list" (kus.toArray.push v) c2) := ⟨_, get?_update_seq nk2 (·.push v)⟩
    have ek : ks.take (j + 1) = ks.take j ++ [k] := by rw [List.take_add_one, hk]; simp
    have ea : kus.toArray.push v = (kus ++ [v]).toArray := by simp
    refine wpAny_bind (listUpdate_at nk2 rfl ?_ (by rw [List.size_toArray, hkl]; omega) (by rw [Array.size_push, List.size_toArray, hkl]; omega))
    rw [ea] at hc2
    refine wpAny_pure ⟨rfl, H2, G2, kvs ++ [v'], kus ++ [v], c2, ?_, R2, sg1.trans sg2, hc2, rk1.append (.cons rv2 .nil), by rw [ek]; exact (dk1.ext sg2).app (.cons dn2 .nil), (z1.2 a hka.symm).trans na2, pk.2.1, pa.2.1⟩
    exact (I2.unpinned).turned (t' := s2.toks) (fun b o hb q => (z1.2 b hb).trans q) pk.2.1 fk2.2.1 fk2.2.2.2.1 fk2.2.2.2.2.1 fk2.2.2.2.2.2
  case done =>
    rintro s1 ⟨H1, G1, kvs, kus, e, I1, R1, sg1, nk1, rk1, dk1, na1, h1k, h1a⟩
    have e3 : ks.take (0 + vs.length) = ks := List.take_of_length_le (by omega)
    rw [e3] at dk1
    try dsimp only
    refine wpAny_bind (listItems_at nk1 rfl ?_)
    have hkl : kus.length = vs.length := by
      have q1 := rk1.length
      have q2 := dk1.len
      omega
    have rd : RdAll s1.heap kus ks := DenAll.rd I1 R1.sub dk1 rk1 KO.lay
    refine kd_end KO dp hu rd hkl hZ nk1 na1 hka fun h' tk c kp n3 _ => ?_
    have I3 : Inv X pins σ H1 { s1 with heap := h', toks := tk } := I1.turnedL (t' := tk) (ch := [a, kS]) (fun b o hb q => kp b o (fun z => hb (by simp [z])) (fun z => hb (by simp [z])) q) fun b hb => by
      rcases List.mem_cons.mp hb with rfl | hb
      · exact ⟨h1a, fa.2⟩
      · rw [List.mem_singleton.mp hb]; exact ⟨h1k, fk.2⟩
    refine h _ H1 G1 _ c I3 R1 sg1 h1a n3 ?_
    have kf : kus.map (dOf s1.heap) = ks := rd.dOf KO.lay
    obtain ⟨ys, y1, y2⟩ := sort_out (fun p : Value × Value => dOf s1.heap p.1) (·.2) (paired_keys (dOf s1.heap) kf hkl rv (t.ext sg1))
    exact ⟨ys, y1, y2⟩
end
section
variable {X : Cx} {pins : List (Addr × Obj)} {σ : L2.St} {H : Hp} {s : Shared} {am : Amb} {G : Hp} {ρ : Rho} {f : Value} {g : D → Option D}
/-- sorted(xs, key=f) -/
theorem sorted_key (hf : KeyR (atA X X.A.in1.in1) f g) (hT : ∀ a, Builtin.«list.sort» ⟨[.ref a], [(Str.ofString "key", f)]⟩ = ksk_tree a f false) (hu : X.A.units + 70 < cLine) {x : V} {u : Value} {d : D} {ds ks out : List D} {Q : VK}
    (I : Inv X pins σ H s) (rx : RelV x u) (sx : Sees X.K G H x d) (R : RelG X.K am G ρ σ H) (hd : seqD d = some ds) (hks : mapO g ds = some ks) (ho : srtkD ks ds = some out)
    (q : ∀ v H' G', Same G G' → RelG X.K am G' ρ σ H' → WOk X.K am G' H' ρ σ (.fr (.list out)) v → Q v H') :
    wpAny (model X.prog X.w) X.A (call (.builtin "sorted") [u] [(Str.ofString "key", f)]) (EP X pins σ Q) X.xe s := by
  obtain ⟨l, o, T, n, as, vs, rfl, e1, e2, e3, e4, e5, rv, t1⟩ := sx.at I R.sub rx hd
  obtain ⟨_, hko, rfl⟩ := srtkD_of ho
  refine sorted_enter e1 e2 e3 e4 e5 (ksk_s1 _ _) (fun _ => ksk_l1 _ _) fun hoL keep => ?_
  rw [hT]
  have kc : ∀ b o, s.heap.get? b = some o → (PySem.W.copyHeap s.heap vs).get? b = some o := fun b o e => (keep b o e).2
  have Ic : Inv X pins σ H { s with heap := PySem.W.copyHeap s.heap vs } := I.kept (t' := s.toks) kc
  have Hna : H (s.heap.objs.size + 1) = none := I.hok.fresh (Nat.le_succ _)
  have ha : s.heap.objs.size + 1 < (PySem.W.copyHeap s.heap vs).objs.size := Heap.lt_size hoL
  obtain ⟨ep, ho1⟩ : ∃ ep, ((PySem.W.copyHeap s.heap vs).update (s.heap.objs.size + 1) (Obj.mapSeq fun _ => (#[] : Array Value))).get? (s.heap.objs.size + 1) = some (seqObj "list" #[] ep) := ⟨_, get?_update_seq hoL fun _ => #[]⟩
  have fa : FpOk X pins H (s.heap.objs.size + 1) := I.fpOk (Nat.le_succ _) Hna
  have z1 := Heap.SameBut.update (PySem.W.copyHeap s.heap vs) (s.heap.objs.size + 1) (Obj.mapSeq fun _ => (#[] : Array Value))
  have Iu : Inv X pins σ H { s with heap := (PySem.W.copyHeap s.heap vs).update (s.heap.objs.size + 1) (Obj.mapSeq fun _ => (#[] : Array Value)) } := Ic.turned (t' := s.toks) (fun b o hb q => (z1.2 b hb).trans q) Hna fa.2.1 fa.2.2.2.1 fa.2.2.2.2.1 fa.2.2.2.2.2
  have It : Inv X pins σ H { s with heap := (((PySem.W.copyHeap s.heap vs).update (s.heap.objs.size + 1) (Obj.mapSeq fun _ => (#[] : Array Value))).push (seqObj "tuple" vs.toArray 0)).push (seqObj "list" #[] 0) } :=
    Iu.kept (t' := s.toks) fun b o e => Heap.get?_push_of_some _ (Heap.get?_push_of_some _ e)
  unfold ksk_tree
  refine wpAny_bind (listItems_at hoL rfl ?_)
  refine wpAny_bind (listUpdate_at hoL rfl ?_ (by rw [List.size_toArray]; exact e5) (Nat.zero_le _))
  refine wpAny_bind (seqEpoch_at ho1 rfl ?_)
  refine wpAny_bind (wpAny_newTuple ?_ (by show vs.length ≤ _; exact e5))
  refine wpAny_bind (wpAny_newList ?_ (Nat.zero_le _))
  refine wpAny_holding ?_
  have hkS : (((PySem.W.copyHeap s.heap vs).update (s.heap.objs.size + 1) (Obj.mapSeq fun _ => (#[] : Array Value))).push (seqObj "tuple" vs.toArray 0)).objs.size = (PySem.W.copyHeap s.heap vs).objs.size + 1 := by rw [size_push', Heap.size_update]
  have fk : FpOk X pins H ((((PySem.W.copyHeap s.heap vs).update (s.heap.objs.size + 1) (Obj.mapSeq fun _ => (#[] : Array Value))).push (seqObj "tuple" vs.toArray 0)).objs.size) := by
    have I4 : Inv X pins σ H { s with heap := ((PySem.W.copyHeap s.heap vs).update (s.heap.objs.size + 1) (Obj.mapSeq fun _ => (#[] : Array Value))).push (seqObj "tuple" vs.toArray 0) } := Iu.kept (t' := s.toks) fun b o e => Heap.get?_push_of_some _ e
    exact I4.fpOk (Nat.le_refl _) (I4.hok.fresh (Nat.le_refl _))
  have hka : ((((PySem.W.copyHeap s.heap vs).update (s.heap.objs.size + 1) (Obj.mapSeq fun _ => (#[] : Array Value))).push (seqObj "tuple" vs.toArray 0)).objs.size) ≠ s.heap.objs.size + 1 := by
    rw [hkS]; omega
  have hs0 : X.s_0.heap.objs.size ≤ s.heap.objs.size + 1 := Nat.le_trans I.sz (Nat.le_succ _)
  refine kd_rest (X := atA X X.A.in1.in1) (pins := pins) (H := H) hf (inv_at It rfl rfl) R fk fa hka rv t1 hks e5 hko (by show X.A.units + 1 + 1 + 64 < _; omega) (Heap.get?_push_size _ rfl) (Heap.get?_push_of_some _ (Heap.get?_push_of_some _ ho1)) fun s' H' G' ys c I' R' sg' hna' hat ⟨yv, y1, y2⟩ => ⟨rfl, ?_⟩
  have I2 : Inv X pins σ H' s' := inv_of I' I.ok
  have hlen : yv.length ≤ sizeLine := by
    have q1 := y2.len
    have q2 := t1.len
    have q3 := rv.length
    have q4 := mapO_len hks
    rw [List.length_map, sortBy_len, List.length_zip] at q1
    omega
  have I3 : Inv X pins σ (upd H' (s.heap.objs.size + 1) (.lst yv)) s' := inv_track I2 ⟨hna', fa.2⟩ hs0 ⟨hlen, ys.toList, c, y1, by rw [Array.toArray_toList]; exact hat⟩
  refine ⟨.ref (s.heap.objs.size + 1), _, I3, rfl, ?_⟩
  obtain ⟨G2, sg2, R2, W2⟩ := R'.res (.newF (o := .lst yv) hna' (.lst y2))
  exact q _ _ G2 (sg'.trans sg2) R2 W2
end
end RC
end RC6f
section RC7a
set_option Elab.async false
set_option linter.all false
set_option maxRecDepth 100000
set_option autoImplicit false
set_option maxHeartbeats 4000000
/-! RC7a: what a callee is handed, what it leaves -/
namespace RC
open PySem PySem.Spec PyProof.Rows L2

inductive ArgOk (K : PySem.W.Frag) (G H : Hp) : En → V → Prop
  | imm {d : D} {v : V} : Den K G v d → ArgOk K G H ⟨.imm, false, d⟩ v
  | bor {d : D} {p : Addr} : G p = none → Cell K G (H p) d → ArgOk K G H ⟨.bor, false, d⟩ (.ref p)
structure CallPre (K : PySem.W.Frag) (G H : Hp) (es : List En) (vs : List V) : Prop where
  len : es.length = vs.length
  arg : ∀ (i : Nat) (e : En) (v : V), es[i]? = some e → vs[i]? = some v → ArgOk K G H e v
  dist : ∀ (i j : Nat) (e f : En) (p : Addr), es[i]? = some e → es[j]? = some f → e.k = .bor → f.k = .bor → vs[i]? = some (.ref p) → vs[j]? = some (.ref p) → i = j
  sub : Same G H
def borAt (es : List En) (vs : List V) (i : Nat) : Option Addr := match es[i]?, vs[i]? with
  | some e, some (.ref p) => if e.k = .bor then some p else none
  | _, _ => none
theorem borAt_of {es : List En} {vs : List V} {i : Nat} {p : Addr} (h : borAt es vs i = some p) : ∃ e, es[i]? = some e ∧ e.k = .bor ∧ vs[i]? = some (.ref p) := by
  unfold borAt at h
  split at h
  · rename_i e q h1 h2
    split at h
    · rename_i hk; cases h; exact ⟨e, h1, hk, h2⟩
    · cases h
  · cases h
theorem borAt_is {es : List En} {vs : List V} {i : Nat} {p : Addr} {e : En} (h1 : es[i]? = some e) (h2 : e.k = .bor) (h3 : vs[i]? = some (.ref p)) : borAt es vs i = some p := by
  unfold borAt
  rw [h1, h3]
  exact if_pos h2
def ResOk (K : PySem.W.Frag) (H G' H' : Hp) (w : W) (v : V) : Prop := match w with
  | .imm d => Den K G' v d
  | .fr d => ∃ p, v = .ref p ∧ G' p = none ∧ H p = none ∧ Cell K G' (H' p) d
  | .al _ => False
structure CallPost (K : PySem.W.Frag) (G H : Hp) (es : List En) (vs : List V) (os : List En) (w : W) (v : V) (G' H' : Hp) : Prop where
  sub : Same G' H'
  old : Same G G'
  new : ∀ b o, G' b = some o → G b = none → H b = none ∨ ∃ i, borAt es vs i = some b
  amb : ∀ b o, H b = some o → (∀ i, borAt es vs i ≠ some b) → H' b = some o
  len : os.length = es.length
  out : ∀ (i : Nat) (p : Addr) (o : En), borAt es vs i = some p → os[i]? = some o → (o.k = .bor ∧ G' p = none ∧ Cell K G' (H' p) o.d) ∨ (o.k = .fb ∧ Den K G' (.ref p) o.d ∧ ∃ u, H' p = some u)
  res : ResOk K H G' H' w v
/-- a def that computes c on data -/
def spD (K : PySem.W.Frag) (np : Nat) (c : List En → Option (W × List En)) : Sp := fun vs H Q _ => ∃ (G : Hp) (es : List En) (w : W) (os : List En), CallPre K G H es vs ∧ es.length = np ∧ c es = some (w, os) ∧
  ∀ v H' G', CallPost K G H es vs os w v G' H' → Q v H'

section
variable {K : PySem.W.Frag} {G G' H H' : Hp} {es os : List En} {vs : List V} {w : W} {v : V}
abbrev amb0 (G H : Hp) (es : List En) (vs : List V) : Amb := ⟨H, G, borAt es vs, [], []⟩
theorem start_rel {N : List Str} {ns : Nat} (P : CallPre K G H es vs) (hN : N.length = ns) (hl : es.length ≤ ns) : RelG K (amb0 G H es vs) G (es.map some ++ List.replicate (ns - es.length) none) (L2.start N vs) H := by
  have get : ∀ {i : Nat} {e : En}, (es.map some ++ List.replicate (ns - es.length) none)[i]? = some (some e) → es[i]? = some e := fun {i e} h => by
    by_cases hi : i < es.length
    · rw [List.getElem?_append_left (by simpa using hi), List.getElem?_map] at h
      cases q : es[i]? with
      | none => rw [q] at h; cases h
      | some x => rw [q] at h; simpa using h
    · rw [List.getElem?_append_right (by simpa using hi), List.getElem?_replicate] at h
      split at h <;> cases h
  have sg : ∀ {i : Nat} {x : V}, vs[i]? = some x → (L2.start N vs)[i]? = some (some x) := fun {i x} h => by
    have hi := (List.getElem?_eq_some_iff.mp h).1
    unfold L2.start
    rw [List.getElem?_append_left (by simpa using hi), List.getElem?_map, h]
    rfl
  have val : ∀ {i : Nat} {e : En}, es[i]? = some e → ∃ x, vs[i]? = some x ∧ ArgOk K G H e x := fun {i e} h => by
    have hi := (List.getElem?_eq_some_iff.mp h).1
    have hv : i < vs.length := by rw [← P.len]; exact hi
    have hx : vs[i]? = some vs[i] := List.getElem?_eq_getElem hv
    exact ⟨_, hx, P.arg i e _ h hx⟩
  refine ⟨?_, P.sub, Same.refl _, fun b o h g => ?_, fun b o h _ => h, fun i b h => ?_, fun i e h => ?_, fun i j e f p h1 h2 o1 o2 s1 s2 => ?_, (fun _ h => nomatch h), (fun _ h => nomatch h)⟩
  · unfold L2.start
    have := P.len
    simp
    omega
  · rw [show G b = none from g] at h; cases h
  · obtain ⟨e, h1, h2, h3⟩ := borAt_of h
    have k := P.arg i e _ h1 h3
    cases k with
    | imm _ => cases h2
    | bor _ c => exact c.some
  · have h := get h
    obtain ⟨x, hx, k⟩ := val h
    refine ⟨x, sg hx, ?_⟩
    cases k with
    | imm d => exact .imm d
    | bor g c => exact .bor g (borAt_is h rfl hx) c
  · have h1 := get h1
    have h2 := get h2
    obtain ⟨x, hx, k1⟩ := val h1
    obtain ⟨y, hy, k2⟩ := val h2
    rw [sg hx] at s1
    rw [sg hy] at s2
    cases s1
    cases s2
    have b1 : e.k = .bor := by
      cases k1 with
      | imm _ => cases o1
      | bor _ _ => rfl
    have b2 : f.k = .bor := by
      cases k2 with
      | imm _ => cases o2
      | bor _ _ => rfl
    exact P.dist i j e f p h1 h2 b1 b2 hx hy
theorem outs_get {ρ : Rho} : ∀ {es : List En} {i : Nat} {os : List En}, outs i es ρ = some os → os.length = es.length ∧ ∀ (m : Nat) (e o : En), es[m]? = some e → e.k = .bor → os[m]? = some o → ∃ e', lkp ρ (i + m) = some e' ∧ (e'.k = .bor ∨ e'.k = .fb) ∧ o = { e' with lk := false }
  | [], i, os, h => by cases h; exact ⟨rfl, fun m e o h => by simp at h⟩
  | a :: as, i, os, h => by
    obtain ⟨o1, h1, h2⟩ := Option.bind_eq_some_iff.mp (show (match a.k with
      | .bor => (lkp ρ i).bind fun e => match e.k with
        | .bor => some { e with lk := false }
        | .fb => some { e with lk := false }
        | _ => none
      | _ => some a).bind (fun o => (outs (i + 1) as ρ).map (o :: ·)) = some os from h)
    obtain ⟨r, h3, rfl⟩ := Option.map_eq_some_iff.mp h2
    obtain ⟨l, g⟩ := outs_get (i := i + 1) h3
    refine ⟨by simp [l], fun m e o he hk ho => ?_⟩
    cases m with
    | zero =>
      simp at he ho
      subst he ho
      rw [hk] at h1
      obtain ⟨e', q1, q2⟩ := Option.bind_eq_some_iff.mp h1
      refine ⟨e', q1, ?_⟩
      split at q2
      · rename_i z; cases q2; exact ⟨.inl z, rfl⟩
      · rename_i z; cases q2; exact ⟨.inr z, rfl⟩
      · cases q2
    | succ m =>
      obtain ⟨e', q1, q2, q3⟩ := g m e o (by simpa using he) hk (by simpa using ho)
      exact ⟨e', by rw [show i + (m + 1) = i + 1 + m by omega]; exact q1, q2, q3⟩
theorem end_post {ρ : Rho} {σ : L2.St} (R : RelG K (amb0 G H es vs) G' ρ σ H') (ho : outs 0 es ρ = some os) (hw : WOk K (amb0 G H es vs) G' H' ρ σ w v) (hn : ∀ i, w ≠ .al i) : CallPost K G H es vs os w v G' H' := by
  obtain ⟨l, g⟩ := outs_get ho
  refine ⟨R.sub, R.old, fun b o h1 h2 => R.new b o h1 h2, fun b o h1 h2 => R.amb b o h1 h2, l, fun i p o hb hi => ?_, ?_⟩
  · obtain ⟨e, h1, h2, h3⟩ := borAt_of hb
    obtain ⟨e', q1, q2, rfl⟩ := g i e o h1 h2 hi
    rw [Nat.zero_add] at q1
    obtain ⟨x, hx, k⟩ := R.ent i e' (lkp_some.mp q1)
    obtain ⟨u, hu⟩ := R.pres i p hb
    obtain ⟨ek, el, ed⟩ := e'
    cases k with
    | imm _ => rcases q2 with z | z <;> cases z
    | own _ _ _ => rcases q2 with z | z <;> cases z
    | bor z1 z2 z3 =>
      have z2 : borAt es vs i = some _ := z2
      rw [hb] at z2; cases z2
      exact .inl ⟨rfl, z1, z3⟩
    | fb z1 z2 =>
      have z1 : borAt es vs i = some _ := z1
      rw [hb] at z1; cases z1
      exact .inr ⟨rfl, z2, u, hu⟩
  · cases hw with
    | imm h => exact h
    | fr h1 h2 _ _ h5 => exact ⟨_, rfl, h1, h2, h5⟩
    | al _ _ _ => exact absurd rfl (hn _)
end

/-! ### at the caller -/
section
variable {K : PySem.W.Frag} {a : Amb} {G G' H H' : Hp} {ρ ρ' : Rho} {σ : L2.St} {es os : List En} {ws : List W} {vs : List V} {w : W} {v : V}
theorem RelG.preW {ws ws' : List W} {vs : List V} (hw : TsOk K G σ ws vs) : ∀ {ρ ρ' : Rho}, RelG K a G ρ σ H → preW ws ρ = .ok ws' ρ' → ∃ G', Same G G' ∧ RelG K a G' ρ' σ H ∧ TsOk K G' σ ws' vs := by
  induction vs generalizing G ws ws' with
  | nil =>
    cases hw
    intro ρ ρ' R h
    cases h
    exact ⟨G, Same.refl _, R, .nil⟩
  | cons v vs ih =>
    cases hw with
    | @cons w _ ws _ h1 h2 =>
      intro ρ ρ' R h
      have plain : ∀ {w' : W}, TOk K G σ w' v → ((RC.preW ws ρ).bnd fun us ρ2 => Rs.ok (w' :: us) ρ2) = .ok ws' ρ' → ∃ G', Same G G' ∧ RelG K a G' ρ' σ H ∧ TsOk K G' σ ws' (v :: vs) := fun {w'} hw' h => by
        obtain ⟨us, ρ1, e1, h⟩ := bnd_of h
        cases h
        obtain ⟨G1, s1, R1, t1⟩ := ih h2 R e1
        exact ⟨G1, s1, R1, .cons (hw'.ext s1) t1⟩
      cases w with
      | imm d => exact plain h1 h
      | fr d => exact plain h1 h
      | al i =>
        cases he : lkp ρ i with
        | none => simp only [RC.preW, he] at h; cases h
        | some e =>
          simp only [RC.preW, he] at h
          split at h
          · obtain ⟨d, ρ1, e1, h⟩ := bnd_of h
            obtain ⟨us, ρ2, e2, h⟩ := bnd_of h
            cases h
            obtain ⟨G1, s1, R1, q1⟩ := R.frz h1 e1
            obtain ⟨G2, s2, R2, t2⟩ := ih (h2.ext s1) R1 e2
            exact ⟨G2, s1.trans s2, R2, .cons (q1.ext s2) t2⟩
          · exact plain h1 h
theorem argE_len : ∀ {ws : List W} {es : List En}, argE ρ ws = some es → es.length = ws.length
  | [], _, h => by cases h; rfl
  | w :: ws, es, h => by
    obtain ⟨e, h1, h2⟩ := Option.bind_eq_some_iff.mp (show (arg1 ρ w).bind _ = some es from h)
    obtain ⟨r, h3, rfl⟩ := Option.map_eq_some_iff.mp h2
    simp [argE_len h3]
theorem argE_get : ∀ {ws : List W} {es : List En} {i : Nat} {e : En}, argE ρ ws = some es → es[i]? = some e → ∃ w, ws[i]? = some w ∧ arg1 ρ w = some e
  | [], _, i, e, h, hi => by cases h; simp at hi
  | w :: ws, es, i, e, h, hi => by
    obtain ⟨e', h1, h2⟩ := Option.bind_eq_some_iff.mp (show (arg1 ρ w).bind _ = some es from h)
    obtain ⟨r, h3, rfl⟩ := Option.map_eq_some_iff.mp h2
    cases i with
    | zero => simp at hi; subst hi; exact ⟨w, rfl, h1⟩
    | succ i => exact argE_get (i := i) h3 (by simpa using hi)
theorem TsOk.len {ws : List W} {vs : List V} (h : TsOk K G σ ws vs) : ws.length = vs.length := by
  induction h with
  | nil => rfl
  | cons _ _ ih => simp [ih]
theorem TsOk.get {ws : List W} {vs : List V} (h : TsOk K G σ ws vs) {i : Nat} {w : W} {v : V} (h1 : ws[i]? = some w) (h2 : vs[i]? = some v) : TOk K G σ w v := by
  induction h generalizing i with
  | nil => simp at h1
  | cons h _ ih =>
    cases i with
    | zero => simp at h1 h2; subst h1 h2; exact h
    | succ i => exact ih (by simpa using h1) (by simpa using h2)
theorem arg1_bor {e : En} (h : arg1 ρ w = some e) (hk : e.k = .bor) : ∃ i f, w = .al i ∧ lkp ρ i = some f ∧ f.ow = true ∧ f.lk = false ∧ e = ⟨.bor, false, f.d⟩ := by
  cases w with
  | imm d => cases h; cases hk
  | fr d => cases h; cases hk
  | al i =>
    obtain ⟨f, h1, h2⟩ := Option.bind_eq_some_iff.mp (show (lkp ρ i).bind _ = some e from h)
    split at h2
    · rename_i z
      cases h2
      simp only [Bool.and_eq_true, Bool.not_eq_true'] at z
      exact ⟨i, f, rfl, h1, z.1, z.2, rfl⟩
    · cases h2
theorem arg1_al {e : En} {i : Nat} (h : arg1 ρ (.al i) = some e) : ∃ f, lkp ρ i = some f ∧ f.ow = true ∧ f.lk = false ∧ e = ⟨.bor, false, f.d⟩ := by
  obtain ⟨f, h1, h2⟩ := Option.bind_eq_some_iff.mp (show (lkp ρ i).bind _ = some e from h)
  split at h2
  · rename_i z
    cases h2
    simp only [Bool.and_eq_true, Bool.not_eq_true'] at z
    exact ⟨f, h1, z.1, z.2, rfl⟩
  · cases h2
theorem als_get : ∀ {ws : List W} {m n i : Nat}, (als ws).Nodup → ws[m]? = some (.al i) → ws[n]? = some (.al i) → m = n := by
  intro ws
  have mem : ∀ {ws : List W} {m i : Nat}, ws[m]? = some (.al i) → i ∈ als ws := by
    intro ws
    induction ws with
    | nil => intro m i h; simp at h
    | cons w ws ih =>
      intro m i h
      cases m with
      | zero => simp at h; subst h; exact List.mem_cons_self
      | succ m =>
        have := ih (m := m) (i := i) (by simpa using h)
        cases w <;> first | exact this | exact List.mem_cons_of_mem _ this
  induction ws with
  | nil => intro m n i _ h; simp at h
  | cons w ws ih =>
    intro m n i hn h1 h2
    have tl : (als ws).Nodup := by
      cases w <;> first | exact hn | exact (List.nodup_cons.mp hn).2
    cases m with
    | zero =>
      cases n with
      | zero => rfl
      | succ n =>
        simp at h1
        subst h1
        exact absurd (mem (m := n) (by simpa using h2)) (List.nodup_cons.mp hn).1
    | succ m =>
      cases n with
      | zero =>
        simp at h2
        subst h2
        exact absurd (mem (m := m) (by simpa using h1)) (List.nodup_cons.mp hn).1
      | succ n => exact congrArg Nat.succ (ih tl (by simpa using h1) (by simpa using h2))
theorem als_mem : ∀ {ws : List W} {i : Nat}, i ∈ als ws → ∃ m : Nat, ws[m]? = some (W.al i)
  | [], _, h => nomatch h
  | w :: ws, i, h => by
    have tl : i ∈ als ws → ∃ m : Nat, (w :: ws)[m]? = some (W.al i) := fun q => by
      obtain ⟨m, hm⟩ := als_mem q
      exact ⟨m + 1, by simpa using hm⟩
    cases w with
    | imm d => exact tl h
    | fr d => exact tl h
    | al j =>
      rcases List.mem_cons.mp h with rfl | h
      · exact ⟨0, rfl⟩
      · exact tl h
theorem call_pre (R : RelG K a G ρ σ H) (T : TsOk K G σ ws vs) (he : argE ρ ws = some es) (hn : (als ws).Nodup) : CallPre K G H es vs := by
  have bor : ∀ {i : Nat} {e : En} {v : V}, es[i]? = some e → e.k = .bor → vs[i]? = some v → ∃ j f, ws[i]? = some (.al j) ∧ ρ[j]? = some (some f) ∧ f.ow = true ∧ σ[j]? = some (some v) := fun {i e v} h1 h2 h3 => by
    obtain ⟨w, hw, ha⟩ := argE_get he h1
    obtain ⟨j, f, rfl, q1, q2, q3, q4⟩ := arg1_bor ha h2
    exact ⟨j, f, hw, lkp_some.mp q1, q2, T.get hw h3⟩
  refine ⟨(argE_len he).trans T.len, fun i e v h1 h2 => ?_, fun i j e f p h1 h2 k1 k2 v1 v2 => ?_, R.sub⟩
  · obtain ⟨w, hw, ha⟩ := argE_get he h1
    have t := T.get hw h2
    cases w with
    | imm d => cases ha; exact .imm t
    | fr d => cases ha; exact .imm t
    | al j =>
      obtain ⟨f, q1, q2, q3, rfl⟩ := arg1_al ha
      obtain ⟨p, rfl, g, c, _, _⟩ := R.owG (lkp_some.mp q1) q2 t
      exact .bor g c
  · obtain ⟨i', f1, a1, a2, a3, a4⟩ := bor h1 k1 v1
    obtain ⟨j', f2, b1, b2, b3, b4⟩ := bor h2 k2 v2
    have := R.sep i' j' f1 f2 p a2 b2 a3 b3 a4 b4
    subst this
    exact als_get hn a1 b1
def updE (e o : En) : En := match o.k with
  | .bor => { e with d := o.d }
  | _ => { e with k := frzK e.k, d := o.d }
theorem outE_spec : ∀ {ws : List W} {os : List En} {ρ ρ1 : Rho}, outE ws os ρ = some ρ1 → (als ws).Nodup → ρ1.length = ρ.length ∧ (∀ j, j ∉ als ws → ρ1[j]? = ρ[j]?) ∧
    ∀ (m j : Nat), ws[m]? = some (.al j) → ∃ e o, os[m]? = some o ∧ ρ[j]? = some (some e) ∧ (o.k = .bor ∨ o.k = .fb) ∧ ρ1[j]? = some (some (updE e o))
  | [], [], ρ, ρ1, h, _ => by
    cases h
    exact ⟨rfl, fun _ _ => rfl, fun m j h => by simp at h⟩
  | [], _ :: _, _, _, h, _ => by cases h
  | w :: ws, [], _, _, h, _ => by cases w <;> cases h
  | .imm d :: ws, o :: os, ρ, ρ1, h, hn => by
    obtain ⟨q1, q2, q3⟩ := outE_spec (ws := ws) (show outE ws os ρ = some ρ1 from h) hn
    refine ⟨q1, q2, fun m j hm => ?_⟩
    cases m with
    | zero => simp at hm
    | succ m => exact q3 m j (by simpa using hm)
  | .fr d :: ws, o :: os, ρ, ρ1, h, hn => by
    obtain ⟨q1, q2, q3⟩ := outE_spec (ws := ws) (show outE ws os ρ = some ρ1 from h) hn
    refine ⟨q1, q2, fun m j hm => ?_⟩
    cases m with
    | zero => simp at hm
    | succ m => exact q3 m j (by simpa using hm)
  | .al i :: ws, o :: os, ρ, ρ1, h, hn => by
    have h : (match lkp ρ i with
      | some e => (match o.k with
        | .bor => outE ws os (ρ.set i (some { e with d := o.d }))
        | .fb => outE ws os (ρ.set i (some { e with k := frzK e.k, d := o.d }))
        | _ => none)
      | none => none) = some ρ1 := h
    have hn' := List.nodup_cons.mp hn
    cases he : lkp ρ i with
    | none => rw [he] at h; cases h
    | some e =>
      rw [he] at h
      have hk : (o.k = .bor ∨ o.k = .fb) ∧ outE ws os (ρ.set i (some (updE e o))) = some ρ1 := by
        unfold updE
        cases q : o.k with
        | imm => rw [q] at h; cases h
        | own => rw [q] at h; cases h
        | bor => rw [q] at h; exact ⟨.inl rfl, h⟩
        | fb => rw [q] at h; exact ⟨.inr rfl, h⟩
      obtain ⟨q1, q2, q3⟩ := outE_spec hk.2 hn'.2
      have hei := lkp_some.mp he
      refine ⟨by rw [q1, List.length_set], fun j hj => ?_, fun m j hm => ?_⟩
      · have hj' : j ≠ i ∧ j ∉ als ws := ⟨fun z => hj (by rw [z]; exact List.mem_cons_self), fun z => hj (List.mem_cons_of_mem _ z)⟩
        rw [q2 j hj'.2, get_set_ne hj'.1]
      · cases m with
        | zero =>
          simp at hm
          subst hm
          exact ⟨e, o, rfl, hei, hk.1, by rw [q2 i hn'.1]; exact get_set_self hei⟩
        | succ m =>
          have hm : ws[m]? = some (.al j) := by simpa using hm
          obtain ⟨e', o', z1, z2, z3, z4⟩ := q3 m j hm
          have nj : j ≠ i := fun z => hn'.1 (by
            subst z
            have mem : ∀ {ws : List W} {m i : Nat}, ws[m]? = some (.al i) → i ∈ als ws := by
              intro ws
              induction ws with
              | nil => intro m i h; simp at h
              | cons w ws ih =>
                intro m i h
                cases m with
                | zero => simp at h; subst h; exact List.mem_cons_self
                | succ m =>
                  have := ih (m := m) (i := i) (by simpa using h)
                  cases w <;> first | exact this | exact List.mem_cons_of_mem _ this
            exact mem hm)
          rw [get_set_ne nj] at z2
          exact ⟨e', o', by simpa using z1, z2, z3, z4⟩
theorem call_post (R : RelG K a G ρ σ H) (T : TsOk K G σ ws vs) (he : argE ρ ws = some es) (hn : (als ws).Nodup) (C : CallPost K G H es vs os w v G' H') (ho : outE ws os ρ = some ρ') : RelG K a G' ρ' σ H' ∧ WOk K a G' H' ρ' σ w v := by
  obtain ⟨l1, q2, q3⟩ := outE_spec ho hn
  -- a slot that was handed on
  have at_ : ∀ {j : Nat}, j ∈ als ws → ∃ m e o p, os[m]? = some o ∧ ρ[j]? = some (some e) ∧ e.ow = true ∧ e.lk = false ∧ (o.k = .bor ∨ o.k = .fb) ∧ ρ'[j]? = some (some (updE e o)) ∧ σ[j]? = some (some (.ref p)) ∧ borAt es vs m = some p ∧ EnOk K a G H j e (.ref p) := fun {j} hj => by
    obtain ⟨m, hm⟩ := als_mem hj
    obtain ⟨e, o, z1, z2, z3, z4⟩ := q3 m j hm
    have hml := (List.getElem?_eq_some_iff.mp hm).1
    have hme : m < es.length := by rw [argE_len he]; exact hml
    have hmv : m < vs.length := by rw [← T.len]; exact hml
    have hes : es[m]? = some es[m] := List.getElem?_eq_getElem hme
    have hvs : vs[m]? = some vs[m] := List.getElem?_eq_getElem hmv
    obtain ⟨w', hw', ha⟩ := argE_get he hes
    rw [hm] at hw'; cases hw'
    obtain ⟨f, y1, y2, y3, y4⟩ := arg1_al ha
    have y1 := lkp_some.mp y1
    rw [z2] at y1; cases y1
    have hσ : σ[j]? = some (some vs[m]) := T.get hm hvs
    obtain ⟨p, hp, _, _, _, k⟩ := R.owG z2 y2 hσ
    rw [hp] at hσ hvs k
    exact ⟨m, e, o, p, z1, z2, y2, y3, z3, z4, hσ, borAt_is hes (by rw [y4]) hvs, k⟩
  -- what was handed on is a slot's own
  have bor_of : ∀ {i : Nat} {p : Addr}, borAt es vs i = some p → ∃ j e, j ∈ als ws ∧ ρ[j]? = some (some e) ∧ e.ow = true ∧ σ[j]? = some (some (.ref p)) ∧ ws[i]? = some (.al j) := fun {i p} h => by
    obtain ⟨e, h1, h2, h3⟩ := borAt_of h
    obtain ⟨w', hw', ha⟩ := argE_get he h1
    obtain ⟨j, f, rfl, y1, y2, y3, y4⟩ := arg1_bor ha h2
    have mem : ∀ {ws : List W} {m i : Nat}, ws[m]? = some (.al i) → i ∈ als ws := by
      intro ws
      induction ws with
      | nil => intro m i h; simp at h
      | cons w ws ih =>
        intro m i h
        cases m with
        | zero => simp at h; subst h; exact List.mem_cons_self
        | succ m =>
          have := ih (m := m) (i := i) (by simpa using h)
          cases w <;> first | exact this | exact List.mem_cons_of_mem _ this
    exact ⟨j, f, mem hw', lkp_some.mp y1, y2, T.get hw' h3, hw'⟩
  have kp : ∀ {b : Addr} {o : HO}, H b = some o → (∀ i, borAt es vs i ≠ some b) → G b = none → H' b = some o ∧ G' b = none := fun {b o} h1 h2 h3 => by
    refine ⟨C.amb b o h1 h2, ?_⟩
    cases q : G' b with
    | none => rfl
    | some u =>
      rcases C.new b u q h3 with z | ⟨i, z⟩
      · rw [h1] at z; cases z
      · exact absurd z (h2 i)
  have owner : ∀ {j : Nat} {f : En}, ρ'[j]? = some (some f) → f.ow = true → ∃ f', ρ[j]? = some (some f') ∧ f'.ow = true := fun {j f} h1 h2 => by
    by_cases hj : j ∈ als ws
    · obtain ⟨m, e, o, p, _, z2, z3, _⟩ := at_ hj
      exact ⟨e, z2, z3⟩
    · rw [q2 j hj] at h1
      exact ⟨f, h1, h2⟩
  have R' : RelG K a G' ρ' σ H' := by
    refine ⟨l1.trans R.len, C.sub, R.old.trans C.old, fun b o h g => ?_, fun b o h g => ?_, fun i b h => ?_, fun j f hj => ?_, fun i j e f p h1 h2 o1 o2 s1 s2 => ?_, fun q hq => ?_, fun q hq => ?_⟩
    · cases hG : G b with
      | some u => exact R.new b u hG g
      | none =>
        rcases C.new b o h hG with z | ⟨i, z⟩
        · exact .inl (R.new0 z)
        · obtain ⟨j, e, y1, y2, y3, y4, _⟩ := bor_of z
          obtain ⟨p, y5, _, _, y6, _⟩ := R.owG y2 y3 y4
          cases y5
          exact y6
    · have hb := R.amb b o h g
      refine C.amb b o hb fun i z => ?_
      obtain ⟨j, e, y1, y2, y3, y4, _⟩ := bor_of z
      obtain ⟨p, y5, _, _, y6, _⟩ := R.owG y2 y3 y4
      cases y5
      rcases y6 with y6 | ⟨i', y6⟩
      · rw [y6] at h; cases h
      · exact g _ y6
    · obtain ⟨o, ho'⟩ := R.pres i b h
      by_cases hb : ∃ m, borAt es vs m = some b
      · obtain ⟨m, hm⟩ := hb
        obtain ⟨j, e, y1, y2, y3, y4, y5⟩ := bor_of hm
        obtain ⟨e', o', z1, z2, z3, z4⟩ := q3 m j y5
        rcases C.out m b o' hm z1 with ⟨_, _, c⟩ | ⟨_, _, u, c⟩
        · exact c.some
        · exact ⟨u, c⟩
      · exact ⟨o, C.amb b o ho' fun m z => hb ⟨m, z⟩⟩
    · by_cases hm : j ∈ als ws
      · obtain ⟨m, e, o, p, z1, z2, z3, z4, z5, z6, z7, z8, k⟩ := at_ hm
        rw [z6] at hj; cases hj
        refine ⟨_, z7, ?_⟩
        obtain ⟨ek, el, ed⟩ := e
        rcases C.out m p o z8 z1 with ⟨c1, c2, c3⟩ | ⟨c1, c2, _⟩
        · have e2 : updE ⟨ek, el, ed⟩ o = ⟨ek, el, o.d⟩ := by unfold updE; rw [c1]
          rw [e2]
          cases k with
          | imm _ => cases z3
          | own y1 y2 y3 => exact .own c2 y2 c3
          | bor y1 y2 y3 => exact .bor c2 y2 c3
          | fb _ _ => cases z3
        · have e2 : updE ⟨ek, el, ed⟩ o = ⟨frzK ek, el, o.d⟩ := by unfold updE; rw [c1]
          rw [e2]
          cases k with
          | imm _ => cases z3
          | own y1 y2 y3 => exact .imm c2
          | bor y1 y2 y3 => exact .fb y2 c2
          | fb _ _ => cases z3
      · rw [q2 j hm] at hj
        obtain ⟨x, hx, k⟩ := R.ent j f hj
        refine ⟨x, hx, k.ext C.old fun fo p z => ?_⟩
        subst z
        have np : ∀ i, borAt es vs i ≠ some p := fun i z => by
          obtain ⟨j', e, y1, y2, y3, y4, _⟩ := bor_of z
          have := R.sep j j' f e p hj y2 fo y3 hx y4
          subst this
          exact hm y1
        cases k with
        | imm _ => cases fo
        | own y1 y2 y3 =>
          obtain ⟨u, hu⟩ := y3.some
          obtain ⟨t1, t2⟩ := kp hu np y1
          exact ⟨t1.trans hu.symm, t2⟩
        | bor y1 y2 y3 =>
          obtain ⟨u, hu⟩ := y3.some
          obtain ⟨t1, t2⟩ := kp hu np y1
          exact ⟨t1.trans hu.symm, t2⟩
        | fb _ _ => cases fo
    · obtain ⟨e', y1, y2⟩ := owner h1 o1
      obtain ⟨f', y3, y4⟩ := owner h2 o2
      exact R.sep i j e' f' p y1 y3 y2 y4 s1 s2
    · obtain ⟨e, y1, y2, y3, y4⟩ := R.lck q hq
      have nm : q.1 ∉ als ws := fun z => by
        obtain ⟨m, e', o, p, _, z2, _, z4, _⟩ := at_ z
        rw [y1] at z2; cases z2
        rw [y2] at z4; cases z4
      exact ⟨e, by rw [q2 _ nm]; exact y1, y2, y3, y4⟩
    · obtain ⟨y1, y2, y3, y4⟩ := R.kep q hq
      have np : ∀ i, borAt es vs i ≠ some q.1 := fun i z => by
        obtain ⟨j, e, x1, x2, x3, x4, _⟩ := bor_of z
        exact y3 j e x2 x3 x4
      obtain ⟨t1, t2⟩ := kp y1 np y2
      exact ⟨t1, t2, fun i e h1 h2 => by
        obtain ⟨e', x1, x2⟩ := owner h1 h2
        exact y3 i e' x1 x2, y4⟩
  refine ⟨R', ?_⟩
  have r := C.res
  cases w with
  | imm d => exact .imm r
  | fr d =>
    obtain ⟨p, rfl, r1, r2, r3⟩ := r
    exact .fr r1 (R.new0 r2) (fun i e h1 h2 => by
      obtain ⟨e', x1, x2⟩ := owner h1 h2
      exact R.newFree r2 i e' x1 x2) (R.newKep r2) r3
  | al i => exact r.elim
end
end RC
end RC7a
section RC7b
set_option Elab.async false
set_option linter.all false
set_option maxRecDepth 100000
set_option autoImplicit false
set_option maxHeartbeats 4000000
/-! RC7b: changes of a slot's list; methods; combinators of readings -/
namespace RC
open PySem PySem.Spec PyProof.Rows L2

section
variable {K : PySem.W.Frag} {a : Amb} {G G' H H' : Hp} {ρ ρ' : Rho} {σ : L2.St} {v : V}
theorem chg_of {α : Type} {i : Nat} {f : D → Option (D × α)} {r : α} (h : chg i f ρ = .ok r ρ') : ∃ e d', ρ[i]? = some (some e) ∧ e.ow = true ∧ e.lk = false ∧ f e.d = some (d', r) ∧ ρ' = ρ.set i (some { e with d := d' }) := by
  unfold chg at h
  cases he : lkp ρ i with
  | none => rw [he] at h; cases h
  | some e =>
    rw [he] at h
    simp only at h
    split at h
    · rename_i z
      simp only [Bool.and_eq_true, Bool.not_eq_true'] at z
      cases hf : f e.d with
      | none => rw [hf] at h; cases h
      | some q =>
        obtain ⟨d', r'⟩ := q
        rw [hf] at h
        cases h
        exact ⟨e, d', lkp_some.mp he, z.1, z.2, hf, rfl⟩
    · cases h
/-- a slot's list is changed -/
theorem RelG.chgL {α : Type} (R : RelG K a G ρ σ H) {i : Nat} {f : D → Option (D × α)} {r : α} (h : chg i f ρ = .ok r ρ') (hv : σ[i]? = some (some v)) (hl : ∀ d q, f d = some q → ∃ ds, d = .list ds) :
    ∃ (p : Addr) (ds : List D) (xs : List V) (d' : D), v = .ref p ∧ H p = some (.lst xs) ∧ DenAll K G xs ds ∧ f (.list ds) = some (d', r) ∧ ∀ o', Cell K G (some o') d' → RelG K a G ρ' σ (upd H p o') := by
  obtain ⟨e, d', h1, h2, h3, h4, rfl⟩ := chg_of h
  obtain ⟨p, rfl, _, c, _, _⟩ := R.owG h1 h2 hv
  obtain ⟨ds, hd⟩ := hl _ _ h4
  obtain ⟨ek, el, ed⟩ := e
  simp only at hd h3 c h4
  subst hd
  have hc : ∃ xs, H p = some (.lst xs) ∧ DenAll K G xs ds := by
    generalize q : H p = x at c
    cases c with
    | lst t => exact ⟨_, rfl, t⟩
  obtain ⟨xs, q1, q2⟩ := hc
  exact ⟨p, ds, xs, d', rfl, q1, q2, h4, fun o' c' => R.change h1 h2 h3 hv c'⟩
theorem RelG.hasL (R : RelG K a G ρ σ H) {i : Nat} (h : RC.hasL i ρ = true) : ∃ (p : Addr) (xs : List V), σ[i]? = some (some (.ref p)) ∧ H p = some (.lst xs) := by
  unfold RC.hasL at h
  cases he : lkp ρ i with
  | none => rw [he] at h; cases h
  | some e =>
    rw [he] at h
    simp only [Bool.and_eq_true] at h
    obtain ⟨h1, h2⟩ := h
    obtain ⟨x, hx, _⟩ := R.ent i e (lkp_some.mp he)
    obtain ⟨p, rfl, _, c, _, _⟩ := R.owG (lkp_some.mp he) h1 hx
    refine ⟨p, ?_⟩
    obtain ⟨ek, el, ed⟩ := e
    generalize q : H p = y at c
    cases c with
    | lst t => exact ⟨_, hx, rfl⟩
    | dct t => cases h2
end
section
variable {X : Cx}
def tyO (K : PySem.W.Frag) (T : String) (x : V) (H : Hp) : Prop := tyV K T x H ∨ (T = "tuple" ∧ ∃ (p : Addr) (o : Obj) (xs : List V), x = .ref p ∧ H p = some (.frz o (.tup xs)) ∧ o.dict = none)
theorem tyO_is {pins : List (Addr × Obj)} {σ : L2.St} {H : Hp} {s : Shared} {T : String} {x : V} {v : Value} (I : Inv X pins σ H s) (r : RelV x v) (ty : tyO X.K T x H) :
    s.TypeIs v T ∧ ∀ a, v = .ref a → ∃ ob, s.heap.get? a = some ob ∧ ob.dict = none := by
  rcases ty with ty | ⟨rfl, p, o, xs, rfl, h, hd⟩
  · exact tyV_is I r ty
  · cases r
    obtain ⟨e, _, its, _, t⟩ := inv_rdT I h
    refine ⟨Heap.IsTuple.typeIs t, fun a q => ?_⟩
    cases q
    exact ⟨o, e, hd⟩
def tBO (K : PySem.W.Frag) (T : String) (r : V → List V → Hp → VK → Prop) (to : TE) (t : TA) : TE := fun σ H Q => to σ H fun x H1 => tyO K T x H1 ∧ t σ H1 fun xs H2 => r x xs H2 Q
variable {o e : Expr} {es : List Expr} {to : TE} {t : TA} {name : Str} {apos cpos : Pos} {T id : String} {r : V → List V → Hp → VK → Prop}
theorem pe_bmo0 (pa : PlainAttrs T) (slot : Slot T name id) (hty : typeOf (.builtin id) = pure (.type "method_descriptor")) (hm : MtR X id r) (ho : PE X o to)
    (hbase : attributeBase o name X.env (eval o X.env) = eval o X.env) (hline : (apos.endLine == cpos.line) = true) : PE X (.Call (.Attribute o name apos) [] [] cpos) (tBO X.K T r to tNil) := by
  refine ⟨fun pins s σ H Q I h => ?_⟩
  refine wpAny_Call_method0_late hbase hline (thn (ho.run pins s σ H _ I h) fun v s1 ⟨x, H1, I1, r1, ty, q1⟩ => ?_)
  obtain ⟨h1, h2⟩ := tyO_is I1 r1 ty
  exact ⟨T, id, pa, slot, hty, h1, h2, Calls.callWith_builtin rfl (PySem.evalArgs_none (hm pins s1 σ H1 x [] v [] Q I1 r1 .nil q1))⟩
theorem pe_bmo (pa : PlainAttrs T) (slot : Slot T name id) (hty : typeOf (.builtin id) = pure (.type "method_descriptor")) (hm : MtR X id r) (ho : PE X o to) (ha : PA X (e :: es) t)
    (hbase : attributeBase o name X.env (eval o X.env) = eval o X.env)
    (hfew : ((backTo cpos (starEach (e :: es) X.env)).all (fun x => !x.1) && (backToKw cpos (keywordEach [] X.env)).all (fun x => x.1.isSome)
      && decide ((e :: es).length + ([] : List Keyword).length + (if ([] : List Keyword).isEmpty then 0 else 1) < 30)) = true)
    (hline : (apos.endLine == cpos.line) = true) (hs : starEach (e :: es) X.env = (false, eval e X.env) :: starEach es X.env) (hplain : (backTo cpos (starEach es X.env)).any (·.1) = false) :
    PE X (.Call (.Attribute o name apos) (e :: es) [] cpos) (tBO X.K T r to t) := by
  refine ⟨fun pins s σ H Q I h => ?_⟩
  refine wpAny_Call_method_late hbase hfew hline rfl (thn (ho.run pins s σ H _ I h) fun v s1 ⟨x, H1, I1, r1, ty, q1⟩ => ?_)
  obtain ⟨h1, h2⟩ := tyO_is I1 r1 ty
  refine ⟨T, id, pa, slot, hty, h1, h2, ?_⟩
  have hA := ha.run cpos pins s1 σ H1 _ I1 q1
  rw [hs] at hA ⊢
  refine Calls.callWith_builtin (by show (false || (backTo cpos (starEach es X.env)).any (·.1)) = false; rw [hplain] <;> rfl) (Calls.evalArgs_plain ?_)
  exact thn hA fun us s2 ⟨vs, H2, I2, r2, q2⟩ => hm pins s2 σ H2 x vs v us Q I2 r1 r2 q2
/-- seq.index(x) -/
def rIdxD (K : PySem.W.Frag) : V → List V → Hp → VK → Prop := fun x vs H Q => ∃ (G : Hp) (c d w : D) (y : V), Same G H ∧ vs = [y] ∧ Sees K G H x c ∧ Sees K G H y d ∧ idxD c d = some w ∧ ∀ v, Den K G v w → Q v H
theorem idxD_of {c d w : D} (h : idxD c d = some w) : ∃ ds j z, seqD c = some ds ∧ shp d = true ∧ shp c = true ∧ w = .int (j : Nat) ∧ ds[j]? = some z ∧ PyData.eqv z d = true ∧ ∀ (m : Nat) (z' : D), m < j → ds[m]? = some z' → PyData.eqv z' d = false := by
  obtain ⟨ds, h1, h2⟩ := Option.bind_eq_some_iff.mp (show (seqD c).bind _ = some w from h)
  split at h2
  · rename_i hs
    obtain ⟨s1, s2⟩ := Bool.and_eq_true_iff.mp hs
    obtain ⟨j, h3, rfl⟩ := Option.map_eq_some_iff.mp h2
    obtain ⟨hj, h4, h5⟩ := List.findIdx?_eq_some_iff_getElem.mp h3
    refine ⟨ds, j, ds[j], h1, s1, s2, rfl, List.getElem?_eq_getElem hj, h4, fun m z' hm hz => ?_⟩
    obtain ⟨hm2, rfl⟩ := List.getElem?_eq_some_iff.mp hz
    simpa using h5 m hm
  · cases h2
theorem mt_lidx (hu : X.A.units + 65 < cLine) : MtR X "list.index" (fun x vs H Q => rIdxD X.K x vs H Q ∧ ∃ ds, Dp X.K H x (.list ds)) := by
  intro pins s σ H x xs v us Q I rx rxs h
  obtain ⟨⟨G, c, d, w, y, sg, rfl, sx, sy, hf, q⟩, ds', hdp⟩ := h
  obtain ⟨ds, j, z, h1, s1, s2, rfl, hz, he, hn⟩ := idxD_of hf
  rcases seqD_of h1 with rfl | rfl
  · obtain ⟨l, as, rfl, _, _⟩ := sx.lst sg
    exact mt_indexD hu pins s σ H _ _ v us Q I rx rxs ⟨l, y, d, ds, j, z, rfl, rfl, sx.dp sg s2, sy.dp sg s1, s2, s1, hz, he, hn, q _ (.int _)⟩
  · obtain ⟨l, as, rfl, ⟨o, ho, _⟩, _, _⟩ := sx.tup sg
    cases hdp with
    | lst hs ha =>
      obtain ⟨its, _, pl, _⟩ := I.list hs
      obtain ⟨_, _, its2, _, o2, e2, c2, _⟩ := inv_rdT I ho
      obtain ⟨o1, n1, e1, c1, _⟩ := pl
      rw [e1] at e2; cases e2
      rw [c1] at c2
      exact absurd (Value.type.inj c2) (by decide)
theorem mt_tidx (hu : X.A.units + 65 < cLine) : MtR X "tuple.index" (fun x vs H Q => ∃ ds, ∃ (G : Hp) (d w : D) (y : V), Same G H ∧ vs = [y] ∧ Sees X.K G H x (.tuple ds) ∧ Sees X.K G H y d ∧ idxD (.tuple ds) d = some w ∧ ∀ v, Den X.K G v w → Q v H) := by
  intro pins s σ H x xs v us Q I rx rxs h
  obtain ⟨ds, G, d, w, y, sg, rfl, sx, sy, hf, q⟩ := h
  obtain ⟨ds', j, z, h1, s1, s2, rfl, hz, hzj, hno⟩ := idxD_of hf
  cases h1
  obtain ⟨l, as0, rfl, ⟨o, ho, _⟩, t1, _⟩ := sx.tup sg
  cases rx
  obtain ⟨uy, rfl, ry⟩ := vals1 rxs
  obtain ⟨bs, r1⟩ := Dp.reads I d y uy (sy.dp sg s1) ry
  have hxs : PyData.canLayAll0 ds = true := SeqAt.canLay_of_shaped s2
  have hroom : X.A.units + 1 + min (PyData.depthAll ds) d.depth < cLine := room_in_shaped s1 hu
  obtain ⟨_, hlen, its, rv, ob, e0, hc, n, hdt⟩ := inv_rdT I ho
  obtain ⟨cls, dd, data, sls⟩ := ob
  simp only at hc hdt
  subst hc hdt
  have hsees := sx.dp sg s2
  have h4 : ∃ as, ReadsAll s.heap its ds as := by
    have : ∀ {xs : List V} {ds : List D} {us : List Value}, DenAll X.K G xs ds → PyData.canLayAll0 ds = true → Vals xs us → ∃ as, ReadsAll s.heap us ds as := by
      intro xs ds us t c r
      exact Dp.readsAll I ds xs us ((t.ext sg).dpp c) r
    exact this t1 hxs rv
  obtain ⟨as, h4⟩ := h4
  have hn : its.length = ds.length := SeqAt.ReadsAll.length ds its as h4
  have hmap : its.map (SeqAt.readOf s.heap) = ds := SeqAt.readsAll_map ds its as hxs h4
  obtain ⟨hjd, _⟩ := List.getElem?_eq_some_iff.mp hz
  have hjl : j < its.length := by omega
  have hj : j < its.toArray.size := by simpa using hjl
  have at_ : ∀ (m : Nat) (hm : m < its.toArray.size) (z' : D), ds[m]? = some z' → SeqAt.readOf s.heap its.toArray[m] = z' := by
    intro m hm z' hz'
    have hml : m < its.length := by simpa using hm
    rw [← hmap, List.getElem?_map, List.getElem?_eq_getElem hml] at hz'
    have e1 : SeqAt.readOf s.heap its[m] = z' := Option.some.inj (show some (SeqAt.readOf s.heap its[m]) = some z' from hz')
    simpa using e1
  refine call_meets PySem.F.slot_tuple_index ⟨_, e0, rfl⟩ PySem.F.entry_tuple_index (PySem.F.args_tuple_index_2 _ _)
    (_root_.TI.tuple_indexAt l its.toArray n dd sls uy (fun u => PyData.eqv (SeqAt.readOf s.heap u) d) j hj ?_ ?_) ⟨e0, SeqAt.items_eqAt (vs := its.toArray) (show ReadsAll s.heap its.toArray.toList ds as from h4) r1 hxs (SeqAt.canLay_of_shaped s1) hroom, ?_⟩
  · show PyData.eqv (SeqAt.readOf s.heap its.toArray[j]) d = true
    rw [at_ j hj z hz]
    exact hzj
  · intro m hm hmj
    have hmd : m < ds.length := by omega
    have hz' : ds[m]? = some ds[m] := List.getElem?_eq_getElem hmd
    show PyData.eqv (SeqAt.readOf s.heap its.toArray[m]) d = false
    rw [at_ m hm _ hz']
    exact hno m _ hmj hz'
  · exact ⟨.int (j : Nat), H, I.tok _, ⟨_, rfl⟩, q _ (.int _)⟩
end
/-! ### combinators -/
section
variable {K : PySem.W.Frag} {f g : Rho → Rs (List W)} {α : Type} {a : Amb} {G H : Hp} {ρ ρ' : Rho} {σ : L2.St} {r : α}
theorem oneD_of {k : D → Rho → Rs α} {ws : List W} (h : oneD k ws ρ = .ok r ρ') : ∃ w d, ws = [w] ∧ der ρ w = some d ∧ k d ρ = .ok r ρ' := by
  unfold oneD at h
  split at h
  · split at h
    · rename_i hd; exact ⟨_, _, rfl, hd, h⟩
    · cases h
  · cases h
theorem one_of {k : W → Rho → Rs α} {ws : List W} (h : one k ws ρ = .ok r ρ') : ∃ w, ws = [w] ∧ k w ρ = .ok r ρ' := by
  unfold one at h
  split at h
  · exact ⟨_, rfl, h⟩
  · cases h
theorem two_of {k : D → D → Rho → Rs α} {xs ys : List W} (h : two k xs ys ρ = .ok r ρ') : ∃ x y d e, xs = [x] ∧ ys = [y] ∧ der ρ x = some d ∧ der ρ y = some e ∧ k d e ρ = .ok r ρ' := by
  unfold two at h
  split at h
  · split at h
    · rename_i h1 h2; exact ⟨_, _, _, _, rfl, rfl, h1, h2, h⟩
    · cases h
  · cases h
theorem asB_of {ws : List W} {b : Bool} (h : asB ws ρ = .ok b ρ') : ∃ w, ws = [w] ∧ der ρ w = some (.bool b) ∧ ρ' = ρ := by
  unfold asB at h
  split at h
  · split at h
    · rename_i hd; cases h; exact ⟨_, rfl, hd, rfl⟩
    · cases h
  · cases h
/-- one expression by its datum -/
theorem tI_d {k : D → Rho → Rs α} {Q : V → Hp → Prop} (h : ((f ρ).bnd fun xs ρ1 => oneD k xs ρ1) = .ok r ρ') (R : RelG K a G ρ σ H)
    (c : ∀ d ρ1 v H1 G1, k d ρ1 = .ok r ρ' → Same G G1 → RelG K a G1 ρ1 σ H1 → Sees K G1 H1 v d → Q v H1) : tI K f σ H Q := by
  refine tI_then h (fun ws ρ1 _ q => ?_) R fun w ρ1 v H1 G1 _ q s1 R1 t => ?_
  · obtain ⟨w, d, rfl, _, _⟩ := oneD_of q
    exact ⟨w, rfl⟩
  · obtain ⟨w', d, e, hd, hk⟩ := oneD_of q
    cases e
    exact c d ρ1 v H1 G1 hk s1 R1 (R1.sees t hd)
/-- two expressions by their data -/
theorem tI_2 {k : D → D → Rho → Rs α} {Q : V → V → Hp → Prop} (h : ((f ρ).bnd fun xs ρ1 => (g ρ1).bnd fun ys ρ2 => two k xs ys ρ2) = .ok r ρ') (R : RelG K a G ρ σ H)
    (c : ∀ d e ρ2 v u H2 G2, k d e ρ2 = .ok r ρ' → Same G G2 → RelG K a G2 ρ2 σ H2 → Sees K G2 H2 v d → Sees K G2 H2 u e → Q v u H2) : tI K f σ H fun x H1 => tI K g σ H1 fun y H2 => Q x y H2 := by
  refine tI_then h (fun ws ρ1 _ q => ?_) R fun w ρ1 v H1 G1 _ q s1 R1 t => ?_
  · obtain ⟨ys, ρ2, _, q⟩ := bnd_of q
    obtain ⟨x, y, _, _, rfl, _⟩ := two_of q
    exact ⟨x, rfl⟩
  · refine tI_then q (fun ws ρ2 _ q => ?_) R1 fun w2 ρ2 u H2 G2 _ q s2 R2 t2 => ?_
    · obtain ⟨x, y, _, _, _, rfl, _⟩ := two_of q
      exact ⟨y, rfl⟩
    · obtain ⟨x, y, d, e, e1, e2, hd, he, hk⟩ := two_of q
      cases e1
      cases e2
      exact c d e ρ2 v u H2 G2 hk (s1.trans s2) R2 (R2.sees (t.ext s2) hd) (R2.sees t2 he)
/-- the end of an expression -/
theorem tI_end {Q : VK} {w : W} (q : ∀ v H' G', Same G G' → RelG K a G' ρ' σ H' → WOk K a G' H' ρ' σ w v → Q v H') {G1 H1 H2 : Hp} {v : V} (s : Same G G1) (R : RelG K a G1 ρ' σ H1) (h : Res K G1 H1 w v H2) : Q v H2 := by
  obtain ⟨G2, s2, R2, k⟩ := R.res h
  exact q v H2 G2 (s.trans s2) R2 k
theorem tA_of {Q : List V → Hp → Prop} {f : Rho → Rs (List W)} {g : List W → Rho → Rs α} (h : (f ρ).bnd g = .ok r ρ') (R : RelG K a G ρ σ H)
    (c : ∀ ws ρ1 vs H1 G1, g ws ρ1 = .ok r ρ' → Same G G1 → RelG K a G1 ρ1 σ H1 → TsOk K G1 σ ws vs → Q vs H1) : tA K f σ H Q := by
  obtain ⟨ws, ρ1, e1, e2⟩ := bnd_of h
  exact ⟨a, G, ρ, ws, ρ1, e1, R, fun vs H1 G1 s1 R1 t => c ws ρ1 vs H1 G1 e2 s1 R1 t⟩
end
end RC
end RC7b
section RC7c
set_option Elab.async false
set_option linter.all false
set_option maxRecDepth 100000
set_option autoImplicit false
set_option maxHeartbeats 4000000
/-! RC7c: what loops walk; targets; loops and comprehensions by data -/
namespace RC
open PySem PySem.Spec PyProof.Rows L2

def ItemOk (K : PySem.W.Frag) (r : Bool) (G H : Hp) (x : V) (d : D) (H' : Hp) : Prop := (H' = H ∧ Den K G x d) ∨ r = true ∧ ∃ (T : Addr) (xs : List V) (es : List D), x = .ref T ∧ d = .tuple es ∧ H T = none ∧ H' = upd H T (.tup xs) ∧ DenAll K G xs es
def Src (K : PySem.W.Frag) (r : Bool) (a : Amb) (G : Hp) (J : It) (ds : List D) : Prop := ∀ (G' H : Hp) (ρ : Rho) (σ : L2.St), Same G G' → RelG K a G' ρ σ H → ∀ i : Nat,
  (∀ d, ds[i]? = some d → J.go i H ∧ ∀ x H', J.yld i H x H' → ItemOk K r G' H x d H') ∧ (ds.length ≤ i → J.stop i H)
inductive LockRel (a : Amb) (ρ : Rho) (σ : L2.St) : W → Amb → Prop
  | imm (d : D) : LockRel a ρ σ (.imm d) a
  | fr (d : D) : LockRel a ρ σ (.fr d) a
  | al {i : Nat} {e : En} {p : Addr} : ρ[i]? = some (some e) → σ[i]? = some (some (.ref p)) → LockRel a ρ σ (.al i) { a with lks := (i, p, e.d) :: a.lks }
/-- a loop's source -/
def iS (K : PySem.W.Frag) (r : Bool) (f : Rho → Rs (List D × W)) : TI := fun σ H R => ∃ (a : Amb) (G : Hp) (ρ : Rho) (ds : List D) (w : W) (ρ' : Rho), f ρ = .ok (ds, w) ρ' ∧ RelG K a G ρ σ H ∧
  ∀ J H' G' a', Same G G' → LockRel a ρ' σ w a' → RelG K a G' ρ' σ H' → RelG K a' G' (lock ρ' w) σ H' → Src K r a' G' J ds → R J H'
section
variable {K : PySem.W.Frag} {r : Bool} {a a' : Amb} {G G' H H' : Hp} {ρ ρ' : Rho} {σ : L2.St} {v : V} {w : W}
theorem src_list {p : Addr} {ds : List D} (h : ∀ G' H ρ σ, Same G G' → RelG K a G' ρ σ H → ∃ xs, SqL K H p xs ∧ DenAll K G' xs ds) : Src K r a G (Itl K p) ds := by
  intro G' H ρ σ s R i
  obtain ⟨xs, h1, t⟩ := h G' H ρ σ s R
  refine ⟨fun d hd => ?_, fun hi => ⟨xs, h1, by rw [t.len]; exact hi⟩⟩
  obtain ⟨x, hx, dn⟩ := t.get hd
  refine ⟨⟨xs, x, h1, hx⟩, fun y H' hy => .inl ⟨hy.1, ?_⟩⟩
  have := hy.2 xs (h1)
  rw [hx] at this; cases this
  exact dn
theorem src_tup {p : Addr} {ds : List D} (h : ∀ G' H ρ σ, Same G G' → RelG K a G' ρ σ H → ∃ xs, Rd H p (.tup xs) ∧ DenAll K G' xs ds) : Src K r a G (Itt K p) ds := by
  intro G' H ρ σ s R i
  obtain ⟨xs, h1, t⟩ := h G' H ρ σ s R
  refine ⟨fun d hd => ?_, fun hi => ⟨xs, .inl h1, by rw [t.len]; exact hi⟩⟩
  obtain ⟨x, hx, dn⟩ := t.get hd
  refine ⟨⟨xs, x, .inl h1, hx⟩, fun y H' hy => .inl ⟨hy.1, ?_⟩⟩
  have := hy.2 xs (.inl h1)
  rw [hx] at this; cases this
  exact dn
theorem src_rng {n : Int} : Src K r a G (Itr 0 n.toNat) ((List.range n.toNat).map fun k => .int (k : Nat)) := by
  intro G' H ρ σ s R i
  refine ⟨fun d hd => ?_, fun hi => show n.toNat ≤ i by simpa using hi⟩
  rw [List.getElem?_map] at hd
  obtain ⟨k, hk, rfl⟩ := Option.map_eq_some_iff.mp hd
  obtain ⟨hl, hk⟩ := List.getElem?_eq_some_iff.mp hk
  rw [List.getElem_range] at hk
  subst hk
  refine ⟨show i < n.toNat by simpa using hl, fun x H' hy => .inl ⟨hy.1, ?_⟩⟩
  rw [hy.2, Int.zero_add]
  exact .int _
theorem src_zip {p q : Addr} {as bs : List D} {xs ys : List V} (h1 : SqL K G p xs) (h2 : SqL K G q ys) (t1 : DenAll K G xs as) (t2 : DenAll K G ys bs) : Src K true a G (Itz K p q) ((as.zip bs).map fun p => .tuple [p.1, p.2]) := by
  intro G' H ρ σ s R i
  have r1 : SqL K H p xs := Same.sql R.sub (Same.sql s h1)
  have r2 : SqL K H q ys := Same.sql R.sub (Same.sql s h2)
  refine ⟨fun d hd => ?_, fun hi => ⟨xs, ys, r1, r2, ?_⟩⟩
  · rw [List.getElem?_map] at hd
    obtain ⟨z, hz, rfl⟩ := Option.map_eq_some_iff.mp hd
    obtain ⟨z1, z2⟩ := List.getElem?_zip_eq_some.mp hz
    obtain ⟨x, hx, dx⟩ := t1.get z1
    obtain ⟨y, hy, dy⟩ := t2.get z2
    refine ⟨⟨xs, ys, x, y, r1, r2, hx, hy⟩, fun v H' hv => .inr ⟨rfl, ?_⟩⟩
    obtain ⟨T, x', y', rfl, hT, rfl, q1, q2⟩ := hv
    have e1 := q1 xs r1
    have e2 := q2 ys r2
    rw [hx] at e1; cases e1
    rw [hy] at e2; cases e2
    exact ⟨T, [x, y], [z.1, z.2], rfl, rfl, hT, rfl, .cons (dx.ext s) (.cons (dy.ext s) .nil)⟩
  · rw [t1.len, t2.len]
    rw [List.length_map, List.length_zip] at hi
    omega
theorem src_zipT {p q : Addr} {as bs : List D} {xs ys : List V} (h1 : Rd G p (.tup xs)) (h2 : Rd G q (.tup ys)) (t1 : DenAll K G xs as) (t2 : DenAll K G ys bs) : Src K true a G (_root_.RZ.ItzT K p q) ((as.zip bs).map fun p => .tuple [p.1, p.2]) := by
  intro G' H ρ σ s R i
  have r1 : SqT K H p xs := .inl (Same.rd R.sub (Same.rd s h1))
  have r2 : SqT K H q ys := .inl (Same.rd R.sub (Same.rd s h2))
  refine ⟨fun d hd => ?_, fun hi => ⟨xs, ys, r1, r2, ?_⟩⟩
  · rw [List.getElem?_map] at hd
    obtain ⟨z, hz, rfl⟩ := Option.map_eq_some_iff.mp hd
    obtain ⟨z1, z2⟩ := List.getElem?_zip_eq_some.mp hz
    obtain ⟨x, hx, dx⟩ := t1.get z1
    obtain ⟨y, hy, dy⟩ := t2.get z2
    refine ⟨⟨xs, ys, x, y, r1, r2, hx, hy⟩, fun v H' hv => .inr ⟨rfl, ?_⟩⟩
    obtain ⟨T, x', y', rfl, hT, rfl, q1, q2⟩ := hv
    have e1 := q1 xs r1
    have e2 := q2 ys r2
    rw [hx] at e1; cases e1
    rw [hy] at e2; cases e2
    exact ⟨T, [x, y], [z.1, z.2], rfl, rfl, hT, rfl, .cons (dx.ext s) (.cons (dy.ext s) .nil)⟩
  · rw [t1.len, t2.len]
    rw [List.length_map, List.length_zip] at hi
    omega
end
/-! rules of sources -/
section
variable {X : Cx} {tg e e2 : Expr} {f : Rho → Rs (List W)}
def iSeq (K : PySem.W.Frag) (tl : TE) : TI := fun σ H R => tl σ H fun x H1 => ∃ b, x = .ref b ∧ (((∃ xs, SqL K H1 b xs) ∧ R (Itl K b) H1) ∨ ((∃ xs, SqT K H1 b xs) ∧ R (Itt K b) H1))
theorem pi_seq {l : Expr} {tl : TE} (hl : PE X l tl) : PI X tg l (iSeq X.K tl) := by
  refine ⟨fun pins s σ H R I h => ?_⟩
  refine thn (hl.run pins s σ H _ I h) fun v s1 ⟨x, H1, I1, r1, q1⟩ => ?_
  obtain ⟨b, e, q⟩ := q1
  subst e
  cases r1
  have fin : ∀ c, c ∈ [s1.heap.objs.size] → FpOk X pins H1 c := fun c hc => by
    have e : c = s1.heap.objs.size := by simpa using hc
    subst e
    exact I1.fpOk (Nat.le_refl _) (I1.hok.fresh (Nat.le_refl _))
  rcases q with ⟨⟨xs, hq⟩, q⟩ | ⟨⟨xs, hq⟩, q⟩
  · obtain ⟨its, rv, p, hz⟩ := I1.list hq
    refine wpAny_pyIter_list p.isList ?_
    exact ⟨s1.heap.objs.size, [s1.heap.objs.size], _, _, H1, rfl, I1.kept (t' := s1.toks) fun b o e => Heap.get?_push_of_some _ e, turn_list b _, ⟨_, Heap.get?_push_size _ rfl, rfl, rfl⟩, fin, q⟩
  · obtain ⟨its, rv, p, hz⟩ := I1.tuple hq
    refine wpAny_pyIter_tuple (show s1.heap.IsTuple b its.toArray from p) ?_
    exact ⟨s1.heap.objs.size, [s1.heap.objs.size], _, _, H1, rfl, I1.kept (t' := s1.toks) fun b o e => Heap.get?_push_of_some _ e, turn_tuple b _, ⟨_, Heap.get?_push_size _ rfl, rfl, rfl⟩, fin, q⟩
theorem pi_imp {wi wi' : TI} (h : PI X tg e wi) (i : ∀ σ H R, wi' σ H R → wi σ H R) : PI X tg e wi' := ⟨fun pins s σ H R I q => h.run pins s σ H R I (i σ H R q)⟩
theorem srcW_val {ws : List W} {ρ ρ' : Rho} {r : List D × W} (h : srcW .val ws ρ = .ok r ρ') : ∃ w d ds, ws = [w] ∧ der ρ w = some d ∧ seqD d = some ds ∧ r = (ds, w) ∧ ρ' = ρ := by
  unfold srcW at h
  simp only at h
  split at h
  · split at h
    · rename_i w d hd
      obtain ⟨h1, rfl⟩ := opt_of h
      obtain ⟨ds, h2, rfl⟩ := Option.map_eq_some_iff.mp h1
      exact ⟨_, _, ds, rfl, hd, h2, rfl, rfl⟩
    · cases h
  · cases h
theorem pi_val {g : Rho → Rs (List D × W)} (he : PE X e (tI X.K f)) (hg : ∀ ρ r ρ', g ρ = .ok r ρ' → ((f ρ).bnd fun ws ρ1 => srcW .val ws ρ1) = .ok r ρ') : PI X tg e (iS X.K false g) := by
  refine pi_imp (pi_seq he) fun σ H R h => ?_
  obtain ⟨a, G, ρ, ds, w, ρ', h1, R0, k⟩ := h
  refine tI_then (hg _ _ _ h1) (fun ws ρ1 _ q => ?_) R0 fun w1 ρ1 v H1 G1 _ q s1 R1 t => ?_
  · obtain ⟨w, d, ds, rfl, _⟩ := srcW_val q
    exact ⟨w, rfl⟩
  · obtain ⟨w2, d, ds2, e1, hd, hs, e2, rfl⟩ := srcW_val q
    cases e1
    cases e2
    have frozen : Den X.K G1 v d → LockRel a ρ' σ w a → lock ρ' w = ρ' → ∃ b, v = .ref b ∧ (((∃ xs, SqL X.K H1 b xs) ∧ R (Itl X.K b) H1) ∨ ((∃ xs, SqT X.K H1 b xs) ∧ R (Itt X.K b) H1)) := fun dn lr le => by
      rcases seqD_of hs with rfl | rfl
      · cases dn with
        | @lst b xs _ h2 t2 => exact ⟨b, rfl, .inl ⟨⟨xs, Same.sql R1.sub h2⟩, k _ H1 G1 a s1 lr R1 (by rw [le]; exact R1) (src_list fun G' H ρ σ s R => ⟨xs, Same.sql R.sub (Same.sql s h2), t2.ext s⟩)⟩⟩
      · cases dn with
        | @tup b o xs _ h2 hq t2 => exact ⟨b, rfl, .inr ⟨⟨xs, .inl (.inr ⟨o, R1.sub _ _ h2⟩)⟩, k _ H1 G1 a s1 lr R1 (by rw [le]; exact R1) (src_tup fun G' H ρ σ s R => ⟨xs, .inr ⟨o, R.sub _ _ (s _ _ h2)⟩, t2.ext s⟩)⟩⟩
    cases w with
    | imm d' => cases hd; exact frozen t (.imm _) rfl
    | fr d' => cases hd; exact frozen t (.fr _) rfl
    | al i =>
      have t : σ[i]? = some (some v) := t
      obtain ⟨e0, h3, h4⟩ := Option.map_eq_some_iff.mp (show (lkp ρ' i).map (·.d) = some d from hd)
      have h3' := lkp_some.mp h3
      obtain ⟨x, hx, kk⟩ := R1.ent i e0 h3'
      rw [t] at hx; cases hx
      have se := kk.sees
      rw [h4] at se
      obtain ⟨b, xs, rfl, hrd, dn⟩ := se.seq R1.sub hs
      have R2 := R1.lock h3' t
      have el : lock ρ' (.al i) = ρ'.set i (some { e0 with lk := true }) := by unfold lock; simp only [h3]
      have later : ∀ (G' H : Hp) (ρ : Rho) (σ : L2.St), Same G1 G' → RelG X.K { a with lks := (i, b, e0.d) :: a.lks } G' ρ σ H → Sees X.K G' H (.ref b) d := fun G' H ρ σ s R => by
        obtain ⟨e', y1, y2, y3, y4⟩ := R.lck _ List.mem_cons_self
        obtain ⟨x, hx, k'⟩ := R.ent _ _ y1
        rw [y4] at hx; cases hx
        have := k'.sees
        rw [y3, h4] at this
        exact this
      rcases seqD_of hs with rfl | rfl
      · refine ⟨b, rfl, .inl ⟨?_, k _ H1 G1 _ s1 (.al h3' t) R1 (by rw [el]; exact R2) (src_list fun G' H ρ σ s R => ?_)⟩⟩
        · obtain ⟨b', xs', e', h5, _⟩ := se.lst R1.sub
          cases e'
          exact ⟨xs', h5⟩
        · obtain ⟨b', xs', e', h5, h6⟩ := (later G' H ρ σ s R).lst R.sub
          cases e'
          exact ⟨xs', h5, h6⟩
      · refine ⟨b, rfl, .inr ⟨?_, k _ H1 G1 _ s1 (.al h3' t) R1 (by rw [el]; exact R2) (src_tup fun G' H ρ σ s R => ?_)⟩⟩
        · obtain ⟨b', xs', e', ⟨o, h5, _⟩, _, _⟩ := se.tup R1.sub
          cases e'
          exact ⟨xs', .inl (.inr ⟨o, h5⟩)⟩
        · obtain ⟨b', xs', e', ⟨o, h5, _⟩, h6, _⟩ := (later G' H ρ σ s R).tup R.sub
          cases e'
          exact ⟨xs', .inr ⟨o, h5⟩, h6⟩
theorem srcW_of {k : Sk} {ws : List W} {ρ ρ' : Rho} {r : List D × W} (hk : k = .rng ∨ k = .zip) (h : srcW k ws ρ = .ok r ρ') : ∃ ds items, frzs ws ρ = .ok ds ρ' ∧ srcD k ds = some items ∧ r = (items, .imm .none) := by
  rcases hk with rfl | rfl
  · obtain ⟨ds, ρ1, h1, h2⟩ := bnd_of (show (frzs ws ρ).bnd _ = .ok r ρ' from h)
    obtain ⟨h3, rfl⟩ := opt_of h2
    obtain ⟨items, h4, rfl⟩ := Option.map_eq_some_iff.mp h3
    exact ⟨ds, items, h1, h4, rfl⟩
  · obtain ⟨ds, ρ1, h1, h2⟩ := bnd_of (show (frzs ws ρ).bnd _ = .ok r ρ' from h)
    obtain ⟨h3, rfl⟩ := opt_of h2
    obtain ⟨items, h4, rfl⟩ := Option.map_eq_some_iff.mp h3
    exact ⟨ds, items, h1, h4, rfl⟩
theorem rng_of {ds items : List D} (h : srcD .rng ds = some items) : ∃ n : Int, ds = [.int n] ∧ -(2 ^ 62) ≤ n ∧ n < 2 ^ 62 ∧ items = (List.range n.toNat).map fun k => .int (k : Nat) := by
  unfold srcD at h
  split at h
  · split at h
    · rename_i q; cases h; exact ⟨_, rfl, q.1, q.2, rfl⟩
    · cases h
  · rename_i q; cases q
  · rename_i q; cases q
  · cases h
theorem zip_of {ds items : List D} (h : srcD .zip ds = some items) : ∃ xs ys, (ds = [.list xs, .list ys] ∨ ds = [.tuple xs, .tuple ys]) ∧ items = (xs.zip ys).map fun p => .tuple [p.1, p.2] := by
  unfold srcD at h
  split at h
  · rename_i q; cases q
  · cases h; exact ⟨_, _, .inl rfl, rfl⟩
  · cases h; exact ⟨_, _, .inr rfl, rfl⟩
  · cases h
theorem pi_rng {g : Rho → Rs (List D × W)} {p pos : Pos} (hgl : Gl X "range") (hm : X.mg "range" = none) (ha : PA X [e] (tA X.K f)) (hs : starEach [e] X.env = [(false, eval e X.env)])
    (hg : ∀ ρ r ρ', g ρ = .ok r ρ' → ((f ρ).bnd fun ws ρ1 => srcW .rng ws ρ1) = .ok r ρ') : PI X tg (.Call (.Name "range" p) [e] [] pos) (iS X.K false g) := by
  refine pi_imp (pi_range1 hgl hm ha hs) fun σ H R h => ?_
  obtain ⟨a, G, ρ, ds, w, ρ', h1, R0, k⟩ := h
  refine tA_of (hg _ _ _ h1) R0 fun ws ρ1 vs H1 G1 q s1 R1 t => ?_
  obtain ⟨ds', items, h2, h3, e1⟩ := srcW_of (.inl rfl) q
  cases e1
  obtain ⟨n, rfl, n1, n2, rfl⟩ := rng_of h3
  obtain ⟨G2, s2, R2, dn⟩ := R1.frzAll t h2
  cases dn with
  | cons d1 d2 =>
    cases d2
    cases d1
    exact ⟨n, rfl, n1, n2, k _ H1 G2 a (s1.trans s2) (.imm _) R2 R2 src_rng⟩
theorem pi_zip {g : Rho → Rs (List D × W)} {p pos tpos : Pos} {elts : List Expr} {kk : Nat} (hgl : Gl X "zip") (hm : X.mg "zip" = none) (ha : PA X [e, e2] (tA X.K f)) (hs : starEach [e, e2] X.env = (false, eval e X.env) :: starEach [e2] X.env) (hpl : (backTo pos (starEach [e2] X.env)).any (·.1) = false)
    (hg : ∀ ρ r ρ', g ρ = .ok r ρ' → ((f ρ).bnd fun ws ρ1 => srcW .zip ws ρ1) = .ok r ρ') : PI X (.Tuple elts kk tpos) (.Call (.Name "zip" p) [e, e2] [] pos) (iS X.K true g) := by
  refine pi_imp (_root_.RZ.pi_zipA hgl hm ha hs hpl) fun σ H R h => ?_
  obtain ⟨a, G, ρ, ds, w, ρ', h1, R0, k⟩ := h
  refine tA_of (hg _ _ _ h1) R0 fun ws ρ1 vs H1 G1 q s1 R1 t => ?_
  obtain ⟨ds', items, h2, h3, e1⟩ := srcW_of (.inr rfl) q
  cases e1
  obtain ⟨as, bs, hds, rfl⟩ := zip_of h3
  obtain ⟨G2, s2, R2, dn⟩ := R1.frzAll t h2
  rcases hds with rfl | rfl
  · cases dn with
    | cons d1 d2 =>
      cases d2 with
      | cons d2 d3 =>
        cases d3
        cases d1 with
        | @lst b xs _ r1 t1 =>
          cases d2 with
          | @lst c ys _ r2 t2 =>
            exact ⟨b, c, xs, ys, rfl, .inl ⟨Same.sql R2.sub r1, Same.sql R2.sub r2, k _ H1 G2 a (s1.trans s2) (.imm _) R2 R2 (src_zip r1 r2 t1 t2)⟩⟩
  · cases dn with
    | cons d1 d2 =>
      cases d2 with
      | cons d2 d3 =>
        cases d3
        cases d1 with
        | @tup b o1 xs _ r1 _ t1 =>
          cases d2 with
          | @tup c o2 ys _ r2 _ t2 =>
            exact ⟨b, c, xs, ys, rfl, .inr ⟨.inl (.inr ⟨o1, R2.sub _ _ r1⟩), .inl (.inr ⟨o2, R2.sub _ _ r2⟩), k _ H1 G2 a (s1.trans s2) (.imm _) R2 R2 (src_zipT (.inr ⟨o1, r1⟩) (.inr ⟨o2, r2⟩) t1 t2)⟩⟩
end
/-! ### targets -/
def tgLen : Tg → Nat
  | .cs _ u => tgLen u + 1
  | _ => 0
def tgVs : Tg → List Nat
  | .n i => [i]
  | .tp t => tgVs t
  | .nl => []
  | .cs t u => tgVs t ++ tgVs u
def gBoth (K : PySem.W.Frag) : Tg → TG × TGs
  | .n i => (gName i, fun _ _ _ _ => False)
  | .tp t => (gTup K (tgLen t) (gBoth K t).2, fun _ _ _ _ => False)
  | .nl => (fun _ _ _ _ => False, gNil)
  | .cs t u => (fun _ _ _ _ => False, gCons (gBoth K t).1 (gBoth K u).2)
/-- the slots outside vs are as they were -/
def OutSame (vs : List Nat) (σ σ' : L2.St) : Prop := σ'.length = σ.length ∧ ∀ j, j ∉ vs → σ'[j]? = σ[j]?
theorem OutSame.refl (vs : List Nat) (σ : L2.St) : OutSame vs σ σ := ⟨rfl, fun _ _ => rfl⟩
theorem OutSame.trans {vs us : List Nat} {σ σ1 σ2 : L2.St} (h : OutSame vs σ σ1) (g : OutSame us σ1 σ2) : OutSame (vs ++ us) σ σ2 :=
  ⟨g.1.trans h.1, fun j hj => (g.2 j fun z => hj (List.mem_append_right _ z)).trans (h.2 j fun z => hj (List.mem_append_left _ z))⟩
section
variable {K : PySem.W.Frag} {a : Amb} {G H H' : Hp}
theorem mayStore_lk {ρ : Rho} {i : Nat} (h : mayStore ρ i = true) : ∀ e0, ρ[i]? = some (some e0) → e0.lk = false := fun e0 he => by
  unfold mayStore at h
  rw [lkp_some.mpr he] at h
  simp only [Bool.and_eq_true, Bool.not_eq_true'] at h
  exact h.1
theorem RelG.storeImm {ρ : Rho} {σ : L2.St} {i : Nat} {v : V} {d : D} (R : RelG K a G ρ σ H) (hm : mayStore ρ i = true) (hl : i < ρ.length) (dn : Den K G v d) : RelG K a G (ρ.set i (some ⟨.imm, false, d⟩)) (σ.set i (some v)) H :=
  R.store (e := ⟨.imm, false, d⟩) (by rw [← R.len]; exact hl) (mayStore_lk hm) (.imm dn) (fun z => by cases z) fun z => by cases z
def tgW : Tg → Bool × Bool
  | .n _ => (true, false)
  | .tp t => ((tgW t).2, false)
  | .nl => (false, true)
  | .cs t u => (false, (tgW t).1 && (tgW u).2)
theorem asg_len : ∀ (t : Tg) {ρ ρ' : Rho} {ds : List D}, (tgW t).2 = true → asg t ds ρ = some ρ' → ds.length = tgLen t
  | .n _, _, _, _, h, _ => by cases h
  | .tp _, _, _, _, h, _ => by cases h
  | .nl, _, _, ds, _, h => by
    cases ds with
    | nil => rfl
    | cons d ds => cases h
  | .cs t u, _, _, ds, hw, h => by
    cases ds with
    | nil => cases h
    | cons d ds =>
      obtain ⟨ρ1, _, h2⟩ := Option.bind_eq_some_iff.mp (show (asg t [d] _).bind _ = some _ from h)
      exact congrArg Nat.succ (asg_len u (Bool.and_eq_true_iff.mp hw).2 h2)
def RawT (K : PySem.W.Frag) (G H : Hp) (x : V) (d : D) : Prop := ∃ (b : Addr) (xs : List V) (es : List D), x = .ref b ∧ d = .tuple es ∧ SqT K H b xs ∧ DenAll K G xs es
/-- targets are given frozen data -/
theorem asg_both : ∀ (t : Tg),
    (∀ {ρ ρ' : Rho} {σ : L2.St} {d : D} {x : V} {Q : L2.St → Hp → Prop}, (tgW t).1 = true → RelG K a G ρ σ H → asg t [d] ρ = some ρ' → (Den K G x d ∨ ((∃ u, t = .tp u) ∧ RawT K G H x d)) → (∀ σ', RelG K a G ρ' σ' H → OutSame (tgVs t) σ σ' → Q σ' H) → (gBoth K t).1 x σ H Q) ∧
    (∀ {ρ ρ' : Rho} {σ : L2.St} {ds : List D} {xs : List V} {Q : L2.St → Hp → Prop}, (tgW t).2 = true → RelG K a G ρ σ H → asg t ds ρ = some ρ' → DenAll K G xs ds → (∀ σ', RelG K a G ρ' σ' H → OutSame (tgVs t) σ σ' → Q σ' H) → (gBoth K t).2 xs σ H Q)
  | .n i => by
    refine ⟨fun {ρ ρ' σ d x Q} _ R h hd q => ?_, fun hw => by cases hw⟩
    have h : (if mayStore ρ i && decide (i < ρ.length) then some (ρ.set i (some ⟨.imm, false, d⟩)) else none) = some ρ' := h
    split at h
    · rename_i z
      simp only [Bool.and_eq_true, decide_eq_true_eq] at z
      cases h
      rcases hd with hd | ⟨⟨u, hu⟩, _⟩
      · refine q _ (R.storeImm z.1 z.2 hd) ⟨List.length_set, fun j hj => get_set_ne (by simpa [tgVs] using hj)⟩
      · cases hu
    · cases h
  | .tp t => by
    obtain ⟨_, ih⟩ := asg_both t
    refine ⟨fun {ρ ρ' σ d x Q} hw R h hd q => ?_, fun hw => by cases hw⟩
    have h1 : ∃ es, d = .tuple es ∧ asg t es ρ = some ρ' := by
      cases d <;> first | exact ⟨_, rfl, h⟩ | cases h
    obtain ⟨es, rfl, h1⟩ := h1
    have raw : RawT K G H x (.tuple es) := by
      rcases hd with hd | ⟨_, hd⟩
      · cases hd with
        | @tup b o xs _ h2 _ t2 => exact ⟨b, xs, es, rfl, rfl, .inl (.inr ⟨o, R.sub _ _ h2⟩), t2⟩
      · exact hd
    obtain ⟨b, xs, es', rfl, e2, hs, t2⟩ := raw
    cases e2
    exact ⟨b, xs, rfl, hs, by rw [t2.len]; exact asg_len t hw h1, ih hw R h1 t2 q⟩
  | .nl => by
    refine ⟨fun {_ _ _ _ _ _} hw => (by cases hw), fun {ρ ρ' σ ds xs Q} _ R h hd q => ?_⟩
    cases ds with
    | nil => cases h; cases hd; exact ⟨rfl, q σ R (OutSame.refl _ _)⟩
    | cons d ds => cases h
  | .cs t u => by
    obtain ⟨iht, _⟩ := asg_both t
    obtain ⟨_, ihu⟩ := asg_both u
    refine ⟨fun {_ _ _ _ _ _} hw => (by cases hw), fun {ρ ρ' σ ds xs Q} hw R h hd q => ?_⟩
    cases ds with
    | nil => cases h
    | cons d ds =>
      obtain ⟨ρ1, h1, h2⟩ := Option.bind_eq_some_iff.mp (show (asg t [d] _).bind _ = some _ from h)
      cases hd with
      | cons d1 d2 =>
        obtain ⟨w1, w2⟩ := Bool.and_eq_true_iff.mp hw
        exact ⟨_, _, rfl, iht w1 R h1 (.inl d1) fun σ1 R1 s1 => ihu w2 R1 h2 d2 fun σ2 R2 s2 => q σ2 R2 (s1.trans s2)⟩
end
/-! ### loops -/
section
variable {K : PySem.W.Frag} {a : Amb} {G H : Hp} {ρ ρ' : Rho} {σ : L2.St}
/-- a loop's end -/
def LoopEnd (K : PySem.W.Frag) (a : Amb) (G : Hp) (D : Ends) (o : Fl) (ρ' : Rho) : Prop := match o with
  | .nx => ∀ σ' H' G', Same G G' → RelG K a G' ρ' σ' H' → D.nx σ' H'
  | .bk => False
  | .rt w => ∀ σ' v H' G', Same G G' → RelG K a G' ρ' σ' H' → WOk K a G' H' ρ' σ' w v → D.rt v H'
theorem LoopEnd.ext {G G' : Hp} {D : Ends} {o : Fl} (h : LoopEnd K a G D o ρ') (s : Same G G') : LoopEnd K a G' D o ρ' := by
  cases o with
  | nx => exact fun σ' H' G1 s1 R => h σ' H' G1 (s.trans s1) R
  | bk => exact h
  | rt w => exact fun σ' v H' G1 s1 R q => h σ' v H' G1 (s.trans s1) R q
theorem ItemOk.step {r : Bool} (R : RelG K a G ρ σ H) {x : V} {d : D} {H' : Hp} (h : ItemOk K r G H x d H') : RelG K a G ρ σ H' ∧ (Den K G x d ∨ (r = true ∧ RawT K G H' x d)) := by
  rcases h with ⟨rfl, h⟩ | ⟨hr, T, xs, es, rfl, rfl, hT, rfl, h⟩
  · exact ⟨R, .inl h⟩
  · exact ⟨R.laid hT, .inr ⟨hr, T, xs, es, rfl, rfl, .inl (.inl upd_same), h⟩⟩
theorem loop_W {r : Bool} {J : It} {ds : List D} {g : TG} {tb : TS} {D : Ends} {f : RC.D → Rho → Rs Fl} {o : Fl} (S : Src K r a G J ds)
    (hb : ∀ (d : RC.D) (x : V) (G1 H1 H1' : Hp) (ρ1 : Rho) (σ1 : L2.St) (o1 : Fl) (ρ2 : Rho) (N : L2.St → Hp → Prop), Same G G1 → RelG K a G1 ρ1 σ1 H1 → ItemOk K r G1 H1 x d H1' → f d ρ1 = .ok o1 ρ2 →
      (o1 = .nx → ∀ σ' H' G', Same G1 G' → RelG K a G' ρ2 σ' H' → N σ' H') → (o1 = .bk → ∀ σ' H' G', Same G1 G' → RelG K a G' ρ2 σ' H' → D.nx σ' H') →
      (∀ w, o1 = .rt w → ∀ σ' v H' G', Same G1 G' → RelG K a G' ρ2 σ' H' → WOk K a G' H' ρ2 σ' w v → D.rt v H') → g x σ1 H1' fun σ2 H2 => tb { D with nx := N, ct := N, bk := D.nx } σ2 H2)
    (h : loopL f ds ρ = .ok o ρ') (R : RelG K a G ρ σ H) (e : LoopEnd K a G D o ρ') :
    ∃ W : Nat → Nat → L2.St → Hp → Prop, (∃ m, W 0 m σ H) ∧ ∀ i m σ H, W i m σ H →
      (J.stop i H ∧ D.nx σ H) ∨ (J.go i H ∧ ∃ N : L2.St → Hp → Prop, (∀ σ' H', N σ' H' → ∃ m', m' < m ∧ W (i + 1) m' σ' H') ∧ ∀ x H', J.yld i H x H' → g x σ H' fun σ2 H2 => tb { D with nx := N, ct := N, bk := D.nx } σ2 H2) := by
  refine ⟨fun i m σ H => m = ds.length - i ∧ i ≤ ds.length ∧ ∃ (G1 : Hp) (ρ1 : Rho), Same G G1 ∧ RelG K a G1 ρ1 σ H ∧ loopL f (ds.drop i) ρ1 = .ok o ρ', ⟨ds.length, by simp, Nat.zero_le _, G, ρ, Same.refl _, R, h⟩, ?_⟩
  rintro i m σ1 H1 ⟨rfl, hi, G1, ρ1, s1, R1, h1⟩
  obtain ⟨sgo, sstop⟩ := S G1 H1 ρ1 σ1 s1 R1 i
  by_cases hlt : i < ds.length
  · have hd : ds[i]? = some ds[i] := List.getElem?_eq_getElem hlt
    obtain ⟨go, yl⟩ := sgo _ hd
    rw [List.drop_eq_getElem_cons hlt] at h1
    obtain ⟨o1, ρ2, f1, h2⟩ := bnd_of (show (f ds[i] ρ1).bnd _ = .ok o ρ' from h1)
    refine .inr ⟨go, fun σ' H' => ∃ G2, Same G G2 ∧ RelG K a G2 ρ2 σ' H' ∧ loopL f (ds.drop (i + 1)) ρ2 = .ok o ρ', fun σ' H' hN => ?_, fun x H' hy => ?_⟩
    · obtain ⟨G2, s2, R2, h3⟩ := hN
      exact ⟨ds.length - (i + 1), by omega, rfl, hlt, G2, ρ2, s2, R2, h3⟩
    · refine hb ds[i] x G1 H1 H' ρ1 σ1 o1 ρ2 _ s1 R1 (yl x H' hy) f1 (fun z σ' H' G' s2 R2 => ?_) (fun z σ' H' G' s2 R2 => ?_) fun w z σ' v H' G' s2 R2 q => ?_
      · subst z
        exact ⟨G', s1.trans s2, R2, h2⟩
      · subst z
        cases h2
        exact e σ' H' G' (s1.trans s2) R2
      · subst z
        cases h2
        exact e σ' v H' G' (s1.trans s2) R2 q
  · have hie : i = ds.length := by omega
    subst hie
    rw [List.drop_length] at h1
    cases h1
    exact .inl ⟨sstop (Nat.le_refl _), e σ1 H1 G1 s1 R1⟩
end
end RC
end RC7c
section RC7d
set_option Elab.async false
set_option linter.all false
set_option maxRecDepth 100000
set_option autoImplicit false
set_option maxHeartbeats 4000000
/-! RC7d: comprehensions by data -/
namespace RC
open PySem PySem.Spec PyProof.Rows L2

theorem wipeR_len (ρ : Rho) : ∀ vs : List Nat, (wipeR ρ vs).length = ρ.length
  | [] => rfl
  | v :: vs => by unfold wipeR; rw [List.length_set, wipeR_len ρ vs]
theorem wipeR_in {ρ : Rho} {j : Nat} : ∀ {vs : List Nat}, j ∈ vs → ∀ e, (wipeR ρ vs)[j]? ≠ some (some e)
  | v :: vs, h, e => by
    unfold wipeR
    by_cases hj : j = v
    · subst hj
      intro q
      rcases get_set_some q with ⟨_, z, _⟩ | ⟨z, _⟩
      · cases z
      · exact z rfl
    · rw [get_set_ne hj]
      exact wipeR_in ((List.mem_cons.mp h).resolve_left hj) e
theorem wipeR_out {ρ : Rho} {j : Nat} : ∀ {vs : List Nat}, j ∉ vs → (wipeR ρ vs)[j]? = ρ[j]?
  | [], _ => rfl
  | v :: vs, h => by
    unfold wipeR
    rw [get_set_ne (fun z => h (by rw [z]; exact List.mem_cons_self))]
    exact wipeR_out fun z => h (List.mem_cons_of_mem _ z)
theorem back_len (ρ0 ρ : Rho) : ∀ vs : List Nat, (back ρ0 ρ vs).length = ρ.length
  | [] => rfl
  | v :: vs => by unfold back; rw [List.length_set, back_len ρ0 ρ vs]
theorem back_in {ρ0 ρ : Rho} {j : Nat} : ∀ {vs : List Nat}, j ∈ vs → ∀ e, (back ρ0 ρ vs)[j]? = some (some e) → ρ0[j]? = some (some e)
  | v :: vs, h, e, q => by
    unfold back at q
    by_cases hj : j = v
    · subst hj
      rcases get_set_some q with ⟨_, z, _⟩ | ⟨z, _⟩
      · cases h0 : ρ0[j]? with
        | none => rw [h0] at z; cases z
        | some o => rw [h0] at z; cases z; rfl
      · exact absurd rfl z
    · rw [get_set_ne hj] at q
      exact back_in ((List.mem_cons.mp h).resolve_left hj) e q
theorem back_out {ρ0 ρ : Rho} {j : Nat} : ∀ {vs : List Nat}, j ∉ vs → (back ρ0 ρ vs)[j]? = ρ[j]?
  | [], _ => rfl
  | v :: vs, h => by
    unfold back
    rw [get_set_ne (fun z => h (by rw [z]; exact List.mem_cons_self))]
    exact back_out fun z => h (List.mem_cons_of_mem _ z)
theorem wipe_in {σ : L2.St} {j : Nat} {x : V} : ∀ {vs : List Nat}, j ∈ vs → (wipe σ vs)[j]? ≠ some (some x) := fun {vs} h q => (wipe_some q).2 h
theorem wipe_out' {σ : L2.St} {j : Nat} : ∀ {vs : List Nat}, j ∉ vs → (wipe σ vs)[j]? = σ[j]? := fun h => wipe_out h
theorem wipe_eq {σ σ' : L2.St} {vs : List Nat} (hl : σ'.length = σ.length) (h : ∀ j, j ∉ vs → σ'[j]? = σ[j]?) : wipe σ' vs = wipe σ vs := by
  have none_in : ∀ {σ : L2.St} {j : Nat} {vs : List Nat}, j ∈ vs → j < σ.length → (wipe σ vs)[j]? = some none := by
    intro σ j vs
    induction vs with
    | nil => intro h; cases h
    | cons v vs ih =>
      intro h hj
      unfold wipe
      by_cases e : j = v
      · subst e
        rw [List.getElem?_set_self (by rw [wipe_length]; exact hj)]
      · rw [List.getElem?_set_ne (Ne.symm e)]
        exact ih ((List.mem_cons.mp h).resolve_left e) hj
  apply List.ext_getElem?
  intro j
  by_cases hj : j ∈ vs
  · by_cases hlt : j < σ.length
    · rw [none_in hj hlt, none_in hj (by rw [hl]; exact hlt)]
    · rw [List.getElem?_eq_none (by rw [wipe_length, hl]; omega), List.getElem?_eq_none (by rw [wipe_length]; omega)]
  · rw [wipe_out' hj, wipe_out' hj, h j hj]
section
variable {K : PySem.W.Frag} {a : Amb} {G G' H H' : Hp} {ρ ρ' : Rho} {σ σ' : L2.St}
theorem RelG.wiped {vs : List Nat} (R : RelG K a G ρ σ H) (hv : ∀ q, q ∈ a.lks → q.1 ∉ vs) : RelG K a G (wipeR ρ vs) (wipe σ vs) H :=
  R.sub' (by rw [wipeR_len, wipe_length]; exact R.len) (fun i e h => by
    by_cases hi : i ∈ vs
    · exact absurd h (wipeR_in hi e)
    · rw [wipeR_out hi] at h
      exact ⟨h, wipe_out' hi⟩) fun q hq => wipeR_out (hv q hq)
theorem hid_of {vs : List Nat} (h : hidOk ρ vs = true) {i : Nat} (hi : i ∈ vs) {e : En} (he : ρ[i]? = some (some e)) : e.k = .imm ∧ e.lk = false := by
  unfold hidOk at h
  have := List.all_eq_true.mp h i hi
  rw [lkp_some.mpr he] at this
  simp only [Bool.and_eq_true, Bool.not_eq_true'] at this
  obtain ⟨h1, h2⟩ := this
  refine ⟨?_, h1⟩
  cases hk : e.k <;> rw [hk] at h2 <;> first | rfl | cases h2
theorem RelG.hidLk {vs : List Nat} (R : RelG K a G ρ σ H) (h : hidOk ρ vs = true) : ∀ q, q ∈ a.lks → q.1 ∉ vs := fun q hq hi => by
  obtain ⟨e, h1, h2, _⟩ := R.lck q hq
  have := (hid_of h hi h1).2
  rw [h2] at this; cases this
/-- the hidden slots come back -/
theorem RelG.restore {vs : List Nat} {a0 : Amb} (R0 : RelG K a0 G ρ σ H) (hv : hidOk ρ vs = true) (hlk : ∀ q, q ∈ a.lks → q.1 ∉ vs) (s : Same G G') (R : RelG K a G' ρ' (wipe σ vs) H') : RelG K a G' (back ρ ρ' vs) σ H' ∧ ∀ p, Free ρ' (wipe σ vs) p → Free (back ρ ρ' vs) σ p := by
  have own : ∀ {i : Nat} {e : En}, (back ρ ρ' vs)[i]? = some (some e) → e.ow = true → i ∉ vs ∧ ρ'[i]? = some (some e) := fun {i e} h ho => by
    by_cases hi : i ∈ vs
    · have := (hid_of hv hi (back_in hi e h)).1
      unfold En.ow at ho
      rw [this] at ho; cases ho
    · rw [back_out hi] at h
      exact ⟨hi, h⟩
  have fr : ∀ p, Free ρ' (wipe σ vs) p → Free (back ρ ρ' vs) σ p := fun p f i e h ho => by
    obtain ⟨hi, h1⟩ := own h ho
    have := f i e h1 ho
    rw [wipe_out' hi] at this
    exact this
  refine ⟨⟨by rw [back_len, R.len, wipe_length], R.sub, R.old, R.new, R.amb, R.pres, fun i e h => ?_, fun i j e f p h1 h2 o1 o2 s1 s2 => ?_, fun q hq => ?_, fun q hq => let ⟨k1, k2, k3, k4⟩ := R.kep q hq; ⟨k1, k2, fr _ k3, k4⟩⟩, fr⟩
  · by_cases hi : i ∈ vs
    · have h0 := back_in hi e h
      obtain ⟨v, hv', k⟩ := R0.ent i e h0
      have hk := (hid_of hv hi h0).1
      refine ⟨v, hv', ?_⟩
      obtain ⟨ek, el, ed⟩ := e
      simp only at hk
      subst hk
      cases k with
      | imm d => exact .imm (d.ext s)
    · rw [back_out hi] at h
      obtain ⟨v, hv', k⟩ := R.ent i e h
      rw [wipe_out' hi] at hv'
      exact ⟨v, hv', k⟩
  · obtain ⟨hi, q1⟩ := own h1 o1
    obtain ⟨hj, q2⟩ := own h2 o2
    exact R.sep i j e f p q1 q2 o1 o2 (by rw [wipe_out' hi]; exact s1) (by rw [wipe_out' hj]; exact s2)
  · obtain ⟨e, h1, h2, h3, h4⟩ := R.lck q hq
    have nv := hlk q hq
    exact ⟨e, by rw [back_out nv]; exact h1, h2, h3, by rw [wipe_out' nv] at h4; exact h4⟩
/-- the body of a comprehension -/
def compF (evc eve : Rho → Rs (List W)) (tg : Tg) (vs : List Nat) (d : D) (ρ : Rho) : Rs (Option D) := match asg tg [d] ρ with
  | some ρ4 => (evc ρ4).bnd fun cs ρ5 => (asB cs ρ5).bnd fun t ρ6 => if t then (eve ρ6).bnd fun zs ρ7 => one (fun z ρ => (frzW z ρ).bnd fun x ρ8 => .ok (some x) (wipeR ρ8 vs)) zs ρ7 else .ok none (wipeR ρ6 vs)
  | none => .no
theorem comp_W {r : Bool} {J : It} {ds out : List D} {tg : Tg} {tt : TT} {te : TE} {evc eve : Rho → Rs (List W)} {vs : List Nat} {Dd : Addr} {Q : VK} (S : Src K r a G J ds) (hvs : ∀ i, i ∈ tgVs tg → i ∈ vs) (htg : (tgW tg).1 = true) (hlk : ∀ q, q ∈ a.lks → q.1 ∉ vs)
    (htt : ∀ σ H Q, tT K evc σ H Q → tt σ H Q) (hte : ∀ σ H Q, tI K eve σ H Q → te σ H Q) (hx : r = true → ∃ u, tg = .tp u)
    (h : compL (compF evc eve tg vs) ds (wipeR ρ vs) [] = .ok out ρ') (R : RelG K a G ρ σ H) (hD : H Dd = none)
    (e : ∀ H9 G9 acc, Same G G9 → RelG K { a with kps := (Dd, .lst acc) :: a.kps } G9 ρ' (wipe σ vs) H9 → DenAll K G9 acc out → Q (.ref Dd) H9) :
    ∃ W : Nat → Nat → Hp → Prop, (∃ m, W 0 m (upd H Dd (.lst []))) ∧ ∀ i m H, W i m H →
      (J.stop i H ∧ Q (.ref Dd) H) ∨ (J.go i H ∧ ∃ Nx : Hp → Prop, (∀ H', Nx H' → ∃ m', m' < m ∧ W (i + 1) m' H') ∧ ∀ x H', J.yld i H x H' → (gBoth K tg).1 x (wipe σ vs) H' fun σ2 H2 => wipe σ2 vs = wipe σ vs ∧ tt σ2 H2 fun b H3 =>
        if b = true then te σ2 H3 fun y H4 => ∃ acc, H4 Dd = some (.lst acc) ∧ acc.length < sizeLine ∧ Nx (upd H4 Dd (.lst (acc ++ [y]))) else Nx H3) := by
  have hkD : ∀ q, q ∈ a.kps → q.1 ≠ Dd := R.newKep hD
  refine ⟨fun i m H => m = ds.length - i ∧ i ≤ ds.length ∧ ∃ (G1 : Hp) (ρ1 : Rho) (acc : List V) (accD : List D), Same G G1 ∧ RelG K { a with kps := (Dd, .lst acc) :: a.kps } G1 ρ1 (wipe σ vs) H ∧ DenAll K G1 acc accD ∧ compL (compF evc eve tg vs) (ds.drop i) ρ1 accD = .ok out ρ',
    ⟨ds.length, by simp, Nat.zero_le _, G, wipeR ρ vs, [], [], Same.refl _, (R.wiped hlk).build hD, .nil, h⟩, ?_⟩
  rintro i m H1 ⟨rfl, hi, G1, ρ1, acc, accD, s1, R1, dn1, h1⟩
  have Rl : RelG K a G1 ρ1 (wipe σ vs) H1 := R1.less (fun q hq => hq) fun q hq => List.mem_cons_of_mem _ hq
  obtain ⟨sgo, sstop⟩ := S G1 H1 ρ1 _ s1 Rl i
  by_cases hlt : i < ds.length
  · have hd : ds[i]? = some ds[i] := List.getElem?_eq_getElem hlt
    obtain ⟨go, yl⟩ := sgo _ hd
    rw [List.drop_eq_getElem_cons hlt] at h1
    obtain ⟨o1, ρ2, f1, h2⟩ := bnd_of (show (compF evc eve tg vs ds[i] ρ1).bnd _ = .ok out ρ' from h1)
    refine .inr ⟨go, fun H' => ∃ (G2 : Hp) (acc2 : List V) (accD2 : List D), Same G G2 ∧ RelG K { a with kps := (Dd, .lst acc2) :: a.kps } G2 ρ2 (wipe σ vs) H' ∧ DenAll K G2 acc2 accD2 ∧ compL (compF evc eve tg vs) (ds.drop (i + 1)) ρ2 accD2 = .ok out ρ', fun H' hN => ?_, fun x H' hy => ?_⟩
    · obtain ⟨G2, acc2, accD2, s2, R2, dn2, h3⟩ := hN
      exact ⟨ds.length - (i + 1), by omega, rfl, hlt, G2, ρ2, acc2, accD2, s2, R2, dn2, h3⟩
    · have io := yl x H' hy
      obtain ⟨R2, it⟩ := io.step R1
      unfold compF at f1
      cases ha : asg tg [ds[i]] ρ1 with
      | none => rw [ha] at f1; cases f1
      | some ρ4 =>
        rw [ha] at f1
        simp only at f1
        refine (asg_both tg).1 htg R2 ha ?_ fun σ2 R3 os => ?_
        · rcases it with it | it
          · exact .inl it
          · exact .inr ⟨hx it.1, it.2⟩
        · have os' : ∀ j, j ∉ vs → σ2[j]? = (wipe σ vs)[j]? := fun j hj => os.2 j fun z => hj (hvs j z)
          have hw : wipe σ2 vs = wipe σ vs := by
            rw [wipe_eq os.1 os']
            refine wipe_eq (wipe_length _ _) fun j hj => wipe_out' hj
          have back2 : ∀ {G5 : Hp} {ρ5 : Rho} {H5 : Hp} {acc5 : List V}, RelG K { a with kps := (Dd, .lst acc5) :: a.kps } G5 ρ5 σ2 H5 → RelG K { a with kps := (Dd, .lst acc5) :: a.kps } G5 (wipeR ρ5 vs) (wipe σ vs) H5 := fun {G5 ρ5 H5 acc5} R => by
            have := R.wiped (vs := vs) hlk
            rw [hw] at this
            exact this
          refine ⟨hw, ?_⟩
          obtain ⟨cs, ρ5, e5, f1⟩ := bnd_of f1
          obtain ⟨t, ρ6, e6, f1⟩ := bnd_of f1
          refine htt _ _ _ ⟨_, G1, ρ4, t, ρ6, by rw [e5]; exact e6, R3, fun H3 G3 s3 R4 => ?_⟩
          cases t with
          | false =>
            cases f1
            exact ⟨G3, acc, accD, s1.trans s3, back2 R4, dn1.ext s3, h2⟩
          | true =>
            obtain ⟨zs, ρ7, e7, f1⟩ := bnd_of (show (eve ρ6).bnd _ = .ok o1 ρ2 from f1)
            obtain ⟨z, rfl, f1⟩ := one_of f1
            obtain ⟨y, ρ8, e8, f1⟩ := bnd_of f1
            cases f1
            refine hte _ _ _ ⟨_, G3, ρ6, z, ρ7, e7, R4, fun v H4 G4 s4 R5 wk => ?_⟩
            obtain ⟨G5, s5, R6, tk⟩ := R5.thaw wk
            obtain ⟨G6, s6, R7, dv⟩ := R6.frz tk e8
            have kd := (R7.kep _ List.mem_cons_self).1
            have hlen : accD.length < line := by
              simp only at h2
              split at h2
              · assumption
              · cases h2
            have h3 : compL (compF evc eve tg vs) (ds.drop (i + 1)) (wipeR ρ8 vs) (accD ++ [y]) = .ok out ρ' := by
              simp only at h2
              rw [if_pos hlen] at h2
              exact h2
            refine ⟨acc, kd, by rw [dn1.len, ← line_eq]; exact hlen, G6, acc ++ [v], accD ++ [y], s1.trans (s3.trans (s4.trans (s5.trans s6))), back2 (R7.grow hkD), ?_, h3⟩
            exact (dn1.ext (s3.trans (s4.trans (s5.trans s6)))).snoc dv
  · have hie : i = ds.length := by omega
    subst hie
    rw [List.drop_length] at h1
    cases h1
    exact .inl ⟨sstop (Nat.le_refl _), e H1 G1 acc s1 R1 dn1⟩
/-- a lock is taken back -/
theorem RelG.unlockW {a' : Amb} {w : W} {ρ9 : Rho} {σ9 : L2.St} {H9 G9 : Hp} (R0 : RelG K a G ρ σ H) (l : LockRel a ρ σ w a') (R : RelG K a' G9 ρ9 σ9 H9) : RelG K a G9 (RC.unlock ρ9 w (wasLk ρ w)) σ9 H9 := by
  cases l with
  | imm d => exact R
  | fr d => exact R
  | @al i e p h1 h2 =>
    obtain ⟨e', k1, k2, k3, k4⟩ := R.lck _ List.mem_cons_self
    have k1 : ρ9[i]? = some (some e') := k1
    have hw : wasLk ρ (.al i) = e.lk := by unfold wasLk; simp only [lkp_some.mpr h1]
    have hu : RC.unlock ρ9 (.al i) (wasLk ρ (.al i)) = ρ9.set i (some { e' with lk := wasLk ρ (.al i) }) := by unfold RC.unlock; simp only [lkp_some.mpr k1]
    rw [hu]
    refine R.unlock k1 fun ⟨q, hq, hi⟩ => ?_
    obtain ⟨f, y1, y2, _⟩ := R0.lck q hq
    rw [hi, h1] at y1; cases y1
    rw [hw]; exact y2
theorem LockRel.sub {a' : Amb} {w : W} (l : LockRel a ρ σ w a') : ∀ q, q ∈ a.lks → q ∈ a'.lks := by
  cases l with
  | imm d => exact fun q h => h
  | fr d => exact fun q h => h
  | al _ _ => exact fun q h => List.mem_cons_of_mem _ h
theorem free_unlock {w : W} {b : Bool} {p : Addr} (h : Free ρ σ p) : Free (unlock ρ w b) σ p := by
  cases w with
  | imm d => exact h
  | fr d => exact h
  | al i =>
    unfold unlock
    simp only
    split
    · rename_i e he
      intro j f hj hf
      rcases get_set_some hj with ⟨rfl, e1, _⟩ | ⟨_, hj⟩
      · cases e1; exact h j e (lkp_some.mp he) hf
      · exact h j f hj hf
    · exact h
theorem LockRel.lks {a' : Amb} {w : W} (l : LockRel a ρ σ w a') : a'.kps = a.kps ∧ a'.H0 = a.H0 ∧ a'.B = a.B := by
  cases l <;> exact ⟨rfl, rfl, rfl⟩
end
end RC
end RC7d
section RC7e
set_option Elab.async false
set_option linter.all false
set_option maxRecDepth 100000
set_option autoImplicit false
set_option maxHeartbeats 4000000
/-! RC7e: the checker: this expression is that one of the small syntax -/
namespace RC
open PySem PySem.Spec PyProof.Rows L2

structure Sx where
  N : List Str
  fns : List String
  fr : List String
  gcd : Bool

/-! ### shapes -/
def nst : Expr → Bool
  | .Starred _ _ => false
  | _ => true
def nbs : Expr → Bool
  | .Call _ _ _ _ => false
  | _ => true
def nsl : Expr → Bool
  | .Slice _ _ _ _ => false
  | _ => true
def nset : Expr → Bool
  | .Set _ _ _ => false
  | _ => true
def nlc : Expr → Bool
  | .ListComp _ _ _ _ => false
  | .SetComp _ _ _ _ => false
  | .DictComp _ _ _ _ _ => false
  | _ => true
section
variable {e : Expr} {es : List Expr} {env : Env}
theorem star_of (h : nst e = true) : starEach (e :: es) env = (false, eval e env) :: starEach es env := by
  cases e <;> first | rfl | cases h
theorem stars_any {pos : Pos} : ∀ {es : List Expr}, es.all nst = true → (backTo pos (starEach es env)).any (·.1) = false
  | [], _ => rfl
  | e :: es, h => by
    obtain ⟨h1, h2⟩ := Bool.and_eq_true_iff.mp (show (nst e && es.all nst) = true from h)
    rw [star_of h1]
    show (false || (backTo pos (starEach es env)).any (·.1)) = false
    rw [stars_any h2]
    rfl
theorem stars_all {pos : Pos} : ∀ {es : List Expr}, es.all nst = true → (backTo pos (starEach es env)).all (fun x => !x.1) = true
  | [], _ => rfl
  | e :: es, h => by
    obtain ⟨h1, h2⟩ := Bool.and_eq_true_iff.mp (show (nst e && es.all nst) = true from h)
    rw [star_of h1]
    show (!false && (backTo pos (starEach es env)).all (fun x => !x.1)) = true
    rw [stars_all h2]
    rfl
theorem base_of {name : Str} {w : Sem Value} (h : nbs e = true) : attributeBase e name env w = w := by
  cases e <;> first | rfl | cases h
theorem plain_of (h : nsl e = true) : PlainIx e := by
  intro o i
  cases e <;> first | rfl | cases h
theorem fold_of (h : nset e = true) : ∀ x, foldedSetIterable e env x = pure x := by
  intro x
  cases e <;> first | rfl | cases h
theorem asg_of {ts : List Expr} (h : nst e = true) : (assignEach (e :: ts) env) = (false, assign e env) :: assignEach ts env := by
  cases e <;> first | rfl | cases h
theorem asg_any : ∀ {ts : List Expr}, ts.all nst = true → (assignEach ts env).findIdx? (·.1) = none ∧ (assignEach ts env).length = ts.length
  | [], _ => ⟨rfl, rfl⟩
  | e :: es, h => by
    obtain ⟨h1, h2⟩ := Bool.and_eq_true_iff.mp (show (nst e && es.all nst) = true from h)
    obtain ⟨i1, i2⟩ := asg_any h2
    rw [asg_of h1]
    refine ⟨?_, by simp [i2]⟩
    rw [List.findIdx?_cons, i1]
    rfl
end
def mName (es : List Expr) (f : Str → Bool) : Bool := match es with
  | [.Name x _] => f x
  | _ => false
def mConst (es : List Expr) (f : Const → Bool) : Bool := match es with
  | [.Constant c _ _] => f c
  | _ => false
def mTup (es : List Expr) (f : List Expr → Bool) : Bool := match es with
  | [.Tuple es _ _] => f es
  | _ => false
def mLst (es : List Expr) (f : List Expr → Bool) : Bool := match es with
  | [.List es _] => f es
  | _ => false
def mBin (es : List Expr) (f : Operator → Expr → Expr → Bool) : Bool := match es with
  | [.BinOp x op y _] => f op x y
  | _ => false
def mUn (es : List Expr) (f : UnaryOp → Expr → Bool) : Bool := match es with
  | [.UnaryOp op x _] => f op x
  | _ => false
def mCmp1 (es : List Expr) (f : CmpOp → Expr → Expr → Bool) : Bool := match es with
  | [.Compare x [op] [y] _] => f op x y
  | _ => false
def mCmp2 (es : List Expr) (f : CmpOp → CmpOp → Expr → Expr → Expr → Bool) : Bool := match es with
  | [.Compare x [op, op2] [y, z] _] => f op op2 x y z
  | _ => false
def mBool (es : List Expr) (f : BoolOp → Expr → Expr → List Expr → Pos → Bool) : Bool := match es with
  | [.BoolOp op (x :: y :: r) p] => f op x y r p
  | _ => false
def mIf (es : List Expr) (f : Expr → Expr → Expr → Bool) : Bool := match es with
  | [.IfExp c a b _] => f c a b
  | _ => false
def mSub (es : List Expr) (f : Expr → Expr → Bool) : Bool := match es with
  | [.Subscript x y _] => f x y
  | _ => false
def mSl (es : List Expr) (f : Expr → Option Expr → Option Expr → Bool) : Bool := match es with
  | [.Subscript x (.Slice l h none _) _] => f x l h
  | _ => false
def mCall (es : List Expr) (f : Str → List Expr → Bool) : Bool := match es with
  | [.Call (.Name x _) as [] _] => f x as
  | _ => false
def mCallK (es : List Expr) (f : Str → Expr → Str → Str → Bool) : Bool := match es with
  | [.Call (.Name x _) [e] [⟨some k, .Name y _, _⟩] _] => f x e k y
  | _ => false
def mMeth (es : List Expr) (f : Expr → Str → List Expr → Bool → Bool) : Bool := match es with
  | [.Call (.Attribute o m p1) as [] p2] => f o m as (p1.endLine == p2.line)
  | _ => false
def mComp (es : List Expr) (f : Expr → Expr → Expr → List Expr → Scope → Bool) : Bool := match es with
  | [.ListComp elt [⟨tg, iter, ifs, ia⟩] scope _] => decide (ia = 0) && f elt tg iter ifs scope
  | _ => false
section
variable {es : List Expr}
theorem mName_of {f : Str → Bool} (h : mName es f = true) : ∃ x p, es = [.Name x p] ∧ f x = true := by
  unfold mName at h; split at h
  · exact ⟨_, _, rfl, h⟩
  · cases h
theorem mConst_of {f : Const → Bool} (h : mConst es f = true) : ∃ c k p, es = [.Constant c k p] ∧ f c = true := by
  unfold mConst at h; split at h
  · exact ⟨_, _, _, rfl, h⟩
  · cases h
theorem mTup_of {f : List Expr → Bool} (h : mTup es f = true) : ∃ as k p, es = [.Tuple as k p] ∧ f as = true := by
  unfold mTup at h; split at h
  · exact ⟨_, _, _, rfl, h⟩
  · cases h
theorem mLst_of {f : List Expr → Bool} (h : mLst es f = true) : ∃ as p, es = [.List as p] ∧ f as = true := by
  unfold mLst at h; split at h
  · exact ⟨_, _, rfl, h⟩
  · cases h
theorem mBin_of {f : Operator → Expr → Expr → Bool} (h : mBin es f = true) : ∃ x op y p, es = [.BinOp x op y p] ∧ f op x y = true := by
  unfold mBin at h; split at h
  · exact ⟨_, _, _, _, rfl, h⟩
  · cases h
theorem mUn_of {f : UnaryOp → Expr → Bool} (h : mUn es f = true) : ∃ op x p, es = [.UnaryOp op x p] ∧ f op x = true := by
  unfold mUn at h; split at h
  · exact ⟨_, _, _, rfl, h⟩
  · cases h
theorem mCmp1_of {f : CmpOp → Expr → Expr → Bool} (h : mCmp1 es f = true) : ∃ x op y p, es = [.Compare x [op] [y] p] ∧ f op x y = true := by
  unfold mCmp1 at h; split at h
  · exact ⟨_, _, _, _, rfl, h⟩
  · cases h
theorem mCmp2_of {f : CmpOp → CmpOp → Expr → Expr → Expr → Bool} (h : mCmp2 es f = true) : ∃ x op op2 y z p, es = [.Compare x [op, op2] [y, z] p] ∧ f op op2 x y z = true := by
  unfold mCmp2 at h; split at h
  · exact ⟨_, _, _, _, _, _, rfl, h⟩
  · cases h
theorem mBool_of {f : BoolOp → Expr → Expr → List Expr → Pos → Bool} (h : mBool es f = true) : ∃ op x y r p, es = [.BoolOp op (x :: y :: r) p] ∧ f op x y r p = true := by
  unfold mBool at h; split at h
  · exact ⟨_, _, _, _, _, rfl, h⟩
  · cases h
theorem mIf_of {f : Expr → Expr → Expr → Bool} (h : mIf es f = true) : ∃ c a b p, es = [.IfExp c a b p] ∧ f c a b = true := by
  unfold mIf at h; split at h
  · exact ⟨_, _, _, _, rfl, h⟩
  · cases h
theorem mSub_of {f : Expr → Expr → Bool} (h : mSub es f = true) : ∃ x y p, es = [.Subscript x y p] ∧ f x y = true := by
  unfold mSub at h; split at h
  · exact ⟨_, _, _, rfl, h⟩
  · cases h
theorem mSl_of {f : Expr → Option Expr → Option Expr → Bool} (h : mSl es f = true) : ∃ x l u p q, es = [.Subscript x (.Slice l u none p) q] ∧ f x l u = true := by
  unfold mSl at h; split at h
  · exact ⟨_, _, _, _, _, rfl, h⟩
  · cases h
theorem mCall_of {f : Str → List Expr → Bool} (h : mCall es f = true) : ∃ x p as q, es = [.Call (.Name x p) as [] q] ∧ f x as = true := by
  unfold mCall at h; split at h
  · exact ⟨_, _, _, _, rfl, h⟩
  · cases h
theorem mCallK_of {f : Str → Expr → Str → Str → Bool} (h : mCallK es f = true) : ∃ x p e k y p2 p3 q, es = [.Call (.Name x p) [e] [⟨some k, .Name y p2, p3⟩] q] ∧ f x e k y = true := by
  unfold mCallK at h; split at h
  · exact ⟨_, _, _, _, _, _, _, _, rfl, h⟩
  · cases h
theorem mMeth_of {f : Expr → Str → List Expr → Bool → Bool} (h : mMeth es f = true) : ∃ o m p1 as p2, es = [.Call (.Attribute o m p1) as [] p2] ∧ f o m as (p1.endLine == p2.line) = true := by
  unfold mMeth at h; split at h
  · exact ⟨_, _, _, _, _, rfl, h⟩
  · cases h
theorem mComp_of {f : Expr → Expr → Expr → List Expr → Scope → Bool} (h : mComp es f = true) : ∃ elt tg iter ifs scope p, es = [.ListComp elt [⟨tg, iter, ifs, 0⟩] scope p] ∧ f elt tg iter ifs scope = true := by
  unfold mComp at h; split at h
  · obtain ⟨h1, h2⟩ := Bool.and_eq_true_iff.mp h
    have := of_decide_eq_true h1
    subst this
    exact ⟨_, _, _, _, _, _, rfl, h2⟩
  · cases h
end
def visB (sc : Scope) (x : Str) : Bool := match sc.names.lookup x with
  | some .local => true
  | some .cell => true
  | some .free => true
  | _ => false
def locB (sc : Scope) (x : Str) : Bool := match sc.names.lookup x with
  | some .local => true
  | some .cell => true
  | _ => false
theorem visB_of {sc : Scope} {x : Str} (h : visB sc x = true) : L2.Vis sc x := by
  unfold visB at h
  unfold L2.Vis
  split at h <;> first | exact .inl (by assumption) | exact .inr (.inl (by assumption)) | exact .inr (.inr (by assumption)) | cases h
theorem locB_of {sc : Scope} {x : Str} (h : locB sc x = true) : L2.Loc sc x := by
  unfold locB at h
  unfold L2.Loc
  split at h <;> first | exact .inl (by assumption) | exact .inr (by assumption) | cases h
def slotB (S : Sx) (sc : Scope) (i : Nat) (x : Str) : Bool := decide (S.N[i]? = some x) && visB sc x && !(x == ("__debug__" : Str)) && !(x == ("__classdict__" : Str))
def glB (sc : Scope) (x : Str) : Bool := decide (sc.names.lookup x = some .globalImplicit) && !(x == ("__debug__" : Str))
def opB : BOp → Operator → Bool
  | .add, .Add => true
  | .sub, .Sub => true
  | .mul, .Mult => true
  | .fdiv, .FloorDiv => true
  | .md, .Mod => true
  | .pow, .Pow => true
  | _, _ => false
def copB : COp → CmpOp → Bool
  | .eq, .Eq => true
  | .ne, .NotEq => true
  | .lt, .Lt => true
  | .le, .LtE => true
  | .gt, .Gt => true
  | .ge, .GtE => true
  | .isin, .In => true
  | .nin, .NotIn => true
  | _, _ => false
def bltName : Blt → String
  | .len => "len"
  | .int => "int"
  | .abs => "abs"
  | .all => "all"
  | .any => "any"
  | .tuple => "tuple"
  | .list => "list"
  | .dict => "dict"
  | .gcd => "gcd"
/-- a built-in's name that the module leaves alone -/
def bnB (S : Sx) (sc : Scope) (n : String) (x : Str) : Bool := decide (x = Str.ofString n) && glB sc x && S.fr.contains n
def tyB (S : Sx) (sc : Scope) (t : Ty) (e : Expr) : Bool := mName [e] fun x => bnB S sc (tyName t) x
def tysB (S : Sx) (sc : Scope) : List Ty → List Expr → Bool
  | [], [] => true
  | t :: ts, e :: es => tyB S sc t e && tysB S sc ts es
  | _, _ => false
def isiB (S : Sx) (sc : Scope) (ts : List Ty) (e : Expr) : Bool := match e with
  | .Name _ _ => (match ts with
    | [t] => tyB S sc t e
    | _ => false)
  | .Tuple es _ _ => decide (ts.length ≤ 9) && tysB S sc ts es
  | _ => false
def constB : IE → Const → Bool
  | .non, .none => true
  | .bl b, .bool c => b == c
  | .int i, .int j => decide (i = j)
  | .str s, .str x => decide (x = Str.ofString s)
  | _, _ => false
def tgB (N : List Str) (lk : Str → Bool) : Tg → List Expr → Bool
  | .n i, es => mName es fun x => decide (N[i]? = some x) && lk x
  | .tp t, es => mTup es fun as => as.all nst && decide (as.length = tgLen t) && tgB N lk t as
  | .nl, es => es.isEmpty
  | .cs t u, es => match es with
    | e :: es => nst e && tgB N lk t [e] && tgB N lk u es
    | [] => false
/-- what is walked: the expressions whose values the small syntax takes -/
def srcE (S : Sx) (sc : Scope) (k : Sk) (iter : Expr) : Option (List Expr × List Expr) := match k with
  | .val => some ([iter], [])
  | .rng => (match iter with
    | .Call (.Name x _) [e] [] _ => if bnB S sc "range" x && nst e then some ([e], []) else none
    | _ => none)
  | .zip => (match iter with
    | .Call (.Name x _) [e, e2] [] _ => if bnB S sc "zip" x && nst e && nst e2 then some ([e], [e2]) else none
    | _ => none)
  | .items => none
def isTp : Tg → Bool
  | .tp _ => true
  | _ => false
def blkOwn (N : List Str) (vs : List Nat) : List (Str × Nat) := vs.filterMap fun v => (N[v]?).map fun x => (x, v)
def chk (S : Sx) : IE → Bool → Scope → List Expr → Bool
  | .nil, fl, _, es => fl && es.isEmpty
  | .cons a r, fl, sc, es => fl && (match es with
    | e :: es => nst e && chk S a false sc [e] && chk S r true sc es
    | [] => false)
  | .v i, fl, sc, es => !fl && mName es fun x => slotB S sc i x
  | .non, fl, _, es => !fl && mConst es fun c => constB .non c
  | .bl b, fl, _, es => !fl && mConst es fun c => constB (.bl b) c
  | .int i, fl, _, es => !fl && mConst es fun c => constB (.int i) c
  | .str s, fl, _, es => !fl && mConst es fun c => constB (.str s) c
  | .tup a, fl, sc, es => !fl && mTup es fun as => chk S a true sc as
  | .lst a, fl, sc, es => !fl && mLst es fun as => chk S a true sc as
  | .bin o a b, fl, sc, es => !fl && mBin es fun op x y => opB o op && chk S a false sc [x] && chk S b false sc [y]
  | .neg a, fl, sc, es => !fl && mUn es fun op x => (match op with
    | .USub => true
    | _ => false) && chk S a false sc [x]
  | .cmp o a b, fl, sc, es => !fl && mCmp1 es fun op x y => copB o op && !behindInMarks op y && chk S a false sc [x] && chk S b false sc [y]
  | .chn o q a b c, fl, sc, es => !fl && mCmp2 es fun op op2 x y z => copB o op && copB q op2 && !lastMarks [op, op2] [y, z] && chk S a false sc [x] && chk S b false sc [y] && chk S c false sc [z]
  | .isn a, fl, sc, es => !fl && mCmp1 es fun op x y => (match op with
    | .Is => true
    | _ => false) && mConst [y] (fun c => constB .non c) && chk S a false sc [x]
  | .isnn a, fl, sc, es => !fl && mCmp1 es fun op x y => (match op with
    | .IsNot => true
    | _ => false) && mConst [y] (fun c => constB .non c) && chk S a false sc [x]
  | .and a b, fl, sc, es => !fl && mBool es fun op x y r p => (match op with
    | .And => true
    | _ => false) && chk S a false sc [x] && chk S b false sc [match r with
      | [] => y
      | _ => .BoolOp .And (y :: r) p]
  | .or a b, fl, sc, es => !fl && mBool es fun op x y r p => (match op with
    | .Or => true
    | _ => false) && chk S a false sc [x] && chk S b false sc [match r with
      | [] => y
      | _ => .BoolOp .Or (y :: r) p]
  | .not a, fl, sc, es => !fl && mUn es fun op x => (match op with
    | .Not => true
    | _ => false) && chk S a false sc [x]
  | .ix a b, fl, sc, es => !fl && mSub es fun x y => nsl y && chk S a false sc [x] && chk S b false sc [y]
  | .sl a lo hi, fl, sc, es => !fl && mSl es fun x l h => chk S a false sc [x] && chk S lo true sc l.toList && chk S hi true sc h.toList
  | .call f a, fl, sc, es => !fl && mCall es fun x as => decide (x = Str.ofString f) && glB sc x && S.fns.contains f && as.all nst && chk S a true sc as
  | .blt b a, fl, sc, es => !fl && mCall es fun x as => (match b with
    | .gcd => decide (x = Str.ofString "gcd") && glB sc x && S.gcd
    | b => bnB S sc (bltName b) x) && as.all nst && !as.isEmpty && chk S a true sc as
  | .isi ts a, fl, sc, es => !fl && mCall es fun x as => bnB S sc "isinstance" x && (match as with
    | [e, t] => nst e && nst t && isiB S sc ts t && chk S a false sc [e]
    | _ => false)
  | .srt a, fl, sc, es => !fl && mCall es fun x as => bnB S sc "sorted" x && (match as with
    | [e] => nst e && chk S a false sc [e]
    | _ => false)
  | .srtl a, fl, sc, es => !fl && mCallK es fun x e k y => bnB S sc "sorted" x && nst e && decide (k = Str.ofString "key") && bnB S sc "len" y && chk S a false sc [e]
  | .srtk f a, fl, sc, es => !fl && mCallK es fun x e k y => bnB S sc "sorted" x && nst e && decide (k = Str.ofString "key") && decide (y = Str.ofString f) && glB sc y && S.fns.contains f && chk S a false sc [e]
  | .pop i, fl, sc, es => !fl && mMeth es fun o m as ln => decide (m = Str.ofString "pop") && as.isEmpty && ln && mName [o] fun x => slotB S sc i x
  | .rev i, fl, sc, es => !fl && mMeth es fun o m as ln => decide (m = Str.ofString "reverse") && as.isEmpty && ln && mName [o] fun x => slotB S sc i x
  | .app i a, fl, sc, es => !fl && mMeth es fun o m as ln => decide (m = Str.ofString "append") && ln && (match as with
    | [e] => nst e && chk S a false sc [e]
    | _ => false) && mName [o] fun x => slotB S sc i x
  | .ext i a, fl, sc, es => !fl && mMeth es fun o m as ln => decide (m = Str.ofString "extend") && ln && (match as with
    | [e] => nst e && chk S a false sc [e]
    | _ => false) && mName [o] fun x => slotB S sc i x
  | .ins i a b, fl, sc, es => !fl && mMeth es fun o m as ln => decide (m = Str.ofString "insert") && ln && (match as with
    | [e, f] => nst e && nst f && chk S a false sc [e] && chk S b false sc [f]
    | _ => false) && mName [o] fun x => slotB S sc i x
  | .sdef i a b, fl, sc, es => !fl && mMeth es fun o m as ln => decide (m = Str.ofString "setdefault") && ln && (match as with
    | [e, f] => nst e && nst f && chk S a false sc [e] && chk S b false sc [f]
    | _ => false) && mName [o] fun x => slotB S sc i x
  | .nild, fl, _, es => !fl && (match es with
    | [.Dict [] [] _] => true
    | _ => false)
  | .idx a b, fl, sc, es => !fl && mMeth es fun o m as ln => decide (m = Str.ofString "index") && ln && nbs o && (match as with
    | [e] => nst e && chk S b false sc [e]
    | _ => false) && chk S a false sc [o]
  | .join a b, fl, sc, es => !fl && mMeth es fun o m as ln => decide (m = Str.ofString "join") && ln && nbs o && (match as with
    | [e] => nst e && chk S b false sc [e]
    | _ => false) && chk S a false sc [o]
  | .bits a, fl, sc, es => !fl && mMeth es fun o m as ln => decide (m = Str.ofString "bit_length") && as.isEmpty && ln && nbs o && chk S a false sc [o]
  | .comp k a b tg vs c e, fl, sc, es => !fl && mComp es fun elt t iter ifs scope => blkC S.N sc scope (blkOwn S.N vs) && decide ((blkOwn S.N vs).map (·.2) = vs) && tgB S.N (fun x => locB scope x) tg [t] && (tgW tg).1 && (tgVs tg).all (fun i => vs.contains i) && nset iter &&
      (match k with
        | .zip => isTp tg
        | _ => true) && (match srcE S sc k iter with
        | some (l1, l2) => chk S a true sc l1 && chk S b true sc l2
        | none => false) && (match ifs with
        | [] => (match c with
          | .bl true => true
          | _ => false)
        | [t] => chk S c false (relS scope sc) [t]
        | _ => false) && chk S e false (relS scope sc) [elt]
  | _, _, _, _ => false
theorem chk_nil {S : Sx}  (fl : Bool) (sc : Scope) (es : List Expr) : chk S (.nil ) fl sc es = (fl && es.isEmpty) := rfl
theorem chk_cons {S : Sx} (a : IE) (r : IE) (fl : Bool) (sc : Scope) (es : List Expr) : chk S (.cons a r) fl sc es = (fl && (match es with
    | e :: es => nst e && chk S a false sc [e] && chk S r true sc es
    | [] => false)) := rfl
theorem chk_v {S : Sx} (i : Nat) (fl : Bool) (sc : Scope) (es : List Expr) : chk S (.v i) fl sc es = (!fl && mName es fun x => slotB S sc i x) := rfl
theorem chk_non {S : Sx}  (fl : Bool) (sc : Scope) (es : List Expr) : chk S (.non ) fl sc es = (!fl && mConst es fun c => constB .non c) := rfl
theorem chk_bl {S : Sx} (b : Bool) (fl : Bool) (sc : Scope) (es : List Expr) : chk S (.bl b) fl sc es = (!fl && mConst es fun c => constB (.bl b) c) := rfl
theorem chk_int {S : Sx} (i : Int) (fl : Bool) (sc : Scope) (es : List Expr) : chk S (.int i) fl sc es = (!fl && mConst es fun c => constB (.int i) c) := rfl
theorem chk_str {S : Sx} (s : String) (fl : Bool) (sc : Scope) (es : List Expr) : chk S (.str s) fl sc es = (!fl && mConst es fun c => constB (.str s) c) := rfl
theorem chk_tup {S : Sx} (a : IE) (fl : Bool) (sc : Scope) (es : List Expr) : chk S (.tup a) fl sc es = (!fl && mTup es fun as => chk S a true sc as) := rfl
theorem chk_lst {S : Sx} (a : IE) (fl : Bool) (sc : Scope) (es : List Expr) : chk S (.lst a) fl sc es = (!fl && mLst es fun as => chk S a true sc as) := rfl
theorem chk_bin {S : Sx} (o : BOp) (a b : IE) (fl : Bool) (sc : Scope) (es : List Expr) : chk S (.bin o a b) fl sc es = (!fl && mBin es fun op x y => opB o op && chk S a false sc [x] && chk S b false sc [y]) := rfl
theorem chk_neg {S : Sx} (a : IE) (fl : Bool) (sc : Scope) (es : List Expr) : chk S (.neg a) fl sc es = (!fl && mUn es fun op x => (match op with
    | .USub => true
    | _ => false) && chk S a false sc [x]) := rfl
theorem chk_cmp {S : Sx} (o : COp) (a b : IE) (fl : Bool) (sc : Scope) (es : List Expr) : chk S (.cmp o a b) fl sc es = (!fl && mCmp1 es fun op x y => copB o op && !behindInMarks op y && chk S a false sc [x] && chk S b false sc [y]) := rfl
theorem chk_chn {S : Sx} (o q : COp) (a b c : IE) (fl : Bool) (sc : Scope) (es : List Expr) : chk S (.chn o q a b c) fl sc es = (!fl && mCmp2 es fun op op2 x y z => copB o op && copB q op2 && !lastMarks [op, op2] [y, z] && chk S a false sc [x] && chk S b false sc [y] && chk S c false sc [z]) := rfl
theorem chk_isn {S : Sx} (a : IE) (fl : Bool) (sc : Scope) (es : List Expr) : chk S (.isn a) fl sc es = (!fl && mCmp1 es fun op x y => (match op with
    | .Is => true
    | _ => false) && mConst [y] (fun c => constB .non c) && chk S a false sc [x]) := rfl
theorem chk_isnn {S : Sx} (a : IE) (fl : Bool) (sc : Scope) (es : List Expr) : chk S (.isnn a) fl sc es = (!fl && mCmp1 es fun op x y => (match op with
    | .IsNot => true
    | _ => false) && mConst [y] (fun c => constB .non c) && chk S a false sc [x]) := rfl
theorem chk_and {S : Sx} (a : IE) (b : IE) (fl : Bool) (sc : Scope) (es : List Expr) : chk S (.and a b) fl sc es = (!fl && mBool es fun op x y r p => (match op with
    | .And => true
    | _ => false) && chk S a false sc [x] && chk S b false sc [match r with
      | [] => y
      | _ => .BoolOp .And (y :: r) p]) := rfl
theorem chk_or {S : Sx} (a : IE) (b : IE) (fl : Bool) (sc : Scope) (es : List Expr) : chk S (.or a b) fl sc es = (!fl && mBool es fun op x y r p => (match op with
    | .Or => true
    | _ => false) && chk S a false sc [x] && chk S b false sc [match r with
      | [] => y
      | _ => .BoolOp .Or (y :: r) p]) := rfl
theorem chk_not {S : Sx} (a : IE) (fl : Bool) (sc : Scope) (es : List Expr) : chk S (.not a) fl sc es = (!fl && mUn es fun op x => (match op with
    | .Not => true
    | _ => false) && chk S a false sc [x]) := rfl
theorem chk_ix {S : Sx} (a : IE) (b : IE) (fl : Bool) (sc : Scope) (es : List Expr) : chk S (.ix a b) fl sc es = (!fl && mSub es fun x y => nsl y && chk S a false sc [x] && chk S b false sc [y]) := rfl
theorem chk_sl {S : Sx} (a : IE) (lo : IE) (hi : IE) (fl : Bool) (sc : Scope) (es : List Expr) : chk S (.sl a lo hi) fl sc es = (!fl && mSl es fun x l h => chk S a false sc [x] && chk S lo true sc l.toList && chk S hi true sc h.toList) := rfl
theorem chk_call {S : Sx} (f : String) (a : IE) (fl : Bool) (sc : Scope) (es : List Expr) : chk S (.call f a) fl sc es = (!fl && mCall es fun x as => decide (x = Str.ofString f) && glB sc x && S.fns.contains f && as.all nst && chk S a true sc as) := rfl
theorem chk_blt {S : Sx} (b : Blt) (a : IE) (fl : Bool) (sc : Scope) (es : List Expr) : chk S (.blt b a) fl sc es = (!fl && mCall es fun x as => (match b with
    | .gcd => decide (x = Str.ofString "gcd") && glB sc x && S.gcd
    | b => bnB S sc (bltName b) x) && as.all nst && !as.isEmpty && chk S a true sc as) := rfl
theorem chk_isi {S : Sx} (ts : List Ty) (a : IE) (fl : Bool) (sc : Scope) (es : List Expr) : chk S (.isi ts a) fl sc es = (!fl && mCall es fun x as => bnB S sc "isinstance" x && (match as with
    | [e, t] => nst e && nst t && isiB S sc ts t && chk S a false sc [e]
    | _ => false)) := rfl
theorem chk_srt {S : Sx} (a : IE) (fl : Bool) (sc : Scope) (es : List Expr) : chk S (.srt a) fl sc es = (!fl && mCall es fun x as => bnB S sc "sorted" x && (match as with
    | [e] => nst e && chk S a false sc [e]
    | _ => false)) := rfl
theorem chk_srtl {S : Sx} (a : IE) (fl : Bool) (sc : Scope) (es : List Expr) : chk S (.srtl a) fl sc es = (!fl && mCallK es fun x e k y => bnB S sc "sorted" x && nst e && decide (k = Str.ofString "key") && bnB S sc "len" y && chk S a false sc [e]) := rfl
theorem chk_srtk {S : Sx} (f : String) (a : IE) (fl : Bool) (sc : Scope) (es : List Expr) : chk S (.srtk f a) fl sc es = (!fl && mCallK es fun x e k y => bnB S sc "sorted" x && nst e && decide (k = Str.ofString "key") && decide (y = Str.ofString f) && glB sc y && S.fns.contains f && chk S a false sc [e]) := rfl
theorem chk_pop {S : Sx} (i : Nat) (fl : Bool) (sc : Scope) (es : List Expr) : chk S (.pop i) fl sc es = (!fl && mMeth es fun o m as ln => decide (m = Str.ofString "pop") && as.isEmpty && ln && mName [o] fun x => slotB S sc i x) := rfl
theorem chk_rev {S : Sx} (i : Nat) (fl : Bool) (sc : Scope) (es : List Expr) : chk S (.rev i) fl sc es = (!fl && mMeth es fun o m as ln => decide (m = Str.ofString "reverse") && as.isEmpty && ln && mName [o] fun x => slotB S sc i x) := rfl
theorem chk_app {S : Sx} (i : Nat) (a : IE) (fl : Bool) (sc : Scope) (es : List Expr) : chk S (.app i a) fl sc es = (!fl && mMeth es fun o m as ln => decide (m = Str.ofString "append") && ln && (match as with
    | [e] => nst e && chk S a false sc [e]
    | _ => false) && mName [o] fun x => slotB S sc i x) := rfl
theorem chk_ext {S : Sx} (i : Nat) (a : IE) (fl : Bool) (sc : Scope) (es : List Expr) : chk S (.ext i a) fl sc es = (!fl && mMeth es fun o m as ln => decide (m = Str.ofString "extend") && ln && (match as with
    | [e] => nst e && chk S a false sc [e]
    | _ => false) && mName [o] fun x => slotB S sc i x) := rfl
theorem chk_ins {S : Sx} (i : Nat) (a b : IE) (fl : Bool) (sc : Scope) (es : List Expr) : chk S (.ins i a b) fl sc es = (!fl && mMeth es fun o m as ln => decide (m = Str.ofString "insert") && ln && (match as with
    | [e, f] => nst e && nst f && chk S a false sc [e] && chk S b false sc [f]
    | _ => false) && mName [o] fun x => slotB S sc i x) := rfl
theorem chk_sdef {S : Sx} (i : Nat) (a b : IE) (fl : Bool) (sc : Scope) (es : List Expr) : chk S (.sdef i a b) fl sc es = (!fl && mMeth es fun o m as ln => decide (m = Str.ofString "setdefault") && ln && (match as with
    | [e, f] => nst e && nst f && chk S a false sc [e] && chk S b false sc [f]
    | _ => false) && mName [o] fun x => slotB S sc i x) := rfl
theorem chk_nild {S : Sx} (fl : Bool) (sc : Scope) (es : List Expr) : chk S .nild fl sc es = (!fl && (match es with
    | [.Dict [] [] _] => true
    | _ => false)) := rfl
theorem chk_idx {S : Sx} (a : IE) (b : IE) (fl : Bool) (sc : Scope) (es : List Expr) : chk S (.idx a b) fl sc es = (!fl && mMeth es fun o m as ln => decide (m = Str.ofString "index") && ln && nbs o && (match as with
    | [e] => nst e && chk S b false sc [e]
    | _ => false) && chk S a false sc [o]) := rfl
theorem chk_join {S : Sx} (a : IE) (b : IE) (fl : Bool) (sc : Scope) (es : List Expr) : chk S (.join a b) fl sc es = (!fl && mMeth es fun o m as ln => decide (m = Str.ofString "join") && ln && nbs o && (match as with
    | [e] => nst e && chk S b false sc [e]
    | _ => false) && chk S a false sc [o]) := rfl
theorem chk_bits {S : Sx} (a : IE) (fl : Bool) (sc : Scope) (es : List Expr) : chk S (.bits a) fl sc es = (!fl && mMeth es fun o m as ln => decide (m = Str.ofString "bit_length") && as.isEmpty && ln && nbs o && chk S a false sc [o]) := rfl
theorem chk_comp {S : Sx} (k : Sk) (a b : IE) (tg : Tg) (vs : List Nat) (c e : IE) (fl : Bool) (sc : Scope) (es : List Expr) : chk S (.comp k a b tg vs c e) fl sc es = (!fl && mComp es fun elt t iter ifs scope => blkC S.N sc scope (blkOwn S.N vs) && decide ((blkOwn S.N vs).map (·.2) = vs) && tgB S.N (fun x => locB scope x) tg [t] && (tgW tg).1 && (tgVs tg).all (fun i => vs.contains i) && nset iter &&
      (match k with
        | .zip => isTp tg
        | _ => true) && (match srcE S sc k iter with
        | some (l1, l2) => chk S a true sc l1 && chk S b true sc l2
        | none => false) && (match ifs with
        | [] => (match c with
          | .bl true => true
          | _ => false)
        | [t] => chk S c false (relS scope sc) [t]
        | _ => false) && chk S e false (relS scope sc) [elt]) := rfl
end RC
end RC7e
section RC7f
set_option Elab.async false
set_option linter.all false
set_option maxRecDepth 100000
set_option autoImplicit false
set_option maxHeartbeats 4000000
/-! RC7f: an expression that is checked does what the small syntax says -/
namespace RC
open PySem PySem.Spec PyProof.Rows L2

abbrev Cal := String → List En → Option (W × List En)
structure Glb (P : Program) (w : World) (K : PySem.W.Frag) (mg : Str → Option Value) (base : Heap) (S : Sx) (cal : Cal) (k : Nat) : Prop where
  free : ∀ x, x ∈ S.fr → mg (Str.ofString x) = none
  gcd : S.gcd = true → mg (Str.ofString "gcd") = some (.builtin "math.gcd")
  fns : ∀ f, f ∈ S.fns → ∃ (np : Nat) (g : Addr) (fd : FuncData) (ps : List Str), FnOk P w K mg base C8.CX0 k g fd ps (spD K np (cal f)) ∧ mg (Str.ofString f) = some (.ref g) ∧ PySem.W.keepIn K (.ref g) = true ∧ Binds K fd ps [] ∧ ∀ es r, cal f es = some r → es.length = np
structure CtxOk (X : Cx) (S : Sx) (sc : Scope) (cal : Cal) (k : Nat) : Prop where
  N : X.N = S.N
  nd : S.N.Nodup
  sc : X.env.scope = sc
  calm : X.calm = true
  xe : X.xe = fun _ _ => False
  room : Room (k + 2) X.A
  g : Glb X.prog X.w X.K X.mg X.base S cal k
section
variable {X : Cx} {S : Sx} {sc : Scope} {cal : Cal} {k : Nat} {e : Expr} {f : Rho → Rs (List W)}
theorem CtxOk.units (C : CtxOk X S sc cal k) : X.A.units + 200 < cLine := by have := C.room.un; omega
theorem CtxOk.gl (C : CtxOk X S sc cal k) {x : Str} (h : sc.names.lookup x = some .globalImplicit) : Gl X x := by
  show X.env.scope.names.lookup x = _
  rw [C.sc]; exact h
theorem glB_of (C : CtxOk X S sc cal k) {x : Str} (h : glB sc x = true) : Gl X x ∧ (x == ("__debug__" : Str)) = false := by
  unfold glB at h
  simp only [Bool.and_eq_true, decide_eq_true_eq, Bool.not_eq_true'] at h
  exact ⟨C.gl h.1, h.2⟩
theorem bnB_of (C : CtxOk X S sc cal k) {n : String} {x : Str} (h : bnB S sc n x = true) : x = Str.ofString n ∧ Gl X x ∧ (x == ("__debug__" : Str)) = false ∧ X.mg x = none := by
  unfold bnB at h
  simp only [Bool.and_eq_true, decide_eq_true_eq] at h
  obtain ⟨⟨h1, h2⟩, h3⟩ := h
  obtain ⟨h4, h5⟩ := glB_of C h2
  have := C.g.free n (by simpa using h3)
  exact ⟨h1, h4, h5, by rw [h1]; exact this⟩
theorem slotB_of (C : CtxOk X S sc cal k) {i : Nat} {x : Str} {p : Pos} (h : slotB S sc i x = true) : PE X (.Name x p) (tVar i) := by
  unfold slotB at h
  simp only [Bool.and_eq_true, decide_eq_true_eq, Bool.not_eq_true'] at h
  exact pe_var (by rw [C.N]; exact h.1.1.1) (by rw [C.sc]; exact visB_of h.1.1.2) h.1.2 h.2
/-- a test by the value -/
theorem tT_I {σ : L2.St} {H : Hp} {Q : Bool → Hp → Prop} (h : tT X.K f σ H Q) : tI X.K f σ H fun x H' => ∃ b, x = .bl b ∧ Q b H' := by
  obtain ⟨a, G, ρ, b, ρ', h1, R, k⟩ := h
  obtain ⟨ws, ρ1, e1, e2⟩ := bnd_of h1
  obtain ⟨w, rfl, hd, rfl⟩ := asB_of e2
  refine ⟨a, G, ρ, w, ρ', e1, R, fun v H' G' s R' q => ?_⟩
  obtain ⟨G2, s2, R2, t⟩ := R'.thaw q
  exact ⟨b, (R2.sees t hd).bl, k H' G2 (s.trans s2) R2⟩
theorem pt_of (h : PE X e (tI X.K f)) (he : ∀ whole, isTrue e X.env whole = (do let v ← whole; standAt e.pos; holding [v] (truthy v))) : PT X e (tT X.K f) :=
  pt_imp (pt_val h he) fun σ H Q q => tT_I q
structure Snd (S : Sx) (cal : Cal) (k : Nat) (ie : IE) : Prop where
  E : ∀ (X : Cx) (sc : Scope), CtxOk X S sc cal k → ∀ e, chk S ie false sc [e] = true → PE X e (tI X.K (ev cal ie)) ∧ PT X e (tT X.K (ev cal ie)) ∧ ∀ op vs p, e = .BoolOp op vs p → PW X e (tT X.K (ev cal ie))
  A : ∀ (X : Cx) (sc : Scope), CtxOk X S sc cal k → ∀ es, chk S ie true sc es = true → PA X es (tA X.K (ev cal ie))
  H : ∀ a r, ie = .cons a r → ∀ (X : Cx) (sc : Scope), CtxOk X S sc cal k → ∀ e, chk S a false sc [e] = true → PE X e (tI X.K (ev cal a))
end
section
variable {S : Sx} {cal : Cal} {k : Nat}
/-- an expression whose truth is its value's -/
theorem Snd.plain {ie : IE} (hn : ∀ sc es, chk S ie true sc es = false) (hc : ∀ a r, ie ≠ .cons a r)
    (h : ∀ (X : Cx) (sc : Scope), CtxOk X S sc cal k → ∀ e, chk S ie false sc [e] = true → PE X e (tI X.K (ev cal ie)) ∧ (∀ whole, isTrue e X.env whole = (do let v ← whole; standAt e.pos; holding [v] (truthy v))) ∧ ∀ op vs p, e ≠ .BoolOp op vs p) : Snd S cal k ie :=
  ⟨fun X sc C e q => let ⟨h1, h2, h3⟩ := h X sc C e q; ⟨h1, pt_of h1 h2, fun op vs p z => absurd z (h3 op vs p)⟩, fun X sc C es q => (by rw [hn] at q; cases q), fun a r z => absurd z (hc a r)⟩
/-- a value is known at once -/
theorem tI_know {X : Cx} {ie : IE} {σ : L2.St} {H : Hp} {Q : VK} {d : D} {v : V} (h : tI X.K (ev cal ie) σ H Q) (he : ∀ ρ, ev cal ie ρ = .ok [.imm d] ρ) (hd : ∀ G, Den X.K G v d) : Q v H := by
  obtain ⟨a, G, ρ, w, ρ', h1, R, q⟩ := h
  rw [he] at h1
  cases h1
  exact q v H G (Same.refl _) R (.imm (hd G))
theorem snd_const {ie : IE} {d : D} {v : V} (he : ∀ ρ, ev cal ie ρ = .ok [.imm d] ρ) (hd : ∀ K G, Den K G v d) (hck : ∀ fl sc es, chk S ie fl sc es = (!fl && mConst es fun c => constB ie c)) (hc : ∀ a r, ie ≠ .cons a r)
    (hp : ∀ (X : Cx) c kk p, constB ie c = true → PE X (.Constant c kk p) (tC v)) : Snd S cal k ie := by
  refine Snd.plain (fun sc es => by rw [hck]; rfl) hc fun X sc C e h => ?_
  rw [hck] at h
  simp only [Bool.not_false, Bool.true_and] at h
  obtain ⟨c, kk, p, h1, h2⟩ := mConst_of h
  cases h1
  exact ⟨pe_imp (hp X c kk p h2) fun σ H Q q => tI_know q he (hd X.K), fun _ => rfl, fun _ _ _ z => by cases z⟩
theorem tup_laid {X : Cx} {es : List Expr} {t : TA} {k : Nat} {pos : Pos} (h : PA X es t) : PE X (.Tuple es k pos) (fun σ H Q => t σ H fun xs H1 => xs.length ≤ sizeLine ∧ ∀ p H', H1 p = none → TupNew H1 p xs H' → Q (.ref p) H') := by
  refine ⟨fun pins s σ H Q I hq => ?_⟩
  refine wpAny_Tuple_spliced (thn (h.run pos pins s σ H _ I hq) fun us s1 ⟨xs, H1, I1, r, z, q⟩ => ⟨by rw [← r.length]; exact z, ?_⟩)
  exact ⟨.ref s1.heap.objs.size, _, inv_tnew I1 r z, rfl, q _ _ I1.fresh ⟨_, rfl, rfl⟩⟩
theorem snd_tup {a : IE} (ih : Snd S cal k a) : Snd S cal k (.tup a) := by
  refine Snd.plain (fun sc es => by rw [chk_tup]; rfl) (fun _ _ z => by cases z) fun X sc C e h => ?_
  rw [chk_tup] at h
  simp only [Bool.not_false, Bool.true_and] at h
  obtain ⟨as, kk, p, h1, h2⟩ := mTup_of h
  cases h1
  refine ⟨pe_imp (tup_laid (ih.A X sc C as h2)) fun σ H Q q => ?_, fun _ => rfl, fun _ _ _ z => by cases z⟩
  obtain ⟨a0, G, ρ, w, ρ', h3, R, kq⟩ := q
  refine tA_of (show (ev cal a ρ).bnd _ = .ok [w] ρ' from h3) R fun ws ρ1 vs H1 G1 q1 s1 R1 t => ?_
  obtain ⟨ds, ρ2, e2, q2⟩ := bnd_of q1
  split at q2
  · rename_i hl
    cases q2
    obtain ⟨G2, s2, R2, dn⟩ := R1.frzAll t e2
    refine ⟨by rw [dn.len, ← line_eq]; exact hl, fun p H' hp tn => ?_⟩
    exact tI_end kq (s1.trans s2) R2 (.tup R2.sub hp dn tn)
  · cases q2
theorem snd_lst {a : IE} (ih : Snd S cal k a) : Snd S cal k (.lst a) := by
  refine Snd.plain (fun sc es => by rw [chk_lst]; rfl) (fun _ _ z => by cases z) fun X sc C e h => ?_
  rw [chk_lst] at h
  simp only [Bool.not_false, Bool.true_and] at h
  obtain ⟨as, p, h1, h2⟩ := mLst_of h
  cases h1
  refine ⟨pe_imp (pe_lst (ih.A X sc C as h2)) fun σ H Q q => ?_, fun _ => rfl, fun _ _ _ z => by cases z⟩
  obtain ⟨a0, G, ρ, w, ρ', h3, R, kq⟩ := q
  refine tA_of (show (ev cal a ρ).bnd _ = .ok [w] ρ' from h3) R fun ws ρ1 vs H1 G1 q1 s1 R1 t => ?_
  obtain ⟨ds, ρ2, e2, q2⟩ := bnd_of q1
  split at q2
  · rename_i hl
    cases q2
    obtain ⟨G2, s2, R2, dn⟩ := R1.frzAll t e2
    refine ⟨by rw [dn.len, ← line_eq]; exact hl, fun p hp => ?_⟩
    exact tI_end kq (s1.trans s2) R2 (.newF hp (.lst dn))
  · cases q2
/-- an operation of two by values -/
theorem opD_imp {X : Cx} {a b : IE} {g : D → D → Option W} {σ : L2.St} {H : Hp} {Q : VK} {F : Rho → Rs (List W)} (q : tI X.K F σ H Q)
    (hF : ∀ ρ, F ρ = (ev cal a ρ).bnd fun xs ρ1 => (ev cal b ρ1).bnd fun ys ρ2 => two (fun x y ρ => opt ((g x y).map fun w => [w]) ρ) xs ys ρ2) : tOp (rD X.K g) (tI X.K (ev cal a)) (tI X.K (ev cal b)) σ H Q := by
  obtain ⟨a0, G, ρ, w, ρ', h3, R, kq⟩ := q
  rw [hF] at h3
  refine tI_2 h3 R fun d e ρ2 v u H2 G2 h s2 R2 sv su => ?_
  obtain ⟨h4, rfl⟩ := opt_of h
  obtain ⟨w', h5, h6⟩ := Option.map_eq_some_iff.mp h4
  cases h6
  exact ⟨G2, d, e, w, R2.sub, sv, su, h5, fun v' H' r => tI_end kq s2 R2 r⟩
theorem opC_imp {X : Cx} {a b : IE} {g : D → D → Option Bool} {σ : L2.St} {H : Hp} {Q : VK} {F : Rho → Rs (List W)} (q : tI X.K F σ H Q)
    (hF : ∀ ρ, F ρ = (ev cal a ρ).bnd fun xs ρ1 => (ev cal b ρ1).bnd fun ys ρ2 => two (fun x y ρ => opt ((g x y).map fun c => [W.imm (.bool c)]) ρ) xs ys ρ2) : tOp (rC X.K g) (tI X.K (ev cal a)) (tI X.K (ev cal b)) σ H Q := by
  obtain ⟨a0, G, ρ, w, ρ', h3, R, kq⟩ := q
  rw [hF] at h3
  refine tI_2 h3 R fun d e ρ2 v u H2 G2 h s2 R2 sv su => ?_
  obtain ⟨h4, rfl⟩ := opt_of h
  obtain ⟨c, h5, h6⟩ := Option.map_eq_some_iff.mp h4
  cases h6
  exact ⟨G2, d, e, c, R2.sub, sv, su, h5, tI_end kq s2 R2 (.same (.bl c))⟩
theorem binR {X : Cx} {o : BOp} {op : Operator} (h : opB o op = true) : OpR X (binaryOp op) (rD X.K (binD o)) := by
  cases o with
  | add => cases op <;> first | (cases h; done) | exact or_add
  | sub => cases op <;> first | (cases h; done) | exact or_sub
  | mul => cases op <;> first | (cases h; done) | exact or_mul
  | fdiv => cases op <;> first | (cases h; done) | exact or_fdiv
  | md => cases op <;> first | (cases h; done) | exact or_md
  | pow => cases op <;> first | (cases h; done) | exact or_pow
theorem snd_bin {o : BOp} {a b : IE} (iha : Snd S cal k a) (ihb : Snd S cal k b) : Snd S cal k (.bin o a b) := by
  refine Snd.plain (fun sc es => by rw [chk_bin]; rfl) (fun _ _ z => by cases z) fun X sc C e h => ?_
  rw [chk_bin] at h
  simp only [Bool.not_false, Bool.true_and] at h
  obtain ⟨x, op, y, p, h1, h2⟩ := mBin_of h
  cases h1
  simp only [Bool.and_eq_true] at h2
  exact ⟨pe_imp (pe_op (binR h2.1.1) (iha.E X sc C x h2.1.2).1 (ihb.E X sc C y h2.2).1) fun σ H Q q => opD_imp q fun ρ => rfl, fun _ => rfl, fun _ _ _ z => by cases z⟩
theorem cmpR {X : Cx} (hu : X.A.units + 200 < cLine) {o : COp} {op : CmpOp} (h : copB o op = true) : OpR X (compareOp op) (rC X.K (cmpD o)) := by
  cases o with
  | eq => cases op <;> first | (cases h; done) | exact oc_eq (by omega)
  | ne => cases op <;> first | (cases h; done) | exact oc_ne (by omega)
  | lt => cases op <;> first | (cases h; done) | exact oc_lt
  | le => cases op <;> first | (cases h; done) | exact oc_le
  | gt => cases op <;> first | (cases h; done) | exact oc_gt
  | ge => cases op <;> first | (cases h; done) | exact oc_ge
  | isin => cases op <;> first | (cases h; done) | exact oc_in (by omega)
  | nin => cases op <;> first | (cases h; done) | exact oc_nin (by omega)
theorem snd_cmp {o : COp} {a b : IE} (iha : Snd S cal k a) (ihb : Snd S cal k b) : Snd S cal k (.cmp o a b) := by
  refine ⟨fun X sc C e h => ?_, fun X sc C es q => (by rw [chk_cmp] at q; cases q), fun _ _ z => by cases z⟩
  rw [chk_cmp] at h
  simp only [Bool.not_false, Bool.true_and] at h
  obtain ⟨x, op, y, p, h1, h2⟩ := mCmp1_of h
  cases h1
  simp only [Bool.and_eq_true, Bool.not_eq_true'] at h2
  obtain ⟨⟨⟨h3, h4⟩, h5⟩, h6⟩ := h2
  have r := cmpR C.units h3
  have px := (iha.E X sc C x h5).1
  have py := (ihb.E X sc C y h6).1
  exact ⟨pe_imp (pe_cmpR r px py h4) fun σ H Q q => opC_imp q fun ρ => rfl, pt_imp (pt_cmpR r px py h4) fun σ H Q q => opC_imp (tT_I q) fun ρ => rfl, fun _ _ _ z => by cases z⟩
theorem snd_chn {o q : COp} {a b c : IE} (iha : Snd S cal k a) (ihb : Snd S cal k b) (ihc : Snd S cal k c) : Snd S cal k (.chn o q a b c) := by
  have imp : ∀ {X : Cx} {σ : L2.St} {H : Hp} {Q : VK}, tI X.K (ev cal (.chn o q a b c)) σ H Q → tChain (rC X.K (cmpD o)) (rC X.K (cmpD q)) (tI X.K (ev cal a)) (tI X.K (ev cal b)) (tI X.K (ev cal c)) σ H Q := fun {X σ H Q} z => by
    obtain ⟨a0, G, ρ, w, ρ', h3, R, kq⟩ := z
    refine tI_2 (show (ev cal a ρ).bnd _ = .ok [w] ρ' from h3) R fun d e ρ2 v u H2 G2 h s2 R2 sv su => ?_
    have hj : ∃ j, e = .int j := by
      cases e <;> first | exact ⟨_, rfl⟩ | cases h
    obtain ⟨j, rfl⟩ := hj
    simp only at h
    cases hc : cmpD o d (.int j) with
    | none => simp only [hc] at h; cases h
    | some t =>
      simp only [hc] at h
      refine ⟨G2, d, _, t, R2.sub, sv, su, hc, t, rfl, ?_⟩
      cases t with
      | false =>
        cases h
        exact tI_end kq s2 R2 (.same (.bl false))
      | true =>
        simp only at h
        show tI X.K (ev cal c) σ H2 _
        refine tI_d h R2 fun f ρ3 y H3 G3 hk s3 R3 sy => ?_
        obtain ⟨h4, rfl⟩ := opt_of hk
        obtain ⟨c', h5, h6⟩ := Option.map_eq_some_iff.mp h4
        cases h6
        have su2 := su.int
        subst su2
        exact ⟨G3, _, f, c', R3.sub, .den (.int j), sy, h5, tI_end kq (s2.trans s3) R3 (.same (.bl c'))⟩
  refine ⟨fun X sc C e h => ?_, fun X sc C es z => (by rw [chk_chn] at z; cases z), fun _ _ z => by cases z⟩
  rw [chk_chn] at h
  simp only [Bool.not_false, Bool.true_and] at h
  obtain ⟨x, op, op2, y, z, p, h1, h2⟩ := mCmp2_of h
  cases h1
  simp only [Bool.and_eq_true, Bool.not_eq_true'] at h2
  obtain ⟨⟨⟨⟨⟨h3, h4⟩, h5⟩, h6⟩, h7⟩, h8⟩ := h2
  have r1 := cmpR C.units h3
  have r2 := cmpR C.units h4
  have px := (iha.E X sc C x h6).1
  have py := (ihb.E X sc C y h7).1
  have pz := (ihc.E X sc C z h8).1
  exact ⟨pe_imp (pe_chain r1 r2 px py pz h5) fun σ H Q q => imp q, pt_imp (pt_chain r1 r2 px py pz h5) fun σ H Q q => imp (tT_I q), fun _ _ _ z => by cases z⟩
end
end RC
end RC7f
section RC7g
set_option Elab.async false
set_option linter.all false
set_option maxRecDepth 100000
set_option autoImplicit false
set_option maxHeartbeats 4000000
/-! RC7g: .. the other forms -/
namespace RC
open PySem PySem.Spec PyProof.Rows L2

section
variable {S : Sx} {cal : Cal} {k : Nat}
theorem nil_of {r : IE} {sc : Scope} (h : chk S r true sc [] = true) : r = .nil := by
  cases r <;> first | rfl | exact absurd (show false = true from h) Bool.false_ne_true
theorem snd_v {i : Nat} : Snd S cal k (.v i) := by
  refine Snd.plain (fun sc es => by rw [chk_v]; rfl) (fun _ _ z => by cases z) fun X sc C e h => ?_
  rw [chk_v] at h
  simp only [Bool.not_false, Bool.true_and] at h
  obtain ⟨x, p, h1, h2⟩ := mName_of h
  cases h1
  refine ⟨pe_imp (slotB_of C h2) fun σ H Q q => ?_, fun _ => rfl, fun _ _ _ z => by cases z⟩
  obtain ⟨a0, G, ρ, w, ρ', h3, R, kq⟩ := q
  have h3 : (match lkp ρ i with
    | some e => if e.ow then Rs.ok [W.al i] ρ else .ok [.imm e.d] ρ
    | none => .no) = .ok [w] ρ' := h3
  cases he : lkp ρ i with
  | none => rw [he] at h3; cases h3
  | some e =>
    rw [he] at h3
    simp only at h3
    obtain ⟨v, hv, kk⟩ := R.ent i e (lkp_some.mp he)
    refine ⟨v, hv, ?_⟩
    split at h3
    · rename_i ho
      cases h3
      exact kq v H G (Same.refl _) R (.al (lkp_some.mp he) ho hv)
    · rename_i ho
      cases h3
      refine kq v H G (Same.refl _) R (.imm ?_)
      cases kk with
      | imm d => exact d
      | own _ _ _ => exact absurd rfl ho
      | bor _ _ _ => exact absurd rfl ho
      | fb _ d => exact d
theorem snd_nil : Snd S cal k .nil := by
  refine ⟨fun X sc C e h => (by rw [chk_nil] at h; cases h), fun X sc C es h => ?_, fun _ _ z => by cases z⟩
  rw [chk_nil] at h
  cases es with
  | cons _ _ => cases h
  | nil =>
    refine pa_imp pa_nil fun σ H Q q => ?_
    obtain ⟨a0, G, ρ, ws, ρ', h3, R, kq⟩ := q
    cases h3
    exact kq [] H G (Same.refl _) R .nil
theorem snd_cons {a r : IE} (iha : Snd S cal k a) (ihr : Snd S cal k r) : Snd S cal k (.cons a r) := by
  refine ⟨fun X sc C e h => (by rw [chk_cons] at h; cases h), fun X sc C es h => ?_, fun a' r' z X sc C e h => ?_⟩
  · rw [chk_cons] at h
    simp only [Bool.true_and] at h
    cases es with
    | nil => cases h
    | cons e es =>
      simp only [Bool.and_eq_true] at h
      obtain ⟨⟨h1, h2⟩, h3⟩ := h
      refine pa_imp (pa_cons (iha.E X sc C e h2).1 (ihr.A X sc C es h3) (star_of h1)) fun σ H Q q => ?_
      obtain ⟨a0, G, ρ, ws, ρ', h4, R, kq⟩ := q
      refine tI_then (show (ev cal a ρ).bnd _ = .ok ws ρ' from h4) (fun ws ρ1 _ z => ?_) R fun w ρ1 v H1 G1 _ z s1 R1 t => ?_
      · obtain ⟨w, rfl, _⟩ := one_of z
        exact ⟨w, rfl⟩
      · obtain ⟨w', e1, z⟩ := one_of z
        cases e1
        obtain ⟨us, ρ2, e2, z⟩ := bnd_of z
        cases z
        exact ⟨a0, G1, ρ1, us, _, e2, R1, fun vs H2 G2 s2 R2 ts => kq (v :: vs) H2 G2 (s1.trans s2) R2 (.cons (t.ext s2) ts)⟩
  · cases z
    exact (iha.E X sc C e h).1
theorem snd_neg {a : IE} (iha : Snd S cal k a) : Snd S cal k (.neg a) := by
  refine ⟨fun X sc C e h => ?_, fun X sc C es z => (by rw [chk_neg] at z; cases z), fun _ _ z => by cases z⟩
  rw [chk_neg] at h
  simp only [Bool.not_false, Bool.true_and] at h
  obtain ⟨op, x, p, h1, h2⟩ := mUn_of h
  cases h1
  simp only [Bool.and_eq_true] at h2
  obtain ⟨h2, h3⟩ := h2
  cases op <;> first | (cases h2; done) | skip
  have pe : PE X (.UnaryOp .USub x p) (tI X.K (ev cal (.neg a))) := by
    refine pe_imp (pe_un un_neg (iha.E X sc C x h3).1) fun σ H Q q => ?_
    obtain ⟨a0, G, ρ, w, ρ', h4, R, kq⟩ := q
    refine tI_d (show (ev cal a ρ).bnd _ = .ok [w] ρ' from h4) R fun d ρ1 v H1 G1 hk s1 R1 sv => ?_
    cases d <;> first | (cases hk; done) | skip
    cases hk
    exact ⟨_, sv.int, tI_end kq s1 R1 (.same (.int _))⟩
  exact ⟨pe, pt_of pe fun _ => rfl, fun _ _ _ z => by cases z⟩
def isNonD : D → Bool
  | .none => true
  | _ => false
theorem sees_non {K : PySem.W.Frag} {G H : Hp} {v : V} {d : D} (h : Sees K G H v d) : decide (v = .non) = isNonD d := by
  cases h with
  | den h => cases h <;> rfl
  | @cell p d c =>
    generalize H p = y at c
    cases c <;> rfl
theorem snd_isn {a : IE} (iha : Snd S cal k a) : Snd S cal k (.isn a) := by
  refine ⟨fun X sc C e h => ?_, fun X sc C es z => (by rw [chk_isn] at z; cases z), fun _ _ z => by cases z⟩
  rw [chk_isn] at h
  simp only [Bool.not_false, Bool.true_and] at h
  obtain ⟨x, op, y, p, h1, h2⟩ := mCmp1_of h
  cases h1
  simp only [Bool.and_eq_true] at h2
  obtain ⟨⟨h2, h3⟩, h4⟩ := h2
  cases op <;> first | (cases h2; done) | skip
  obtain ⟨c, kk, p', h5, h6⟩ := mConst_of h3
  cases h5
  cases c <;> first | (cases h6; done) | skip
  have px := (iha.E X sc C x h4).1
  have imp : ∀ σ H Q, tI X.K (ev cal (.isn a)) σ H Q → tIsN (tI X.K (ev cal a)) σ H Q := fun σ H Q q => by
    obtain ⟨a0, G, ρ, w, ρ', h4, R, kq⟩ := q
    refine tI_d (show (ev cal a ρ).bnd _ = .ok [w] ρ' from h4) R fun d ρ1 v H1 G1 hk s1 R1 sv => ?_
    cases hk
    rw [sees_non sv]
    cases d <;> exact tI_end kq s1 R1 (.same (.bl _))
  exact ⟨pe_imp (pe_cmp (pc_isN px) (nobehind _ (by decide) (by decide))) imp, pt_imp (pt_cmp (pc_isN px) (nobehind _ (by decide) (by decide))) fun σ H Q q => imp _ _ _ (tT_I q), fun _ _ _ z => by cases z⟩
theorem snd_isnn {a : IE} (iha : Snd S cal k a) : Snd S cal k (.isnn a) := by
  refine ⟨fun X sc C e h => ?_, fun X sc C es z => (by rw [chk_isnn] at z; cases z), fun _ _ z => by cases z⟩
  rw [chk_isnn] at h
  simp only [Bool.not_false, Bool.true_and] at h
  obtain ⟨x, op, y, p, h1, h2⟩ := mCmp1_of h
  cases h1
  simp only [Bool.and_eq_true] at h2
  obtain ⟨⟨h2, h3⟩, h4⟩ := h2
  cases op <;> first | (cases h2; done) | skip
  obtain ⟨c, kk, p', h5, h6⟩ := mConst_of h3
  cases h5
  cases c <;> first | (cases h6; done) | skip
  have px := (iha.E X sc C x h4).1
  have imp : ∀ σ H Q, tI X.K (ev cal (.isnn a)) σ H Q → tNotN (tI X.K (ev cal a)) σ H Q := fun σ H Q q => by
    obtain ⟨a0, G, ρ, w, ρ', h4, R, kq⟩ := q
    refine tI_d (show (ev cal a ρ).bnd _ = .ok [w] ρ' from h4) R fun d ρ1 v H1 G1 hk s1 R1 sv => ?_
    cases hk
    have e := sees_non sv
    rw [e]
    cases d <;> exact tI_end kq s1 R1 (.same (.bl _))
  exact ⟨pe_imp (pe_cmp (pc_notN px) (nobehind _ (by decide) (by decide))) imp, pt_imp (pt_cmp (pc_notN px) (nobehind _ (by decide) (by decide))) fun σ H Q q => imp _ _ _ (tT_I q), fun _ _ _ z => by cases z⟩
theorem snd_not {a : IE} (iha : Snd S cal k a) : Snd S cal k (.not a) := by
  refine ⟨fun X sc C e h => ?_, fun X sc C es z => (by rw [chk_not] at z; cases z), fun _ _ z => by cases z⟩
  rw [chk_not] at h
  simp only [Bool.not_false, Bool.true_and] at h
  obtain ⟨op, x, p, h1, h2⟩ := mUn_of h
  cases h1
  simp only [Bool.and_eq_true] at h2
  obtain ⟨h2, h3⟩ := h2
  cases op <;> first | (cases h2; done) | skip
  obtain ⟨p1, p2, _⟩ := iha.E X sc C x h3
  refine ⟨pe_imp (pe_not p1) fun σ H Q q => ?_, pt_imp (pt_not p2) fun σ H Q q => ?_, fun _ _ _ z => by cases z⟩
  · obtain ⟨a0, G, ρ, w, ρ', h4, R, kq⟩ := q
    obtain ⟨ws, ρ1, e1, h4⟩ := bnd_of (show (ev cal a ρ).bnd _ = .ok [w] ρ' from h4)
    obtain ⟨b, ρ2, e2, h4⟩ := bnd_of h4
    cases h4
    exact tT_I ⟨a0, G, ρ, b, ρ', by rw [e1]; exact e2, R, fun H' G' s R' => kq _ H' G' s R' (.imm (.bl _))⟩
  · obtain ⟨a0, G, ρ, c, ρ', h4, R, kq⟩ := q
    obtain ⟨ws, ρ1, e1, h4⟩ := bnd_of h4
    obtain ⟨ws2, ρ2, e2, h5⟩ := bnd_of (show (ev cal a ρ).bnd _ = .ok ws ρ1 from e1)
    obtain ⟨b, ρ3, e3, h6⟩ := bnd_of h5
    cases h6
    cases h4
    exact ⟨a0, G, ρ, b, ρ', by rw [e2]; exact e3, R, fun H' G' s R' => kq H' G' s R'⟩
theorem and_imp {X : Cx} {a b : IE} {σ : L2.St} {H : Hp} {Q : VK} (q : tI X.K (ev cal (.and a b)) σ H Q) : tAndV (tI X.K (ev cal a)) (tI X.K (ev cal b)) σ H Q := by
  obtain ⟨a0, G, ρ, w, ρ', h4, R, kq⟩ := q
  obtain ⟨ws, ρ1, e1, h4⟩ := bnd_of (show (ev cal a ρ).bnd _ = .ok [w] ρ' from h4)
  obtain ⟨c, ρ2, e2, h4⟩ := bnd_of h4
  refine tT_I ⟨a0, G, ρ, c, ρ2, by rw [e1]; exact e2, R, fun H' G' s R' => ?_⟩
  cases c with
  | true => exact ⟨a0, G', ρ2, w, ρ', h4, R', fun v H2 G2 s2 R2 k2 => kq v H2 G2 (s.trans s2) R2 k2⟩
  | false =>
    cases h4
    exact kq _ H' G' s R' (.imm (.bl _))
theorem andT_imp {X : Cx} {a b : IE} {σ : L2.St} {H : Hp} {Q : Bool → Hp → Prop} (q : tT X.K (ev cal (.and a b)) σ H Q) : tAnd (tT X.K (ev cal a)) (tT X.K (ev cal b)) σ H Q := by
  obtain ⟨a0, G, ρ, d, ρ', h4, R, kq⟩ := q
  obtain ⟨ws0, ρ0, e0, h5⟩ := bnd_of h4
  obtain ⟨ws, ρ1, e1, e0⟩ := bnd_of (show (ev cal a ρ).bnd _ = .ok ws0 ρ0 from e0)
  obtain ⟨c, ρ2, e2, e0⟩ := bnd_of e0
  refine ⟨a0, G, ρ, c, ρ2, by rw [e1]; exact e2, R, fun H' G' s R' => ?_⟩
  cases c with
  | true =>
    rw [if_pos rfl]
    have e0 : ev cal b ρ2 = .ok ws0 ρ0 := e0
    exact ⟨a0, G', ρ2, d, ρ', by rw [e0]; exact h5, R', fun H2 G2 s2 R2 => kq H2 G2 (s.trans s2) R2⟩
  | false =>
    rw [if_neg (by simp)]
    cases e0
    obtain ⟨w, e3, hd, rfl⟩ := asB_of h5
    cases e3
    cases hd
    exact kq H' G' s R'
theorem snd_and {a b : IE} (iha : Snd S cal k a) (ihb : Snd S cal k b) : Snd S cal k (.and a b) := by
  refine ⟨fun X sc C e h => ?_, fun X sc C es z => (by rw [chk_and] at z; cases z), fun _ _ z => by cases z⟩
  rw [chk_and] at h
  simp only [Bool.not_false, Bool.true_and] at h
  obtain ⟨op, x, y, r, p, h1, h2⟩ := mBool_of h
  cases h1
  simp only [Bool.and_eq_true] at h2
  obtain ⟨⟨h2, h3⟩, h4⟩ := h2
  cases op <;> first | (cases h2; done) | skip
  obtain ⟨p1, p2, _⟩ := iha.E X sc C x h3
  obtain ⟨q1, q2, q3⟩ := ihb.E X sc C _ h4
  have tl : PE X (.BoolOp .And (y :: r) p) (tI X.K (ev cal b)) ∧ PW X (.BoolOp .And (y :: r) p) (tT X.K (ev cal b)) := by
    cases r with
    | nil => exact ⟨pe_one q1, pw_and1 q2⟩
    | cons z r => exact ⟨q1, q3 _ _ _ rfl⟩
  have w : PW X (.BoolOp .And (x :: y :: r) p) (tT X.K (ev cal (.and a b))) := ⟨fun wh pins s σ H Q I h => (pw_and p2 tl.2).run wh pins s σ H Q I (andT_imp h)⟩
  exact ⟨pe_imp (pe_and p1 tl.1) fun σ H Q q => and_imp q, w.pt, fun _ _ _ z => by cases z; exact w⟩
theorem or_imp {X : Cx} {a b : IE} {σ : L2.St} {H : Hp} {Q : VK} (q : tI X.K (ev cal (.or a b)) σ H Q) : tOrV (tI X.K (ev cal a)) (tI X.K (ev cal b)) σ H Q := by
  obtain ⟨a0, G, ρ, w, ρ', h4, R, kq⟩ := q
  obtain ⟨ws, ρ1, e1, h4⟩ := bnd_of (show (ev cal a ρ).bnd _ = .ok [w] ρ' from h4)
  obtain ⟨c, ρ2, e2, h4⟩ := bnd_of h4
  refine tT_I ⟨a0, G, ρ, c, ρ2, by rw [e1]; exact e2, R, fun H' G' s R' => ?_⟩
  cases c with
  | false => exact ⟨a0, G', ρ2, w, ρ', h4, R', fun v H2 G2 s2 R2 k2 => kq v H2 G2 (s.trans s2) R2 k2⟩
  | true =>
    cases h4
    exact kq _ H' G' s R' (.imm (.bl _))
theorem orT_imp {X : Cx} {a b : IE} {σ : L2.St} {H : Hp} {Q : Bool → Hp → Prop} (q : tT X.K (ev cal (.or a b)) σ H Q) : tOr (tT X.K (ev cal a)) (tT X.K (ev cal b)) σ H Q := by
  obtain ⟨a0, G, ρ, d, ρ', h4, R, kq⟩ := q
  obtain ⟨ws0, ρ0, e0, h5⟩ := bnd_of h4
  obtain ⟨ws, ρ1, e1, e0⟩ := bnd_of (show (ev cal a ρ).bnd _ = .ok ws0 ρ0 from e0)
  obtain ⟨c, ρ2, e2, e0⟩ := bnd_of e0
  refine ⟨a0, G, ρ, c, ρ2, by rw [e1]; exact e2, R, fun H' G' s R' => ?_⟩
  cases c with
  | false =>
    rw [if_neg (by simp)]
    have e0 : ev cal b ρ2 = .ok ws0 ρ0 := e0
    exact ⟨a0, G', ρ2, d, ρ', by rw [e0]; exact h5, R', fun H2 G2 s2 R2 => kq H2 G2 (s.trans s2) R2⟩
  | true =>
    rw [if_pos rfl]
    cases e0
    obtain ⟨w, e3, hd, rfl⟩ := asB_of h5
    cases e3
    cases hd
    exact kq H' G' s R'
theorem snd_or {a b : IE} (iha : Snd S cal k a) (ihb : Snd S cal k b) : Snd S cal k (.or a b) := by
  refine ⟨fun X sc C e h => ?_, fun X sc C es z => (by rw [chk_or] at z; cases z), fun _ _ z => by cases z⟩
  rw [chk_or] at h
  simp only [Bool.not_false, Bool.true_and] at h
  obtain ⟨op, x, y, r, p, h1, h2⟩ := mBool_of h
  cases h1
  simp only [Bool.and_eq_true] at h2
  obtain ⟨⟨h2, h3⟩, h4⟩ := h2
  cases op <;> first | (cases h2; done) | skip
  obtain ⟨p1, p2, _⟩ := iha.E X sc C x h3
  obtain ⟨q1, q2, q3⟩ := ihb.E X sc C _ h4
  have tl : PE X (.BoolOp .Or (y :: r) p) (tI X.K (ev cal b)) ∧ PW X (.BoolOp .Or (y :: r) p) (tT X.K (ev cal b)) := by
    cases r with
    | nil => exact ⟨pe_one q1, pw_or1 q2⟩
    | cons z r => exact ⟨q1, q3 _ _ _ rfl⟩
  have w : PW X (.BoolOp .Or (x :: y :: r) p) (tT X.K (ev cal (.or a b))) := ⟨fun wh pins s σ H Q I h => (pw_or p2 tl.2).run wh pins s σ H Q I (orT_imp h)⟩
  exact ⟨pe_imp (pe_or p1 tl.1) fun σ H Q q => or_imp q, w.pt, fun _ _ _ z => by cases z; exact w⟩
theorem snd_ix {a b : IE} (iha : Snd S cal k a) (ihb : Snd S cal k b) : Snd S cal k (.ix a b) := by
  refine Snd.plain (fun sc es => by rw [chk_ix]; rfl) (fun _ _ z => by cases z) fun X sc C e h => ?_
  rw [chk_ix] at h
  simp only [Bool.not_false, Bool.true_and] at h
  obtain ⟨x, y, p, h1, h2⟩ := mSub_of h
  cases h1
  simp only [Bool.and_eq_true] at h2
  obtain ⟨⟨h2, h3⟩, h4⟩ := h2
  refine ⟨pe_imp (pe_ix oix (iha.E X sc C x h3).1 (ihb.E X sc C y h4).1 (plain_of h2)) fun σ H Q q => ?_, fun _ => rfl, fun _ _ _ z => by cases z⟩
  refine opD_imp (g := fun x y => (ixD x y).map W.imm) q fun ρ => ?_
  show (ev cal a ρ).bnd _ = _
  congr 1
  funext xs ρ1
  congr 1
  funext ys ρ2
  congr 1
  funext x y ρ
  cases ixD x y <;> rfl
end
end RC
end RC7g
section RC7h
set_option Elab.async false
set_option linter.all false
set_option maxRecDepth 100000
set_option autoImplicit false
set_option maxHeartbeats 4000000
/-! RC7h: .. slices, calls, methods -/
namespace RC
open PySem PySem.Spec PyProof.Rows L2

section
variable {S : Sx} {cal : Cal} {k : Nat}
def tOP (K : PySem.W.Frag) (f : Rho → Rs (List W)) : TO := fun σ H Q => ∃ (a : Amb) (G : Hp) (ρ : Rho) (o : Option Int) (ρ' : Rho), (f ρ).bnd intP = .ok o ρ' ∧ RelG K a G ρ σ H ∧ ∀ H' G', Same G G' → RelG K a G' ρ' σ H' → Q o H'
theorem po_imp {X : Cx} {e : Option Expr} {t t' : TO} (h : PO X e t) (i : ∀ σ H Q, t' σ H Q → t σ H Q) : PO X e t' := ⟨fun pins s σ H Q I q => h.run pins s σ H Q I (i σ H Q q)⟩
theorem snd_part {lo : IE} (ih : Snd S cal k lo) {X : Cx} {sc : Scope} (C : CtxOk X S sc cal k) {l : Option Expr} (h : chk S lo true sc l.toList = true) : PO X l (tOP X.K (ev cal lo)) := by
  cases l with
  | none =>
    have := nil_of h
    subst this
    refine po_imp po_none fun σ H Q q => ?_
    obtain ⟨a, G, ρ, o, ρ', h1, R, kq⟩ := q
    cases h1
    exact kq H G (Same.refl _) R
  | some e =>
    cases lo <;> first | exact absurd (show false = true from h) Bool.false_ne_true | skip
    rename_i a r
    have h' := h
    rw [chk_cons] at h'
    simp only [Bool.true_and, Option.toList, Bool.and_eq_true] at h'
    have hr := nil_of h'.2
    subst hr
    refine po_imp (po_some (ih.H a _ rfl X sc C e h'.1.2)) fun σ H Q q => ?_
    obtain ⟨a0, G, ρ, o, ρ', h1, R, kq⟩ := q
    obtain ⟨ws, ρ1, e1, h1⟩ := bnd_of h1
    refine tI_then (show (ev cal a ρ).bnd _ = .ok ws ρ1 from e1) (fun ws' ρ2 _ z => ?_) R fun w ρ2 v H1 G1 _ z s1 R1 t => ?_
    · obtain ⟨w, rfl, _⟩ := one_of z
      exact ⟨w, rfl⟩
    · obtain ⟨w', e2, z⟩ := one_of z
      cases e2
      obtain ⟨us, ρ3, e3, z⟩ := bnd_of z
      cases z
      cases e3
      unfold intP at h1
      simp only at h1
      split at h1
      · rename_i i hd
        cases h1
        exact ⟨i, (R1.sees t hd).int, kq H1 G1 s1 R1⟩
      · cases h1
theorem snd_sl {a lo hi : IE} (iha : Snd S cal k a) (ihl : Snd S cal k lo) (ihh : Snd S cal k hi) : Snd S cal k (.sl a lo hi) := by
  refine Snd.plain (fun sc es => by rw [chk_sl]; rfl) (fun _ _ z => by cases z) fun X sc C e h => ?_
  rw [chk_sl] at h
  simp only [Bool.not_false, Bool.true_and] at h
  obtain ⟨x, l, u, p, q, h1, h2⟩ := mSl_of h
  cases h1
  simp only [Bool.and_eq_true] at h2
  obtain ⟨⟨h2, h3⟩, h4⟩ := h2
  refine ⟨pe_imp (pe_slice osl (iha.E X sc C x h2).1 (snd_part ihl C h3) (snd_part ihh C h4)) fun σ H Q q => ?_, fun _ => rfl, fun _ _ _ z => by cases z⟩
  obtain ⟨a0, G, ρ, w, ρ', h5, R, kq⟩ := q
  refine tI_then (show (ev cal a ρ).bnd _ = .ok [w] ρ' from h5) (fun ws ρ1 _ z => ?_) R fun w1 ρ1 v H1 G1 _ z s1 R1 t => ?_
  · obtain ⟨_, ρ2, _, z⟩ := bnd_of z
    obtain ⟨_, ρ3, _, z⟩ := bnd_of z
    obtain ⟨_, ρ4, _, z⟩ := bnd_of z
    obtain ⟨_, ρ5, _, z⟩ := bnd_of z
    obtain ⟨w, d, rfl, _⟩ := oneD_of z
    exact ⟨w, rfl⟩
  · obtain ⟨ls, ρ2, e2, z⟩ := bnd_of z
    obtain ⟨l', ρ3, e3, z⟩ := bnd_of z
    refine ⟨a0, G1, ρ1, l', ρ3, by rw [e2]; exact e3, R1, fun H2 G2 s2 R2 => ?_⟩
    obtain ⟨hs, ρ4, e4, z⟩ := bnd_of z
    obtain ⟨h', ρ5, e5, z⟩ := bnd_of z
    refine ⟨a0, G2, ρ3, h', ρ5, by rw [e4]; exact e5, R2, fun H3 G3 s3 R3 => ?_⟩
    obtain ⟨w', d, e6, hd, z⟩ := oneD_of z
    cases e6
    obtain ⟨z9, rfl⟩ := opt_of z
    obtain ⟨w2, z1, z2⟩ := Option.map_eq_some_iff.mp z9
    cases z2
    exact ⟨G3, d, w, R3.sub, R3.sees (t.ext (s2.trans s3)) hd, z1, fun v' H' r => tI_end kq (s1.trans (s2.trans s3)) R3 r⟩
theorem snd_call {f : String} {a : IE} (iha : Snd S cal k a) : Snd S cal k (.call f a) := by
  refine Snd.plain (fun sc es => by rw [chk_call]; rfl) (fun _ _ z => by cases z) fun X sc C e h => ?_
  rw [chk_call] at h
  simp only [Bool.not_false, Bool.true_and] at h
  obtain ⟨x, p, as, q, h1, h2⟩ := mCall_of h
  cases h1
  simp only [Bool.and_eq_true, decide_eq_true_eq] at h2
  obtain ⟨⟨⟨⟨h2, h3⟩, h4⟩, h5⟩, h6⟩ := h2
  obtain ⟨hg, hdb⟩ := glB_of C h3
  obtain ⟨np, g, fd, ps, F, hm, hk, hb, hn⟩ := C.g.fns f (by simpa using h4)
  rw [← h2] at hm
  have hr : Room k X.A := C.room.mono (by omega)
  have imp : ∀ σ H Q, tI X.K (ev cal (.call f a)) σ H Q → tCall (spD X.K np (cal f)) [] C8.E0 (tA X.K (ev cal a)) σ H Q := fun σ H Q q => by
    obtain ⟨a0, G, ρ, w, ρ', h7, R, kq⟩ := q
    refine tA_of (show (ev cal a ρ).bnd _ = .ok [w] ρ' from h7) R fun ws ρ1 vs H1 G1 z s1 R1 t => ?_
    obtain ⟨ws', ρ2, e2, z⟩ := bnd_of (show (preW ws ρ1).bnd _ = .ok [w] ρ' from z)
    obtain ⟨G2, s2, R2, t2⟩ := R1.preW t e2
    split at z
    · rename_i hnd
      cases he : argE ρ2 ws' with
      | none => rw [he] at z; cases z
      | some es =>
        rw [he] at z
        simp only at z
        cases hc : cal f es with
        | none => rw [hc] at z; cases z
        | some r =>
          obtain ⟨w2, os⟩ := r
          rw [hc] at z
          simp only at z
          rw [List.append_nil]
          refine ⟨G2, es, w2, os, call_pre R2 t2 he hnd, hn _ _ hc, hc, fun v H3 G3 post => ?_⟩
          have fin : ∀ ρ3, outE ws' os ρ2 = some ρ3 → w2 = w → ρ3 = ρ' → Q v H3 := fun ρ3 ho e1 e2 => by
            subst e1 e2
            obtain ⟨R3, k3⟩ := call_post R2 t2 he hnd post ho
            exact kq v H3 G3 (s1.trans (s2.trans post.old)) R3 k3
          cases w2 with
          | al i => cases z
          | imm d =>
            simp only at z
            cases ho : outE ws' os ρ2 with
            | none => rw [ho] at z; cases z
            | some ρ3 => rw [ho] at z; cases z; exact fin _ ho rfl rfl
          | fr d =>
            simp only at z
            cases ho : outE ws' os ρ2 with
            | none => rw [ho] at z; cases z
            | some ρ3 => rw [ho] at z; cases z; exact fin _ ho rfl rfl
    · cases z
  refine ⟨?_, fun _ => rfl, fun _ _ _ z => by cases z⟩
  cases as with
  | nil =>
    have := nil_of h6
    subst this
    refine pe_imp (pe_call0 (E := C8.E0) F hr hg hm hk hb .nil C8.pass0 hdb) fun σ H Q q => ?_
    have := imp σ H Q q
    obtain ⟨a0, G, ρ, ws, ρ', h8, R, kq⟩ := this
    cases h8
    exact kq [] H G (Same.refl _) R .nil
  | cons e es =>
    obtain ⟨n1, n2⟩ := Bool.and_eq_true_iff.mp (show (nst e && es.all nst) = true from h5)
    exact pe_imp (pe_call (E := C8.E0) F hr hg hm hk hb .nil C8.pass0 (iha.A X sc C _ h6) hdb (star_of n1) (stars_any n2)) imp
/-- a built-in's call -/
theorem bltI {X : Cx} {a : IE} {F : Rho → Rs (List W)} {g : List D → Option W} {σ : L2.St} {H : Hp} {Q : VK} (q : tI X.K F σ H Q)
    (hF : ∀ ρ, F ρ = (ev cal a ρ).bnd fun ws ρ1 => match ders ρ1 ws with
      | some ds => opt ((g ds).map fun w => [w]) ρ1
      | none => .no) : tCB (rB X.K g) (tA X.K (ev cal a)) σ H Q := by
  obtain ⟨a0, G, ρ, w, ρ', h7, R, kq⟩ := q
  rw [hF] at h7
  refine tA_of h7 R fun ws ρ1 vs H1 G1 z s1 R1 t => ?_
  cases hd : ders ρ1 ws with
  | none => rw [hd] at z; cases z
  | some ds =>
    rw [hd] at z
    simp only at z
    obtain ⟨z9, rfl⟩ := opt_of z
    obtain ⟨w2, z1, z2⟩ := Option.map_eq_some_iff.mp z9
    cases z2
    exact ⟨G1, ds, w, R1.sub, R1.seesAll t hd, z1, fun v' H' r => tI_end kq s1 R1 r⟩
theorem cb_dict {X : Cx} : CallR X (.type "dict") (rB X.K (bltD .dict)) := by
  intro pins s σ H xs us Q I r h
  obtain ⟨G, ds, w, sg, sa, hf, q⟩ := h
  have c : ∃ es, ds = [.dict es] ∧ w = .fr (.dict es) := by
    unfold bltD at hf
    split at hf <;> simp_all
  obtain ⟨es, rfl, rfl⟩ := c
  obtain ⟨v, rfl, s1⟩ := sa.one
  obtain ⟨b, ks, rfl, h1, t1⟩ := s1.dct sg
  obtain ⟨u, rfl, rx⟩ := vals1 r
  cases rx
  exact d_copyOf I (.inl h1) fun p s' hp I' => ⟨.ref p, _, I', rfl, q _ _ (.newF hp (.dct t1))⟩
theorem snd_blt {b : Blt} {a : IE} (iha : Snd S cal k a) : Snd S cal k (.blt b a) := by
  refine Snd.plain (fun sc es => by rw [chk_blt]; rfl) (fun _ _ z => by cases z) fun X sc C e h => ?_
  rw [chk_blt] at h
  simp only [Bool.not_false, Bool.true_and] at h
  obtain ⟨x, p, as, q, h1, h2⟩ := mCall_of h
  cases h1
  simp only [Bool.and_eq_true, Bool.not_eq_true'] at h2
  obtain ⟨⟨⟨h2, h3⟩, h4⟩, h5⟩ := h2
  cases as with
  | nil => cases h4
  | cons e es =>
    obtain ⟨n1, n2⟩ := Bool.and_eq_true_iff.mp (show (nst e && es.all nst) = true from h3)
    have pa := iha.A X sc C _ h5
    have hst := star_of (env := X.env) (es := es) n1
    have hpl := stars_any (env := X.env) (pos := q) n2
    have nn : ∀ {n : String}, x = Str.ofString n → Str.ofString n ≠ ("__name__" : Str) → x ≠ ("__name__" : Str) := fun e h => by rw [e]; exact h
    refine ⟨?_, fun _ => rfl, fun _ _ _ z => by cases z⟩
    have imp : ∀ σ H Q, tI X.K (ev cal (.blt b a)) σ H Q → tCB (rB X.K (bltD b)) (tA X.K (ev cal a)) σ H Q := fun σ H Q q => bltI q fun ρ => rfl
    cases b with
    | dict =>
      obtain ⟨e1, hg, hdb, hm⟩ := bnB_of C h2
      exact pe_imp (pe_callTy cb_dict hg hm (by rw [e1]; exact PyProof.Rows.boot_dict) pa (nn e1 (by decide)) hdb hst hpl) imp
    | gcd =>
      simp only [Bool.and_eq_true, decide_eq_true_eq] at h2
      obtain ⟨⟨h6, h7⟩, h8⟩ := h2
      obtain ⟨hg, hdb⟩ := glB_of C h7
      exact pe_imp (pe_callBfun cb_gcd hg (by rw [h6]; exact C.g.gcd h8) pa hdb hst hpl) imp
    | len =>
      obtain ⟨e1, hg, hdb, hm⟩ := bnB_of C h2
      exact pe_imp (pe_callB cb_len hg hm (by rw [e1]; exact PySem.boot_len) pa (nn e1 (by decide)) hdb hst hpl) imp
    | int =>
      obtain ⟨e1, hg, hdb, hm⟩ := bnB_of C h2
      exact pe_imp (pe_callTy cb_int hg hm (by rw [e1]; exact PyProof.Rows.boot_int) pa (nn e1 (by decide)) hdb hst hpl) imp
    | abs =>
      obtain ⟨e1, hg, hdb, hm⟩ := bnB_of C h2
      exact pe_imp (pe_callB cb_abs hg hm (by rw [e1]; exact PyProof.Rows.boot_abs) pa (nn e1 (by decide)) hdb hst hpl) imp
    | all =>
      obtain ⟨e1, hg, hdb, hm⟩ := bnB_of C h2
      exact pe_imp (pe_callB (cb_all C.calm) hg hm (by rw [e1]; exact PyProof.Rows.boot_all) pa (nn e1 (by decide)) hdb hst hpl) imp
    | any =>
      obtain ⟨e1, hg, hdb, hm⟩ := bnB_of C h2
      exact pe_imp (pe_callB (cb_any C.calm) hg hm (by rw [e1]; exact PyProof.Rows.boot_any) pa (nn e1 (by decide)) hdb hst hpl) imp
    | tuple =>
      obtain ⟨e1, hg, hdb, hm⟩ := bnB_of C h2
      exact pe_imp (pe_callTy cb_tuple hg hm (by rw [e1]; exact PyProof.Rows.boot_tuple) pa (nn e1 (by decide)) hdb hst hpl) imp
    | list =>
      obtain ⟨e1, hg, hdb, hm⟩ := bnB_of C h2
      exact pe_imp (pe_callTy cb_list hg hm (by rw [e1]; exact PyProof.Rows.boot_list) pa (nn e1 (by decide)) hdb hst hpl) imp
theorem boot_ty (t : Ty) : bootBuiltins (Str.ofString (tyName t)) = some (.type (tyName t)) := by
  cases t
  · exact PyProof.Rows.boot_int
  · exact PyProof.Rows.boot_str
  · exact PyProof.Rows.boot_bool
  · exact PyProof.Rows.boot_tuple
  · exact PyProof.Rows.boot_list
theorem pe_ty {X : Cx} {sc : Scope} (C : CtxOk X S sc cal k) {t : Ty} {e : Expr} (h : tyB S sc t e = true) : PE X e (tC (.ty (tyName t))) := by
  obtain ⟨x, p, h1, h2⟩ := mName_of h
  cases h1
  obtain ⟨e1, hg, hdb, hm⟩ := bnB_of C h2
  exact pe_bltn hg hm (by rw [e1]; exact boot_ty t) rfl (by rw [e1]; cases t <;> decide) hdb
theorem pa_tys {X : Cx} {sc : Scope} (C : CtxOk X S sc cal k) : ∀ {ts : List Ty} {es : List Expr}, tysB S sc ts es = true → PA X es (fun _ H Q => Q (ts.map fun t => V.ty (tyName t)) H)
  | [], [], _ => pa_nil
  | [], _ :: _, h => by cases h
  | _ :: _, [], h => by cases h
  | t :: ts, e :: es, h => by
    obtain ⟨h1, h2⟩ := Bool.and_eq_true_iff.mp (show (tyB S sc t e && tysB S sc ts es) = true from h)
    have hn : nst e = true := by
      obtain ⟨x, p, h3, _⟩ := mName_of h1
      cases h3; rfl
    exact pa_imp (pa_cons (pe_ty C h1) (pa_tys C h2) (star_of hn)) fun σ H Q q => q
theorem Sees.laid {K : PySem.W.Frag} {G H : Hp} {v : V} {d : D} {T : Addr} {o : HO} (h : Sees K G H v d) (hn : H T = none) : Sees K G (upd H T o) v d := by
  cases h with
  | den h => exact .den h
  | @cell p d c =>
    obtain ⟨u, hu⟩ := c.some
    have ne : p ≠ T := fun z => by rw [z, hn] at hu; cases hu
    exact .cell (by rw [upd_ne ne]; exact c)
theorem snd_isi {ts : List Ty} {a : IE} (iha : Snd S cal k a) : Snd S cal k (.isi ts a) := by
  refine Snd.plain (fun sc es => by rw [chk_isi]; rfl) (fun _ _ z => by cases z) fun X sc C e h => ?_
  rw [chk_isi] at h
  simp only [Bool.not_false, Bool.true_and] at h
  obtain ⟨x, p, as, q, h1, h2⟩ := mCall_of h
  cases h1
  simp only [Bool.and_eq_true] at h2
  obtain ⟨h2, h3⟩ := h2
  obtain ⟨e1, hg, hdb, hm⟩ := bnB_of C h2
  split at h3
  · rename_i as e t
    simp only [Bool.and_eq_true] at h3
    obtain ⟨⟨⟨n1, n2⟩, h4⟩, h5⟩ := h3
    have pe := (iha.E X sc C e h5).1
    have hst := star_of (env := X.env) (es := [t]) n1
    have hpl := stars_any (env := X.env) (pos := q) (es := [t]) (by simp [n2])
    have hv : bootBuiltins x = some (.builtin "isinstance") := by rw [e1]; exact PyProof.Rows.boot_isinstance
    have hnn : x ≠ ("__name__" : Str) := by rw [e1]; decide
    refine ⟨?_, fun _ => rfl, fun _ _ _ z => by cases z⟩
    unfold isiB at h4
    split at h4
    · rename_i y p2
      split at h4
      · rename_i t0
        refine pe_imp (pe_callB (cb_isi t0) hg hm hv (pa_cons pe (pa_cons (pe_ty C h4) pa_nil (star_of n2)) hst) hnn hdb hst hpl) fun σ H Q q => ?_
        obtain ⟨a0, G, ρ, w, ρ', h7, R, kq⟩ := q
        refine tI_d (show (ev cal a ρ).bnd _ = .ok [w] ρ' from h7) R fun d ρ1 v H1 G1 hk s1 R1 sv => ?_
        cases hk
        refine ⟨G1, v, d, R1.sub, rfl, sv, ?_⟩
        have e2 : ([t0].any fun t => isTy t d) = isTy t0 d := by simp
        rw [e2] at kq
        exact tI_end kq s1 R1 (.same (.bl _))
      · cases h4
    · rename_i es kk p2
      simp only [Bool.and_eq_true, decide_eq_true_eq] at h4
      refine pe_imp (pe_callB (cb_isiM ts) hg hm hv (pa_cons pe (pa_cons (pe_tup (pa_tys C h4.2)) pa_nil (star_of n2)) hst) hnn hdb hst hpl) fun σ H Q q => ?_
      obtain ⟨a0, G, ρ, w, ρ', h7, R, kq⟩ := q
      refine tI_d (show (ev cal a ρ).bnd _ = .ok [w] ρ' from h7) R fun d ρ1 v H1 G1 hk s1 R1 sv => ?_
      cases hk
      refine ⟨by rw [List.length_map, sizeLine_eq]; omega, fun T hT => ?_⟩
      have R2 := R1.laid (o := .tup (ts.map fun t => V.ty (tyName t))) hT
      exact ⟨G1, v, T, d, R2.sub, rfl, upd_same, sv.laid hT, tI_end kq s1 R2 (.same (.bl _))⟩
    · cases h4
  · cases h3
end
end RC
end RC7h
section RC7i
set_option Elab.async false
set_option linter.all false
set_option maxRecDepth 100000
set_option autoImplicit false
set_option maxHeartbeats 4000000
/-! RC7i: .. sorting, lists' methods -/
namespace RC
open PySem PySem.Spec PyProof.Rows L2

section
variable {S : Sx} {cal : Cal} {k : Nat}
theorem snd_srt {a : IE} (iha : Snd S cal k a) : Snd S cal k (.srt a) := by
  refine Snd.plain (fun sc es => by rw [chk_srt]; rfl) (fun _ _ z => by cases z) fun X sc C e h => ?_
  rw [chk_srt] at h
  simp only [Bool.not_false, Bool.true_and] at h
  obtain ⟨x, p, as, q, h1, h2⟩ := mCall_of h
  cases h1
  simp only [Bool.and_eq_true] at h2
  obtain ⟨h2, h3⟩ := h2
  obtain ⟨e1, hg, hdb, hm⟩ := bnB_of C h2
  split at h3
  · rename_i as e
    obtain ⟨n1, h5⟩ := Bool.and_eq_true_iff.mp h3
    have hu := C.units
    refine ⟨pe_imp (pe_callB (cb_sorted (by omega)) hg hm (by rw [e1]; exact PyProof.Rows.boot_sorted) (pa_cons (iha.E X sc C e h5).1 pa_nil (star_of n1)) (by rw [e1]; decide) hdb (star_of n1) (stars_any (es := []) rfl)) fun σ H Q q => ?_, fun _ => rfl, fun _ _ _ z => by cases z⟩
    obtain ⟨a0, G, ρ, w, ρ', h7, R, kq⟩ := q
    refine tI_d (show (ev cal a ρ).bnd _ = .ok [w] ρ' from h7) R fun d ρ1 v H1 G1 hk s1 R1 sv => ?_
    obtain ⟨z1, rfl⟩ := opt_of hk
    obtain ⟨ds, z2, z3⟩ := Option.map_eq_some_iff.mp z1
    cases z3
    refine ⟨G1, [d], _, R1.sub, .cons sv .nil, ?_, fun v' H' r => tI_end kq s1 R1 r⟩
    show ((seqD d).bind srtD).map _ = _
    rw [z2]
    rfl
  · cases h3
/-! keys -/
def keyG (cal : Cal) (f : String) (d : D) : Option D := match cal f [⟨.imm, false, d⟩] with
  | some (w, _) => (match w with
    | .imm k => some k
    | .fr k => some k
    | .al _ => none)
  | none => none
def lenG (d : D) : Option D := (seqD d).map fun ds => .int ds.length
theorem mapC_O {f : String} : ∀ ds : List D, mapC cal f ds = mapO (keyG cal f) ds
  | [] => rfl
  | d :: ds => by
    unfold mapC mapO keyG
    rw [mapC_O ds]
    cases cal f [⟨.imm, false, d⟩] with
    | none => rfl
    | some r =>
      obtain ⟨w, os⟩ := r
      cases w <;> rfl
theorem lensD_O : ∀ ds : List D, lensD ds = mapO lenG ds
  | [] => rfl
  | d :: ds => by
    unfold lensD mapO lenG
    rw [lensD_O ds]
    cases seqD d <;> rfl
theorem key_def {X : Cx} {f : String} {np : Nat} {g : Addr} {fd : FuncData} {ps : List Str} (hxe : X.xe = fun _ _ => False) (F : FnOk X.prog X.w X.K X.mg X.base C8.CX0 k g fd ps (spD X.K np (cal f))) (hr : Room k X.A) (hb : Binds X.K fd ps [])
    (hn : ∀ es r, cal f es = some r → es.length = np) : KeyR X (.ref g) (keyG cal f) := by
  intro pins s σ H v u d kd a G ρ Q I rv dn R hg q
  unfold keyG at hg
  cases hc : cal f [⟨.imm, false, d⟩] with
  | none => rw [hc] at hg; cases hg
  | some r =>
    obtain ⟨w, os⟩ := r
    rw [hc] at hg
    simp only at hg
    have T : TsOk X.K G σ [.imm d] [v] := .cons dn .nil
    have he : argE ρ [.imm d] = some [⟨.imm, false, d⟩] := rfl
    have hnd : (als [W.imm d]).Nodup := List.nodup_nil
    have run := run_fn (E := C8.E0) (Q := Q) F hr hb .nil C8.pass0 I (vs := [v]) (us := [u]) (.cons rv .nil) ⟨G, [⟨.imm, false, d⟩], w, os, call_pre R T he hnd, hn _ _ hc, hc, fun v' H' G' post => ?_⟩
    · rw [hxe] at run
      exact run
    · have ho : outE [W.imm d] os ρ = some ρ := by
        have l := post.len
        match os, l with
        | [o], _ => rfl
      obtain ⟨R2, k2⟩ := call_post R T he hnd post ho
      obtain ⟨G3, s3, R3, t3⟩ := R2.thaw k2
      refine q v' H' G3 (post.old.trans s3) R3 ?_
      cases w with
      | imm x => cases hg; exact t3
      | fr x => cases hg; exact t3
      | al i => cases hg
theorem key_len {X : Cx} (hxe : X.xe = fun _ _ => False) : KeyR X (.builtin "len") lenG := by
  intro pins s σ H v u d kd a G ρ Q I rv dn R hg q
  obtain ⟨ds, h1, rfl⟩ := Option.map_eq_some_iff.mp hg
  have run := cb_len (X := X) pins s σ H [v] [u] Q I (.cons rv .nil) ⟨G, [d], .imm (.int ds.length), R.sub, .cons (.den dn) .nil, ?_, fun v' H' r => ?_⟩
  · rw [hxe] at run
    exact run
  · rcases seqD_of h1 with rfl | rfl <;> rfl
  · obtain ⟨G2, s2, R2, k2⟩ := R.res r
    cases k2 with
    | imm h => exact q v' H' G2 s2 R2 h
/-- sorted(e, key=y) -/
theorem pe_sk {X : Cx} {e : Expr} {x kx y : Str} {p p2 p3 pos : Pos} {fv : Value} {te : TE} {r : V → L2.St → Hp → VK → Prop} (hg : Gl X x) (hm : X.mg x = none) (hv : bootBuiltins x = some (.builtin "sorted")) (hn : x ≠ ("__name__" : Str)) (hdb : (x == ("__debug__" : Str)) = false) (hk : kx = Str.ofString "key") (he : PE X e te) (hs : nst e = true)
    (hl : ∀ (pins : List (Addr × Obj)) (s : Shared) (σ : L2.St) (H : Hp) (Q : Value → Shared → Prop), Inv X pins σ H s → Q fv s → wpAny (model X.prog X.w) X.A (eval (.Name y p2) X.env) Q X.xe s)
    (hr : ∀ (pins : List (Addr × Obj)) (s : Shared) (σ : L2.St) (H : Hp) (v : V) (u : Value) (Q : VK), Inv X pins σ H s → RelV v u → r v σ H Q → wpAny (model X.prog X.w) X.A (call (.builtin "sorted") [u] [(Str.ofString "key", fv)]) (EP X pins σ Q) X.xe s) :
    PE X (.Call (.Name x p) [e] [⟨some kx, .Name y p2, p3⟩] pos) (fun σ H Q => te σ H fun v H1 => r v σ H1 Q) := by
  subst hk
  refine ⟨fun pins s σ H Q I h => ?_⟩
  refine wpAny_Call_Name_kw (ld_blt I hg hm hv ?_ hn hdb)
  refine PyProof.Rows.callWith_kw (thn ((pa_cons he pa_nil (star_of hs)).run pos pins s σ H (fun vs H1 => match vs with
    | [v] => r v σ H1 Q
    | _ => False) I h) fun us s1 ⟨vs, H1, I1, r1, q1⟩ => ?_) (by rw [star_of hs]; rfl) (by rw [star_of hs]; rfl) rfl rfl
  show wpAny _ _ (evalAll [(do let v ← eval (.Name y p2) X.env; standAt pos; pure v)]) _ _ s1
  match vs, r1, q1 with
  | [v], r1, q1 =>
    obtain ⟨u, rfl, rv⟩ := vals1 r1
    refine wpAny_evalAll_cons (wpAny_bind (hl pins s1 σ H1 _ I1 (wpAny_bind (wpAny_standAt (wpAny_pure ?_)))))
    exact wpAny_evalAll_nil (hr pins s1 σ H1 v u Q I1 rv q1)
def rSk (K : PySem.W.Frag) (g : D → Option D) (v : V) (σ : L2.St) (H : Hp) (Q : VK) : Prop := ∃ (a : Amb) (G : Hp) (ρ : Rho) (d : D) (ds ks out : List D), Sees K G H v d ∧ RelG K a G ρ σ H ∧ seqD d = some ds ∧ mapO g ds = some ks ∧ srtkD ks ds = some out ∧
  ∀ v H' G', Same G G' → RelG K a G' ρ σ H' → WOk K a G' H' ρ σ (.fr (.list out)) v → Q v H'
theorem snd_srtk {f : String} {a : IE} (iha : Snd S cal k a) : Snd S cal k (.srtk f a) := by
  refine Snd.plain (fun sc es => by rw [chk_srtk]; rfl) (fun _ _ z => by cases z) fun X sc C e h => ?_
  rw [chk_srtk] at h
  simp only [Bool.not_false, Bool.true_and] at h
  obtain ⟨x, p, e', kx, y, p2, p3, q, h1, h2⟩ := mCallK_of h
  cases h1
  simp only [Bool.and_eq_true, decide_eq_true_eq] at h2
  obtain ⟨⟨⟨⟨⟨⟨h2, n1⟩, h3⟩, h4⟩, h5⟩, h6⟩, h7⟩ := h2
  obtain ⟨e1, hg, hdb, hm⟩ := bnB_of C h2
  obtain ⟨hgy, hdby⟩ := glB_of C h5
  obtain ⟨np, g, fd, ps, F, hmy, hk, hb, hn⟩ := C.g.fns f (by simpa using h6)
  have hu := C.units
  have kr : KeyR (atA X X.A.in1.in1) (.ref g) (keyG cal f) := key_def (X := atA X X.A.in1.in1) C.xe F (C.room.in1.in1) hb hn
  refine ⟨pe_imp (pe_sk (fv := .ref g) (r := rSk X.K (keyG cal f)) hg hm (by rw [e1]; exact PyProof.Rows.boot_sorted) (by rw [e1]; decide) hdb h3 (iha.E X sc C e' h7).1 n1 (fun pins s σ H Q I q => ld_glob I hgy (by rw [h4]; exact hmy) q hdby) fun pins s σ H v u Q I rv ⟨a0, G, ρ, d, ds, ks, out, q1, q2, q3, q4, q5, q6⟩ =>
    sorted_key kr (ksk_t1 g) (by omega) I rv q1 q2 q3 q4 q5 q6) fun σ H Q q => ?_, fun _ => rfl, fun _ _ _ z => by cases z⟩
  obtain ⟨a0, G, ρ, w, ρ', h9, R, kq⟩ := q
  refine tI_d (show (ev cal a ρ).bnd _ = .ok [w] ρ' from h9) R fun d ρ1 v H1 G1 hk s1 R1 sv => ?_
  obtain ⟨z1, rfl⟩ := opt_of hk
  obtain ⟨out, z2, z3⟩ := Option.map_eq_some_iff.mp z1
  cases z3
  obtain ⟨ds, z4, z5⟩ := Option.bind_eq_some_iff.mp z2
  obtain ⟨ks, z6, z7⟩ := Option.bind_eq_some_iff.mp z5
  rw [mapC_O] at z6
  exact ⟨a0, G1, ρ', d, ds, ks, out, sv, R1, z4, z6, z7, fun v' H' G' s' R' k' => kq v' H' G' (s1.trans s') R' k'⟩
theorem snd_srtl {a : IE} (iha : Snd S cal k a) : Snd S cal k (.srtl a) := by
  refine Snd.plain (fun sc es => by rw [chk_srtl]; rfl) (fun _ _ z => by cases z) fun X sc C e h => ?_
  rw [chk_srtl] at h
  simp only [Bool.not_false, Bool.true_and] at h
  obtain ⟨x, p, e', kx, y, p2, p3, q, h1, h2⟩ := mCallK_of h
  cases h1
  simp only [Bool.and_eq_true, decide_eq_true_eq] at h2
  obtain ⟨⟨⟨⟨h2, n1⟩, h3⟩, h5⟩, h7⟩ := h2
  obtain ⟨e1, hg, hdb, hm⟩ := bnB_of C h2
  obtain ⟨e2, hgy, hdby, hmy⟩ := bnB_of C h5
  have hu := C.units
  have kr : KeyR (atA X X.A.in1.in1) (.builtin "len") lenG := key_len (X := atA X X.A.in1.in1) C.xe
  refine ⟨pe_imp (pe_sk (fv := .builtin "len") (r := rSk X.K lenG) hg hm (by rw [e1]; exact PyProof.Rows.boot_sorted) (by rw [e1]; decide) hdb h3 (iha.E X sc C e' h7).1 n1 (fun pins s σ H Q I q => ld_blt I hgy hmy (by rw [e2]; exact PySem.boot_len) q (by rw [e2]; decide) hdby) fun pins s σ H v u Q I rv ⟨a0, G, ρ, d, ds, ks, out, q1, q2, q3, q4, q5, q6⟩ =>
    sorted_key kr (ksk_t4 "len") (by omega) I rv q1 q2 q3 q4 q5 q6) fun σ H Q q => ?_, fun _ => rfl, fun _ _ _ z => by cases z⟩
  obtain ⟨a0, G, ρ, w, ρ', h9, R, kq⟩ := q
  refine tI_d (show (ev cal a ρ).bnd _ = .ok [w] ρ' from h9) R fun d ρ1 v H1 G1 hk s1 R1 sv => ?_
  obtain ⟨z1, rfl⟩ := opt_of hk
  obtain ⟨out, z2, z3⟩ := Option.map_eq_some_iff.mp z1
  cases z3
  obtain ⟨ds, z4, z5⟩ := Option.bind_eq_some_iff.mp z2
  obtain ⟨ks, z6, z7⟩ := Option.bind_eq_some_iff.mp z5
  rw [lensD_O] at z6
  exact ⟨a0, G1, ρ', d, ds, ks, out, sv, R1, z4, z6, z7, fun v' H' G' s' R' k' => kq v' H' G' (s1.trans s') R' k'⟩
/-! lists' methods -/
theorem tyO_list {K : PySem.W.Frag} {p : Addr} {H : Hp} {xs : List V} (h : H p = some (.lst xs)) : tyO K "list" (.ref p) H := .inl (.inl ⟨rfl, xs, .inl (.inl h)⟩)
theorem few1 {e : Expr} {env : Env} {pos : Pos} (h : nst e = true) : ((backTo pos (starEach [e] env)).all (fun x => !x.1) && (backToKw pos (keywordEach [] env)).all (fun x => x.1.isSome)
      && decide (([e] : List Expr).length + ([] : List Keyword).length + (if ([] : List Keyword).isEmpty then 0 else 1) < 30)) = true := by
  rw [star_of h]; rfl
theorem popD_of {d q : D} {r : D} (h : popD d = some (q, r)) : ∃ ds, d = .list ds ∧ ds[ds.length - 1]? = some r ∧ q = .list ds.dropLast := by
  cases d <;> first | (cases h; done) | skip
  rename_i ds
  obtain ⟨x, h1, h2⟩ := Option.map_eq_some_iff.mp (show (ds[ds.length - 1]?).map _ = some (q, r) from h)
  cases h2
  exact ⟨ds, rfl, h1, rfl⟩
theorem snd_pop {i : Nat} : Snd S cal k (.pop i) := by
  refine Snd.plain (fun sc es => by rw [chk_pop]; rfl) (fun _ _ z => by cases z) fun X sc C e h => ?_
  rw [chk_pop] at h
  simp only [Bool.not_false, Bool.true_and] at h
  obtain ⟨o, m, p1, as, p2, h1, h2⟩ := mMeth_of h
  cases h1
  simp only [Bool.and_eq_true, decide_eq_true_eq] at h2
  obtain ⟨⟨⟨h2, h3⟩, h4⟩, h5⟩ := h2
  obtain ⟨x, p3, h6, h7⟩ := mName_of h5
  cases h6
  cases as <;> first | (cases h3; done) | skip
  subst h2
  refine ⟨pe_imp (pe_bmo0 PySem.F.plainAttrs_list PySem.F.slot_list_pop PySem.F.type_list_pop (show MtR X "list.pop" rPop from mt_pop) (slotB_of C h7) (base_of rfl) h4) fun σ H Q q => ?_, fun _ => rfl, fun _ _ _ z => by cases z⟩
  obtain ⟨a0, G, ρ, w, ρ', h9, R, kq⟩ := q
  obtain ⟨d, ρ1, e1, h9⟩ := bnd_of (show (chg i popD ρ).bnd _ = .ok [w] ρ' from h9)
  cases h9
  obtain ⟨en, d', c1, _⟩ := chg_of e1
  obtain ⟨v, hv, _⟩ := R.ent i en c1
  obtain ⟨p, ds, xs, d2, rfl, y1, y2, y3, y4⟩ := R.chgL e1 hv fun d q hq => let ⟨ds, h, _⟩ := popD_of hq; ⟨ds, h⟩
  obtain ⟨ds', z1, z2, rfl⟩ := popD_of y3
  cases z1
  obtain ⟨yv, z3, z4⟩ := y2.get z2
  refine ⟨_, hv, tyO_list y1, p, xs, yv, rfl, rfl, y1, by rw [y2.len]; exact z3, ?_⟩
  exact kq yv _ G (Same.refl _) (y4 _ (.lst y2.dl)) (.imm z4)
theorem revD_of {d q : D} {r : D} (h : revD d = some (q, r)) : ∃ ds, d = .list ds ∧ r = .none ∧ q = .list ds.reverse := by
  cases d <;> first | (cases h; done) | skip
  cases h
  exact ⟨_, rfl, rfl, rfl⟩
theorem snd_rev {i : Nat} : Snd S cal k (.rev i) := by
  refine Snd.plain (fun sc es => by rw [chk_rev]; rfl) (fun _ _ z => by cases z) fun X sc C e h => ?_
  rw [chk_rev] at h
  simp only [Bool.not_false, Bool.true_and] at h
  obtain ⟨o, m, p1, as, p2, h1, h2⟩ := mMeth_of h
  cases h1
  simp only [Bool.and_eq_true, decide_eq_true_eq] at h2
  obtain ⟨⟨⟨h2, h3⟩, h4⟩, h5⟩ := h2
  obtain ⟨x, p3, h6, h7⟩ := mName_of h5
  cases h6
  cases as <;> first | (cases h3; done) | skip
  subst h2
  refine ⟨pe_imp (pe_bmo0 PySem.F.plainAttrs_list PySem.F.slot_list_reverse PySem.F.type_list_reverse (show MtR X "list.reverse" rReverse from mt_reverse) (slotB_of C h7) (base_of rfl) h4) fun σ H Q q => ?_, fun _ => rfl, fun _ _ _ z => by cases z⟩
  obtain ⟨a0, G, ρ, w, ρ', h9, R, kq⟩ := q
  obtain ⟨d, ρ1, e1, h9⟩ := bnd_of (show (chg i revD ρ).bnd _ = .ok [w] ρ' from h9)
  cases h9
  obtain ⟨en, d', c1, _⟩ := chg_of e1
  obtain ⟨v, hv, _⟩ := R.ent i en c1
  obtain ⟨p, ds, xs, d2, rfl, y1, y2, y3, y4⟩ := R.chgL e1 hv fun d q hq => let ⟨ds, h, _⟩ := revD_of hq; ⟨ds, h⟩
  obtain ⟨ds', z1, rfl, rfl⟩ := revD_of y3
  cases z1
  refine ⟨_, hv, tyO_list y1, p, xs, rfl, rfl, y1, ?_⟩
  exact kq .non _ G (Same.refl _) (y4 _ (.lst y2.rev)) (.imm .non)
theorem appD_of {x d q : D} {r : D} (h : appD x d = some (q, r)) : ∃ ds, d = .list ds ∧ ds.length < line ∧ r = .none ∧ q = .list (ds ++ [x]) := by
  cases d <;> first | (cases h; done) | skip
  unfold appD at h
  simp only at h
  split at h
  · cases h
    exact ⟨_, rfl, by assumption, rfl, rfl⟩
  · cases h
theorem snd_app {i : Nat} {a : IE} (iha : Snd S cal k a) : Snd S cal k (.app i a) := by
  refine Snd.plain (fun sc es => by rw [chk_app]; rfl) (fun _ _ z => by cases z) fun X sc C e h => ?_
  rw [chk_app] at h
  simp only [Bool.not_false, Bool.true_and] at h
  obtain ⟨o, m, p1, as, p2, h1, h2⟩ := mMeth_of h
  cases h1
  simp only [Bool.and_eq_true, decide_eq_true_eq] at h2
  obtain ⟨⟨⟨h2, h4⟩, h3⟩, h5⟩ := h2
  obtain ⟨x, p3, h6, h7⟩ := mName_of h5
  cases h6
  subst h2
  split at h3
  · rename_i as e
    obtain ⟨n1, h8⟩ := Bool.and_eq_true_iff.mp h3
    refine ⟨pe_imp (pe_bmo PySem.F.plainAttrs_list PySem.F.slot_list_append PySem.F.type_list_append (show MtR X "list.append" rAppend from mt_append) (slotB_of C h7) (pa_cons (iha.E X sc C e h8).1 pa_nil (star_of n1)) (base_of rfl) (few1 n1) h4 (star_of n1) (stars_any (es := []) rfl)) fun σ H Q q => ?_, fun _ => rfl, fun _ _ _ z => by cases z⟩
    obtain ⟨a0, G, ρ, w, ρ', h9, R, kq⟩ := q
    have h9 : (if !hasL i ρ then Rs.no else (ev cal a ρ).bnd fun xs ρ1 => one (fun x ρ => (frzW x ρ).bnd fun x ρ => (chg i (appD x) ρ).bnd fun d ρ2 => .ok [W.imm d] ρ2) xs ρ1) = .ok [w] ρ' := h9
    cases hL : hasL i ρ with
    | false => rw [hL] at h9; cases h9
    | true =>
      rw [hL] at h9
      obtain ⟨p, xs0, hv, hp⟩ := R.hasL hL
      refine ⟨_, hv, tyO_list hp, ?_⟩
      refine tI_then (show (ev cal a ρ).bnd _ = .ok [w] ρ' from h9) (fun ws ρ1 _ z => ?_) R fun w1 ρ1 y H1 G1 _ z s1 R1 t => ?_
      · obtain ⟨w, rfl, _⟩ := one_of z
        exact ⟨w, rfl⟩
      · obtain ⟨w', e2, z⟩ := one_of z
        cases e2
        obtain ⟨d, ρ2, e3, z⟩ := bnd_of z
        obtain ⟨r, ρ3, e4, z⟩ := bnd_of z
        cases z
        obtain ⟨G2, s2, R2, dn⟩ := R1.frz t e3
        obtain ⟨p', ds, xs, d2, e5, y1, y2, y3, y4⟩ := R2.chgL e4 hv fun d q hq => let ⟨ds, h, _⟩ := appD_of hq; ⟨ds, h⟩
        cases e5
        obtain ⟨ds', z1, z2, rfl, rfl⟩ := appD_of y3
        cases z1
        refine ⟨p, xs, y, rfl, rfl, y1, by rw [y2.len, ← line_eq]; exact z2, ?_⟩
        exact kq .non _ G2 (s1.trans s2) (y4 _ (.lst (y2.snoc dn))) (.imm .non)
  · cases h3
theorem snd_bits {a : IE} (iha : Snd S cal k a) : Snd S cal k (.bits a) := by
  refine Snd.plain (fun sc es => by rw [chk_bits]; rfl) (fun _ _ z => by cases z) fun X sc C e h => ?_
  rw [chk_bits] at h
  simp only [Bool.not_false, Bool.true_and] at h
  obtain ⟨o, m, p1, as, p2, h1, h2⟩ := mMeth_of h
  cases h1
  simp only [Bool.and_eq_true, decide_eq_true_eq] at h2
  obtain ⟨⟨⟨⟨h2, h3⟩, h4⟩, h5⟩, h6⟩ := h2
  cases as <;> first | (cases h3; done) | skip
  subst h2
  refine ⟨pe_imp (pe_bits (iha.E X sc C o h6).1 (base_of h5) h4) fun σ H Q q => ?_, fun _ => rfl, fun _ _ _ z => by cases z⟩
  obtain ⟨a0, G, ρ, w, ρ', h9, R, kq⟩ := q
  refine tI_d (show (ev cal a ρ).bnd _ = .ok [w] ρ' from h9) R fun d ρ1 v H1 G1 hk s1 R1 sv => ?_
  cases d <;> first | (cases hk; done) | skip
  cases hk
  exact ⟨_, sv.int, tI_end kq s1 R1 (.same (.int _))⟩
/-- o.index(e): a list's or a tuple's -/
theorem pe_index {X : Cx} {o e : Expr} {to : TE} {t : TA} {apos cpos : Pos} (hu : X.A.units + 65 < cLine) (ho : PE X o to) (ha : PA X [e] t) (hb : nbs o = true) (hn : nst e = true) (hline : (apos.endLine == cpos.line) = true) :
    PE X (.Call (.Attribute o (Str.ofString "index") apos) [e] [] cpos) (fun σ H Q => to σ H fun x H1 => ∃ (G : Hp) (c : D), Same G H1 ∧ Den X.K G x c ∧ (seqD c).isSome = true ∧ t σ H1 fun xs H2 => ∃ (G2 : Hp) (y : V) (d w : D), Same G G2 ∧ Same G2 H2 ∧ xs = [y] ∧ Sees X.K G2 H2 y d ∧ idxD c d = some w ∧ ∀ v, Den X.K G2 v w → Q v H2) := by
  refine ⟨fun pins s σ H Q I h => ?_⟩
  refine wpAny_Call_method_late (base_of hb) (few1 hn) hline rfl (thn (ho.run pins s σ H _ I h) fun v s1 ⟨x, H1, I1, r1, G, c, sg, dn, hc, q1⟩ => ?_)
  have hA := ha.run cpos pins s1 σ H1 _ I1 q1
  have hst := star_of (e := e) (es := []) (env := X.env) hn
  have fin : ∀ (id : String) (hm : MtR X id fun x' vs H2 Q' => x' = x ∧ ∃ (G2 : Hp) (y : V) (d w : D), Same G G2 ∧ Same G2 H2 ∧ vs = [y] ∧ Sees X.K G2 H2 y d ∧ idxD c d = some w ∧ ∀ v, Den X.K G2 v w → Q' v H2),
      wpAny (model X.prog X.w) X.A (callWith cpos (.builtin id) [v] (backTo cpos (starEach [e] X.env)) []) (EP X pins σ Q) X.xe s1 := fun id hm => by
    rw [hst] at hA ⊢
    refine Calls.callWith_builtin rfl (Calls.evalArgs_plain ?_)
    exact thn hA fun us s2 ⟨vs, H2, I2, r2, q2⟩ => hm pins s2 σ H2 x vs v us Q I2 r1 r2 ⟨rfl, q2⟩
  cases hcs : seqD c with
  | none => rw [hcs] at hc; cases hc
  | some ds =>
    rcases seqD_of hcs with rfl | rfl
    · have hty := tyO_is I1 r1 (T := "list") (by
        cases dn with
        | @lst l xs _ h2 _ => exact .inl (.inl ⟨rfl, xs, Same.sql sg h2⟩))
      refine ⟨"list", "list.index", PySem.F.plainAttrs_list, PySem.F.slot_list_index, PySem.F.type_list_index, hty.1, hty.2, fin _ ?_⟩
      intro pins s σ H x' xs v us Q I rx rxs hq
      obtain ⟨rfl, G2, y, d, w, s2, s3, rfl, sy, hi, q⟩ := hq
      obtain ⟨ds', j, z, h1, i1, i2, rfl, hz, he, hno⟩ := idxD_of hi
      have sx : Sees X.K G2 H x' (.list ds) := .den (dn.ext s2)
      exact mt_lidx hu pins s σ H _ _ v us Q I rx rxs ⟨⟨G2, .list ds, d, _, y, s3, rfl, sx, sy, hi, q⟩, ds, sx.dp s3 i2⟩
    · have hty := tyO_is I1 r1 (T := "tuple") (by
        cases dn with
        | @tup l o xs _ h2 h3 _ => exact .inr ⟨rfl, l, o, xs, rfl, sg _ _ h2, h3⟩)
      refine ⟨"tuple", "tuple.index", PySem.F.plainAttrs_tuple, PySem.F.slot_tuple_index, PySem.F.type_tuple_index, hty.1, hty.2, fin _ ?_⟩
      intro pins s σ H x' xs v us Q I rx rxs hq
      obtain ⟨rfl, G2, y, d, w, s2, s3, rfl, sy, hi, q⟩ := hq
      exact mt_tidx hu pins s σ H _ _ v us Q I rx rxs ⟨ds, G2, d, w, y, s3, rfl, .den (dn.ext s2), sy, hi, q⟩
theorem snd_idx {a b : IE} (iha : Snd S cal k a) (ihb : Snd S cal k b) : Snd S cal k (.idx a b) := by
  refine Snd.plain (fun sc es => by rw [chk_idx]; rfl) (fun _ _ z => by cases z) fun X sc C e h => ?_
  rw [chk_idx] at h
  simp only [Bool.not_false, Bool.true_and] at h
  obtain ⟨o, m, p1, as, p2, h1, h2⟩ := mMeth_of h
  cases h1
  simp only [Bool.and_eq_true, decide_eq_true_eq] at h2
  obtain ⟨⟨⟨⟨h2, h4⟩, h5⟩, h3⟩, h6⟩ := h2
  subst h2
  split at h3
  · rename_i as e
    obtain ⟨n1, h8⟩ := Bool.and_eq_true_iff.mp h3
    have hu := C.units
    refine ⟨pe_imp (pe_index (by omega) (iha.E X sc C o h6).1 (pa_cons (ihb.E X sc C e h8).1 pa_nil (star_of n1)) h5 n1 h4) fun σ H Q q => ?_, fun _ => rfl, fun _ _ _ z => by cases z⟩
    obtain ⟨a0, G, ρ, w, ρ', h9, R, kq⟩ := q
    refine tI_then (show (ev cal a ρ).bnd _ = .ok [w] ρ' from h9) (fun ws ρ1 _ z => ?_) R fun w1 ρ1 x H1 G1 _ z s1 R1 t => ?_
    · obtain ⟨w, rfl, _⟩ := one_of z
      exact ⟨w, rfl⟩
    · obtain ⟨w', e2, z⟩ := one_of z
      cases e2
      obtain ⟨c, ρ2, e3, z⟩ := bnd_of z
      obtain ⟨G2, s2, R2, dn⟩ := R1.frz t e3
      have hc : (seqD c).isSome = true := by
        obtain ⟨ys, ρ3, _, z⟩ := bnd_of z
        obtain ⟨w2, d, _, _, z⟩ := oneD_of z
        obtain ⟨z, _⟩ := opt_of z
        obtain ⟨w3, z, _⟩ := Option.map_eq_some_iff.mp z
        obtain ⟨ds, _, _, hs, _⟩ := idxD_of z
        rw [hs]; rfl
      refine ⟨G2, c, R2.sub, dn, hc, ?_⟩
      refine tI_d z R2 fun d ρ3 y H3 G3 hk s3 R3 sy => ?_
      obtain ⟨z1, rfl⟩ := opt_of hk
      obtain ⟨w3, z2, z3⟩ := Option.map_eq_some_iff.mp z1
      cases z3
      exact ⟨G3, y, d, w3, s3, R3.sub, rfl, sy, z2, fun v dv => kq v H3 G3 (s1.trans (s2.trans s3)) R3 (.imm dv)⟩
  · cases h3
theorem joinO_of {c d w : D} (h : joinO c d = some w) : ∃ s ds zs, c = .str s ∧ d = .list ds ∧ strsD ds = some zs ∧ (zs.map Str.length).sum + zs.length * s.length ≤ line ∧ w = .str (Txt.join s zs) := by
  unfold joinO at h
  split at h
  · obtain ⟨zs, h1, h2⟩ := Option.bind_eq_some_iff.mp h
    split at h2
    · cases h2
      exact ⟨_, _, zs, rfl, rfl, h1, by assumption, rfl⟩
    · cases h2
  · cases h
theorem snd_join {a b : IE} (iha : Snd S cal k a) (ihb : Snd S cal k b) : Snd S cal k (.join a b) := by
  refine Snd.plain (fun sc es => by rw [chk_join]; rfl) (fun _ _ z => by cases z) fun X sc C e h => ?_
  rw [chk_join] at h
  simp only [Bool.not_false, Bool.true_and] at h
  obtain ⟨o, m, p1, as, p2, h1, h2⟩ := mMeth_of h
  cases h1
  simp only [Bool.and_eq_true, decide_eq_true_eq] at h2
  obtain ⟨⟨⟨⟨h2, h4⟩, h5⟩, h3⟩, h6⟩ := h2
  subst h2
  split at h3
  · rename_i as e
    obtain ⟨n1, h8⟩ := Bool.and_eq_true_iff.mp h3
    refine ⟨pe_imp (pe_bmo PySem.F.plainAttrs_str PySem.F.slot_str_join PySem.F.type_str_join mt_join (iha.E X sc C o h6).1 (pa_cons (ihb.E X sc C e h8).1 pa_nil (star_of n1)) (base_of h5) (few1 n1) h4 (star_of n1) (stars_any (es := []) rfl)) fun σ H Q q => ?_, fun _ => rfl, fun _ _ _ z => by cases z⟩
    obtain ⟨a0, G, ρ, w, ρ', h9, R, kq⟩ := q
    refine tI_then (show (ev cal a ρ).bnd _ = .ok [w] ρ' from h9) (fun ws ρ1 _ z => ?_) R fun w1 ρ1 x H1 G1 _ z s1 R1 t => ?_
    · obtain ⟨w, rfl, _⟩ := one_of z
      exact ⟨w, rfl⟩
    · obtain ⟨w', e2, z⟩ := one_of z
      cases e2
      obtain ⟨c, ρ2, e3, z⟩ := bnd_of z
      obtain ⟨G2, s2, R2, dn⟩ := R1.frz t e3
      have hc : ∃ s, c = .str s := by
        obtain ⟨ys, ρ3, _, z⟩ := bnd_of z
        obtain ⟨w2, d, _, _, z⟩ := oneD_of z
        obtain ⟨z, _⟩ := opt_of z
        obtain ⟨w3, z, _⟩ := Option.map_eq_some_iff.mp z
        obtain ⟨s, _, _, hs, _⟩ := joinO_of z
        exact ⟨s, hs⟩
      obtain ⟨s, rfl⟩ := hc
      cases dn
      refine ⟨.inl rfl, ?_⟩
      refine tI_d z R2 fun d ρ3 y H3 G3 hk s3 R3 sy => ?_
      obtain ⟨z1, rfl⟩ := opt_of hk
      obtain ⟨w3, z2, z3⟩ := Option.map_eq_some_iff.mp z1
      cases z3
      obtain ⟨s', ds, zs, e4, rfl, z4, z5, rfl⟩ := joinO_of z2
      cases e4
      obtain ⟨l, as, rfl, y1, y2⟩ := sy.lst R3.sub
      rw [strsD_map z4] at y2
      rw [y2.strs] at y1
      refine ⟨s, l, zs, rfl, rfl, .inl y1, by rw [show (16777216 : Nat) = line from rfl]; exact z5, ?_⟩
      exact kq _ H3 G3 (s1.trans (s2.trans s3)) R3 (.imm (.str _))
  · cases h3
end
end RC
end RC7i
section RC7k
set_option Elab.async false
set_option linter.all false
set_option maxRecDepth 100000
set_option autoImplicit false
set_option maxHeartbeats 4000000
/-! RC7k: extend, insert, setdefault, the empty dict -/
namespace RC
open PySem PySem.Spec PyProof.Rows L2

section
open AutoSeq1
theorem ext_gen (T : String) (hT : T = "list" ∨ T = "tuple") (l : Addr) (items : Array Value) (n : Nat) (b : Addr) (items2 : Array Value) (n2 : Nat) (dd : Option Addr) (sl : Array (Option Value)) (hc0 : ¬(!items.isEmpty && Builtin.List.listTooLong (items.size + items2.size)) = true) (hc1 : items.size ≤ sizeLine) (hs2 : items.size + items2.size ≤ sizeLine + 1) :
    Meets (Builtin.«list.extend» ⟨[.ref l, .ref b], []⟩) (fun _ R s => s.heap.get? l = some { cls := .type "list", dict := none, data := .seq items n, slots := #[] } ∧ s.heap.get? b = some { cls := .type T, dict := dd, data := .seq items2 n2, slots := sl } ∧ R (.ok (.ret Value.none)) { s with heap := s.heap.update l (Obj.mapSeq fun x => x ++ items2), toks := s.toks }) :=
  .of_wp fun prog w A R s h => by
    obtain ⟨hp, g, d, tk, os⟩ := s
    obtain ⟨hl, hb, h⟩ := h
    have f1 := idx_int; have f2 := AutoSeq1.sub_tuple_tuple; have f3 := AutoSeq1.sub_list_list; have f4 := AutoSeq1.sub_tuple_list; have f5 := AutoSeq1.sub_list_tuple
    have hz' : (items ++ items2).size ≤ sizeLine + 1 := by rw [Array.size_append]; exact hs2
    rcases hT with rfl | rfl
    · wp_walk using (wpAny_updateSeq hl rfl (hz := hc1) (_hz' := hz')), wpAny_loadPart' hl, wpAny_loadPart' hb
      exact ⟨_, rfl, h⟩
    · wp_walk using (wpAny_updateSeq hl rfl (hz := hc1) (_hz' := hz')), wpAny_loadPart' hl, wpAny_loadPart' hb
      exact ⟨_, rfl, h⟩
end
section
variable {X : Cx}
def rExtD (K : PySem.W.Frag) : V → List V → Hp → VK → Prop := fun x vs H Q => ∃ (l b : Addr) (xs zs : List V), x = .ref l ∧ vs = [.ref b] ∧ H l = some (.lst xs) ∧ (SqL K H b zs ∨ ∃ o : Obj, H b = some (.frz o (.tup zs)) ∧ o.dict = none) ∧ xs.length + zs.length ≤ sizeLine ∧ Q .non (upd H l (.lst (xs ++ zs)))
theorem mt_extD : MtR X "list.extend" (rExtD X.K) := by
  intro pins s σ H x vs v us Q I rx rv h
  obtain ⟨l, b, xs, zs, rfl, rfl, hH, hB, hz, q⟩ := h
  cases rx
  obtain ⟨u, rfl, ru⟩ := rv.one
  cases ru
  obtain ⟨z, its, n, r, hl, e⟩ := I.lstM hH
  obtain ⟨T, its2, n2, dd, sl, hT, r2, e2⟩ : ∃ (T : String) (its2 : List Value) (n2 : Nat) (dd : Option Addr) (sl : Array (Option Value)), (T = "list" ∨ T = "tuple") ∧ Vals zs its2 ∧ s.heap.get? b = some { cls := .type T, dict := dd, data := .seq its2.toArray n2, slots := sl } := by
    rcases hB with hB | ⟨o, hB, _⟩
    · obtain ⟨_, its2, n2, dd, sl, r2, e2⟩ := inv_rdL I hB
      exact ⟨_, its2, n2, dd, sl, .inl rfl, r2, e2⟩
    · obtain ⟨_, _, its2, r2, ⟨cls, dd, data, sl⟩, e2, hc, n2, hd⟩ := inv_rdT I hB
      simp only at hc hd
      subst hc hd
      exact ⟨_, its2, n2, dd, sl, .inr rfl, r2, e2⟩
  have l1 := r.length
  have l2 := r2.length
  have hsz : its.toArray.size + its2.toArray.size ≤ sizeLine := by rw [List.size_toArray, List.size_toArray]; omega
  have hlong : ¬ (!its.toArray.isEmpty && Builtin.List.listTooLong (its.toArray.size + its2.toArray.size)) = true := by
    rw [notLongL hsz, Bool.and_false]
    exact Bool.false_ne_true
  refine call_meets PySem.F.slot_list_extend ⟨_, e, rfl⟩ PySem.F.entry_list_extend (PySem.F.args_list_extend_2 _ _)
    (ext_gen T hT l its.toArray n b its2.toArray n2 dd sl hlong (by rw [List.size_toArray]; omega) (by omega)) ⟨e, e2, ?_⟩
  refine ⟨.non, _, I.lset (its' := its ++ its2) hH e (by simp) (r.append r2) ?_, rfl, q⟩
  rw [List.length_append]
  omega
end
section
variable {S : Sx} {cal : Cal} {k : Nat}
theorem extD_of {x d q : D} {r : D} (h : extD x d = some (q, r)) : ∃ ds es, d = .list ds ∧ seqD x = some es ∧ ds.length + es.length ≤ line ∧ r = .none ∧ q = .list (ds ++ es) := by
  cases d <;> first | (cases h; done) | skip
  rename_i ds
  unfold extD at h
  simp only at h
  split at h
  · split at h
    · rename_i hl
      cases h
      exact ⟨ds, _, rfl, rfl, hl, rfl, rfl⟩
    · cases h
  · split at h
    · rename_i hl
      cases h
      exact ⟨ds, _, rfl, rfl, hl, rfl, rfl⟩
    · cases h
  · cases h
theorem snd_ext {i : Nat} {a : IE} (iha : Snd S cal k a) : Snd S cal k (.ext i a) := by
  refine Snd.plain (fun sc es => by rw [chk_ext]; rfl) (fun _ _ z => by cases z) fun X sc C e h => ?_
  rw [chk_ext] at h
  simp only [Bool.not_false, Bool.true_and] at h
  obtain ⟨o, m, p1, as, p2, h1, h2⟩ := mMeth_of h
  cases h1
  simp only [Bool.and_eq_true, decide_eq_true_eq] at h2
  obtain ⟨⟨⟨h2, h4⟩, h3⟩, h5⟩ := h2
  obtain ⟨x, p3, h6, h7⟩ := mName_of h5
  cases h6
  subst h2
  split at h3
  · rename_i as e
    obtain ⟨n1, h8⟩ := Bool.and_eq_true_iff.mp h3
    refine ⟨pe_imp (pe_bmo PySem.F.plainAttrs_list PySem.F.slot_list_extend PySem.F.type_list_extend mt_extD (slotB_of C h7) (pa_cons (iha.E X sc C e h8).1 pa_nil (star_of n1)) (base_of rfl) (few1 n1) h4 (star_of n1) (stars_any (es := []) rfl)) fun σ H Q q => ?_, fun _ => rfl, fun _ _ _ z => by cases z⟩
    obtain ⟨a0, G, ρ, w, ρ', h9, R, kq⟩ := q
    have h9 : (if !hasL i ρ then Rs.no else (ev cal a ρ).bnd fun xs ρ1 => oneD (fun x ρ => (chg i (extD x) ρ).bnd fun d ρ2 => .ok [W.imm d] ρ2) xs ρ1) = .ok [w] ρ' := h9
    cases hL : hasL i ρ with
    | false => rw [hL] at h9; cases h9
    | true =>
      rw [hL] at h9
      obtain ⟨p, xs0, hv, hp⟩ := R.hasL hL
      refine ⟨_, hv, tyO_list hp, ?_⟩
      refine tI_d (show (ev cal a ρ).bnd _ = .ok [w] ρ' from h9) R fun d ρ1 v H1 G1 hk s1 R1 sv => ?_
      obtain ⟨r, ρ3, e4, z⟩ := bnd_of hk
      cases z
      obtain ⟨p', ds, xs, d2, e5, y1, y2, y3, y4⟩ := R1.chgL e4 hv fun d q hq => let ⟨ds, _, h, _⟩ := extD_of hq; ⟨ds, h⟩
      cases e5
      obtain ⟨ds', es, z1, z2, z3, rfl, rfl⟩ := extD_of y3
      cases z1
      obtain ⟨b, zs, rfl, hb, t⟩ : ∃ b zs, v = .ref b ∧ (SqL X.K H1 b zs ∨ ∃ o : Obj, H1 b = some (.frz o (.tup zs)) ∧ o.dict = none) ∧ DenAll X.K G1 zs es := by
        rcases seqD_of z2 with rfl | rfl
        · obtain ⟨b, zs, e, h, t⟩ := sv.lst R1.sub
          exact ⟨b, zs, e, .inl h, t⟩
        · obtain ⟨b, zs, e, h, t, _⟩ := sv.tup R1.sub
          exact ⟨b, zs, e, .inr h, t⟩
      refine ⟨p, b, xs, zs, rfl, rfl, y1, hb, by rw [y2.len, t.len, ← line_eq]; exact z3, ?_⟩
      exact kq .non _ G1 s1 (y4 _ (.lst (y2.app t))) (.imm .non)
  · cases h3
theorem snd_nild : Snd S cal k .nild := by
  refine Snd.plain (fun sc es => by rw [chk_nild]; rfl) (fun _ _ z => by cases z) fun X sc C e h => ?_
  rw [chk_nild] at h
  simp only [Bool.not_false, Bool.true_and] at h
  split at h
  · rename_i es p z
    cases z
    refine ⟨pe_imp pe_dnewK fun σ H Q q => ?_, fun _ => rfl, fun _ _ _ z => by cases z⟩
    obtain ⟨a0, G, ρ, w, ρ', h9, R, kq⟩ := q
    cases h9
    exact fun p hp => tI_end kq (Same.refl _) R (.newF hp (.dct .nil))
  · cases h
section
variable {K : PySem.W.Frag} {a : Amb} {G G' H H' : Hp} {ρ ρ' : Rho} {σ : L2.St} {v : V}
theorem RelG.hasD (R : RelG K a G ρ σ H) {i : Nat} (h : RC.hasD i ρ = true) : ∃ (p : Addr) (xs : List (Key × V)), σ[i]? = some (some (.ref p)) ∧ H p = some (.dK xs) := by
  unfold RC.hasD at h
  cases he : lkp ρ i with
  | none => rw [he] at h; cases h
  | some e =>
    rw [he] at h
    simp only [Bool.and_eq_true] at h
    obtain ⟨h1, h2⟩ := h
    obtain ⟨x, hx, _⟩ := R.ent i e (lkp_some.mp he)
    obtain ⟨p, rfl, _, c, _, _⟩ := R.owG (lkp_some.mp he) h1 hx
    refine ⟨p, ?_⟩
    obtain ⟨ek, el, ed⟩ := e
    generalize q : H p = y at c
    cases c with
    | lst t => cases h2
    | dct t => exact ⟨_, hx, rfl⟩
theorem RelG.chgK {α : Type} (R : RelG K a G ρ σ H) {i : Nat} {f : D → Option (D × α)} {r : α} (h : chg i f ρ = .ok r ρ') (hv : σ[i]? = some (some v)) (hl : ∀ d q, f d = some q → ∃ ds, d = .dict ds) :
    ∃ (p : Addr) (ds : List (D × D)) (xs : List (Key × V)) (d' : D), v = .ref p ∧ H p = some (.dK xs) ∧ DenKV K G xs ds ∧ f (.dict ds) = some (d', r) ∧ ∀ o', Cell K G (some o') d' → RelG K a G ρ' σ (upd H p o') := by
  obtain ⟨e, d', h1, h2, h3, h4, rfl⟩ := chg_of h
  obtain ⟨p, rfl, _, c, _, _⟩ := R.owG h1 h2 hv
  obtain ⟨ds, hd⟩ := hl _ _ h4
  obtain ⟨ek, el, ed⟩ := e
  simp only at hd h3 c h4
  subst hd
  have hc : ∃ xs, H p = some (.dK xs) ∧ DenKV K G xs ds := by
    generalize q : H p = x at c
    cases c with
    | dct t => exact ⟨_, rfl, t⟩
  obtain ⟨xs, q1, q2⟩ := hc
  exact ⟨p, ds, xs, d', rfl, q1, q2, h4, fun o' c' => R.change h1 h2 h3 hv c'⟩
theorem DenKV.len : ∀ {xs : List (Key × V)} {ds : List (D × D)}, DenKV K G xs ds → xs.length = ds.length
  | _, _, .nil => rfl
  | _, _, .cons _ t => congrArg (· + 1) t.len
theorem DenKV.get {s : Str} : ∀ {xs : List (Key × V)} {ds : List (D × D)}, DenKV K G xs ds → (∀ d, dget ds s = some d → ∃ v, valV xs (.inr s) = some v ∧ Den K G v d) ∧ (dget ds s = none → valV xs (.inr s) = none)
  | _, _, .nil => ⟨(fun d h => by cases h), fun _ => rfl⟩
  | _, _, .cons (k := k) (v := v) (d := d) h t => by
    obtain ⟨h1, h2⟩ := t.get (s := s)
    cases k with
    | inl i =>
      have hn : ((Sum.inl i : Key), v).1 ≠ (Sum.inr s : Key) := fun z => by cases z
      rw [valV_neg hn]
      exact ⟨h1, h2⟩
    | inr j =>
      by_cases e : j = s
      · subst e
        rw [valV_pos rfl]
        have this : ∀ r, dget ((keyD (Sum.inr j), d) :: r) j = some d := fun r => by
          show (if j = j then some d else dget r j) = _
          rw [if_pos rfl]
        refine ⟨fun d' hd => ⟨_, rfl, ?_⟩, fun hd => ?_⟩
        · rw [this] at hd
          cases hd
          exact h
        · rw [this] at hd
          cases hd
      · have hn : ((Sum.inr j : Key), v).1 ≠ (Sum.inr s : Key) := fun z => e (Sum.inr.inj z)
        rw [valV_neg hn]
        have : ∀ r, dget ((keyD (Sum.inr j), d) :: r) s = dget r s := fun r => by
          show (if j = s then some d else dget r s) = _
          rw [if_neg e]
        rw [this]
        exact ⟨h1, h2⟩
theorem DenKV.snoc {k : Key} {d : D} (h : Den K G v d) : ∀ {xs : List (Key × V)} {ds : List (D × D)}, DenKV K G xs ds → DenKV K G (xs ++ [(k, v)]) (ds ++ [(keyD k, d)])
  | _, _, .nil => .cons h .nil
  | _, _, .cons g t => .cons g (t.snoc h)
theorem sdefD_of {x y d q r : D} (h : sdefD x y d = some (q, r)) : ∃ kvs s, d = .dict kvs ∧ x = .str s ∧ kvs.length < line ∧ ((dget kvs s = some r ∧ q = .dict kvs) ∨ (dget kvs s = none ∧ r = y ∧ q = .dict (kvs ++ [(.str s, y)]))) := by
  unfold sdefD at h
  split at h
  · split at h
    · split at h
      · rename_i hd
        split at h
        · rename_i hl
          cases h
          exact ⟨_, _, rfl, rfl, hl, .inl ⟨hd, rfl⟩⟩
        · cases h
      · rename_i hd
        split at h
        · rename_i hl
          cases h
          exact ⟨_, _, rfl, rfl, hl, .inr ⟨hd, rfl, rfl⟩⟩
        · cases h
    · cases h
  · cases h
theorem upd_eq {H : Hp} {p : Addr} {o : HO} (h : H p = some o) : upd H p o = H := by
  funext b
  by_cases e : b = p
  · subst e; rw [upd_same, h]
  · rw [upd_ne e]
end
theorem few2 {e f : Expr} {env : Env} {pos : Pos} (h : nst e = true) (g : nst f = true) : ((backTo pos (starEach [e, f] env)).all (fun x => !x.1) && (backToKw pos (keywordEach [] env)).all (fun x => x.1.isSome)
    && decide (([e, f] : List Expr).length + ([] : List Keyword).length + (if ([] : List Keyword).isEmpty then 0 else 1) < 30)) = true := by
  rw [star_of h, star_of g]; rfl
theorem snd_sdef {i : Nat} {a b : IE} (iha : Snd S cal k a) (ihb : Snd S cal k b) : Snd S cal k (.sdef i a b) := by
  refine Snd.plain (fun sc es => by rw [chk_sdef]; rfl) (fun _ _ z => by cases z) fun X sc C e h => ?_
  rw [chk_sdef] at h
  simp only [Bool.not_false, Bool.true_and] at h
  obtain ⟨o, m, p1, as, p2, h1, h2⟩ := mMeth_of h
  cases h1
  simp only [Bool.and_eq_true, decide_eq_true_eq] at h2
  obtain ⟨⟨⟨h2, h4⟩, h3⟩, h5⟩ := h2
  obtain ⟨x, p3, h6, h7⟩ := mName_of h5
  cases h6
  subst h2
  split at h3
  · rename_i as e f
    simp only [Bool.and_eq_true] at h3
    obtain ⟨⟨⟨n1, n2⟩, h8⟩, h10⟩ := h3
    refine ⟨pe_imp (pe_dsetd (slotB_of C h7) (iha.E X sc C e h8).1 (ihb.E X sc C f h10).1 ⟨base_of rfl, few2 n1 n2, h4, by rw [star_of n1, star_of n2]; rfl⟩) fun σ H Q q => ?_, fun _ => rfl, fun _ _ _ z => by cases z⟩
    obtain ⟨a0, G, ρ, w, ρ', h9, R, kq⟩ := q
    have h9 : (if !hasD i ρ then Rs.no else (ev cal a ρ).bnd fun xs ρ1 => (ev cal b ρ1).bnd fun ys ρ2 => oneD (fun x ρ => one (fun y ρ => (frzW y ρ).bnd fun y ρ => (chg i (sdefD x y) ρ).bnd fun d ρ2 => .ok [W.imm d] ρ2) ys ρ) xs ρ2) = .ok [w] ρ' := h9
    cases hL : hasD i ρ with
    | false => rw [hL] at h9; cases h9
    | true =>
      rw [hL] at h9
      obtain ⟨p, xs0, hv, hp⟩ := R.hasD hL
      refine ⟨_, hv, p, rfl, .inl ⟨xs0, .inl hp⟩, ?_⟩
      refine tI_then (show (ev cal a ρ).bnd _ = .ok [w] ρ' from h9) (fun ws ρ1 _ z => ?_) R fun w1 ρ1 y H1 G1 _ z s1 R1 t => ?_
      · obtain ⟨ys, ρ2, _, z⟩ := bnd_of z
        obtain ⟨w, d, rfl, _, _⟩ := oneD_of z
        exact ⟨w, rfl⟩
      · refine tI_then z (fun ws ρ2 _ z => ?_) R1 fun w2 ρ2 y2 H2 G2 _ z s2 R2 t2 => ?_
        · obtain ⟨w, d, _, _, z⟩ := oneD_of z
          obtain ⟨w, rfl, _⟩ := one_of z
          exact ⟨w, rfl⟩
        · obtain ⟨w', d, e1, hd, z⟩ := oneD_of z
          cases e1
          obtain ⟨w'', e2, z⟩ := one_of z
          cases e2
          obtain ⟨dy, ρ3, e3, z⟩ := bnd_of z
          obtain ⟨r, ρ4, e4, z⟩ := bnd_of z
          cases z
          have sk := R2.sees (t.ext s2) hd
          obtain ⟨G3, s3, R3, dn⟩ := R2.frz t2 e3
          obtain ⟨p', ds, xs, d2, e5, k1, k2, k3, k4⟩ := R3.chgK e4 hv fun d q hq => let ⟨ds, _, h, _⟩ := sdefD_of hq; ⟨ds, h⟩
          cases e5
          obtain ⟨ds', s, z1, rfl, z3, z4⟩ := sdefD_of k3
          cases z1
          have hk := sk.str
          subst hk
          refine ⟨xs, .inr s, k1, rfl, by rw [k2.len, ← line_eq]; exact z3, fun v hvv => ?_, fun hvv => ?_⟩
          · rcases z4 with ⟨z4, rfl⟩ | ⟨z4, rfl, rfl⟩
            · obtain ⟨v', h11, h12⟩ := (k2.get (s := s)).1 _ z4
              rw [hvv] at h11
              cases h11
              have R4 := k4 _ (.dct k2)
              rw [upd_eq k1] at R4
              exact kq v H2 G3 ((s1.trans s2).trans s3) R4 (.imm h12)
            · rw [(k2.get (s := s)).2 z4] at hvv
              cases hvv
          · rcases z4 with ⟨z4, rfl⟩ | ⟨z4, rfl, rfl⟩
            · obtain ⟨v', h11, h12⟩ := (k2.get (s := s)).1 _ z4
              rw [hvv] at h11
              cases h11
            · rw [putK_new _ hvv]
              exact kq y2 _ G3 ((s1.trans s2).trans s3) (k4 _ (.dct (k2.snoc (k := .inr s) dn))) (.imm dn)
  · cases h3
theorem insD_of {x y d q r : D} (h : insD x y d = some (q, r)) : ∃ ds j, d = .list ds ∧ x = .int j ∧ 0 ≤ j ∧ j ≤ ds.length ∧ ds.length < line ∧ r = .none ∧ q = .list (ds.take j.toNat ++ y :: ds.drop j.toNat) := by
  unfold insD at h
  split at h
  · split at h
    · split at h
      · rename_i hl
        cases h
        exact ⟨_, _, rfl, rfl, hl.1, hl.2.1, hl.2.2, rfl, rfl⟩
      · cases h
    · cases h
  · cases h
theorem snd_ins {i : Nat} {a b : IE} (iha : Snd S cal k a) (ihb : Snd S cal k b) : Snd S cal k (.ins i a b) := by
  refine Snd.plain (fun sc es => by rw [chk_ins]; rfl) (fun _ _ z => by cases z) fun X sc C e h => ?_
  rw [chk_ins] at h
  simp only [Bool.not_false, Bool.true_and] at h
  obtain ⟨o, m, p1, as, p2, h1, h2⟩ := mMeth_of h
  cases h1
  simp only [Bool.and_eq_true, decide_eq_true_eq] at h2
  obtain ⟨⟨⟨h2, h4⟩, h3⟩, h5⟩ := h2
  obtain ⟨x, p3, h6, h7⟩ := mName_of h5
  cases h6
  subst h2
  split at h3
  · rename_i as e f
    simp only [Bool.and_eq_true] at h3
    obtain ⟨⟨⟨n1, n2⟩, h8⟩, h10⟩ := h3
    refine ⟨pe_imp (pe_bmo PySem.F.plainAttrs_list PySem.F.slot_list_insert PySem.F.type_list_insert mt_insert (slotB_of C h7) (pa_cons (iha.E X sc C e h8).1 (pa_cons (ihb.E X sc C f h10).1 pa_nil (star_of n2)) (star_of n1)) (base_of rfl) (few2 n1 n2) h4 (star_of n1) (stars_any (es := [f]) (by show (nst f && true) = true; rw [n2]; rfl))) fun σ H Q q => ?_, fun _ => rfl, fun _ _ _ z => by cases z⟩
    obtain ⟨a0, G, ρ, w, ρ', h9, R, kq⟩ := q
    have h9 : (if !hasL i ρ then Rs.no else (ev cal a ρ).bnd fun xs ρ1 => (ev cal b ρ1).bnd fun ys ρ2 => oneD (fun x ρ => one (fun y ρ => (frzW y ρ).bnd fun y ρ => (chg i (insD x y) ρ).bnd fun d ρ2 => .ok [W.imm d] ρ2) ys ρ) xs ρ2) = .ok [w] ρ' := h9
    cases hL : hasL i ρ with
    | false => rw [hL] at h9; cases h9
    | true =>
      rw [hL] at h9
      obtain ⟨p, xs0, hv, hp⟩ := R.hasL hL
      refine ⟨_, hv, tyO_list hp, ?_⟩
      refine tI_then (show (ev cal a ρ).bnd _ = .ok [w] ρ' from h9) (fun ws ρ1 _ z => ?_) R fun w1 ρ1 y H1 G1 _ z s1 R1 t => ?_
      · obtain ⟨ys, ρ2, _, z⟩ := bnd_of z
        obtain ⟨w, d, rfl, _, _⟩ := oneD_of z
        exact ⟨w, rfl⟩
      · refine tI_then z (fun ws ρ2 _ z => ?_) R1 fun w2 ρ2 y2 H2 G2 _ z s2 R2 t2 => ?_
        · obtain ⟨w, d, _, _, z⟩ := oneD_of z
          obtain ⟨w, rfl, _⟩ := one_of z
          exact ⟨w, rfl⟩
        · obtain ⟨w', d, e1, hd, z⟩ := oneD_of z
          cases e1
          obtain ⟨w'', e2, z⟩ := one_of z
          cases e2
          obtain ⟨dy, ρ3, e3, z⟩ := bnd_of z
          obtain ⟨r, ρ4, e4, z⟩ := bnd_of z
          cases z
          have sk := R2.sees (t.ext s2) hd
          obtain ⟨G3, s3, R3, dn⟩ := R2.frz t2 e3
          obtain ⟨p', ds, xs, d2, e5, k1, k2, k3, k4⟩ := R3.chgL e4 hv fun d q hq => let ⟨ds, _, h, _⟩ := insD_of hq; ⟨ds, h⟩
          cases e5
          obtain ⟨ds', j, z1, rfl, z3, z4, z5, rfl, rfl⟩ := insD_of k3
          cases z1
          have hk := sk.int
          subst hk
          have hll := k2.len
          refine ⟨p, xs, j, y2, rfl, rfl, k1, by rw [k2.len, ← line_eq]; exact z5, z3, by have : line = 16777216 := rfl; omega, ?_⟩
          have e6 : xs.take j.toNat ++ [y2] ++ xs.drop j.toNat = xs.take j.toNat ++ y2 :: xs.drop j.toNat := by simp
          rw [e6]
          exact kq .non _ G3 ((s1.trans s2).trans s3) (k4 _ (.lst (k2.insIdx dn j.toNat))) (.imm .non)
  · cases h3
end
end RC
end RC7k
section RC7j
set_option Elab.async false
set_option linter.all false
set_option maxRecDepth 100000
set_option autoImplicit false
set_option maxHeartbeats 4000000
/-! RC7j: .. sources, targets, comprehensions; the theorem of expressions -/
namespace RC
open PySem PySem.Spec PyProof.Rows L2

section
variable {S : Sx} {cal : Cal} {k : Nat}
def srcF (cal : Cal) (kd : Sk) (a b : IE) (ρ : Rho) : Rs (List D × W) := (ev cal a ρ).bnd fun xs ρ1 => (ev cal b ρ1).bnd fun ys ρ2 => srcW kd (xs ++ ys) ρ2
def rawK : Sk → Bool
  | .zip => true
  | _ => false
theorem cons_of {a : IE} {sc : Scope} {e : Expr} (h : chk S a true sc [e] = true) : ∃ a', a = .cons a' .nil ∧ chk S a' false sc [e] = true ∧ nst e = true := by
  cases a <;> first | exact absurd (show false = true from h) Bool.false_ne_true | skip
  rename_i a' r
  rw [chk_cons] at h
  simp only [Bool.true_and, Bool.and_eq_true] at h
  have := nil_of h.2
  subst this
  exact ⟨a', rfl, h.1.2, h.1.1⟩
theorem ev_one {a : IE} {ρ ρ' : Rho} {ws : List W} (h : ev cal (.cons a .nil) ρ = .ok ws ρ') : ∃ w, ws = [w] ∧ ev cal a ρ = .ok [w] ρ' := by
  obtain ⟨ws1, ρ1, e1, h⟩ := bnd_of (show (ev cal a ρ).bnd _ = .ok ws ρ' from h)
  obtain ⟨w, rfl, h⟩ := one_of h
  cases h
  exact ⟨w, rfl, e1⟩
theorem snd_src {kd : Sk} {a b : IE} (iha : Snd S cal k a) (ihb : Snd S cal k b) {X : Cx} {sc : Scope} (C : CtxOk X S sc cal k) {tge iter : Expr} {l1 l2 : List Expr} (hz : kd = .zip → ∃ es kk p, tge = .Tuple es kk p)
    (h : srcE S sc kd iter = some (l1, l2)) (h1 : chk S a true sc l1 = true) (h2 : chk S b true sc l2 = true) : PI X tge iter (iS X.K (rawK kd) (srcF cal kd a b)) := by
  cases kd with
  | items => cases h
  | val =>
    cases h
    obtain ⟨a', rfl, h3, _⟩ := cons_of h1
    have := nil_of h2
    subst this
    refine pi_val (iha.H a' _ rfl X sc C iter h3) fun ρ r ρ' h4 => ?_
    obtain ⟨xs, ρ1, e1, h4⟩ := bnd_of h4
    obtain ⟨ys, ρ2, e2, h4⟩ := bnd_of h4
    cases e2
    obtain ⟨w, rfl, e3⟩ := ev_one e1
    rw [e3]
    exact h4
  | rng =>
    unfold srcE at h
    simp only at h
    split at h
    · rename_i x p e p2
      split at h
      · rename_i hc
        simp only [Bool.and_eq_true] at hc
        cases h
        obtain ⟨e1, hg, hdb, hm⟩ := bnB_of C hc.1
        have := nil_of h2
        subst this
        subst e1
        refine pi_rng hg hm (iha.A X sc C _ h1) (by rw [star_of hc.2]; rfl) fun ρ r ρ' h4 => ?_
        obtain ⟨xs, ρ1, e1, h4⟩ := bnd_of h4
        obtain ⟨ys, ρ2, e2, h4⟩ := bnd_of h4
        cases e2
        rw [List.append_nil] at h4
        rw [e1]
        exact h4
      · cases h
    · cases h
  | zip =>
    unfold srcE at h
    simp only at h
    split at h
    · rename_i x p e e2 p2
      split at h
      · rename_i hc
        simp only [Bool.and_eq_true] at hc
        cases h
        obtain ⟨e1, hg, hdb, hm⟩ := bnB_of C hc.1.1
        subst e1
        obtain ⟨a', rfl, h3, n1⟩ := cons_of h1
        obtain ⟨b', rfl, h4, n2⟩ := cons_of h2
        obtain ⟨es, kk, tp, rfl⟩ := hz rfl
        have pa : PA X [e, e2] (tA X.K fun ρ => (ev cal a' ρ).bnd fun xs ρ1 => (ev cal b' ρ1).bnd fun ys ρ2 => match xs, ys with
          | [x], [y] => .ok [x, y] ρ2
          | _, _ => .no) := by
          refine pa_imp (pa_cons (iha.H a' _ rfl X sc C e h3) (pa_cons (ihb.H b' _ rfl X sc C e2 h4) pa_nil (star_of n2)) (star_of n1)) fun σ H Q q => ?_
          obtain ⟨a0, G, ρ, ws, ρ', h5, R, kq⟩ := q
          refine tI_then h5 (fun ws ρ1 _ z => ?_) R fun w1 ρ1 v H1 G1 _ z s1 R1 t1 => ?_
          · obtain ⟨ys, ρ2, _, z⟩ := bnd_of z
            split at z
            · exact ⟨_, rfl⟩
            · cases z
          · refine tI_then z (fun ys ρ2 _ z => ?_) R1 fun w2 ρ2 u H2 G2 _ z s2 R2 t2 => ?_
            · split at z
              · rename_i e5 e6; exact ⟨_, rfl⟩
              · cases z
            · cases z
              exact kq _ H2 G2 (s1.trans s2) R2 (.cons (t1.ext s2) (.cons t2 .nil))
        refine pi_zip hg hm pa (star_of n1) (stars_any (es := [e2]) (by simp [n2])) fun ρ r ρ' h5 => ?_
        obtain ⟨xs, ρ1, e5, h5⟩ := bnd_of h5
        obtain ⟨ys, ρ2, e6, h5⟩ := bnd_of h5
        obtain ⟨w1, rfl, e7⟩ := ev_one e5
        obtain ⟨w2, rfl, e8⟩ := ev_one e6
        rw [e7]
        show ((ev cal b' ρ1).bnd _).bnd _ = _
        rw [e8]
        exact h5
      · cases h
    · cases h
/-- targets -/
theorem tg_both {X : Cx} {N : List Str} {lk : Str → Bool} (hN : X.N = N) (nd : N.Nodup) (hc : X.calm = true) (hl : ∀ x, lk x = true → L2.Loc X.env.scope x ∧ (X.fn x = true ∨ X.env.scope.names.lookup x = some .local)) : ∀ (t : Tg),
    (∀ e, tgB N lk t [e] = true → (tgW t).1 = true → PG X e (gBoth X.K t).1) ∧ (∀ es, tgB N lk t es = true → (tgW t).2 = true → PGs X es (gBoth X.K t).2)
  | .n i => by
    refine ⟨fun e h _ => ?_, fun es h z => (by cases z)⟩
    obtain ⟨x, p, h1, h2⟩ := mName_of h
    cases h1
    simp only [Bool.and_eq_true, decide_eq_true_eq] at h2
    obtain ⟨h3, h4⟩ := hl x h2.2
    exact pg_name (by rw [hN]; exact nd) (by rw [hN]; exact h2.1) h3 h4
  | .tp t => by
    obtain ⟨_, ih⟩ := tg_both hN nd hc hl t
    refine ⟨fun e h hw => ?_, fun es h z => (by cases z)⟩
    obtain ⟨as, kk, p, h1, h2⟩ := mTup_of h
    cases h1
    simp only [Bool.and_eq_true, decide_eq_true_eq] at h2
    obtain ⟨⟨h2, h3⟩, h4⟩ := h2
    obtain ⟨i1, i2⟩ := asg_any (env := X.env) h2
    exact pg_tup hc (ih as h4 hw) (by rw [i2, h3]) i1
  | .nl => by
    refine ⟨fun e h z => (by cases z), fun es h _ => ?_⟩
    cases es with
    | nil => exact pgs_nil
    | cons e es => cases h
  | .cs t u => by
    obtain ⟨iht, _⟩ := tg_both hN nd hc hl t
    obtain ⟨_, ihu⟩ := tg_both hN nd hc hl u
    refine ⟨fun e h z => (by cases z), fun es h hw => ?_⟩
    cases es with
    | nil => cases h
    | cons e es =>
      have h : (nst e && tgB N lk t [e] && tgB N lk u es) = true := h
      simp only [Bool.and_eq_true] at h
      obtain ⟨w1, w2⟩ := Bool.and_eq_true_iff.mp hw
      exact pgs_cons (iht e h.1.2 w1) (ihu es h.2 w2) (by rw [asg_of h.1.1]; rfl)
theorem isTp_of {t : Tg} (h : isTp t = true) : ∃ u, t = .tp u := by
  cases t <;> first | exact ⟨_, rfl⟩ | cases h
theorem tp_tuple {N : List Str} {lk : Str → Bool} {t : Tg} {e : Expr} (h : isTp t = true) (hb : tgB N lk t [e] = true) : ∃ es kk p, e = .Tuple es kk p := by
  obtain ⟨u, rfl⟩ := isTp_of h
  obtain ⟨as, kk, p, h1, _⟩ := mTup_of hb
  cases h1
  exact ⟨_, _, _, rfl⟩
theorem lc_imp {kd : Sk} {a b c e : IE} {tg : Tg} {vs : List Nat} {K : PySem.W.Frag} {σ : L2.St} {H : Hp} {Q : VK} {tt : TT} {te : TE} (hvs : ∀ i, i ∈ tgVs tg → i ∈ vs) (htg : (tgW tg).1 = true)
    (htt : ∀ σ H Q, tT K (ev cal c) σ H Q → tt σ H Q) (hte : ∀ σ H Q, tI K (ev cal e) σ H Q → te σ H Q) (hx : rawK kd = true → ∃ u, tg = .tp u)
    (q : tI K (ev cal (.comp kd a b tg vs c e)) σ H Q) : tLc (iS K (rawK kd) (srcF cal kd a b)) (gBoth K tg).1 tt te vs σ H Q := by
  obtain ⟨a0, G, ρ, w, ρ', h1, R, kq⟩ := q
  obtain ⟨xs, ρ1, e1, h1⟩ := bnd_of (show (ev cal a ρ).bnd _ = .ok [w] ρ' from h1)
  obtain ⟨ys, ρ2, e2, h1⟩ := bnd_of h1
  obtain ⟨iw, ρ3, e3, h1⟩ := bnd_of h1
  obtain ⟨ds, w0⟩ := iw
  simp only at h1
  split at h1
  · rename_i hid
    obtain ⟨out, ρ9, e4, h1⟩ := bnd_of h1
    cases h1
    refine ⟨a0, G, ρ, ds, w0, ρ3, ?_, R, fun J H1 G1 a' s1 lr R0 Rl Sr Dd hD => ?_⟩
    · show (ev cal a ρ).bnd _ = _
      rw [e1]
      show (ev cal b ρ1).bnd _ = _
      rw [e2]
      exact e3
    · have hlk : ∀ q, q ∈ a'.lks → q.1 ∉ vs := Rl.hidLk hid
      have hl2 := lr.lks
      refine comp_W Sr hvs htg hlk htt hte hx (show compL (compF (ev cal c) (ev cal e) tg vs) ds (wipeR (lock ρ3 w0) vs) [] = .ok out ρ9 from e4) Rl hD fun H9 G9 acc s9 R9 dn => ?_
      obtain ⟨k1, k2, k3, k4⟩ := R9.kep _ List.mem_cons_self
      have R10 : RelG K a' G9 ρ9 (wipe σ vs) H9 := R9.less (fun q hq => hq) fun q hq => List.mem_cons_of_mem _ hq
      have R11 := R0.unlockW lr R10
      obtain ⟨R12, fr⟩ := Rl.restore hid (fun q hq => hlk q (lr.sub q hq)) s9 R11
      refine kq _ H9 G9 (s1.trans s9) R12 (.fr k2 (by rw [← hl2.2.1]; exact k4) (fr _ (free_unlock k3)) (R0.newKep hD) ?_)
      have k1 : H9 Dd = some (.lst acc) := k1
      rw [k1]
      exact .lst dn
  · cases h1
theorem lc_parts {kd : Sk} {a b c e : IE} {tg : Tg} {vs : List Nat} (iha : Snd S cal k a) (ihb : Snd S cal k b) (ihc : Snd S cal k c) (ihe : Snd S cal k e) {X : Cx} {sc : Scope} (C : CtxOk X S sc cal k) {elt t iter : Expr} {ifs : List Expr} {scope : Scope} {p : Pos}
    (h : chk S (.comp kd a b tg vs c e) false sc [.ListComp elt [⟨t, iter, ifs, 0⟩] scope p] = true) : ∃ (wi : TI) (tt : TT) (own : List (Str × Nat)), PI X t iter wi ∧ BlkOk X.N X.env.scope scope own ∧
      (∀ (s : Shared) (H : Hp) (cc : Addr) (cl : List (Str × Addr)) (fp : List Addr), PG (X.blk s H scope (compEnvC scope cl cc X.env) fp) t (gBoth X.K tg).1) ∧
      (∀ (s : Shared) (H : Hp) (cc : Addr) (cl : List (Str × Addr)) (fp : List Addr), PTs (X.blk s H scope (compEnvC scope cl cc X.env) fp) ifs tt) ∧
      (∀ (s : Shared) (H : Hp) (cc : Addr) (cl : List (Str × Addr)) (fp : List Addr), PE (X.blk s H scope (compEnvC scope cl cc X.env) fp) elt (tI X.K (ev cal e))) ∧
      (∀ x, foldedSetIterable iter X.env x = pure x) ∧ ∀ σ H Q, tI X.K (ev cal (.comp kd a b tg vs c e)) σ H Q → tLc wi (gBoth X.K tg).1 tt (tI X.K (ev cal e)) (own.map (·.2)) σ H Q := by
  rw [chk_comp] at h
  simp only [Bool.not_false, Bool.true_and] at h
  obtain ⟨elt', t', iter', ifs', scope', p', h1, h2⟩ := mComp_of h
  cases h1
  simp only [Bool.and_eq_true, decide_eq_true_eq, List.all_eq_true, List.contains_iff_mem] at h2
  obtain ⟨⟨⟨⟨⟨⟨⟨⟨⟨b1, b2⟩, b3⟩, b4⟩, b5⟩, b6⟩, b7⟩, b8⟩, b9⟩, b10⟩ := h2
  have hz : rawK kd = true → isTp tg = true := fun z => by
    cases kd <;> first | (cases z; done) | exact b7
  cases hs : srcE S sc kd iter with
  | none => rw [hs] at b8; cases b8
  | some l =>
    obtain ⟨l1, l2⟩ := l
    rw [hs] at b8
    simp only [Bool.and_eq_true] at b8
    have pi := snd_src iha ihb C (tge := t) (fun z => tp_tuple (hz (by rw [z]; rfl)) b3) hs b8.1 b8.2
    have ok : BlkOk X.N X.env.scope scope (blkOwn S.N vs) := by
      rw [C.N, C.sc]; exact blkOk_by b1
    have Cb : ∀ (s : Shared) (H : Hp) (cc : Addr) (cl : List (Str × Addr)) (fp : List Addr), CtxOk (X.blk s H scope (compEnvC scope cl cc X.env) fp) S (relS scope sc) cal k := fun s H cc cl fp =>
      ⟨C.N, C.nd, (by rw [← C.sc]; rfl), C.calm, rfl, C.room, C.g⟩
    have hlk : ∀ (s : Shared) (H : Hp) (cc : Addr) (cl : List (Str × Addr)) (fp : List Addr) (x : Str), locB scope x = true → L2.Loc (X.blk s H scope (compEnvC scope cl cc X.env) fp).env.scope x ∧ ((X.blk s H scope (compEnvC scope cl cc X.env) fp).fn x = true ∨ (X.blk s H scope (compEnvC scope cl cc X.env) fp).env.scope.names.lookup x = some .local) := fun s H cc cl fp x hx => by
      have es : (X.blk s H scope (compEnvC scope cl cc X.env) fp).env.scope = relS scope X.env.scope := rfl
      rw [es]
      rcases locB_of hx with z | z
      · have := lookup_relS_keep (sc := X.env.scope) (names := scope.names) (k := .local) (by decide) z
        exact ⟨.inl this, .inr this⟩
      · have := lookup_relS_keep (sc := X.env.scope) (names := scope.names) (k := .cell) (by decide) z
        refine ⟨.inr this, .inl ?_⟩
        show (scope.names.lookup x == some .cell) = true
        rw [z]; rfl
    have hxt : rawK kd = true → ∃ u, tg = .tp u := fun z => isTp_of (hz z)
    obtain ⟨tt, h1, h2⟩ : ∃ tt : TT, (∀ (s : Shared) (H : Hp) (cc : Addr) (cl : List (Str × Addr)) (fp : List Addr), PTs (X.blk s H scope (compEnvC scope cl cc X.env) fp) ifs tt) ∧ (∀ σ H Q, tT X.K (ev cal c) σ H Q → tt σ H Q) := by
      cases ifs with
      | nil =>
        cases c <;> first | (cases b9; done) | skip
        rename_i bb
        cases bb with
        | false => cases b9
        | true =>
          refine ⟨tYes, fun s H cc cl fp => pts_nil, fun σ H Q q => ?_⟩
          obtain ⟨a0, G, ρ, b, ρ', h1, R, kq⟩ := q
          cases h1
          exact kq H G (Same.refl _) R
      | cons t0 ts =>
        cases ts with
        | cons _ _ => cases b9
        | nil => exact ⟨tT X.K (ev cal c), fun s H cc cl fp => pts_one (ihc.E _ _ (Cb s H cc cl fp) t0 b9).2.1, fun σ H Q q => q⟩
    exact ⟨iS X.K (rawK kd) (srcF cal kd a b), tt, blkOwn S.N vs, pi, ok, (fun s H cc cl fp => (tg_both (X := X.blk s H scope (compEnvC scope cl cc X.env) fp) C.N C.nd C.calm (hlk s H cc cl fp) tg).1 t b3 b4), h1, (fun s H cc cl fp => (ihe.E _ _ (Cb s H cc cl fp) elt b10).1), fold_of b6, fun σ H Q q => by
        rw [b2]
        exact lc_imp b5 b4 h2 (fun σ H Q q => q) hxt q⟩
theorem snd_comp {kd : Sk} {a b c e : IE} {tg : Tg} {vs : List Nat} (iha : Snd S cal k a) (ihb : Snd S cal k b) (ihc : Snd S cal k c) (ihe : Snd S cal k e) : Snd S cal k (.comp kd a b tg vs c e) := by
  refine Snd.plain (fun sc es => by rw [chk_comp]; rfl) (fun _ _ z => by cases z) fun X sc C ex h => ?_
  have h0 := h
  rw [chk_comp] at h
  simp only [Bool.not_false, Bool.true_and] at h
  obtain ⟨elt, t, iter, ifs, scope, p, h1, h2⟩ := mComp_of h
  cases h1
  obtain ⟨wi, tt, own, p1, p2, p3, p4, p5, p6, p7⟩ := lc_parts iha ihb ihc ihe C h0
  exact ⟨pe_imp (pe_lc C.calm (by rw [C.N]; exact C.nd) p1 p2 p3 p4 p5 p6) p7, fun _ => rfl, fun _ _ _ z => by cases z⟩
theorem snd_false {ie : IE} (h : ∀ fl sc es, chk S ie fl sc es = false) (hc : ∀ a r, ie ≠ .cons a r) : Snd S cal k ie :=
  ⟨fun X sc C e q => (by rw [h] at q; cases q), fun X sc C es q => (by rw [h] at q; cases q), fun a r z => absurd z (hc a r)⟩
theorem snd : ∀ ie : IE, Snd S cal k ie
  | .v i => snd_v
  | .non => snd_const (d := .none) (v := .non) (fun _ => rfl) (fun _ _ => .non) (fun fl sc es => chk_non fl sc es) (fun _ _ z => by cases z) fun X c kk p h => by
    cases c <;> first | (cases h; done) | exact pe_non
  | .bl b => snd_const (d := .bool b) (v := .bl b) (fun _ => rfl) (fun _ _ => .bl b) (fun fl sc es => chk_bl b fl sc es) (fun _ _ z => by cases z) fun X c kk p h => by
    cases c <;> first | (cases h; done) | skip
    have := beq_iff_eq.mp (show (b == _) = true from h)
    subst this
    exact pe_bl
  | .int i => snd_const (d := .int i) (v := .int i) (fun _ => rfl) (fun _ _ => .int i) (fun fl sc es => chk_int i fl sc es) (fun _ _ z => by cases z) fun X c kk p h => by
    cases c <;> first | (cases h; done) | skip
    have := of_decide_eq_true (show decide (i = _) = true from h)
    subst this
    exact pe_int
  | .str s => snd_const (d := .str (Str.ofString s)) (v := .str (Str.ofString s)) (fun _ => rfl) (fun _ _ => .str _) (fun fl sc es => chk_str s fl sc es) (fun _ _ z => by cases z) fun X c kk p h => by
    cases c <;> first | (cases h; done) | skip
    have := of_decide_eq_true (show decide (_ = Str.ofString s) = true from h)
    subst this
    exact pe_str
  | .nil => snd_nil
  | .cons a r => snd_cons (snd a) (snd r)
  | .nild => snd_nild
  | .tup a => snd_tup (snd a)
  | .lst a => snd_lst (snd a)
  | .bin o a b => snd_bin (snd a) (snd b)
  | .neg a => snd_neg (snd a)
  | .cmp o a b => snd_cmp (snd a) (snd b)
  | .chn o p a b c => snd_chn (snd a) (snd b) (snd c)
  | .isn a => snd_isn (snd a)
  | .isnn a => snd_isnn (snd a)
  | .ist _ _ => snd_false (fun _ _ _ => rfl) fun _ _ z => by cases z
  | .and a b => snd_and (snd a) (snd b)
  | .or a b => snd_or (snd a) (snd b)
  | .not a => snd_not (snd a)
  | .ite _ _ _ => snd_false (fun _ _ _ => rfl) fun _ _ z => by cases z
  | .ix a b => snd_ix (snd a) (snd b)
  | .sl a lo hi => snd_sl (snd a) (snd lo) (snd hi)
  | .call f es => snd_call (snd es)
  | .blt b es => snd_blt (snd es)
  | .isi ts a => snd_isi (snd a)
  | .srt a => snd_srt (snd a)
  | .srtk f a => snd_srtk (snd a)
  | .srtl a => snd_srtl (snd a)
  | .srts _ => snd_false (fun _ _ _ => rfl) fun _ _ z => by cases z
  | .pop i => snd_pop
  | .popAt _ _ => snd_false (fun _ _ _ => rfl) fun _ _ z => by cases z
  | .app i a => snd_app (snd a)
  | .ext i a => snd_ext (snd a)
  | .ins i a b => snd_ins (snd a) (snd b)
  | .rev i => snd_rev
  | .idx a b => snd_idx (snd a) (snd b)
  | .join a b => snd_join (snd a) (snd b)
  | .sdef i a b => snd_sdef (snd a) (snd b)
  | .get _ _ _ => snd_false (fun _ _ _ => rfl) fun _ _ z => by cases z
  | .bits a => snd_bits (snd a)
  | .comp k a b tg vs c e => snd_comp (snd a) (snd b) (snd c) (snd e)
end
end RC
end RC7j
section RC8a
set_option Elab.async false
set_option linter.all false
set_option maxRecDepth 100000
set_option autoImplicit false
set_option maxHeartbeats 4000000
/-! RC8a: statements -/
namespace RC
open PySem PySem.Spec PyProof.Rows L2

def mStmt (sts : List Stmt) (f : Stmt → Bool) : Bool := match sts with
  | [st] => f st
  | _ => false
theorem mStmt_of {sts : List Stmt} {f : Stmt → Bool} (h : mStmt sts f = true) : ∃ st, sts = [st] ∧ f st = true := by
  unfold mStmt at h; split at h
  · exact ⟨_, rfl, h⟩
  · cases h
def mSkip (sts : List Stmt) : Bool := match sts with
  | [] => true
  | [.Pass _] => true
  | _ => false
def mSeq (sts : List Stmt) (f : Stmt → List Stmt → Bool) : Bool := match sts with
  | st :: st2 :: rest => f st (st2 :: rest)
  | _ => false
theorem mSkip_of {sts : List Stmt} (h : mSkip sts = true) : sts = [] ∨ ∃ p, sts = [.Pass p] := by
  unfold mSkip at h; split at h
  · exact .inl rfl
  · exact .inr ⟨_, rfl⟩
  · cases h
theorem mSeq_of {sts : List Stmt} {f : Stmt → List Stmt → Bool} (h : mSeq sts f = true) : ∃ st rest, sts = st :: rest ∧ f st rest = true := by
  unfold mSeq at h; split at h
  · exact ⟨_, _, rfl, h⟩
  · cases h
/-- a comprehension's value may be stored at once -/
def lcStore (sc : Scope) (x : Str) (p1 : Pos) (v : Expr) : Bool := match v with
  | .ListComp elt gs scope p => decide (sc.names.lookup x = some .local) && (p1.line == p.line) && !(scope.names.any fun (n, k) => n == x && (k == .local || k == .cell)) && decide (sc.kind = .function)
  | v => nlc v
def chkS (S : Sx) (sc : Scope) : IS → List Stmt → Bool
  | .skip, sts => mSkip sts
  | .seq s t, sts => mSeq sts fun st rest => chkS S sc s [st] && chkS S sc t rest
  | .ex e, sts => mStmt sts fun st => match st with
    | .Expr x _ => nlc x && chk S e false sc [x]
    | _ => false
  | .set i e, sts => mStmt sts fun st => match st with
    | .Assign [.Name x p1] v _ => decide (S.N[i]? = some x) && locB sc x && lcStore sc x p1 v && chk S e false sc [v]
    | _ => false
  | .put i a e, sts => mStmt sts fun st => match st with
    | .Assign [.Subscript (.Name x _) y _] v _ => slotB S sc i x && (nlc v && nsl y) && chk S e false sc [v] && chk S a false sc [y]
    | _ => false
  | .ite c s t, sts => mStmt sts fun st => match st with
    | .If b th el _ => chk S c false sc [b] && chkS S sc s th && chkS S sc t el
    | _ => false
  | .loop k a b tg s, sts => mStmt sts fun st => match st with
    | .For t iter body [] _ => tgB S.N (fun x => locB sc x) tg [t] && (tgW tg).1 && nset iter && (match k with
        | .zip => isTp tg
        | _ => true) && (match srcE S sc k iter with
        | some (l1, l2) => chk S a true sc l1 && chk S b true sc l2
        | none => false) && chkS S sc s body
    | _ => false
  | .ret e, sts => mStmt sts fun st => match st with
    | .Return (some x) _ => chk S e false sc [x]
    | .Return none _ => (match e with
      | .non => true
      | _ => false)
    | _ => false
  | .brk, sts => mStmt sts fun st => match st with
    | .Break _ => true
    | _ => false
  | .rais, sts => mStmt sts fun _ => true
section
variable {S : Sx} {cal : Cal} {k : Nat}
structure CtxS (X : Cx) (S : Sx) (sc : Scope) (cal : Cal) (k : Nat) : Prop where
  c : CtxOk X S sc cal k
  fn : ∀ x, X.fn x = true
structure SndS (S : Sx) (sc : Scope) (cal : Cal) (k : Nat) (s : IS) : Prop where
  one : ∀ (X : Cx), CtxS X S sc cal k → ∀ st, chkS S sc s [st] = true → PS X st (tS X.K (exs cal s))
  all : ∀ (X : Cx), CtxS X S sc cal k → ∀ sts, chkS S sc s sts = true → PSs X sts (tS X.K (exs cal s))
variable {sc : Scope}
theorem SndS.leaf {s : IS} {f : Stmt → Bool} (hf : ∀ sts, chkS S sc s sts = mStmt sts f) (h : ∀ (X : Cx), CtxS X S sc cal k → ∀ st, f st = true → PS X st (tS X.K (exs cal s))) : SndS S sc cal k s :=
  ⟨fun X C st q => h X C st (by rw [hf] at q; exact q), fun X C sts q => by
    rw [hf] at q
    obtain ⟨st, rfl, q⟩ := mStmt_of q
    exact pss_one (h X C st q)⟩
theorem skip_imp {K : PySem.W.Frag} {D : Ends} {σ : L2.St} {H : Hp} (q : tS K (exs cal .skip) D σ H) : tNext D σ H := by
  obtain ⟨a, G, ρ, o, ρ', h1, R, e⟩ := q
  cases h1
  exact e σ H G (Same.refl _) R
theorem sS_skip : SndS S sc cal k .skip := by
  refine ⟨fun X C st h => ?_, fun X C sts h => ?_⟩
  · rcases mSkip_of h with h | ⟨p, h⟩
    · cases h
    · cases h
      exact ps_imp ps_pass fun σ H D q => skip_imp q
  · rcases mSkip_of h with rfl | ⟨p, rfl⟩
    · exact pss_imp pss_nil fun σ H D q => skip_imp q
    · exact pss_imp (pss_one ps_pass) fun σ H D q => skip_imp q
theorem sS_seq {s t : IS} (ihs : SndS S sc cal k s) (iht : SndS S sc cal k t) : SndS S sc cal k (.seq s t) := by
  refine ⟨fun X C st h => absurd (show false = true from h) Bool.false_ne_true, fun X C sts h => ?_⟩
  obtain ⟨st, rest, rfl, h0⟩ := mSeq_of h
  obtain ⟨h1, h2⟩ := Bool.and_eq_true_iff.mp h0
  refine pss_imp (pss_cons (ihs.one X C st h1) (iht.all X C _ h2)) fun σ H D q => ?_
  obtain ⟨a, G, ρ, o, ρ', h3, R, e⟩ := q
  obtain ⟨o1, ρ1, e1, h3⟩ := bnd_of (show (exs cal s ρ).bnd _ = .ok o ρ' from h3)
  refine ⟨a, G, ρ, o1, ρ1, e1, R, ?_⟩
  cases o1 with
  | nx => exact fun σ' H' G' s' R' => ⟨a, G', ρ1, o, ρ', h3, R', e.ext s'⟩
  | bk => cases h3; exact e
  | rt w => cases h3; exact e
theorem swap_of {v : Expr} {t : Option Expr} {l : Nat} {env : Env} (h : nlc v = true) : swapsWith v t l env = pure false := by
  cases v <;> first | rfl | cases h
theorem sS_ex {e : IE} : SndS S sc cal k (.ex e) := by
  refine SndS.leaf (fun sts => rfl) fun X C st h => ?_
  split at h
  · rename_i x p
    obtain ⟨h1, h2⟩ := Bool.and_eq_true_iff.mp h
    refine ps_imp (ps_expr ((snd e).E X sc C.c x h2).1 (swap_of h1)) fun σ H D q => ?_
    obtain ⟨a, G, ρ, o, ρ', h3, R, ed⟩ := q
    obtain ⟨ws, ρ1, e1, h3⟩ := bnd_of (show (ev cal e ρ).bnd _ = .ok o ρ' from h3)
    obtain ⟨w, rfl, h4⟩ := one_of h3
    cases h4
    exact ⟨a, G, ρ, w, ρ', e1, R, fun v H' G' s' R' _ => ed σ H' G' s' R'⟩
  · cases h
/-- a value is stored -/
theorem set_imp {K : PySem.W.Frag} {e : IE} {i : Nat} {D : Ends} {σ : L2.St} {H : Hp} (q : tS K (exs cal (.set i e)) D σ H) : tAsg (tI K (ev cal e)) (gName i) D σ H := by
  obtain ⟨a, G, ρ, o, ρ', h3, R, ed⟩ := q
  obtain ⟨ws, ρ1, e1, h3⟩ := bnd_of (show (ev cal e ρ).bnd _ = .ok o ρ' from h3)
  obtain ⟨w, rfl, h4⟩ := one_of h3
  refine ⟨a, G, ρ, w, ρ1, e1, R, fun v H' G' s' R' k' => ?_⟩
  unfold setW at h4
  split at h4
  · rename_i hm
    simp only [Bool.and_eq_true, decide_eq_true_eq] at hm
    have hl : i < σ.length := by rw [← R'.len]; exact hm.2
    have imm : ∀ {ρ2 : Rho} {d : RC.D}, frzW w ρ1 = .ok d ρ2 → o = .nx → ρ' = ρ2.set i (some ⟨.imm, false, d⟩) → gName i v σ H' D.nx := fun {ρ2 d} e2 eo er => by
      subst eo er
      obtain ⟨G2, s2, R2, t2⟩ := R'.thaw k'
      obtain ⟨G3, s3, R3, dn⟩ := R2.frz t2 e2
      refine ed _ _ G3 (s'.trans (s2.trans s3)) (R3.store (e := ⟨.imm, false, d⟩) hl ?_ (.imm dn) (fun z => by cases z) fun z => by cases z)
      have hml := mayStore_lk hm.1
      intro e0 he0
      cases w with
      | imm d' => cases e2; exact hml e0 he0
      | fr d' => cases e2; exact hml e0 he0
      | al j =>
        cases hj : lkp ρ1 j with
        | none => simp only [frzW, hj] at e2; cases e2
        | some f =>
          simp only [frzW, hj] at e2
          cases e2
          rcases get_set_some he0 with ⟨rfl, z, _⟩ | ⟨_, z⟩
          · cases z; exact hml f (lkp_some.mp hj)
          · exact hml e0 z
    cases w with
    | imm d =>
      obtain ⟨d', ρ2, e2, h5⟩ := bnd_of h4
      cases h5
      exact imm e2 rfl rfl
    | al j =>
      obtain ⟨d', ρ2, e2, h5⟩ := bnd_of h4
      cases h5
      exact imm e2 rfl rfl
    | fr d =>
      cases h4
      cases k' with
      | fr q1 q2 q3 q4 q5 => exact ed _ _ G' s' (R'.store (e := ⟨.own, false, d⟩) hl (mayStore_lk hm.1) (.own q1 q2 q5) (fun _ p z j f _ hj ho hs => by cases z; exact q3 j f hj ho hs) fun _ p z q hq => by cases z; exact q4 q hq)
  · cases h4
theorem sS_set {i : Nat} {e : IE} : SndS S sc cal k (.set i e) := by
  refine SndS.leaf (fun sts => rfl) fun X C st h => ?_
  split at h
  · rename_i x p1 v p
    simp only [Bool.and_eq_true, decide_eq_true_eq] at h
    obtain ⟨⟨⟨h1, h2⟩, h3⟩, h4⟩ := h
    have nd : X.N.Nodup := by rw [C.c.N]; exact C.c.nd
    have hi : X.N[i]? = some x := by rw [C.c.N]; exact h1
    have hx : L2.Loc X.env.scope x := by rw [C.c.sc]; exact locB_of h2
    have plain : nlc v = true → PS X (.Assign [.Name x p1] v p) (tS X.K (exs cal (.set i e))) := fun hn =>
      ps_imp (ps_set nd hi hx ((snd e).E X sc C.c v h4).1 (swap_of hn) (.inl (C.fn x))) fun σ H D q => set_imp q
    cases v <;> first | exact plain h3 | skip
    rename_i elt gs scope pl
    have h3 : (decide (sc.names.lookup x = some .local) && (p1.line == pl.line) && !(scope.names.any fun (n, k) => n == x && (k == .local || k == .cell)) && decide (sc.kind = .function)) = true := h3
    simp only [Bool.and_eq_true, decide_eq_true_eq, Bool.not_eq_true'] at h3
    obtain ⟨⟨⟨h5, h6⟩, h7⟩, h8⟩ := h3
    cases e <;> first | exact absurd (show false = true from h4) Bool.false_ne_true | skip
    rename_i kd a b tg vs c e'
    have h4' := h4
    rw [chk_comp] at h4'
    simp only [Bool.not_false, Bool.true_and] at h4'
    obtain ⟨elt', t, iter, ifs, scope', p', h9, _⟩ := mComp_of h4'
    cases h9
    obtain ⟨wi, tt, own, q1, q2, q3, q4, q5, q6, q7⟩ := lc_parts (snd a) (snd b) (snd c) (snd e') C.c h4
    refine ps_imp (ps_setLc C.c.calm nd hi (by rw [C.c.sc]; exact h5) (sw_true (by rw [C.c.sc]; exact h8) (by rw [C.c.sc]; exact h5) h6 h7) q1 q2 q3 q4 q5 q6) fun σ H D q => ?_
    exact q7 _ _ _ (set_imp q)
  · cases h
theorem asgS_of {o y : Expr} {p2 : Pos} {env : Env} (h : nsl y = true) (v : Value) : assign (.Subscript o y p2) env v = (do
      let ov ← holding [v] (eval o env)
      let iv ← holding [v, ov] (eval y env)
      standAt p2
      holding [v, ov, iv] (setItem ov iv v)
      release [v, ov, iv] []) := by
  cases y <;> first | rfl | cases h
theorem sS_put {i : Nat} {a e : IE} : SndS S sc cal k (.put i a e) := by
  refine SndS.leaf (fun sts => rfl) fun X C st h => ?_
  split at h
  · rename_i x p1 y p2 v p
    simp only [Bool.and_eq_true] at h
    obtain ⟨⟨⟨h1, h2⟩, h3⟩, h4⟩ := h
    refine ps_imp (ps_asg ((snd e).E X sc C.c v h3).1 (pg_sub (slotB_of C.c h1) ((snd a).E X sc C.c y h4).1 set_list (asgS_of h2.2)) (by show swapsWith v (some (.Subscript (.Name x p1) y p2)) p.line X.env = pure false; exact swap_of h2.1)) fun σ H D q => ?_
    obtain ⟨a0, G, ρ, o, ρ', h5, R, ed⟩ := q
    refine tI_then (show (ev cal e ρ).bnd _ = .ok o ρ' from h5) (fun ys ρ1 _ z => ?_) R fun w1 ρ1 vv H1 G1 _ z s1 R1 t1 => ?_
    · split at z
      · cases z
      · obtain ⟨xs, ρ2, _, z2⟩ := bnd_of z
        obtain ⟨wx, dx, _, _, z3⟩ := oneD_of z2
        obtain ⟨wy, h9, z4⟩ := one_of z3
        exact ⟨wy, h9⟩
    · cases hL : hasL i ρ1 with
      | false => rw [hL] at z; cases z
      | true =>
        rw [hL] at z
        obtain ⟨p0, xs0, hv, hp⟩ := R1.hasL hL
        refine ⟨_, hv, ?_⟩
        refine tI_d (k := fun x ρ => one (fun y ρ => (frzW y ρ).bnd fun y ρ => (chg i (putD x y) ρ).bnd fun _ ρ3 => Rs.ok Fl.nx ρ3) [w1] ρ) z R1 fun dx ρ2 xv H2 G2 z s2 R2 sx => ?_
        obtain ⟨wy, e3, z⟩ := one_of z
        cases e3
        obtain ⟨y', ρ3, e4, z⟩ := bnd_of z
        obtain ⟨u, ρ4, e5, z⟩ := bnd_of z
        cases z
        obtain ⟨G3, s3, R3, dn⟩ := R2.frz (t1.ext s2) e4
        have putl : ∀ d q, putD dx y' d = some q → ∃ ds kk j, d = .list ds ∧ dx = .int kk ∧ L2.ixN ds.length kk = some j ∧ q = (.list (ds.set j y'), ()) := fun d q hq => by
          cases d <;> first | (cases hq; done) | skip
          cases dx <;> first | (cases hq; done) | skip
          obtain ⟨j, j1, j2⟩ := Option.map_eq_some_iff.mp hq
          exact ⟨_, _, j, rfl, rfl, j1, j2.symm⟩
        obtain ⟨p', ds, xs, d2, e6, y1, y2, y3, y4⟩ := R3.chgL e5 hv fun d q hq => let ⟨ds, _, _, h, _⟩ := putl d q hq; ⟨ds, h⟩
        cases e6
        obtain ⟨ds', kk, j, z1, rfl, z2, z3⟩ := putl _ _ y3
        cases z1
        cases z3
        refine ⟨p0, xs, kk, j, rfl, sx.int, y1, by rw [y2.len]; exact z2, ?_⟩
        exact ed σ _ G3 (s1.trans (s2.trans s3)) (y4 _ (.lst (y2.st dn j)))
  · cases h
theorem sS_ite {c : IE} {s t : IS} (ihs : SndS S sc cal k s) (iht : SndS S sc cal k t) : SndS S sc cal k (.ite c s t) := by
  refine SndS.leaf (fun sts => rfl) fun X C st h => ?_
  split at h
  · rename_i b th el p
    simp only [Bool.and_eq_true] at h
    obtain ⟨⟨h1, h2⟩, h3⟩ := h
    refine ps_imp (ps_if ((snd c).E X sc C.c b h1).2.1 (ihs.all X C _ h2) (iht.all X C _ h3)) fun σ H D q => ?_
    obtain ⟨a, G, ρ, o, ρ', h4, R, ed⟩ := q
    obtain ⟨xs, ρ1, e1, h4⟩ := bnd_of (show (ev cal c ρ).bnd _ = .ok o ρ' from h4)
    obtain ⟨d, ρ2, e2, h5⟩ := bnd_of h4
    refine ⟨a, G, ρ, d, ρ2, by rw [e1]; exact e2, R, fun H' G' s' R' => ?_⟩
    cases d with
    | true => exact ⟨a, G', ρ2, o, ρ', h5, R', ed.ext s'⟩
    | false => exact ⟨a, G', ρ2, o, ρ', h5, R', ed.ext s'⟩
  · cases h
theorem sS_brk : SndS S sc cal k .brk := by
  refine SndS.leaf (fun sts => rfl) fun X C st h => ?_
  split at h
  · refine ps_imp ps_break fun σ H D q => ?_
    obtain ⟨a, G, ρ, o, ρ', h4, R, ed⟩ := q
    cases h4
    exact ed σ H G (Same.refl _) R
  · cases h
theorem sS_rais : SndS S sc cal k .rais := by
  refine SndS.leaf (fun sts => rfl) fun X C st h => ps_imp ps_never fun σ H D q => ?_
  obtain ⟨a, G, ρ, o, ρ', h4, R, ed⟩ := q
  cases h4
theorem ret_imp {K : PySem.W.Frag} {e : IE} {D : Ends} {σ : L2.St} {H : Hp} (q : tS K (exs cal (.ret e)) D σ H) : tRet (tI K (ev cal e)) D σ H := by
  obtain ⟨a, G, ρ, o, ρ', h3, R, ed⟩ := q
  obtain ⟨ws, ρ1, e1, h3⟩ := bnd_of (show (ev cal e ρ).bnd _ = .ok o ρ' from h3)
  obtain ⟨w, rfl, h4⟩ := one_of h3
  refine ⟨a, G, ρ, w, ρ1, e1, R, fun v H' G' s' R' k' => ?_⟩
  cases w with
  | imm d => cases h4; exact ed σ v H' G' s' R' k'
  | fr d => cases h4; exact ed σ v H' G' s' R' k'
  | al i =>
    have frz : ∀ {d : RC.D} {ρ2 : Rho}, frzW (.al i) ρ1 = .ok d ρ2 → o = .rt (.imm d) → ρ' = ρ2 → D.rt v H' := fun {d ρ2} e2 eo er => by
      subst eo er
      obtain ⟨G2, s2, R2, t2⟩ := R'.thaw k'
      obtain ⟨G3, s3, R3, dn⟩ := R2.frz t2 e2
      exact ed σ v H' G3 (s'.trans (s2.trans s3)) R3 (.imm dn)
    unfold retW at h4
    simp only at h4
    cases he : lkp ρ1 i with
    | none => rw [he] at h4; cases h4
    | some f =>
      rw [he] at h4
      simp only at h4
      split at h4
      · rename_i hk hlk
        cases h4
        have hi := lkp_some.mp he
        have hv : σ[i]? = some (some v) := by
          cases k' with
          | al z1 z2 z3 => exact z3
        have ho : f.ow = true := by unfold En.ow; rw [hk]
        obtain ⟨p, rfl, g, c, _, kk⟩ := R'.owG hi ho hv
        obtain ⟨fk, fl, fd⟩ := f
        simp only at hk hlk
        subst hk hlk
        have h0 : a.H0 p = none := by
          cases kk with
          | own _ h _ => exact h
        have R2 : RelG K a G' (ρ1.set i none) σ H' := R'.sub' (by rw [List.length_set]; exact R'.len) (fun j e hj => by
          rcases get_set_some hj with ⟨_, z, _⟩ | ⟨_, hj⟩
          · cases z
          · exact ⟨hj, rfl⟩) fun q hq => by
          obtain ⟨e', y1, y2, _⟩ := R'.lck q hq
          refine get_set_ne fun z => ?_
          rw [z, hi] at y1
          cases y1
          cases y2
        refine ed σ _ H' G' s' R2 (.fr g h0 (fun j e hj ho' hs => ?_) (fun q hq z => ?_) c)
        · rcases get_set_some hj with ⟨_, z, _⟩ | ⟨nj, hj⟩
          · cases z
          · exact nj (R'.sep j i e _ p hj hi ho' ho hs hv)
        · exact (R'.kep q hq).2.2.1 i _ hi ho (by rw [z]; exact hv)
      · obtain ⟨d, ρ2, e2, h5⟩ := bnd_of h4
        cases h5
        exact frz e2 rfl rfl
theorem sS_ret {e : IE} : SndS S sc cal k (.ret e) := by
  refine SndS.leaf (fun sts => rfl) fun X C st h => ?_
  split at h
  · rename_i x p
    exact ps_imp (ps_ret ((snd e).E X sc C.c x h).1) fun σ H D q => ret_imp q
  · cases e <;> first | (cases h; done) | skip
    refine ps_imp ps_retN fun σ H D q => ?_
    obtain ⟨a, G, ρ, o, ρ', h4, R, ed⟩ := q
    cases h4
    exact ed σ .non H G (Same.refl _) R (.imm .non)
  · cases h
theorem amb_back {a a' : Amb} {ρ : Rho} {σ : L2.St} {w : W} (l : LockRel a ρ σ w a') : ({ a' with lks := a.lks, kps := a.kps } : Amb) = a := by
  cases l <;> rfl
theorem sS_loop {kd : Sk} {a b : IE} {tg : Tg} {s : IS} (ihs : SndS S sc cal k s) : SndS S sc cal k (.loop kd a b tg s) := by
  refine SndS.leaf (fun sts => rfl) fun X C st h => ?_
  split at h
  · rename_i t iter body p
    simp only [Bool.and_eq_true] at h
    obtain ⟨⟨⟨⟨⟨h1, h2⟩, h3⟩, h4⟩, h5⟩, h6⟩ := h
    have hz : rawK kd = true → isTp tg = true := fun z => by
      cases kd <;> first | (cases z; done) | exact h4
    have hxt : rawK kd = true → ∃ u, tg = .tp u := fun z => isTp_of (hz z)
    cases hs : srcE S sc kd iter with
    | none => rw [hs] at h5; cases h5
    | some l =>
      obtain ⟨l1, l2⟩ := l
      rw [hs] at h5
      simp only [Bool.and_eq_true] at h5
      have pi := snd_src (snd a) (snd b) C.c (tge := t) (fun z => tp_tuple (hz (by rw [z]; rfl)) h1) hs h5.1 h5.2
      have pg := (tg_both (X := X) C.c.N C.c.nd C.c.calm (fun x hx => ⟨by rw [C.c.sc]; exact locB_of hx, .inl (C.fn x)⟩) tg).1 t h1 h2
      refine ps_imp (ps_for (by rw [C.c.xe]; exact PassesOwn.never) C.c.calm pi pg (ihs.all X C _ h6) (fold_of h3)) fun σ H D q => ?_
      obtain ⟨a0, G, ρ, o, ρ', h7, R, ed⟩ := q
      obtain ⟨xs, ρ1, e1, h7⟩ := bnd_of (show (ev cal a ρ).bnd _ = .ok o ρ' from h7)
      obtain ⟨ys, ρ2, e2, h7⟩ := bnd_of h7
      obtain ⟨iw, ρ3, e3, h7⟩ := bnd_of h7
      obtain ⟨ds, w0⟩ := iw
      obtain ⟨o8, ρ8, e4, h8⟩ := bnd_of h7
      refine ⟨a0, G, ρ, ds, w0, ρ3, ?_, R, fun J H1 G1 a' s1 lr R0 Rl Sr => ?_⟩
      · show (ev cal a ρ).bnd _ = _
        rw [e1]
        show (ev cal b ρ1).bnd _ = _
        rw [e2]
        exact e3
      · have le : LoopEnd X.K a' G1 D o8 ρ8 := by
          cases o8 with
          | nx =>
            cases h8
            intro σ' H' G' s' R'
            exact ed σ' H' G' (s1.trans s') (R0.unlockW lr R')
          | bk =>
            exfalso
            have nb : ∀ {f : RC.D → Rho → Rs Fl} {ds : List RC.D} {ρ ρ' : Rho}, loopL f ds ρ ≠ .ok .bk ρ' := by
              intro f ds
              induction ds with
              | nil => intro ρ ρ' z; cases z
              | cons d ds ih =>
                intro ρ ρ' z
                obtain ⟨o1, ρ1, _, z⟩ := bnd_of (show (f d ρ).bnd _ = Rs.ok Fl.bk ρ' from z)
                cases o1 with
                | nx => exact ih z
                | bk => cases z
                | rt w => cases z
            exact nb e4
          | rt w =>
            cases h8
            intro σ' v H' G' s' R' k'
            have R2 := R'.less (l := a0.lks) (k := a0.kps) lr.sub (by rw [lr.lks.1]; exact fun q hq => hq)
            rw [amb_back lr] at R2
            refine ed σ' v H' G' (s1.trans s') R2 ?_
            obtain ⟨y1, y2, y3⟩ := lr.lks
            cases k' with
            | imm h => exact .imm h
            | fr g1 g2 g3 g4 g5 => exact .fr g1 (by rw [← y2]; exact g2) g3 (by rw [← y1]; exact g4) g5
            | al g1 g2 g3 => exact .al g1 g2 g3
        refine loop_W Sr (fun d x G2 H2 H2' ρ4 σ2 o1 ρ5 N s2 R2 io hf n1 n2 n3 => ?_) e4 Rl le
        obtain ⟨R3, it⟩ := io.step R2
        cases ha : asg tg [d] ρ4 with
        | none => simp only [ha] at hf; cases hf
        | some ρ6 =>
          simp only [ha] at hf
          refine (asg_both tg).1 h2 R3 ha ?_ fun σ3 R4 _ => ?_
          · rcases it with it | it
            · exact .inl it
            · exact .inr ⟨hxt it.1, it.2⟩
          · refine ⟨a', G2, ρ6, o1, ρ5, hf, R4, ?_⟩
            cases o1 with
            | nx => exact n1 rfl
            | bk => exact n2 rfl
            | rt w => exact n3 w rfl
  · cases h
theorem sndS : ∀ s : IS, SndS S sc cal k s
  | .skip => sS_skip
  | .seq s t => sS_seq (sndS s) (sndS t)
  | .ex e => sS_ex
  | .set i e => sS_set
  | .put i a e => sS_put
  | .ite c s t => sS_ite (sndS s) (sndS t)
  | .loop k a b tg s => sS_loop (sndS s)
  | .ret e => sS_ret
  | .brk => sS_brk
  | .rais => sS_rais
end
end RC
end RC8a
section RC8b
set_option Elab.async false
set_option linter.all false
set_option maxRecDepth 100000
set_option autoImplicit false
set_option maxHeartbeats 4000000
/-! RC8b: defs -/
namespace RC
open PySem PySem.Spec PyProof.Rows L2

/-- a def of the text, and what it is in the small syntax -/
structure DefE where
  name : String
  fn : Fn
  N : List String
  args : Arguments
  body : List Stmt
  scope : Scope
def DefE.ps (d : DefE) : List Str := (d.N.take d.fn.np).map Str.ofString
def DefE.ns (d : DefE) : List Str := d.N.map Str.ofString
def tabOf (ds : List DefE) : Tab := ds.map fun d => (d.name, d.fn)
def scopeB (N ps : List Str) (sc : Scope) : Bool := decide (sc.kind = .function) && !sc.isCoroutine && !sc.isGenerator && decide N.Nodup && decide (N.take ps.length = ps) && (ps.all fun x => locB sc x) && sc.names.all fun y => decide (y.2 ≠ .free)
theorem scopeB_of {N ps : List Str} {sc : Scope} (h : scopeB N ps sc = true) : FnScope N ps sc := by
  unfold scopeB at h
  simp only [Bool.and_eq_true, decide_eq_true_eq, Bool.not_eq_true', List.all_eq_true] at h
  obtain ⟨⟨⟨⟨⟨⟨h1, h2⟩, h3⟩, h4⟩, h5⟩, h6⟩, h7⟩ := h
  exact ⟨h1, h2, h3, h4, h5, fun x hx => locB_of (h6 x hx), h7⟩
/-- the shared part of the checks -/
structure Shd where
  fns : List String
  fr : List String
  gcd : Bool
def Shd.sx (s : Shd) (d : DefE) : Sx := ⟨d.ns, s.fns, s.fr, s.gcd⟩
def chkD (s : Shd) (d : DefE) : Bool := chkS (s.sx d) d.scope d.fn.body d.body && decide (d.N.length = d.fn.ns) && decide (d.fn.np ≤ d.fn.ns) && scopeB d.ns d.ps d.scope
section
variable {P : Program} {w : World} {K : PySem.W.Frag} {mg : Str → Option Value} {base : Heap}
theorem DefE.ps_len {d : DefE} (h1 : d.N.length = d.fn.ns) (h2 : d.fn.np ≤ d.fn.ns) : d.ps.length = d.fn.np := by
  unfold DefE.ps
  rw [List.length_map, List.length_take]
  omega
theorem def_ok {s : Shd} {d : DefE} {cal : Cal} {k : Nat} {g : Addr} {fd : FuncData} {x : Str} (hc : chkD s d = true) (F : FunD K x x d.args d.body d.scope [] [] g fd) (G : Glb P w K mg base (s.sx d) cal k) :
    FnOk P w K mg base C8.CX0 (k + 3) g fd d.ps (spD K d.fn.np fun es => runF cal d.fn es) := by
  unfold chkD at hc
  simp only [Bool.and_eq_true, decide_eq_true_eq] at hc
  obtain ⟨⟨⟨h1, h2⟩, h3⟩, h4⟩ := hc
  have Sc := scopeB_of h4
  refine F.ok (k := k + 2) Sc (fun vs H Q E q => ?_) fun cdv A outer st H vs Q E hr q => ?_
  · obtain ⟨G', es, w', os, pre, hl, _⟩ := q
    rw [d.ps_len h2 h3, ← hl, pre.len]
  · have C : CtxS (cxOf C8.CX0 P w K mg base d.ns x d.scope g cdv A outer st H E).nox (s.sx d) d.scope cal k :=
      ⟨⟨rfl, Sc.nd, rfl, rfl, rfl, hr, G⟩, fun _ => rfl⟩
    refine ⟨tS K (exs cal d.fn.body), ((sndS d.fn.body).all _ C d.body h1).nox, ?_⟩
    obtain ⟨G', es, w', os, pre, hl, hrun, hq⟩ := q
    have hrun : runF cal d.fn es = some (w', os) := hrun
    unfold runF at hrun
    have hle : es.length ≤ d.fn.ns := by omega
    rw [if_pos ⟨hl, h3⟩] at hrun
    have hlen : d.ns.length = d.fn.ns := by unfold DefE.ns; rw [List.length_map]; exact h2
    have R := start_rel pre hlen hle
    rw [hl] at R
    cases he : exs cal d.fn.body (es.map some ++ List.replicate (d.fn.ns - d.fn.np) none) with
    | no => rw [he] at hrun; cases hrun
    | ex e ρ => rw [he] at hrun; cases hrun
    | ok o ρ =>
      rw [he] at hrun
      refine ⟨amb0 G' H es vs, G', _, o, ρ, he, R, ?_⟩
      cases o with
      | bk => cases hrun
      | nx =>
        obtain ⟨os', e1, e2⟩ := Option.map_eq_some_iff.mp (show (outs 0 es ρ).map _ = some (w', os) from hrun)
        cases e2
        intro σ' H' G2 s2 R2
        exact hq .non H' G2 (end_post R2 e1 (.imm .non) fun i z => by cases z)
      | rt wr =>
        intro σ' v H' G2 s2 R2 k2
        cases wr with
        | al i => cases hrun
        | imm d2 =>
          obtain ⟨os', e1, e2⟩ := Option.map_eq_some_iff.mp (show (outs 0 es ρ).map _ = some (w', os) from hrun)
          cases e2
          exact hq v H' G2 (end_post R2 e1 k2 fun i z => by cases z)
        | fr d2 =>
          obtain ⟨os', e1, e2⟩ := Option.map_eq_some_iff.mp (show (outs 0 es ρ).map _ = some (w', os) from hrun)
          cases e2
          exact hq v H' G2 (end_post R2 e1 k2 fun i z => by cases z)
/-- what is known of the defs behind the top -/
structure Tops (K : PySem.W.Frag) (mg : Str → Option Value) (s : Shd) (ds : List DefE) : Prop where
  free : ∀ x, x ∈ s.fr → mg (Str.ofString x) = none
  gcd : s.gcd = true → mg (Str.ofString "gcd") = some (.builtin "math.gcd")
  defs : ∀ d, d ∈ ds → ∃ g fd, FunD K (Str.ofString d.name) (Str.ofString d.name) d.args d.body d.scope [] [] g fd ∧ mg (Str.ofString d.name) = some (.ref g) ∧ Binds K fd d.ps []
  names : s.fns = ds.map (·.name)
theorem lookup_tab {ds : List DefE} (hn : (ds.map (·.name)).Nodup) {d : DefE} (hd : d ∈ ds) : (tabOf ds).lookup d.name = some d.fn := by
  induction ds with
  | nil => cases hd
  | cons e ds ih =>
    obtain ⟨h1, h2⟩ := List.nodup_cons.mp (show (e.name :: ds.map (·.name)).Nodup from hn)
    show List.lookup d.name ((e.name, e.fn) :: tabOf ds) = _
    rcases List.mem_cons.mp hd with rfl | hd
    · simp [List.lookup]
    · have ne : d.name ≠ e.name := fun z => h1 (by rw [← z]; exact List.mem_map.mpr ⟨d, hd, rfl⟩)
      have nb : (d.name == e.name) = false := by simpa using ne
      rw [List.lookup_cons, nb]
      exact ih h2 hd
theorem callN_succ {ds : List DefE} {n : Nat} {d : DefE} (hn : (ds.map (·.name)).Nodup) (hd : d ∈ ds) : callN (tabOf ds) (n + 1) d.name = fun es => runF (callN (tabOf ds) n) d.fn es := by
  funext es
  show (match (tabOf ds).lookup d.name with
    | some fn => runF (callN (tabOf ds) n) fn es
    | none => none) = _
  rw [lookup_tab hn hd]
theorem glb_all {s : Shd} {ds : List DefE} (T : Tops K mg s ds) (hc : ds.all (chkD s) = true) (hn : (ds.map (·.name)).Nodup) : ∀ n : Nat, (∀ d, Glb P w K mg base (s.sx d) (callN (tabOf ds) n) (3 * n))
  | 0, d => ⟨T.free, T.gcd, fun f hf => by
      have hf : f ∈ s.fns := hf
      rw [T.names] at hf
      obtain ⟨e, he, rfl⟩ := List.mem_map.mp hf
      obtain ⟨g, fd, F, hm, hb⟩ := T.defs e he
      exact ⟨e.fn.np, g, fd, e.ps, ⟨fun vs H Q E q => (by obtain ⟨_, _, _, _, _, _, z, _⟩ := q; cases z), fun A outer st H args us vs Q E _ _ _ _ q => (by obtain ⟨_, _, _, _, _, _, z, _⟩ := q; cases z)⟩, hm, F.kp, hb, fun es r z => by cases z⟩⟩
  | n + 1, d => ⟨T.free, T.gcd, fun f hf => by
      have hf : f ∈ s.fns := hf
      rw [T.names] at hf
      obtain ⟨e, he, rfl⟩ := List.mem_map.mp hf
      obtain ⟨g, fd, F, hm, hb⟩ := T.defs e he
      have ce : chkD s e = true := List.all_eq_true.mp hc e he
      refine ⟨e.fn.np, g, fd, e.ps, ?_, hm, F.kp, hb, fun es r z => ?_⟩
      · rw [callN_succ hn he]
        exact def_ok ce F (glb_all T hc hn n e)
      · rw [callN_succ hn he] at z
        have z : runF (callN (tabOf ds) n) e.fn es = some r := z
        unfold runF at z
        split at z
        · rename_i q; exact q.1
        · cases z⟩
/-- the law's def -/
theorem law_ok {s : Shd} {ds : List DefE} (T : Tops K mg s ds) (hc : ds.all (chkD s) = true) (hn : (ds.map (·.name)).Nodup) (n : Nat) {d : DefE} (hd : d ∈ ds) {g : Addr} {fd : FuncData} (F : FunD K (Str.ofString d.name) (Str.ofString d.name) d.args d.body d.scope [] [] g fd) :
    FnOk P w K mg base C8.CX0 (3 * (n + 1)) g fd d.ps (spD K d.fn.np (callN (tabOf ds) (n + 1) d.name)) := by
  rw [callN_succ hn hd]
  exact def_ok (List.all_eq_true.mp hc d hd) F (glb_all T hc hn n d)
theorem den_ints {G : Hp} : ∀ ns : List Int, DenAll K G (ns.map V.int) (ns.map .int)
  | [] => .nil
  | i :: ns => .cons (.int i) (den_ints ns)
/-- from the data to the law: its value is True -/
theorem law_sp {c : List En → Option (W × List En)} {H : Hp} {a : Addr} {ns : List Int} (hS : SqL K H a (ns.map V.int)) {os : List En} (hc : c [⟨.imm, false, .list (ns.map .int)⟩] = some (.imm (.bool true), os)) :
    spD K 1 c [.ref a] H (fun v _ => v = .bl true) fun _ _ _ => False := by
  refine ⟨H, [⟨.imm, false, .list (ns.map .int)⟩], .imm (.bool true), os, ⟨rfl, fun i e v h1 h2 => ?_, fun i j e f p h1 h2 k1 k2 _ _ => ?_, Same.refl _⟩, rfl, hc, fun v H' G' post => ?_⟩
  · cases i with
    | zero => simp at h1 h2; subst h1 h2; exact .imm (.lst hS (den_ints ns))
    | succ i => simp at h1
  · cases i with
    | zero => simp at h1; subst h1; cases k1
    | succ i => simp at h1
  · have := post.res
    cases this
    rfl
end
end RC
end RC8b
section RC9
set_option Elab.async false
set_option linter.all false
set_option maxRecDepth 100000
set_option autoImplicit false
set_option maxHeartbeats 4000000
/-! RC9: from the head to the defs -/
namespace RC
open PySem PySem.Spec PyProof.Rows L2

def toD (d : DefE) : He.DefD := ⟨(Str.ofString d.name, none), Str.ofString d.name, Str.ofString d.name, d.args, d.body, d.scope, [], []⟩
def fnOf (ds : List DefE) : List He.DefD := ds.map toD
def faOf (s : Shd) (ds : List DefE) : List He.Fa := ds.map (fun d => .glo (Str.ofString d.name)) ++ s.fr.map fun x => .free (Str.ofString x)
/-- more facts of the head: gcd -/
def exOf (s : Shd) (K : PySem.W.Frag) : Bool := !s.gcd || He.eqO (PySem.W.nsIn K mainGlobals (Str.ofString "gcd")) (some (some (.builtin "math.gcd")))
def hookG (n : Nat) (s : Shd) (ds : List DefE) : PySem.W.Hook where
  α := He.AlD × Bool
  obs := fun st => (He.obsDG n (faOf s ds) (fnOf ds) st.heap.get?, exOf s (He.frG st.heap.get? (He.asD st.heap.get? n)))
  val := fun _ => (He.valD (fnOf ds), true)
  says := fun _ h => ∃ K : PySem.W.Frag, K.In h ∧ He.SaysD (faOf s ds) (fnOf ds) K ∧ exOf s K = true
  of := fun _ _ e => ⟨_, He.frG_in, congrArg Prod.fst e, congrArg Prod.snd e⟩
  keeps := fun _ _ _ ⟨K, hK, c⟩ k => ⟨K, PySem.W.Frag.In.keeps hK k, c⟩
def obG (n : Nat) (s : Shd) (ds : List DefE) (st : PySem.W.SharedT) : He.AlD × Bool := (He.obsDG n (faOf s ds) (fnOf ds) (HandSHeadRun.getT st), exOf s (He.frG (HandSHeadRun.getT st) (He.asD (HandSHeadRun.getT st) n)))
theorem obG_eq (n : Nat) (s : Shd) (ds : List DefE) (st : PySem.W.SharedT) : obG n s ds st = (hookG n s ds).obs st.abs := by
  have e : HandSHeadRun.getT st = st.abs.heap.get? := funext (HandSHeadRun.getT_eq st)
  unfold obG
  rw [e]
  rfl
def BindOk (d : DefE) : Prop := ∀ (kV doc pm : Value) (an : Option Addr) (cdv ct : Value) (us : List Value), us.length = d.ps.length → bindArgs (PySem.W.fnOf (Str.ofString d.name) (Str.ofString d.name) d.args d.body d.scope .none kV doc pm an cdv ct) ⟨us, []⟩ = pure (d.ps.zip us)
theorem tops_of {K : PySem.W.Frag} {h : Heap} {mg : Str → Option Value} {s : Shd} {ds : List DefE} (X : K.In h) (G : h.Ns mainGlobals mg) (c : He.SaysD (faOf s ds) (fnOf ds) K) (ex : exOf s K = true) (hb : ∀ d, d ∈ ds → BindOk d) (hn : s.fns = ds.map (·.name)) : Tops K mg s ds := by
  refine ⟨fun x hx => ?_, fun hg => ?_, fun d hd => ?_, hn⟩
  · exact He.free_ok X G (c.facts (f := .free (Str.ofString x)) (List.mem_append_right _ (List.mem_map.mpr ⟨x, hx, rfl⟩)))
  · unfold exOf at ex
    rw [hg] at ex
    exact PySem.W.mg_of X G (He.eqO_ok (by simpa using ex))
  · obtain ⟨fd, F⟩ := c.defs (d := toD d) (List.mem_map.mpr ⟨d, hd, rfl⟩)
    have hm := He.glo_ok X G (c.facts (f := .glo (Str.ofString d.name)) (List.mem_append_left _ (List.mem_map.mpr ⟨d, hd, rfl⟩)))
    exact ⟨_, fd, F, hm, F.bindsN (hb d hd)⟩
theorem law_facts {P : Program} {w : World} {K : PySem.W.Frag} {h : Heap} {mg : Str → Option Value} {s : Shd} {ds : List DefE} {f : Addr} (X : K.In h) (G : h.Ns mainGlobals mg) (c : He.SaysD (faOf s ds) (fnOf ds) K) (ex : exOf s K = true) (hb : ∀ d, d ∈ ds → BindOk d) (hn : s.fns = ds.map (·.name))
    (hc : ds.all (chkD s) = true) (nd : (ds.map (·.name)).Nodup) (n : Nat) {d : DefE} (hd : d ∈ ds) (x : Str) (hx : d.ps = [x]) (hf : mg (Str.ofString d.name) = some (.ref f)) :
    ∃ fd : FuncData, (∀ (st : Shared) (v : Value), BindsTo st fd ⟨[v], []⟩ [(x, v)]) ∧ ∀ base : Heap, K.In base → base.Ns mainGlobals mg → FnOk P w K mg base C8.CX0 (3 * (n + 1)) f fd [x] (spD K d.fn.np (callN (tabOf ds) (n + 1) d.name)) := by
  have T := tops_of X G c ex hb hn
  obtain ⟨g, fd, F, hm, _⟩ := T.defs d hd
  rw [hf] at hm
  cases hm
  have b := FunD.bindsA F (hb d hd)
  rw [hx] at b
  refine ⟨fd, fun st v => b st [v] rfl, fun base _ _ => ?_⟩
  rw [← hx]
  exact law_ok T hc nd n hd F
end RC
namespace RC
def BindAll : List DefE → Prop
  | [] => True
  | d :: ds => BindOk d ∧ BindAll ds
theorem bind_app : ∀ {l m : List DefE}, BindAll l → BindAll m → BindAll (l ++ m)
  | [], _, _, h => h
  | _ :: _, _, h, g => ⟨h.1, bind_app h.2 g⟩
theorem bind_mem : ∀ {l : List DefE}, BindAll l → ∀ d, d ∈ l → BindOk d
  | d :: l, h, e, he => by
    rcases List.mem_cons.mp he with rfl | he
    · exact h.1
    · exact bind_mem h.2 e he
end RC
end RC9
section LB
set_option Elab.async false
set_option linter.all false
set_option maxRecDepth 100000
set_option autoImplicit false
namespace RC.Lb
open RC
def b_make_share : IS := (.seq (.ite (.or (.cmp .eq (.v 1) (.int 0)) (.cmp .lt (.bin .mul (.v 0) (.v 1)) (.int 0))) .rais .skip) (.seq (.set 2 (.blt .gcd (.cons (.v 0) (.cons (.v 1) .nil)))) (.ret (.tup (.cons (.bin .fdiv (.blt .abs (.cons (.v 0) .nil)) (.v 2)) (.cons (.bin .fdiv (.blt .abs (.cons (.v 1) .nil)) (.v 2)) .nil))))))
def f_make_share : Fn := ⟨2, 3, b_make_share⟩
def b_times : IS := (.ret (.call "make_share" (.cons (.bin .mul (.ix (.v 0) (.int 0)) (.ix (.v 1) (.int 0))) (.cons (.bin .mul (.ix (.v 0) (.int 1)) (.ix (.v 1) (.int 1))) .nil))))
def f_times : Fn := ⟨2, 2, b_times⟩
def b_compare_shares : IS := (.seq (.set 2 (.bin .mul (.ix (.v 0) (.int 0)) (.ix (.v 1) (.int 1)))) (.seq (.set 3 (.bin .mul (.ix (.v 1) (.int 0)) (.ix (.v 0) (.int 1)))) (.seq (.ite (.cmp .eq (.v 2) (.v 3)) (.ret (.int 0)) .skip) (.ret (.ite (.cmp .lt (.v 2) (.v 3)) (.neg (.int 1)) (.int 1))))))
def f_compare_shares : Fn := ⟨2, 4, b_compare_shares⟩
def b_rest_of : IS := (.ret (.tup (.cons (.bin .sub (.ix (.v 0) (.int 1)) (.ix (.v 0) (.int 0))) (.cons (.ix (.v 0) (.int 1)) .nil))))
def f_rest_of : Fn := ⟨1, 1, b_rest_of⟩
def b_product_of : IS := (.seq (.set 1 (.tup (.cons (.int 1) (.cons (.int 1) .nil)))) (.seq (.loop .val (.cons (.v 0) .nil) .nil (.n 2) (.set 1 (.call "times" (.cons (.v 1) (.cons (.v 2) .nil))))) (.ret (.v 1))))
def f_product_of : Fn := ⟨1, 3, b_product_of⟩
def b__law_draws : IS := (.seq (.set 2 (.comp .val (.cons (.v 0) .nil) .nil (.n 8) [8] (.bl true) (.blt .int (.cons (.v 8) .nil)))) (.seq (.ite (.cmp .eq (.blt .len (.cons (.v 2) .nil)) (.int 0)) (.ex (.app 2 (.int 0))) .skip) (.seq (.set 3 (.blt .list (.cons (.v 2) .nil))) (.seq (.set 4 (.lst .nil)) (.seq (.loop .rng (.cons (.v 1) .nil) .nil (.n 5) (.seq (.set 6 (.bin .md (.v 5) (.blt .len (.cons (.v 2) .nil)))) (.ite (.cmp .ge (.ix (.v 2) (.v 6)) (.bin .pow (.int 10) (.int 18))) (.seq (.ex (.app 4 (.bin .md (.blt .int (.cons (.ix (.v 3) (.v 6)) .nil)) (.int 1000)))) (.put 3 (.v 6) (.bin .fdiv (.ix (.v 3) (.v 6)) (.int 1000)))) (.seq (.set 7 (.bin .md (.blt .int (.cons (.bin .add (.bin .add (.bin .mul (.ix (.v 2) (.v 6)) (.int 48271)) (.bin .mul (.v 5) (.int 69621))) (.int 11)) .nil)) (.int 2147483647))) (.ex (.app 4 (.bin .md (.blt .int (.cons (.bin .add (.bin .add (.bin .mul (.v 7) (.v 7)) (.bin .mul (.int 3) (.v 7))) (.v 5)) .nil)) (.int 1000003)))))))) (.seq (.ex (.rev 4)) (.ret (.v 4))))))))
def f__law_draws : Fn := ⟨2, 9, b__law_draws⟩
def b__law_take : IS := (.seq (.ite (.cmp .eq (.blt .len (.cons (.v 0) .nil)) (.int 0)) (.ret (.int 0)) .skip) (.ret (.bin .md (.blt .int (.cons (.pop 0) .nil)) (.v 1))))
def f__law_take : Fn := ⟨2, 2, b__law_take⟩
def b__law_pick : IS := (.ret (.ix (.v 1) (.call "_law_take" (.cons (.v 0) (.cons (.blt .len (.cons (.v 1) .nil)) .nil)))))
def f__law_pick : Fn := ⟨2, 2, b__law_pick⟩
def b__law_same : IS := (.seq (.ite (.isi [.ttup, .tlst] (.v 1)) (.seq (.ite (.or (.cmp .ne (.isi [.ttup] (.v 0)) (.isi [.ttup] (.v 1))) (.cmp .ne (.isi [.tlst] (.v 0)) (.isi [.tlst] (.v 1)))) (.ret (.bl false)) .skip) (.seq (.ite (.cmp .ne (.blt .len (.cons (.v 0) .nil)) (.blt .len (.cons (.v 1) .nil))) (.ret (.bl false)) .skip) (.ret (.cmp .nin (.bl false) (.comp .rng (.cons (.blt .len (.cons (.v 1) .nil)) .nil) .nil (.n 2) [2] (.bl true) (.call "_law_same" (.cons (.ix (.v 0) (.v 2)) (.cons (.ix (.v 1) (.v 2)) .nil)))))))) .skip) (.seq (.ite (.or (.cmp .ne (.isi [.tbool] (.v 0)) (.isi [.tbool] (.v 1))) (.cmp .ne (.isi [.tint] (.v 0)) (.isi [.tint] (.v 1)))) (.ret (.bl false)) .skip) (.seq (.ite (.or (.cmp .ne (.isi [.tstr] (.v 0)) (.isi [.tstr] (.v 1))) (.cmp .ne (.isn (.v 0)) (.isn (.v 1)))) (.ret (.bl false)) .skip) (.ret (.cmp .eq (.v 0) (.v 1))))))
def f__law_same : Fn := ⟨2, 3, b__law_same⟩
def b__law_pool : IS := (.seq (.set 2 (.lst .nil)) (.seq (.loop .rng (.cons (.v 1) .nil) .nil (.n 3) (.seq (.set 4 (.comp .rng (.cons (.bin .add (.int 1) (.call "_law_take" (.cons (.v 0) (.cons (.int 3) .nil)))) .nil) .nil (.n 6) [6] (.bl true) (.ix (.str "abcdefghijklmnopqrstuvwxyz") (.call "_law_take" (.cons (.v 0) (.cons (.int 26) .nil)))))) (.seq (.set 5 (.join (.str "") (.v 4))) (.seq (.ite (.cmp .isin (.v 5) (.v 2)) (.set 5 (.bin .add (.join (.str "") (.v 2)) (.str "z"))) .skip) (.ex (.app 2 (.v 5))))))) (.ret (.v 2))))
def f__law_pool : Fn := ⟨2, 7, b__law_pool⟩
def b__law_values : IS := (.seq (.set 2 (.bin .sub (.call "_law_take" (.cons (.v 0) (.cons (.int 7) .nil))) (.int 3))) (.seq (.set 3 (.lst (.cons (.v 2) (.cons (.bin .add (.bin .add (.v 2) (.int 1)) (.call "_law_take" (.cons (.v 0) (.cons (.int 5) .nil)))) (.cons (.ix (.v 1) (.int 0)) .nil))))) (.seq (.ite (.cmp .eq (.call "_law_take" (.cons (.v 0) (.cons (.int 3) .nil))) (.int 0)) (.put 3 (.int 1) (.ix (.v 1) (.int 1))) .skip) (.ret (.v 3)))))
def f__law_values : Fn := ⟨2, 4, b__law_values⟩
def b__law_value : IS := (.ret (.ix (.v 1) (.ix (.lst (.cons (.int 0) (.cons (.int 1) (.cons (.int 0) (.cons (.int 2) (.cons (.int 1) .nil)))))) (.call "_law_take" (.cons (.v 0) (.cons (.int 5) .nil))))))
def f__law_value : Fn := ⟨2, 2, b__law_value⟩
def b__law_key : IS := (.ret (.tup (.cons (.blt .int (.cons (.isi [.tstr] (.v 0)) .nil)) (.cons (.v 0) .nil))))
def f__law_key : Fn := ⟨1, 1, b__law_key⟩
def b__law_row_key : IS := (.ret (.comp .val (.cons (.v 0) .nil) .nil (.n 1) [1] (.bl true) (.call "_law_key" (.cons (.v 1) .nil))))
def f__law_row_key : Fn := ⟨1, 2, b__law_row_key⟩
def b__law_sorted : IS := (.seq (.set 1 (.lst .nil)) (.seq (.loop .val (.cons (.srtk "_law_row_key" (.v 0)) .nil) .nil (.n 2) (.ite (.cmp .nin (.v 2) (.v 1)) (.ex (.app 1 (.v 2))) .skip)) (.ret (.v 1))))
def f__law_sorted : Fn := ⟨1, 3, b__law_sorted⟩
def b__law_share : IS := (.seq (.set 2 (.v 0)) (.seq (.set 3 (.v 1)) (.seq (.loop .rng (.cons (.bin .add (.bin .mul (.int 2) (.bits (.v 1))) (.int 4)) .nil) .nil (.n 4) (.seq (.ite (.cmp .eq (.v 3) (.int 0)) .brk .skip) (.seq (.set 5 (.bin .md (.blt .int (.cons (.v 2) .nil)) (.v 3))) (.seq (.set 2 (.v 3)) (.set 3 (.v 5)))))) (.ret (.tup (.cons (.bin .fdiv (.v 0) (.v 2)) (.cons (.bin .fdiv (.v 1) (.v 2)) .nil)))))))
def f__law_share : Fn := ⟨2, 6, b__law_share⟩
def b__law_times : IS := (.ret (.call "_law_share" (.cons (.bin .mul (.ix (.v 0) (.int 0)) (.ix (.v 1) (.int 0))) (.cons (.bin .mul (.ix (.v 0) (.int 1)) (.ix (.v 1) (.int 1))) .nil))))
def f__law_times : Fn := ⟨2, 2, b__law_times⟩
def b__law_rest : IS := (.ret (.tup (.cons (.bin .sub (.ix (.v 0) (.int 1)) (.ix (.v 0) (.int 0))) (.cons (.ix (.v 0) (.int 1)) .nil))))
def f__law_rest : Fn := ⟨1, 1, b__law_rest⟩
def b__law_less : IS := (.ret (.cmp .lt (.bin .mul (.ix (.v 0) (.int 0)) (.ix (.v 1) (.int 1))) (.bin .mul (.ix (.v 1) (.int 0)) (.ix (.v 0) (.int 1)))))
def f__law_less : Fn := ⟨2, 2, b__law_less⟩
def b__law_any : IS := (.seq (.set 1 (.tup (.cons (.int 1) (.cons (.int 1) .nil)))) (.seq (.loop .val (.cons (.v 0) .nil) .nil (.n 2) (.set 1 (.call "_law_times" (.cons (.v 1) (.cons (.call "_law_rest" (.cons (.v 2) .nil)) .nil))))) (.ret (.call "_law_rest" (.cons (.v 1) .nil)))))
def f__law_any : Fn := ⟨1, 3, b__law_any⟩
def b__law_chance : IS := (.seq (.set 1 (.bin .add (.int 2) (.call "_law_take" (.cons (.v 0) (.cons (.int 5) .nil))))) (.seq (.ite (.cmp .eq (.call "_law_take" (.cons (.v 0) (.cons (.int 14) .nil))) (.int 0)) (.set 1 (.bin .add (.int 1000003) (.bin .mul (.int 1000000) (.call "_law_take" (.cons (.v 0) (.cons (.int 1000) .nil)))))) .skip) (.ret (.call "_law_share" (.cons (.ix (.lst (.cons (.int 1) (.cons (.bin .sub (.v 1) (.int 1)) (.cons (.call "_law_take" (.cons (.v 0) (.cons (.bin .add (.v 1) (.int 1)) .nil))) (.cons (.int 1) .nil))))) (.call "_law_take" (.cons (.v 0) (.cons (.int 4) .nil)))) (.cons (.v 1) .nil))))))
def f__law_chance : Fn := ⟨1, 2, b__law_chance⟩
def b__law_world : IS := (.seq (.set 1 (.call "_law_pool" (.cons (.v 0) (.cons (.int 7) .nil)))) (.seq (.set 2 (.lst .nil)) (.seq (.loop .val (.cons (.srt (.sl (.v 1) .nil (.cons (.ix (.lst (.cons (.int 3) (.cons (.int 2) (.cons (.int 3) (.cons (.int 4) .nil))))) (.call "_law_take" (.cons (.v 0) (.cons (.int 4) .nil)))) .nil))) .nil) .nil (.n 3) (.ex (.app 2 (.tup (.cons (.v 3) (.cons (.ix (.lst (.cons (.int 2) (.cons (.int 1) (.cons (.int 2) (.cons (.int 1) (.cons (.int 2) (.cons (.int 0) (.cons (.int 1) (.cons (.int 3) .nil))))))))) (.call "_law_take" (.cons (.v 0) (.cons (.int 8) .nil)))) .nil)))))) (.ret (.lst (.cons (.blt .tuple (.cons (.v 2) .nil)) (.cons (.srt (.sl (.v 1) (.cons (.int 4) .nil) .nil)) (.cons (.call "_law_values" (.cons (.v 0) (.cons (.v 1) .nil))) .nil))))))))
def f__law_world : Fn := ⟨1, 4, b__law_world⟩
def b__law_table : IS := (.seq (.loop .val (.cons (.v 0) .nil) .nil (.n 2) (.ite (.cmp .eq (.ix (.v 2) (.int 0)) (.v 1)) (.ret (.v 2)) .skip)) (.ret .non))
def f__law_table : Fn := ⟨2, 3, b__law_table⟩
def b__law_term : IS := (.seq (.ite (.cmp .eq (.call "_law_take" (.cons (.v 0) (.cons (.int 8) .nil))) (.int 0)) (.ret (.tup (.cons (.str "value") (.cons (.call "_law_value" (.cons (.v 0) (.cons (.ix (.v 1) (.int 2)) .nil))) .nil)))) .skip) (.ret (.tup (.cons (.str "var") (.cons (.call "_law_pick" (.cons (.v 0) (.cons (.ix (.v 1) (.int 1)) .nil))) .nil)))))
def f__law_term : Fn := ⟨2, 2, b__law_term⟩
def b__law_atom : IS := (.ret (.tup (.cons (.ix (.v 2) (.int 0)) (.cons (.blt .tuple (.cons (.comp .rng (.cons (.ix (.v 2) (.int 1)) .nil) .nil (.n 3) [3] (.bl true) (.call "_law_term" (.cons (.v 0) (.cons (.v 1) .nil)))) .nil)) .nil))))
def f__law_atom : Fn := ⟨3, 4, b__law_atom⟩
def b__law_put : IS := (.seq (.ite (.cmp .eq (.ix (.v 0) (.int 0)) (.str "var")) (.loop .val (.cons (.v 1) .nil) .nil (.n 2) (.ite (.cmp .eq (.ix (.v 0) (.int 1)) (.ix (.v 2) (.int 0))) (.ret (.tup (.cons (.str "value") (.cons (.ix (.v 2) (.int 1)) .nil)))) .skip)) .skip) (.ret (.v 0)))
def f__law_put : Fn := ⟨2, 3, b__law_put⟩
def b__law_place_key : IS := (.ret (.tup (.cons (.ix (.v 0) (.int 0)) (.cons (.call "_law_row_key" (.cons (.ix (.v 0) (.int 1)) .nil)) .nil))))
def f__law_place_key : Fn := ⟨1, 1, b__law_place_key⟩
def b__law_store : IS := (.seq (.set 1 (.lst .nil)) (.seq (.set 2 (.lst .nil)) (.seq (.loop .val (.cons (.srtk "_law_place_key" (.v 0)) .nil) .nil (.n 3) (.ite (.cmp .nin (.sl (.v 3) .nil (.cons (.int 2) .nil)) (.v 2)) (.seq (.ex (.app 2 (.sl (.v 3) .nil (.cons (.int 2) .nil)))) (.ex (.app 1 (.v 3)))) .skip)) (.ret (.blt .tuple (.cons (.v 1) .nil))))))
def f__law_store : Fn := ⟨1, 4, b__law_store⟩
def b__law_facts : IS := (.seq (.set 4 (.lst .nil)) (.seq (.loop .val (.cons (.v 2) .nil) .nil (.n 5) (.set 4 (.bin .add (.v 4) (.blt .list (.cons (.ix (.v 5) (.int 1)) .nil))))) (.seq (.set 6 (.lst .nil)) (.seq (.loop .rng (.cons (.call "_law_take" (.cons (.v 0) (.cons (.bin .add (.v 3) (.int 1)) .nil))) .nil) .nil (.n 7) (.seq (.set 8 (.call "_law_pick" (.cons (.v 0) (.cons (.ix (.v 1) (.int 0)) .nil)))) (.seq (.set 9 (.comp .rng (.cons (.ix (.v 8) (.int 1)) .nil) .nil (.n 11) [11] (.bl true) (.call "_law_value" (.cons (.v 0) (.cons (.ix (.v 1) (.int 2)) .nil))))) (.seq (.ite (.and (.cmp .gt (.blt .len (.cons (.v 4) .nil)) (.int 0)) (.cmp .gt (.call "_law_take" (.cons (.v 0) (.cons (.int 6) .nil))) (.int 0))) (.seq (.set 10 (.call "_law_pick" (.cons (.v 0) (.cons (.v 4) .nil)))) (.seq (.set 8 (.call "_law_table" (.cons (.ix (.v 1) (.int 0)) (.cons (.ix (.v 10) (.int 0)) .nil)))) (.seq (.set 9 (.comp .val (.cons (.ix (.v 10) (.int 1)) .nil) .nil (.n 12) [12] (.bl true) (.call "_law_value" (.cons (.v 0) (.cons (.ix (.v 1) (.int 2)) .nil))))) (.loop .rng (.cons (.blt .len (.cons (.v 9) .nil)) .nil) .nil (.n 11) (.seq (.put 9 (.v 11) (.ix (.v 9) (.idx (.ix (.v 10) (.int 1)) (.ix (.ix (.v 10) (.int 1)) (.v 11))))) (.ite (.cmp .eq (.ix (.ix (.ix (.v 10) (.int 1)) (.v 11)) (.int 0)) (.str "value")) (.put 9 (.v 11) (.ix (.ix (.ix (.v 10) (.int 1)) (.v 11)) (.int 1))) .skip)))))) .skip) (.ex (.app 6 (.tup (.cons (.ix (.v 8) (.int 0)) (.cons (.blt .tuple (.cons (.v 9) .nil)) (.cons (.call "_law_chance" (.cons (.v 0) .nil)) .nil)))))))))) (.ret (.v 6))))))
def f__law_facts : Fn := ⟨4, 13, b__law_facts⟩
def b__law_grown : IS := (.seq (.loop .rng (.cons (.blt .len (.cons (.v 1) .nil)) .nil) .nil (.n 3) (.seq (.set 4 (.call "_law_put" (.cons (.ix (.v 0) (.v 3)) (.cons (.v 2) .nil)))) (.ite (.cmp .eq (.ix (.v 4) (.int 0)) (.str "var")) (.set 2 (.bin .add (.v 2) (.lst (.cons (.tup (.cons (.ix (.v 4) (.int 1)) (.cons (.ix (.v 1) (.v 3)) .nil))) .nil)))) (.ite (.cmp .ne (.ix (.v 4) (.int 1)) (.ix (.v 1) (.v 3))) (.ret .non) .skip)))) (.ret (.v 2)))
def f__law_grown : Fn := ⟨3, 5, b__law_grown⟩
def b__law_dense : IS := (.seq (.set 4 (.lst .nil)) (.seq (.loop .rng (.cons (.bin .mul (.int 2) (.v 3)) .nil) .nil (.n 5) (.set 4 (.bin .add (.v 4) (.call "_law_facts" (.cons (.v 0) (.cons (.v 1) (.cons (.v 2) (.cons (.int 1) .nil)))))))) (.ret (.sl (.v 4) .nil (.cons (.v 3) .nil)))))
def f__law_dense : Fn := ⟨4, 6, b__law_dense⟩
def b__law_varied_world : IS := (.seq (.set 1 (.call "_law_world" (.cons (.v 0) .nil))) (.seq (.ite (.cmp .eq (.call "_law_take" (.cons (.v 0) (.cons (.int 10) .nil))) (.int 5)) (.put 1 (.int 0) (.bin .add (.tup (.cons (.tup (.cons (.ix (.ix (.ix (.v 1) (.int 0)) (.int 0)) (.int 0)) (.cons (.bin .add (.int 4) (.call "_law_take" (.cons (.v 0) (.cons (.int 5) .nil)))) .nil))) .nil)) (.sl (.ix (.v 1) (.int 0)) (.cons (.int 1) .nil) .nil))) .skip) (.seq (.ite (.cmp .eq (.call "_law_take" (.cons (.v 0) (.cons (.int 6) .nil))) (.int 0)) (.put 1 (.int 2) (.lst (.cons (.bin .add (.int 2) (.call "_law_take" (.cons (.v 0) (.cons (.int 8) .nil)))) (.cons (.bin .add (.int 10) (.call "_law_take" (.cons (.v 0) (.cons (.int 90) .nil)))) (.cons (.ix (.ix (.v 1) (.int 2)) (.int 2)) .nil))))) .skip) (.ret (.v 1)))))
def f__law_varied_world : Fn := ⟨1, 2, b__law_varied_world⟩
def b__law_turned : IS := (.seq (.set 2 (.comp .val (.cons (.v 1) .nil) .nil (.n 5) [5] (.bl true) (.bin .add (.sl (.v 5) .nil (.cons (.int 2) .nil)) (.tup (.cons (.call "_law_chance" (.cons (.v 0) .nil)) .nil))))) (.seq (.ite (.and (.cmp .gt (.blt .len (.cons (.v 2) .nil)) (.int 0)) (.cmp .eq (.call "_law_take" (.cons (.v 0) (.cons (.int 3) .nil))) (.int 0))) (.seq (.set 3 (.call "_law_take" (.cons (.v 0) (.cons (.blt .len (.cons (.v 2) .nil)) .nil)))) (.seq (.set 4 (.bin .add (.bin .add (.int 1) (.bin .mul (.call "_law_take" (.cons (.v 0) (.cons (.int 1000) .nil))) (.int 1000))) (.call "_law_take" (.cons (.v 0) (.cons (.int 1000) .nil))))) (.put 2 (.v 3) (.bin .add (.sl (.ix (.v 2) (.v 3)) .nil (.cons (.int 2) .nil)) (.tup (.cons (.call "_law_share" (.cons (.v 4) (.cons (.bin .add (.bin .add (.v 4) (.bin .pow (.int 10) (.int 15))) (.call "_law_take" (.cons (.v 0) (.cons (.int 1000) .nil)))) .nil))) .nil)))))) .skip) (.ret (.blt .tuple (.cons (.v 2) .nil)))))
def f__law_turned : Fn := ⟨2, 6, b__law_turned⟩
def b_value_key : IS := (.seq (.ite (.isi [.tstr] (.v 0)) (.ret (.tup (.cons (.int 1) (.cons (.int 0) (.cons (.v 0) .nil))))) .skip) (.ret (.tup (.cons (.int 0) (.cons (.v 0) (.cons (.str "") .nil))))))
def f_value_key : Fn := ⟨1, 1, b_value_key⟩
def b_row_key : IS := (.ret (.blt .tuple (.cons (.comp .val (.cons (.v 0) .nil) .nil (.n 1) [1] (.bl true) (.call "value_key" (.cons (.v 1) .nil))) .nil)))
def f_row_key : Fn := ⟨1, 2, b_row_key⟩
def b_place_key : IS := (.ret (.tup (.cons (.ix (.v 0) (.int 0)) (.cons (.call "row_key" (.cons (.ix (.v 0) (.int 1)) .nil)) .nil))))
def f_place_key : Fn := ⟨1, 1, b_place_key⟩
def b_lot_key : IS := (.ret (.comp .val (.cons (.v 0) .nil) .nil (.n 1) [1] (.bl true) (.call "place_key" (.cons (.v 1) .nil))))
def f_lot_key : Fn := ⟨1, 2, b_lot_key⟩
def b_ordered_places : IS := (.seq (.set 1 (.lst .nil)) (.seq (.loop .val (.cons (.srtk "place_key" (.v 0)) .nil) .nil (.n 2) (.ite (.cmp .nin (.v 2) (.v 1)) (.ex (.app 1 (.v 2))) .skip)) (.ret (.blt .tuple (.cons (.v 1) .nil)))))
def f_ordered_places : Fn := ⟨1, 3, b_ordered_places⟩
def b_has_all : IS := (.ret (.blt .all (.cons (.comp .val (.cons (.v 1) .nil) .nil (.n 2) [2] (.bl true) (.cmp .isin (.v 2) (.v 0))) .nil)))
def f_has_all : Fn := ⟨2, 3, b_has_all⟩
def b_smallest_of : IS := (.seq (.set 1 (.lst .nil)) (.seq (.loop .val (.cons (.srtl (.v 0)) .nil) .nil (.n 2) (.ite (.not (.blt .any (.cons (.comp .val (.cons (.v 1) .nil) .nil (.n 3) [3] (.bl true) (.call "has_all" (.cons (.v 2) (.cons (.v 3) .nil)))) .nil))) (.ex (.app 1 (.v 2))) .skip)) (.ret (.srtk "lot_key" (.v 1)))))
def f_smallest_of : Fn := ⟨1, 4, b_smallest_of⟩
def b_bound : IS := (.seq (.set 3 (.blt .dict (.cons (.v 2) .nil))) (.seq (.loop .zip (.cons (.v 0) .nil) (.cons (.v 1) .nil) (.tp (.cs (.n 4) (.cs (.n 5) .nl))) (.ite (.cmp .eq (.ix (.v 4) (.int 0)) (.str "var")) (.ite (.cmp .ne (.sdef 3 (.ix (.v 4) (.int 1)) (.v 5)) (.v 5)) (.ret .non) .skip) (.ite (.cmp .ne (.ix (.v 4) (.int 1)) (.v 5)) (.ret .non) .skip))) (.ret (.v 3))))
def f_bound : Fn := ⟨3, 6, b_bound⟩
def b_bound_v1 : IS := (.seq (.ite (.and (.cmp .eq (.ix (.v 0) (.int 0)) (.str "var")) (.cmp .isin (.ix (.v 0) (.int 1)) (.v 1))) (.ret (.tup (.cons (.str "value") (.cons (.ix (.v 1) (.ix (.v 0) (.int 1))) .nil)))) .skip) (.ret (.v 0)))
def f_bound_v1 : Fn := ⟨2, 2, b_bound_v1⟩
def b_lots_of_join : IS := (.seq (.set 2 (.lst (.cons (.tup (.cons .nild (.cons (.tup .nil) .nil))) .nil))) (.seq (.loop .val (.cons (.ix (.v 1) (.int 1)) .nil) .nil (.tp (.cs (.n 3) (.cs (.n 4) .nl))) (.seq (.set 5 (.lst .nil)) (.seq (.loop .val (.cons (.v 2) .nil) .nil (.tp (.cs (.n 6) (.cs (.n 7) .nl))) (.loop .val (.cons (.v 0) .nil) .nil (.n 8) (.ite (.cmp .eq (.ix (.v 8) (.int 0)) (.v 3)) (.seq (.set 9 (.call "bound" (.cons (.v 4) (.cons (.ix (.v 8) (.int 1)) (.cons (.v 6) .nil))))) (.ite (.isnn (.v 9)) (.ex (.app 5 (.tup (.cons (.v 9) (.cons (.bin .add (.v 7) (.tup (.cons (.sl (.v 8) .nil (.cons (.int 2) .nil)) .nil))) .nil))))) .skip)) .skip))) (.set 2 (.v 5))))) (.ret (.comp .val (.cons (.v 2) .nil) .nil (.tp (.cs (.n 6) (.cs (.n 7) .nl))) [6, 7] (.bl true) (.call "ordered_places" (.cons (.v 7) .nil))))))
def f_lots_of_join : Fn := ⟨2, 10, b_lots_of_join⟩
def b_smallest_lots : IS := (.seq (.set 2 (.lst .nil)) (.seq (.loop .val (.cons (.ix (.v 1) (.int 1)) .nil) .nil (.n 3) (.ex (.ext 2 (.call "lots_of_join" (.cons (.v 0) (.cons (.v 3) .nil)))))) (.ret (.blt .tuple (.cons (.call "smallest_of" (.cons (.v 2) .nil)) .nil)))))
def f_smallest_lots : Fn := ⟨2, 4, b_smallest_lots⟩
def b__law_join : IS := (.seq (.set 3 (.lst .nil)) (.seq (.loop .rng (.cons (.ix (.lst (.cons (.int 1) (.cons (.int 2) (.cons (.int 2) (.cons (.int 3) (.cons (.int 1) (.cons (.int 2) (.cons (.int 0) (.cons (.int 2) .nil))))))))) (.call "_law_take" (.cons (.v 0) (.cons (.int 8) .nil)))) .nil) .nil (.n 4) (.ex (.app 3 (.call "_law_atom" (.cons (.v 0) (.cons (.v 1) (.cons (.call "_law_pick" (.cons (.v 0) (.cons (.ix (.v 1) (.int 0)) .nil))) .nil))))))) (.seq (.set 5 (.lst (.cons (.tup (.cons (.str "value") (.cons (.call "_law_value" (.cons (.v 0) (.cons (.ix (.v 1) (.int 2)) .nil))) .nil))) .nil))) (.seq (.loop .val (.cons (.v 3) .nil) .nil (.n 6) (.set 5 (.bin .add (.comp .val (.cons (.ix (.v 6) (.int 1)) .nil) .nil (.n 7) [7] (.cmp .eq (.ix (.v 7) (.int 0)) (.str "var")) (.v 7)) (.v 5)))) (.ret (.tup (.cons (.blt .tuple (.cons (.comp .rng (.cons (.v 2) .nil) .nil (.n 4) [4] (.bl true) (.call "_law_pick" (.cons (.v 0) (.cons (.v 5) .nil)))) .nil)) (.cons (.blt .tuple (.cons (.v 3) .nil)) .nil))))))))
def f__law_join : Fn := ⟨3, 8, b__law_join⟩
def b__law_question : IS := (.seq (.set 3 (.ix (.lst (.cons (.int 1) (.cons (.int 1) (.cons (.int 2) (.cons (.int 1) (.cons (.int 2) (.cons (.int 1) (.cons (.int 0) (.cons (.int 2) .nil))))))))) (.call "_law_take" (.cons (.v 0) (.cons (.int 8) .nil))))) (.ret (.tup (.cons (.v 2) (.cons (.blt .tuple (.cons (.comp .rng (.cons (.v 3) .nil) .nil (.n 4) [4] (.bl true) (.call "_law_join" (.cons (.v 0) (.cons (.v 1) (.cons (.v 2) .nil))))) .nil)) .nil)))))
def f__law_question : Fn := ⟨3, 5, b__law_question⟩
def b__law_valuations : IS := (.seq (.set 2 (.lst (.cons (.lst .nil) .nil))) (.seq (.loop .val (.cons (.ix (.v 1) (.int 1)) .nil) .nil (.n 3) (.seq (.set 4 (.lst .nil)) (.seq (.loop .val (.cons (.v 2) .nil) .nil (.n 5) (.loop .val (.cons (.v 0) .nil) .nil (.n 6) (.ite (.cmp .eq (.ix (.v 6) (.int 0)) (.ix (.v 3) (.int 0))) (.seq (.set 7 (.call "_law_grown" (.cons (.ix (.v 3) (.int 1)) (.cons (.ix (.v 6) (.int 1)) (.cons (.v 5) .nil))))) (.ite (.isnn (.v 7)) (.ex (.app 4 (.v 7))) .skip)) .skip))) (.set 2 (.v 4))))) (.ret (.v 2))))
def f__law_valuations : Fn := ⟨2, 8, b__law_valuations⟩
def b__law_ground : IS := (.seq (.set 2 (.blt .int (.cons (.cmp .gt (.blt .len (.cons (.v 1) .nil)) (.int 6)) .nil))) (.seq (.set 3 (.lst .nil)) (.seq (.loop .rng (.cons (.ix (.lst (.cons (.int 3) (.cons (.int 2) (.cons (.int 4) (.cons (.bin .sub (.int 5) (.v 2)) (.cons (.int 3) (.cons (.int 2) (.cons (.int 1) (.cons (.bin .sub (.int 6) (.bin .mul (.int 2) (.v 2))) .nil))))))))) (.call "_law_take" (.cons (.v 0) (.cons (.int 8) .nil)))) .nil) .nil (.n 4) (.seq (.set 5 (.lst .nil)) (.seq (.set 6 (.ix (.lst (.cons (.int 2) (.cons (.int 1) (.cons (.int 2) (.cons (.int 3) (.cons (.int 2) (.cons (.int 1) (.cons (.bin .sub (.int 4) (.v 2)) (.cons (.bin .sub (.int 6) (.bin .mul (.int 3) (.v 2))) .nil))))))))) (.call "_law_take" (.cons (.v 0) (.cons (.int 8) .nil))))) (.seq (.ite (.and (.cmp .eq (.v 2) (.int 1)) (.and (.cmp .eq (.v 4) (.int 0)) (.cmp .eq (.v 6) (.int 1)))) (.set 6 (.int 8)) .skip) (.seq (.loop .rng (.cons (.v 6) .nil) .nil (.n 7) (.seq (.set 8 (.call "_law_pick" (.cons (.v 0) (.cons (.v 1) .nil)))) (.ex (.app 5 (.tup (.cons (.ix (.v 8) (.int 0)) (.cons (.blt .tuple (.cons (.comp .val (.cons (.ix (.v 8) (.int 1)) .nil) .nil (.n 9) [9] (.bl true) (.tup (.cons (.str "value") (.cons (.v 9) .nil)))) .nil)) .nil))))))) (.ex (.app 3 (.tup (.cons (.tup .nil) (.cons (.blt .tuple (.cons (.v 5) .nil)) .nil)))))))))) (.ret (.tup (.cons (.int 0) (.cons (.blt .tuple (.cons (.v 3) .nil)) .nil)))))))
def f__law_ground : Fn := ⟨2, 10, b__law_ground⟩
def b__law_scene : IS := (.seq (.set 1 (.call "_law_varied_world" (.cons (.v 0) .nil))) (.seq (.set 2 (.call "_law_question" (.cons (.v 0) (.cons (.v 1) (.cons (.int 0) .nil))))) (.seq (.set 3 (.ix (.lst (.cons (.int 6) (.cons (.int 6) (.cons (.int 5) (.cons (.int 4) (.cons (.int 6) (.cons (.int 0) (.cons (.int 3) (.cons (.int 6) .nil))))))))) (.call "_law_take" (.cons (.v 0) (.cons (.int 8) .nil))))) (.seq (.set 4 (.call "_law_store" (.cons (.call "_law_dense" (.cons (.v 0) (.cons (.v 1) (.cons (.blt .list (.cons (.ix (.v 2) (.int 1)) .nil)) (.cons (.v 3) .nil))))) .nil))) (.seq (.ite (.and (.cmp .eq (.call "_law_take" (.cons (.v 0) (.cons (.int 2) .nil))) (.int 0)) (.cmp .gt (.blt .len (.cons (.v 4) .nil)) (.int 0))) (.seq (.set 5 (.sl (.ix (.v 2) (.int 1)) .nil (.cons (.call "_law_take" (.cons (.v 0) (.cons (.int 3) .nil))) .nil))) (.set 2 (.tup (.cons (.int 0) (.cons (.bin .add (.ix (.call "_law_ground" (.cons (.v 0) (.cons (.v 4) .nil))) (.int 1)) (.v 5)) .nil))))) .skip) (.ret (.lst (.cons (.v 4) (.cons (.v 2) (.cons (.v 1) .nil))))))))))
def f__law_scene : Fn := ⟨1, 6, b__law_scene⟩
def b__law_large_scene : IS := (.seq (.set 1 (.call "_law_scene" (.cons (.v 0) .nil))) (.seq (.ite (.cmp .eq (.call "_law_take" (.cons (.v 0) (.cons (.int 4) .nil))) (.int 1)) (.seq (.set 2 (.call "_law_store" (.cons (.bin .add (.call "_law_dense" (.cons (.v 0) (.cons (.ix (.v 1) (.int 2)) (.cons (.blt .list (.cons (.ix (.ix (.v 1) (.int 1)) (.int 1)) .nil)) (.cons (.int 14) .nil))))) (.blt .list (.cons (.ix (.v 1) (.int 0)) .nil))) .nil))) (.ite (.cmp .gt (.blt .len (.cons (.v 2) .nil)) (.int 0)) (.ret (.lst (.cons (.v 2) (.cons (.call "_law_ground" (.cons (.v 0) (.cons (.v 2) .nil))) (.cons (.ix (.v 1) (.int 2)) .nil))))) .skip)) .skip) (.ret (.v 1))))
def f__law_large_scene : Fn := ⟨1, 3, b__law_large_scene⟩
def b__law_within : IS := (.ret (.cmp .nin (.bl false) (.comp .val (.cons (.v 0) .nil) .nil (.n 2) [2] (.bl true) (.cmp .isin (.v 2) (.v 1)))))
def f__law_within : Fn := ⟨2, 3, b__law_within⟩
def b__law_lot_key : IS := (.ret (.comp .val (.cons (.v 0) .nil) .nil (.n 1) [1] (.bl true) (.call "_law_place_key" (.cons (.v 1) .nil))))
def f__law_lot_key : Fn := ⟨1, 2, b__law_lot_key⟩
def b__law_least : IS := (.seq (.set 1 (.lst .nil)) (.seq (.loop .val (.cons (.v 0) .nil) .nil (.n 2) (.ite (.cmp .nin (.v 2) (.v 1)) (.ex (.app 1 (.v 2))) .skip)) (.seq (.set 3 (.lst .nil)) (.seq (.loop .val (.cons (.v 1) .nil) .nil (.n 2) (.ite (.cmp .nin (.bl true) (.comp .val (.cons (.v 1) .nil) .nil (.n 4) [4] (.bl true) (.and (.call "_law_within" (.cons (.v 4) (.cons (.v 2) .nil))) (.cmp .ne (.v 4) (.v 2))))) (.ex (.app 3 (.v 2))) .skip)) (.ret (.srtk "_law_lot_key" (.v 3)))))))
def f__law_least : Fn := ⟨1, 5, b__law_least⟩
def b__law_lots : IS := (.seq (.set 2 (.comp .val (.cons (.v 0) .nil) .nil (.n 9) [9] (.bl true) (.sl (.v 9) .nil (.cons (.int 2) .nil)))) (.seq (.set 3 (.lst .nil)) (.seq (.loop .val (.cons (.ix (.v 1) (.int 1)) .nil) .nil (.n 4) (.loop .val (.cons (.call "_law_valuations" (.cons (.v 2) (.cons (.v 4) .nil))) .nil) .nil (.n 5) (.seq (.set 6 (.lst .nil)) (.seq (.loop .val (.cons (.ix (.v 4) (.int 1)) .nil) .nil (.n 7) (.seq (.set 8 (.tup (.cons (.ix (.v 7) (.int 0)) (.cons (.blt .tuple (.cons (.comp .val (.cons (.ix (.v 7) (.int 1)) .nil) .nil (.n 10) [10] (.bl true) (.ix (.call "_law_put" (.cons (.v 10) (.cons (.v 5) .nil))) (.int 1))) .nil)) .nil)))) (.ite (.cmp .nin (.v 8) (.v 6)) (.ex (.app 6 (.v 8))) .skip))) (.seq (.set 6 (.blt .tuple (.cons (.srtk "_law_place_key" (.v 6)) .nil))) (.ite (.cmp .nin (.v 6) (.v 3)) (.ex (.app 3 (.v 6))) .skip)))))) (.ret (.call "_law_least" (.cons (.v 3) .nil))))))
def f__law_lots : Fn := ⟨2, 11, b__law_lots⟩
def b_law_k73 : IS := (.seq (.set 1 (.call "_law_draws" (.cons (.v 0) (.cons (.int 420) .nil)))) (.seq (.set 2 (.lst (.cons (.call "_law_large_scene" (.cons (.v 1) .nil)) (.cons (.call "_law_large_scene" (.cons (.v 1) .nil)) .nil)))) (.seq (.loop .val (.cons (.lst (.cons (.int 0) (.cons (.int 1) (.cons (.int 0) .nil)))) .nil) .nil (.n 3) (.seq (.set 4 (.blt .tuple (.cons (.call "_law_lots" (.cons (.ix (.ix (.v 2) (.v 3)) (.int 0)) (.cons (.ix (.ix (.v 2) (.v 3)) (.int 1)) .nil))) .nil))) (.ite (.not (.call "_law_same" (.cons (.call "smallest_lots" (.cons (.ix (.ix (.v 2) (.v 3)) (.int 0)) (.cons (.ix (.ix (.v 2) (.v 3)) (.int 1)) .nil))) (.cons (.v 4) .nil)))) (.ret (.bl false)) .skip))) (.ret (.bl true)))))
def f_law_k73 : Fn := ⟨1, 5, b_law_k73⟩
def b__law_full_scene : IS := (.seq (.set 1 (.call "_law_scene" (.cons (.v 0) .nil))) (.seq (.ite (.cmp .eq (.blt .len (.cons (.ix (.v 1) (.int 0)) .nil)) (.int 0)) (.seq (.set 2 (.ix (.ix (.ix (.v 1) (.int 2)) (.int 0)) (.int 0))) (.seq (.set 3 (.blt .tuple (.cons (.comp .rng (.cons (.ix (.v 2) (.int 1)) .nil) .nil (.n 4) [4] (.bl true) (.call "_law_value" (.cons (.v 0) (.cons (.ix (.ix (.v 1) (.int 2)) (.int 2)) .nil)))) .nil))) (.put 1 (.int 0) (.tup (.cons (.tup (.cons (.ix (.v 2) (.int 0)) (.cons (.v 3) (.cons (.call "_law_chance" (.cons (.v 0) .nil)) .nil)))) .nil))))) .skip) (.ret (.v 1))))
def f__law_full_scene : Fn := ⟨1, 5, b__law_full_scene⟩
def b__law_without : IS := (.ret (.blt .tuple (.cons (.comp .val (.cons (.v 0) .nil) .nil (.n 2) [2] (.cmp .ne (.sl (.v 2) .nil (.cons (.int 2) .nil)) (.v 1)) (.v 2)) .nil)))
def f__law_without : Fn := ⟨2, 3, b__law_without⟩
def b__law_missing : IS := (.ret (.comp .val (.cons (.v 0) .nil) .nil (.n 2) [2] (.cmp .nin (.v 1) (.v 2)) (.v 2)))
def f__law_missing : Fn := ⟨2, 3, b__law_missing⟩
def b_law_k74 : IS := (.seq (.set 1 (.call "_law_draws" (.cons (.v 0) (.cons (.int 220) .nil)))) (.seq (.set 2 (.call "_law_full_scene" (.cons (.v 1) .nil))) (.seq (.set 3 (.call "_law_lots" (.cons (.ix (.v 2) (.int 0)) (.cons (.ix (.v 2) (.int 1)) .nil)))) (.seq (.ite (.not (.call "_law_same" (.cons (.call "smallest_lots" (.cons (.call "_law_turned" (.cons (.v 1) (.cons (.ix (.v 2) (.int 0)) .nil))) (.cons (.ix (.v 2) (.int 1)) .nil))) (.cons (.blt .tuple (.cons (.v 3) .nil)) .nil)))) (.ret (.bl false)) .skip) (.seq (.loop .val (.cons (.ix (.v 2) (.int 0)) .nil) .nil (.n 4) (.seq (.set 5 (.blt .tuple (.cons (.call "_law_missing" (.cons (.v 3) (.cons (.sl (.v 4) .nil (.cons (.int 2) .nil)) .nil))) .nil))) (.ite (.not (.call "_law_same" (.cons (.call "smallest_lots" (.cons (.call "_law_without" (.cons (.ix (.v 2) (.int 0)) (.cons (.sl (.v 4) .nil (.cons (.int 2) .nil)) .nil))) (.cons (.ix (.v 2) (.int 1)) .nil))) (.cons (.v 5) .nil)))) (.ret (.bl false)) .skip))) (.ret (.bl true)))))))
def f_law_k74 : Fn := ⟨1, 6, b_law_k74⟩
def b_extended : IS := (.seq (.set 3 (.blt .dict (.cons (.v 0) .nil))) (.seq (.loop .zip (.cons (.v 1) .nil) (.cons (.v 2) .nil) (.tp (.cs (.n 4) (.cs (.n 5) .nl))) (.ite (.cmp .eq (.ix (.v 4) (.int 0)) (.str "value")) (.ite (.cmp .ne (.ix (.v 4) (.int 1)) (.v 5)) (.ret .non) .skip) (.ite (.cmp .ne (.sdef 3 (.ix (.v 4) (.int 1)) (.v 5)) (.v 5)) (.ret .non) .skip))) (.ret (.v 3))))
def f_extended : Fn := ⟨3, 6, b_extended⟩
def b_matches : IS := (.seq (.set 3 (.lst .nil)) (.seq (.loop .val (.cons (.v 2) .nil) .nil (.tp (.cs (.n 4) (.cs (.n 5) .nl))) (.ite (.cmp .eq (.v 4) (.ix (.v 1) (.int 0))) (.seq (.set 6 (.call "extended" (.cons (.v 0) (.cons (.ix (.v 1) (.int 1)) (.cons (.v 5) .nil))))) (.ite (.isnn (.v 6)) (.ex (.app 3 (.v 6))) .skip)) .skip)) (.ret (.v 3))))
def f_matches : Fn := ⟨3, 7, b_matches⟩
def b_holds : IS := (.ret (.cmp .gt (.blt .len (.cons (.call "answers" (.cons (.v 0) (.cons (.v 1) .nil))) .nil)) (.int 0)))
def f_holds : Fn := ⟨2, 2, b_holds⟩
def b__law_answers : IS := (.seq (.set 2 (.lst .nil)) (.seq (.loop .val (.cons (.ix (.v 1) (.int 1)) .nil) .nil (.n 3) (.loop .val (.cons (.call "_law_valuations" (.cons (.v 0) (.cons (.v 3) .nil))) .nil) .nil (.n 4) (.ex (.app 2 (.blt .tuple (.cons (.comp .val (.cons (.ix (.v 3) (.int 0)) .nil) .nil (.n 5) [5] (.bl true) (.ix (.call "_law_put" (.cons (.v 5) (.cons (.v 4) .nil))) (.int 1))) .nil)))))) (.ret (.call "_law_sorted" (.cons (.v 2) .nil)))))
def f__law_answers : Fn := ⟨2, 6, b__law_answers⟩
def b__law_worlds : IS := (.seq (.set 1 (.lst (.cons (.tup (.cons (.tup .nil) (.cons (.tup (.cons (.int 1) (.cons (.int 1) .nil))) .nil))) .nil))) (.seq (.loop .val (.cons (.v 0) .nil) .nil (.n 2) (.seq (.set 3 (.lst .nil)) (.seq (.loop .val (.cons (.v 1) .nil) .nil (.n 4) (.seq (.ex (.app 3 (.tup (.cons (.ix (.v 4) (.int 0)) (.cons (.call "_law_times" (.cons (.ix (.v 4) (.int 1)) (.cons (.call "_law_rest" (.cons (.ix (.v 2) (.int 2)) .nil)) .nil))) .nil))))) (.ex (.app 3 (.tup (.cons (.bin .add (.ix (.v 4) (.int 0)) (.tup (.cons (.sl (.v 2) .nil (.cons (.int 2) .nil)) .nil))) (.cons (.call "_law_times" (.cons (.ix (.v 4) (.int 1)) (.cons (.ix (.v 2) (.int 2)) .nil))) .nil))))))) (.set 1 (.v 3))))) (.ret (.v 1))))
def f__law_worlds : Fn := ⟨1, 5, b__law_worlds⟩
def b__law_are_lots : IS := (.seq (.ite (.not (.isi [.ttup] (.v 0))) (.ret (.bl false)) .skip) (.seq (.loop .rng (.cons (.blt .len (.cons (.v 0) .nil)) .nil) .nil (.n 2) (.seq (.ite (.not (.isi [.ttup] (.ix (.v 0) (.v 2)))) (.ret (.bl false)) .skip) (.seq (.loop .val (.cons (.ix (.v 0) (.v 2)) .nil) .nil (.n 3) (.ite (.cmp .nin (.bl true) (.comp .val (.cons (.v 1) .nil) .nil (.n 5) [5] (.bl true) (.call "_law_same" (.cons (.v 3) (.cons (.v 5) .nil))))) (.ret (.bl false)) .skip)) (.loop .rng (.cons (.v 2) .nil) .nil (.n 4) (.ite (.or (.call "_law_within" (.cons (.ix (.v 0) (.v 4)) (.cons (.ix (.v 0) (.v 2)) .nil))) (.call "_law_within" (.cons (.ix (.v 0) (.v 2)) (.cons (.ix (.v 0) (.v 4)) .nil)))) (.ret (.bl false)) .skip))))) (.ret (.bl true))))
def f__law_are_lots : Fn := ⟨2, 6, b__law_are_lots⟩
def b_law_k75 : IS := (.seq (.set 1 (.call "_law_draws" (.cons (.v 0) (.cons (.int 220) .nil)))) (.seq (.set 2 (.call "_law_scene" (.cons (.v 1) .nil))) (.seq (.set 3 (.call "smallest_lots" (.cons (.ix (.v 2) (.int 0)) (.cons (.ix (.v 2) (.int 1)) .nil)))) (.seq (.ite (.not (.call "_law_are_lots" (.cons (.v 3) (.cons (.comp .val (.cons (.ix (.v 2) (.int 0)) .nil) .nil (.n 6) [6] (.bl true) (.sl (.v 6) .nil (.cons (.int 2) .nil))) .nil)))) (.ret (.bl false)) .skip) (.seq (.loop .val (.cons (.call "_law_worlds" (.cons (.ix (.v 2) (.int 0)) .nil)) .nil) .nil (.n 4) (.seq (.set 5 (.cmp .gt (.blt .len (.cons (.call "_law_answers" (.cons (.ix (.v 4) (.int 0)) (.cons (.ix (.v 2) (.int 1)) .nil))) .nil)) (.int 0))) (.seq (.ite (.cmp .ne (.cmp .isin (.bl true) (.comp .val (.cons (.v 3) .nil) .nil (.n 7) [7] (.bl true) (.call "_law_within" (.cons (.v 7) (.cons (.ix (.v 4) (.int 0)) .nil))))) (.v 5)) (.ret (.bl false)) .skip) (.ite (.not (.call "_law_same" (.cons (.call "holds" (.cons (.ix (.v 4) (.int 0)) (.cons (.ix (.v 2) (.int 1)) .nil))) (.cons (.v 5) .nil)))) (.ret (.bl false)) .skip)))) (.ret (.bl true)))))))
def f_law_k75 : Fn := ⟨1, 8, b_law_k75⟩
def b_plus : IS := (.ret (.call "make_share" (.cons (.bin .add (.bin .mul (.ix (.v 0) (.int 0)) (.ix (.v 1) (.int 1))) (.bin .mul (.ix (.v 1) (.int 0)) (.ix (.v 0) (.int 1)))) (.cons (.bin .mul (.ix (.v 0) (.int 1)) (.ix (.v 1) (.int 1))) .nil))))
def f_plus : Fn := ⟨2, 2, b_plus⟩
def b_any_of : IS := (.ret (.call "rest_of" (.cons (.call "product_of" (.cons (.comp .val (.cons (.v 0) .nil) .nil (.n 1) [1] (.bl true) (.call "rest_of" (.cons (.v 1) .nil))) .nil)) .nil)))
def f_any_of : Fn := ⟨1, 2, b_any_of⟩
def b_chance_at : IS := (.seq (.loop .val (.cons (.v 0) .nil) .nil (.n 3) (.ite (.and (.cmp .eq (.ix (.v 3) (.int 0)) (.v 1)) (.cmp .eq (.ix (.v 3) (.int 1)) (.v 2))) (.ret (.ix (.v 3) (.int 2))) .skip)) (.ret (.tup (.cons (.int 0) (.cons (.int 1) .nil)))))
def f_chance_at : Fn := ⟨3, 4, b_chance_at⟩
def b_number_of_circuit : IS := (.seq (.ite (.cmp .eq (.ix (.v 1) (.int 0)) (.str "yes")) (.ret (.tup (.cons (.int 1) (.cons (.int 1) .nil)))) .skip) (.seq (.ite (.cmp .eq (.ix (.v 1) (.int 0)) (.str "no")) (.ret (.tup (.cons (.int 0) (.cons (.int 1) .nil)))) .skip) (.seq (.ite (.cmp .eq (.ix (.v 1) (.int 0)) (.str "fact")) (.ret (.call "chance_at" (.cons (.v 0) (.cons (.ix (.v 1) (.int 1)) (.cons (.ix (.v 1) (.int 2)) .nil))))) .skip) (.seq (.ite (.cmp .eq (.ix (.v 1) (.int 0)) (.str "any")) (.ret (.call "any_of" (.cons (.comp .val (.cons (.ix (.v 1) (.int 1)) .nil) .nil (.n 5) [5] (.bl true) (.call "number_of_circuit" (.cons (.v 0) (.cons (.v 5) .nil)))) .nil))) .skip) (.seq (.ite (.cmp .eq (.ix (.v 1) (.int 0)) (.str "both")) (.ret (.call "product_of" (.cons (.comp .val (.cons (.ix (.v 1) (.int 1)) .nil) .nil (.n 5) [5] (.bl true) (.call "number_of_circuit" (.cons (.v 0) (.cons (.v 5) .nil)))) .nil))) .skip) (.seq (.set 2 (.call "chance_at" (.cons (.v 0) (.cons (.ix (.v 1) (.int 1)) (.cons (.ix (.v 1) (.int 2)) .nil))))) (.seq (.set 3 (.call "times" (.cons (.v 2) (.cons (.call "number_of_circuit" (.cons (.v 0) (.cons (.ix (.v 1) (.int 3)) .nil))) .nil)))) (.seq (.set 4 (.call "times" (.cons (.call "rest_of" (.cons (.v 2) .nil)) (.cons (.call "number_of_circuit" (.cons (.v 0) (.cons (.ix (.v 1) (.int 4)) .nil))) .nil)))) (.ret (.call "plus" (.cons (.v 3) (.cons (.v 4) .nil))))))))))))
def f_number_of_circuit : Fn := ⟨2, 6, b_number_of_circuit⟩
def b__law_plus : IS := (.ret (.call "_law_share" (.cons (.bin .add (.bin .mul (.ix (.v 0) (.int 0)) (.ix (.v 1) (.int 1))) (.bin .mul (.ix (.v 1) (.int 0)) (.ix (.v 0) (.int 1)))) (.cons (.bin .mul (.ix (.v 0) (.int 1)) (.ix (.v 1) (.int 1))) .nil))))
def f__law_plus : Fn := ⟨2, 2, b__law_plus⟩
def b__law_at : IS := (.seq (.loop .val (.cons (.v 0) .nil) .nil (.n 3) (.ite (.cmp .eq (.sl (.v 3) .nil (.cons (.int 2) .nil)) (.tup (.cons (.v 1) (.cons (.v 2) .nil)))) (.ret (.ix (.v 3) (.int 2))) .skip)) (.ret (.tup (.cons (.int 0) (.cons (.int 1) .nil)))))
def f__law_at : Fn := ⟨3, 4, b__law_at⟩
def b__law_worth : IS := (.seq (.ite (.cmp .eq (.ix (.v 1) (.int 0)) (.str "yes")) (.ret (.tup (.cons (.int 1) (.cons (.int 1) .nil)))) .skip) (.seq (.ite (.cmp .eq (.ix (.v 1) (.int 0)) (.str "no")) (.ret (.tup (.cons (.int 0) (.cons (.int 1) .nil)))) .skip) (.seq (.ite (.cmp .eq (.ix (.v 1) (.int 0)) (.str "any")) (.ret (.call "_law_any" (.cons (.comp .val (.cons (.ix (.v 1) (.int 1)) .nil) .nil (.n 3) [3] (.bl true) (.call "_law_worth" (.cons (.v 0) (.cons (.v 3) .nil)))) .nil))) .skip) (.seq (.set 2 (.tup (.cons (.int 1) (.cons (.int 1) .nil)))) (.seq (.ite (.cmp .eq (.ix (.v 1) (.int 0)) (.str "both")) (.seq (.loop .val (.cons (.ix (.v 1) (.int 1)) .nil) .nil (.n 3) (.set 2 (.call "_law_times" (.cons (.v 2) (.cons (.call "_law_worth" (.cons (.v 0) (.cons (.v 3) .nil))) .nil))))) (.ret (.v 2))) .skip) (.seq (.set 2 (.call "_law_at" (.cons (.v 0) (.cons (.ix (.v 1) (.int 1)) (.cons (.ix (.v 1) (.int 2)) .nil))))) (.seq (.ite (.cmp .eq (.ix (.v 1) (.int 0)) (.str "fact")) (.ret (.v 2)) .skip) (.seq (.set 4 (.call "_law_times" (.cons (.v 2) (.cons (.call "_law_worth" (.cons (.v 0) (.cons (.ix (.v 1) (.int 3)) .nil))) .nil)))) (.ret (.call "_law_plus" (.cons (.v 4) (.cons (.call "_law_times" (.cons (.call "_law_rest" (.cons (.v 2) .nil)) (.cons (.call "_law_worth" (.cons (.v 0) (.cons (.ix (.v 1) (.int 4)) .nil))) .nil))) .nil))))))))))))
def f__law_worth : Fn := ⟨2, 5, b__law_worth⟩
def b__law_drawn : IS := (.seq (.set 3 (.call "_law_take" (.cons (.v 0) (.cons (.int 6) .nil)))) (.seq (.set 4 (.call "_law_pick" (.cons (.v 0) (.cons (.v 1) .nil)))) (.seq (.ite (.and (.cmp .eq (.v 2) (.int 0)) (.cmp .gt (.v 3) (.int 1))) (.ret (.bin .add (.tup (.cons (.str "fact") .nil)) (.v 4))) .skip) (.seq (.ite (.cmp .eq (.v 3) (.int 0)) (.ret (.tup (.cons (.str "yes") .nil))) .skip) (.seq (.ite (.cmp .eq (.v 3) (.int 1)) (.ret (.tup (.cons (.str "no") .nil))) .skip) (.seq (.ite (.cmp .eq (.v 3) (.int 2)) (.ret (.bin .add (.tup (.cons (.str "fact") .nil)) (.v 4))) .skip) (.seq (.ite (.cmp .eq (.v 3) (.int 3)) (.seq (.set 5 (.call "_law_drawn" (.cons (.v 0) (.cons (.v 1) (.cons (.bin .sub (.v 2) (.int 1)) .nil))))) (.ret (.bin .add (.bin .add (.tup (.cons (.str "case") .nil)) (.v 4)) (.tup (.cons (.v 5) (.cons (.call "_law_drawn" (.cons (.v 0) (.cons (.v 1) (.cons (.bin .sub (.v 2) (.int 1)) .nil)))) .nil)))))) .skip) (.seq (.set 6 (.comp .rng (.cons (.ix (.lst (.cons (.int 2) (.cons (.int 3) .nil))) (.call "_law_take" (.cons (.v 0) (.cons (.int 2) .nil)))) .nil) .nil (.n 7) [7] (.bl true) (.call "_law_drawn" (.cons (.v 0) (.cons (.v 1) (.cons (.bin .sub (.v 2) (.int 1)) .nil)))))) (.ret (.tup (.cons (.ix (.lst (.cons (.str "any") (.cons (.str "both") .nil))) (.bin .sub (.v 3) (.int 4))) (.cons (.blt .tuple (.cons (.v 6) .nil)) .nil))))))))))))
def f__law_drawn : Fn := ⟨3, 8, b__law_drawn⟩
def b_law_k79 : IS := (.seq (.set 1 (.call "_law_draws" (.cons (.v 0) (.cons (.int 260) .nil)))) (.seq (.set 2 (.call "_law_full_scene" (.cons (.v 1) .nil))) (.seq (.set 3 (.comp .val (.cons (.ix (.v 2) (.int 0)) .nil) .nil (.n 9) [9] (.bl true) (.sl (.v 9) .nil (.cons (.int 2) .nil)))) (.seq (.set 4 (.call "_law_without" (.cons (.ix (.v 2) (.int 0)) (.cons (.call "_law_pick" (.cons (.v 1) (.cons (.v 3) .nil))) .nil)))) (.seq (.set 5 (.lst (.cons (.v 4) (.cons (.call "_law_turned" (.cons (.v 1) (.cons (.v 4) .nil))) (.cons (.ix (.v 2) (.int 0)) .nil))))) (.seq (.set 6 (.lst (.cons (.call "_law_drawn" (.cons (.v 1) (.cons (.v 3) (.cons (.int 2) .nil)))) (.cons (.tup (.cons (.str "any") (.cons (.tup (.cons (.tup (.cons (.str "no") .nil)) (.cons (.call "_law_drawn" (.cons (.v 1) (.cons (.v 3) (.cons (.int 2) .nil)))) .nil))) .nil))) .nil)))) (.seq (.ex (.app 6 (.tup (.cons (.str "both") (.cons (.tup (.cons (.tup (.cons (.str "yes") .nil)) (.cons (.call "_law_drawn" (.cons (.v 1) (.cons (.v 3) (.cons (.int 2) .nil)))) .nil))) .nil))))) (.seq (.loop .val (.cons (.lst (.cons (.int 0) (.cons (.int 1) (.cons (.int 2) (.cons (.int 3) (.cons (.int 4) (.cons (.int 5) .nil))))))) .nil) .nil (.n 7) (.seq (.set 8 (.call "_law_worth" (.cons (.ix (.v 5) (.bin .fdiv (.v 7) (.int 2))) (.cons (.ix (.v 6) (.bin .md (.blt .int (.cons (.v 7) .nil)) (.int 3))) .nil)))) (.ite (.not (.call "_law_same" (.cons (.call "number_of_circuit" (.cons (.ix (.v 5) (.bin .fdiv (.v 7) (.int 2))) (.cons (.ix (.v 6) (.bin .md (.blt .int (.cons (.v 7) .nil)) (.int 3))) .nil))) (.cons (.v 8) .nil)))) (.ret (.bl false)) .skip))) (.ret (.bl true))))))))))
def f_law_k79 : Fn := ⟨1, 10, b_law_k79⟩
def b_parts_of : IS := (.seq (.set 2 (.lst .nil)) (.seq (.loop .val (.cons (.v 0) .nil) .nil (.n 3) (.seq (.set 4 (.blt .tuple (.cons (.comp .val (.cons (.v 3) .nil) .nil (.n 5) [5] (.cmp .isin (.v 5) (.v 1)) (.v 5)) .nil))) (.ite (.cmp .nin (.v 4) (.v 2)) (.ex (.app 2 (.v 4))) .skip))) (.ret (.v 2))))
def f_parts_of : Fn := ⟨2, 6, b_parts_of⟩
def b_lots_if_there : IS := (.ret (.call "smallest_of" (.cons (.comp .val (.cons (.v 0) .nil) .nil (.n 2) [2] (.bl true) (.blt .tuple (.cons (.comp .val (.cons (.v 2) .nil) .nil (.n 3) [3] (.cmp .ne (.v 3) (.v 1)) (.v 3)) .nil))) .nil)))
def f_lots_if_there : Fn := ⟨2, 4, b_lots_if_there⟩
def b_lots_if_missing : IS := (.ret (.comp .val (.cons (.v 0) .nil) .nil (.n 2) [2] (.cmp .nin (.v 1) (.v 2)) (.v 2)))
def f_lots_if_missing : Fn := ⟨2, 3, b_lots_if_missing⟩
def b_places_in : IS := (.seq (.set 1 (.lst .nil)) (.seq (.loop .val (.cons (.v 0) .nil) .nil (.n 2) (.ex (.ext 1 (.v 2)))) (.ret (.call "ordered_places" (.cons (.v 1) .nil)))))
def f_places_in : Fn := ⟨1, 3, b_places_in⟩
def b_groups_of : IS := (.seq (.set 1 (.lst .nil)) (.seq (.loop .val (.cons (.v 0) .nil) .nil (.n 2) (.seq (.set 3 (.lst (.cons (.v 2) .nil))) (.seq (.set 4 (.lst .nil)) (.seq (.loop .val (.cons (.v 1) .nil) .nil (.n 5) (.ite (.blt .any (.cons (.comp .val (.cons (.call "places_in" (.cons (.v 5) .nil)) .nil) .nil (.n 6) [6] (.bl true) (.cmp .isin (.v 6) (.v 2))) .nil)) (.set 3 (.bin .add (.v 5) (.v 3))) (.ex (.app 4 (.v 5))))) (.set 1 (.bin .add (.v 4) (.lst (.cons (.v 3) .nil)))))))) (.ret (.v 1))))
def f_groups_of : Fn := ⟨1, 7, b_groups_of⟩
def b_stand_together : IS := (.ret (.blt .any (.cons (.comp .val (.cons (.v 0) .nil) .nil (.n 3) [3] (.bl true) (.and (.cmp .isin (.v 1) (.v 3)) (.cmp .isin (.v 2) (.v 3)))) .nil)))
def f_stand_together : Fn := ⟨3, 4, b_stand_together⟩
def b_factors_of : IS := (.seq (.set 1 (.lst .nil)) (.seq (.loop .val (.cons (.call "places_in" (.cons (.v 0) .nil)) .nil) .nil (.n 2) (.seq (.set 3 (.lst (.cons (.v 2) .nil))) (.seq (.set 4 (.lst .nil)) (.seq (.loop .val (.cons (.v 1) .nil) .nil (.n 5) (.ite (.blt .all (.cons (.comp .val (.cons (.v 5) .nil) .nil (.n 9) [9] (.bl true) (.call "stand_together" (.cons (.v 0) (.cons (.v 2) (.cons (.v 9) .nil))))) .nil)) (.ex (.app 4 (.v 5))) (.set 3 (.bin .add (.v 5) (.v 3))))) (.set 1 (.bin .add (.v 4) (.lst (.cons (.v 3) .nil)))))))) (.seq (.set 6 (.comp .val (.cons (.v 1) .nil) .nil (.n 3) [3] (.bl true) (.call "parts_of" (.cons (.v 0) (.cons (.v 3) .nil))))) (.seq (.set 7 (.int 1)) (.seq (.loop .val (.cons (.v 6) .nil) .nil (.n 8) (.set 7 (.bin .mul (.v 7) (.blt .len (.cons (.v 8) .nil))))) (.seq (.ite (.cmp .eq (.v 7) (.blt .len (.cons (.v 0) .nil))) (.ret (.v 6)) .skip) (.ret (.lst (.cons (.v 0) .nil)))))))))
def f_factors_of : Fn := ⟨1, 10, b_factors_of⟩
def b_commonest_place : IS := (.seq (.set 1 .non) (.seq (.set 2 (.int 0)) (.seq (.loop .val (.cons (.call "places_in" (.cons (.v 0) .nil)) .nil) .nil (.n 3) (.seq (.set 4 (.blt .len (.cons (.comp .val (.cons (.v 0) .nil) .nil (.n 5) [5] (.cmp .isin (.v 3) (.v 5)) (.v 5)) .nil))) (.ite (.cmp .gt (.v 4) (.v 2)) (.seq (.set 1 (.v 3)) (.set 2 (.v 4))) .skip))) (.ret (.v 1)))))
def f_commonest_place : Fn := ⟨1, 6, b_commonest_place⟩
def b_circuit_of_lots : IS := (.seq (.ite (.cmp .eq (.blt .len (.cons (.v 0) .nil)) (.int 0)) (.ret (.tup (.cons (.str "no") .nil))) .skip) (.seq (.ite (.cmp .isin (.tup .nil) (.v 0)) (.ret (.tup (.cons (.str "yes") .nil))) .skip) (.seq (.ite (.and (.cmp .eq (.blt .len (.cons (.v 0) .nil)) (.int 1)) (.cmp .eq (.blt .len (.cons (.ix (.v 0) (.int 0)) .nil)) (.int 1))) (.ret (.bin .add (.tup (.cons (.str "fact") .nil)) (.ix (.ix (.v 0) (.int 0)) (.int 0)))) .skip) (.seq (.set 1 (.call "groups_of" (.cons (.v 0) .nil))) (.seq (.ite (.cmp .gt (.blt .len (.cons (.v 1) .nil)) (.int 1)) (.ret (.tup (.cons (.str "any") (.cons (.blt .tuple (.cons (.comp .val (.cons (.v 1) .nil) .nil (.n 7) [7] (.bl true) (.call "circuit_of_lots" (.cons (.v 7) .nil))) .nil)) .nil)))) .skip) (.seq (.set 2 (.call "factors_of" (.cons (.v 0) .nil))) (.seq (.ite (.cmp .gt (.blt .len (.cons (.v 2) .nil)) (.int 1)) (.ret (.tup (.cons (.str "both") (.cons (.blt .tuple (.cons (.comp .val (.cons (.v 2) .nil) .nil (.n 6) [6] (.bl true) (.call "circuit_of_lots" (.cons (.v 6) .nil))) .nil)) .nil)))) .skip) (.seq (.set 3 (.call "commonest_place" (.cons (.v 0) .nil))) (.seq (.set 4 (.call "circuit_of_lots" (.cons (.call "lots_if_there" (.cons (.v 0) (.cons (.v 3) .nil))) .nil))) (.seq (.set 5 (.call "circuit_of_lots" (.cons (.call "lots_if_missing" (.cons (.v 0) (.cons (.v 3) .nil))) .nil))) (.ret (.tup (.cons (.str "case") (.cons (.ix (.v 3) (.int 0)) (.cons (.ix (.v 3) (.int 1)) (.cons (.v 4) (.cons (.v 5) .nil)))))))))))))))))
def f_circuit_of_lots : Fn := ⟨1, 8, b_circuit_of_lots⟩
def b_make_circuit : IS := (.ret (.call "circuit_of_lots" (.cons (.blt .list (.cons (.call "smallest_lots" (.cons (.v 0) (.cons (.v 1) .nil))) .nil)) .nil)))
def f_make_circuit : Fn := ⟨2, 2, b_make_circuit⟩
def b__law_parts : IS := (.seq (.set 2 (.lst .nil)) (.seq (.loop .val (.cons (.v 0) .nil) .nil (.n 3) (.seq (.set 4 (.blt .tuple (.cons (.comp .val (.cons (.v 3) .nil) .nil (.n 5) [5] (.cmp .isin (.v 5) (.v 1)) (.v 5)) .nil))) (.ite (.cmp .nin (.v 4) (.v 2)) (.ex (.app 2 (.v 4))) .skip))) (.ret (.v 2))))
def f__law_parts : Fn := ⟨2, 6, b__law_parts⟩
def b__law_there : IS := (.ret (.call "_law_least" (.cons (.comp .val (.cons (.v 0) .nil) .nil (.n 2) [2] (.bl true) (.blt .tuple (.cons (.comp .val (.cons (.v 2) .nil) .nil (.n 3) [3] (.cmp .ne (.v 3) (.v 1)) (.v 3)) .nil))) .nil)))
def f__law_there : Fn := ⟨2, 4, b__law_there⟩
def b__law_is_plain_place : IS := (.seq (.ite (.or (.not (.isi [.tstr] (.v 0))) (.not (.isi [.ttup] (.v 1)))) (.ret (.bl false)) .skip) (.ret (.cmp .nin (.bl false) (.comp .val (.cons (.v 1) .nil) .nil (.n 2) [2] (.bl true) (.and (.isi [.tint, .tstr] (.v 2)) (.not (.isi [.tbool] (.v 2))))))))
def f__law_is_plain_place : Fn := ⟨2, 3, b__law_is_plain_place⟩
def b__law_form : IS := (.seq (.ite (.or (.not (.isi [.ttup] (.v 0))) (.cmp .eq (.blt .len (.cons (.v 0) .nil)) (.int 0))) (.ret (.bl false)) .skip) (.seq (.ite (.or (.cmp .eq (.ix (.v 0) (.int 0)) (.str "yes")) (.cmp .eq (.ix (.v 0) (.int 0)) (.str "no"))) (.ret (.cmp .eq (.blt .len (.cons (.v 0) .nil)) (.int 1))) .skip) (.seq (.ite (.cmp .eq (.ix (.v 0) (.int 0)) (.str "fact")) (.ret (.and (.cmp .eq (.blt .len (.cons (.v 0) .nil)) (.int 3)) (.call "_law_is_plain_place" (.cons (.ix (.v 0) (.int 1)) (.cons (.ix (.v 0) (.int 2)) .nil))))) .skip) (.seq (.ite (.cmp .eq (.ix (.v 0) (.int 0)) (.str "case")) (.seq (.ite (.or (.cmp .ne (.blt .len (.cons (.v 0) .nil)) (.int 5)) (.not (.call "_law_is_plain_place" (.cons (.ix (.v 0) (.int 1)) (.cons (.ix (.v 0) (.int 2)) .nil))))) (.ret (.bl false)) .skip) (.ret (.and (.call "_law_form" (.cons (.ix (.v 0) (.int 3)) .nil)) (.call "_law_form" (.cons (.ix (.v 0) (.int 4)) .nil))))) .skip) (.seq (.ite (.or (.and (.cmp .ne (.ix (.v 0) (.int 0)) (.str "any")) (.cmp .ne (.ix (.v 0) (.int 0)) (.str "both"))) (.cmp .ne (.blt .len (.cons (.v 0) .nil)) (.int 2))) (.ret (.bl false)) .skip) (.seq (.ite (.or (.not (.isi [.ttup] (.ix (.v 0) (.int 1)))) (.cmp .lt (.blt .len (.cons (.ix (.v 0) (.int 1)) .nil)) (.int 2))) (.ret (.bl false)) .skip) (.ret (.cmp .nin (.bl false) (.comp .val (.cons (.ix (.v 0) (.int 1)) .nil) .nil (.n 1) [1] (.bl true) (.call "_law_form" (.cons (.v 1) .nil)))))))))))
def f__law_form : Fn := ⟨1, 2, b__law_form⟩
def b__law_circuit_places : IS := (.seq (.set 1 (.lst .nil)) (.seq (.ite (.or (.cmp .eq (.ix (.v 0) (.int 0)) (.str "fact")) (.cmp .eq (.ix (.v 0) (.int 0)) (.str "case"))) (.set 1 (.lst (.cons (.sl (.v 0) (.cons (.int 1) .nil) (.cons (.int 3) .nil)) .nil))) .skip) (.seq (.set 2 (.tup .nil)) (.seq (.ite (.cmp .eq (.ix (.v 0) (.int 0)) (.str "case")) (.set 2 (.sl (.v 0) (.cons (.int 3) .nil) .nil)) .skip) (.seq (.ite (.or (.cmp .eq (.ix (.v 0) (.int 0)) (.str "any")) (.cmp .eq (.ix (.v 0) (.int 0)) (.str "both"))) (.set 2 (.ix (.v 0) (.int 1))) .skip) (.seq (.loop .val (.cons (.v 2) .nil) .nil (.n 3) (.set 1 (.bin .add (.v 1) (.call "_law_circuit_places" (.cons (.v 3) .nil))))) (.ret (.v 1))))))))
def f__law_circuit_places : Fn := ⟨1, 4, b__law_circuit_places⟩
def b__law_apart : IS := (.seq (.set 1 (.lst .nil)) (.seq (.loop .val (.cons (.v 0) .nil) .nil (.n 2) (.seq (.ite (.cmp .isin (.bl true) (.comp .val (.cons (.v 2) .nil) .nil (.n 3) [3] (.bl true) (.cmp .isin (.v 3) (.v 1)))) (.ret (.bl false)) .skip) (.set 1 (.bin .add (.v 1) (.v 2))))) (.ret (.bl true))))
def f__law_apart : Fn := ⟨1, 4, b__law_apart⟩
def b__law_right_any : IS := (.seq (.set 3 (.int 0)) (.seq (.loop .rng (.cons (.blt .len (.cons (.v 1) .nil)) .nil) .nil (.n 4) (.seq (.set 5 (.comp .val (.cons (.v 0) .nil) .nil (.n 6) [6] (.call "_law_within" (.cons (.v 6) (.cons (.ix (.v 2) (.v 4)) .nil))) (.v 6))) (.seq (.ite (.or (.cmp .eq (.blt .len (.cons (.v 5) .nil)) (.int 0)) (.or (.cmp .isin (.tup .nil) (.v 5)) (.not (.call "_law_right" (.cons (.v 5) (.cons (.ix (.v 1) (.v 4)) .nil)))))) (.ret (.bl false)) .skip) (.set 3 (.bin .add (.v 3) (.blt .len (.cons (.v 5) .nil))))))) (.ret (.cmp .eq (.v 3) (.blt .len (.cons (.v 0) .nil))))))
def f__law_right_any : Fn := ⟨3, 7, b__law_right_any⟩
def b__law_right_both : IS := (.seq (.set 3 (.int 1)) (.seq (.set 4 (.lst .nil)) (.seq (.loop .rng (.cons (.blt .len (.cons (.v 1) .nil)) .nil) .nil (.n 5) (.seq (.set 6 (.call "_law_parts" (.cons (.v 0) (.cons (.ix (.v 2) (.v 5)) .nil)))) (.seq (.ite (.or (.cmp .eq (.blt .len (.cons (.v 6) .nil)) (.int 0)) (.or (.cmp .isin (.tup .nil) (.v 6)) (.not (.call "_law_right" (.cons (.v 6) (.cons (.ix (.v 1) (.v 5)) .nil)))))) (.ret (.bl false)) .skip) (.seq (.set 3 (.bin .mul (.v 3) (.blt .len (.cons (.v 6) .nil)))) (.set 4 (.bin .add (.v 4) (.ix (.v 2) (.v 5)))))))) (.ret (.and (.cmp .eq (.v 3) (.blt .len (.cons (.v 0) .nil))) (.cmp .nin (.bl false) (.comp .val (.cons (.v 0) .nil) .nil (.n 7) [7] (.bl true) (.call "_law_within" (.cons (.v 7) (.cons (.v 4) .nil))))))))))
def f__law_right_both : Fn := ⟨3, 8, b__law_right_both⟩
def b__law_right : IS := (.seq (.set 2 (.ix (.v 1) (.int 0))) (.seq (.ite (.cmp .eq (.v 2) (.str "yes")) (.ret (.cmp .eq (.v 0) (.lst (.cons (.tup .nil) .nil)))) .skip) (.seq (.ite (.cmp .eq (.v 2) (.str "no")) (.ret (.cmp .eq (.blt .len (.cons (.v 0) .nil)) (.int 0))) .skip) (.seq (.ite (.cmp .eq (.v 2) (.str "fact")) (.ret (.cmp .eq (.v 0) (.lst (.cons (.tup (.cons (.sl (.v 1) (.cons (.int 1) .nil) (.cons (.int 3) .nil)) .nil)) .nil)))) .skip) (.seq (.ite (.cmp .eq (.v 2) (.str "case")) (.seq (.set 3 (.sl (.v 1) (.cons (.int 1) .nil) (.cons (.int 3) .nil))) (.seq (.set 4 (.call "_law_missing" (.cons (.v 0) (.cons (.v 3) .nil)))) (.seq (.ite (.or (.cmp .eq (.blt .len (.cons (.v 4) .nil)) (.blt .len (.cons (.v 0) .nil))) (.not (.call "_law_right" (.cons (.call "_law_there" (.cons (.v 0) (.cons (.v 3) .nil))) (.cons (.ix (.v 1) (.int 3)) .nil))))) (.ret (.bl false)) .skip) (.ret (.call "_law_right" (.cons (.v 4) (.cons (.ix (.v 1) (.int 4)) .nil))))))) .skip) (.seq (.set 5 (.comp .val (.cons (.ix (.v 1) (.int 1)) .nil) .nil (.n 6) [6] (.bl true) (.call "_law_circuit_places" (.cons (.v 6) .nil)))) (.seq (.ite (.not (.call "_law_apart" (.cons (.v 5) .nil))) (.ret (.bl false)) .skip) (.seq (.ite (.cmp .eq (.v 2) (.str "any")) (.ret (.call "_law_right_any" (.cons (.v 0) (.cons (.ix (.v 1) (.int 1)) (.cons (.v 5) .nil))))) .skip) (.ret (.call "_law_right_both" (.cons (.v 0) (.cons (.ix (.v 1) (.int 1)) (.cons (.v 5) .nil)))))))))))))
def f__law_right : Fn := ⟨2, 7, b__law_right⟩
def b_law_k81 : IS := (.seq (.set 1 (.call "_law_draws" (.cons (.v 0) (.cons (.int 400) .nil)))) (.seq (.set 2 (.call "_law_full_scene" (.cons (.v 1) .nil))) (.seq (.set 3 (.call "_law_large_scene" (.cons (.v 1) .nil))) (.seq (.set 4 (.call "_law_without" (.cons (.ix (.v 2) (.int 0)) (.cons (.sl (.call "_law_pick" (.cons (.v 1) (.cons (.ix (.v 2) (.int 0)) .nil))) .nil (.cons (.int 2) .nil)) .nil)))) (.seq (.set 5 (.call "_law_turned" (.cons (.v 1) (.cons (.ix (.v 2) (.int 0)) .nil)))) (.seq (.set 6 (.lst (.cons (.sl (.v 2) .nil (.cons (.int 2) .nil)) (.cons (.sl (.v 3) .nil (.cons (.int 2) .nil)) (.cons (.lst (.cons (.v 4) (.cons (.ix (.v 2) (.int 1)) .nil))) (.cons (.lst (.cons (.v 5) (.cons (.ix (.v 2) (.int 1)) .nil))) (.cons (.sl (.v 2) .nil (.cons (.int 2) .nil)) .nil))))))) (.seq (.loop .val (.cons (.v 6) .nil) .nil (.n 7) (.seq (.set 8 (.call "make_circuit" (.cons (.ix (.v 7) (.int 0)) (.cons (.ix (.v 7) (.int 1)) .nil)))) (.ite (.or (.not (.call "_law_form" (.cons (.v 8) .nil))) (.not (.call "_law_right" (.cons (.call "_law_lots" (.cons (.ix (.v 7) (.int 0)) (.cons (.ix (.v 7) (.int 1)) .nil))) (.cons (.v 8) .nil))))) (.ret (.bl false)) .skip))) (.ret (.bl true)))))))))
def f_law_k81 : Fn := ⟨1, 9, b_law_k81⟩
def b_is_circuit : IS := (.seq (.ite (.or (.not (.isi [.ttup] (.v 0))) (.cmp .eq (.blt .len (.cons (.v 0) .nil)) (.int 0))) (.ret (.bl false)) .skip) (.seq (.ite (.or (.cmp .eq (.ix (.v 0) (.int 0)) (.str "yes")) (.cmp .eq (.ix (.v 0) (.int 0)) (.str "no"))) (.ret (.cmp .eq (.blt .len (.cons (.v 0) .nil)) (.int 1))) .skip) (.seq (.ite (.cmp .eq (.ix (.v 0) (.int 0)) (.str "fact")) (.ret (.cmp .eq (.blt .len (.cons (.v 0) .nil)) (.int 3))) .skip) (.seq (.ite (.cmp .eq (.ix (.v 0) (.int 0)) (.str "case")) (.ret (.and (.cmp .eq (.blt .len (.cons (.v 0) .nil)) (.int 5)) (.and (.call "is_circuit" (.cons (.ix (.v 0) (.int 3)) .nil)) (.call "is_circuit" (.cons (.ix (.v 0) (.int 4)) .nil))))) .skip) (.seq (.ite (.or (.and (.cmp .ne (.ix (.v 0) (.int 0)) (.str "any")) (.cmp .ne (.ix (.v 0) (.int 0)) (.str "both"))) (.cmp .ne (.blt .len (.cons (.v 0) .nil)) (.int 2))) (.ret (.bl false)) .skip) (.seq (.ite (.or (.not (.isi [.ttup] (.ix (.v 0) (.int 1)))) (.cmp .lt (.blt .len (.cons (.ix (.v 0) (.int 1)) .nil)) (.int 2))) (.ret (.bl false)) .skip) (.ret (.blt .all (.cons (.comp .val (.cons (.ix (.v 0) (.int 1)) .nil) .nil (.n 1) [1] (.bl true) (.call "is_circuit" (.cons (.v 1) .nil))) .nil)))))))))
def f_is_circuit : Fn := ⟨1, 2, b_is_circuit⟩
def b_places_of : IS := (.seq (.ite (.cmp .eq (.ix (.v 0) (.int 0)) (.str "fact")) (.ret (.lst (.cons (.sl (.v 0) (.cons (.int 1) .nil) (.cons (.int 3) .nil)) .nil))) .skip) (.seq (.ite (.cmp .eq (.ix (.v 0) (.int 0)) (.str "case")) (.ret (.bin .add (.bin .add (.lst (.cons (.sl (.v 0) (.cons (.int 1) .nil) (.cons (.int 3) .nil)) .nil)) (.call "places_of" (.cons (.ix (.v 0) (.int 3)) .nil))) (.call "places_of" (.cons (.ix (.v 0) (.int 4)) .nil)))) .skip) (.seq (.set 1 (.lst .nil)) (.seq (.ite (.or (.cmp .eq (.ix (.v 0) (.int 0)) (.str "any")) (.cmp .eq (.ix (.v 0) (.int 0)) (.str "both"))) (.loop .val (.cons (.ix (.v 0) (.int 1)) .nil) .nil (.n 2) (.ex (.ext 1 (.call "places_of" (.cons (.v 2) .nil))))) .skip) (.ret (.v 1))))))
def f_places_of : Fn := ⟨1, 3, b_places_of⟩
def b_are_apart : IS := (.seq (.set 1 (.lst .nil)) (.seq (.loop .val (.cons (.v 0) .nil) .nil (.n 2) (.seq (.ite (.blt .any (.cons (.comp .val (.cons (.v 2) .nil) .nil (.n 3) [3] (.bl true) (.cmp .isin (.v 3) (.v 1))) .nil)) (.ret (.bl false)) .skip) (.ex (.ext 1 (.v 2))))) (.ret (.bl true))))
def f_are_apart : Fn := ⟨1, 4, b_are_apart⟩
def b_is_right_any : IS := (.seq (.set 2 (.comp .val (.cons (.v 1) .nil) .nil (.n 4) [4] (.bl true) (.call "places_of" (.cons (.v 4) .nil)))) (.seq (.ite (.not (.call "are_apart" (.cons (.v 2) .nil))) (.ret (.bl false)) .skip) (.seq (.loop .val (.cons (.v 0) .nil) .nil (.n 3) (.ite (.cmp .ne (.blt .len (.cons (.comp .val (.cons (.v 2) .nil) .nil (.n 5) [5] (.call "has_all" (.cons (.v 5) (.cons (.v 3) .nil))) (.v 5)) .nil)) (.int 1)) (.ret (.bl false)) .skip)) (.seq (.loop .zip (.cons (.v 1) .nil) (.cons (.v 2) .nil) (.tp (.cs (.n 4) (.cs (.n 5) .nl))) (.seq (.set 6 (.comp .val (.cons (.v 0) .nil) .nil (.n 3) [3] (.call "has_all" (.cons (.v 5) (.cons (.v 3) .nil))) (.v 3))) (.ite (.or (.cmp .eq (.blt .len (.cons (.v 6) .nil)) (.int 0)) (.not (.call "is_right_for" (.cons (.v 6) (.cons (.v 4) .nil))))) (.ret (.bl false)) .skip))) (.ret (.bl true))))))
def f_is_right_any : Fn := ⟨2, 7, b_is_right_any⟩
def b_is_right_both : IS := (.seq (.set 2 (.comp .val (.cons (.v 1) .nil) .nil (.n 5) [5] (.bl true) (.call "places_of" (.cons (.v 5) .nil)))) (.seq (.ite (.or (.cmp .eq (.blt .len (.cons (.v 0) .nil)) (.int 0)) (.not (.call "are_apart" (.cons (.v 2) .nil)))) (.ret (.bl false)) .skip) (.seq (.set 3 (.lst .nil)) (.seq (.set 4 (.int 1)) (.seq (.loop .zip (.cons (.v 1) .nil) (.cons (.v 2) .nil) (.tp (.cs (.n 5) (.cs (.n 6) .nl))) (.seq (.set 7 (.call "parts_of" (.cons (.v 0) (.cons (.v 6) .nil)))) (.seq (.ite (.or (.cmp .isin (.tup .nil) (.v 7)) (.not (.call "is_right_for" (.cons (.v 7) (.cons (.v 5) .nil))))) (.ret (.bl false)) .skip) (.seq (.ex (.ext 3 (.v 6))) (.set 4 (.bin .mul (.v 4) (.blt .len (.cons (.v 7) .nil)))))))) (.ret (.and (.cmp .eq (.v 4) (.blt .len (.cons (.v 0) .nil))) (.blt .all (.cons (.comp .val (.cons (.v 0) .nil) .nil (.n 8) [8] (.bl true) (.call "has_all" (.cons (.v 3) (.cons (.v 8) .nil)))) .nil)))))))))
def f_is_right_both : Fn := ⟨2, 9, b_is_right_both⟩
def b_is_right_for : IS := (.seq (.set 2 (.ix (.v 1) (.int 0))) (.seq (.ite (.cmp .eq (.v 2) (.str "yes")) (.ret (.cmp .eq (.v 0) (.lst (.cons (.tup .nil) .nil)))) .skip) (.seq (.ite (.cmp .eq (.v 2) (.str "no")) (.ret (.cmp .eq (.blt .len (.cons (.v 0) .nil)) (.int 0))) .skip) (.seq (.ite (.cmp .eq (.v 2) (.str "fact")) (.ret (.cmp .eq (.v 0) (.lst (.cons (.tup (.cons (.sl (.v 1) (.cons (.int 1) .nil) (.cons (.int 3) .nil)) .nil)) .nil)))) .skip) (.seq (.ite (.cmp .eq (.v 2) (.str "any")) (.ret (.call "is_right_any" (.cons (.v 0) (.cons (.ix (.v 1) (.int 1)) .nil)))) .skip) (.seq (.ite (.cmp .eq (.v 2) (.str "both")) (.ret (.call "is_right_both" (.cons (.v 0) (.cons (.ix (.v 1) (.int 1)) .nil)))) .skip) (.seq (.set 3 (.sl (.v 1) (.cons (.int 1) .nil) (.cons (.int 3) .nil))) (.seq (.ite (.not (.blt .any (.cons (.comp .val (.cons (.v 0) .nil) .nil (.n 4) [4] (.bl true) (.cmp .isin (.v 3) (.v 4))) .nil))) (.ret (.bl false)) .skip) (.seq (.ite (.not (.call "is_right_for" (.cons (.call "lots_if_there" (.cons (.v 0) (.cons (.v 3) .nil))) (.cons (.ix (.v 1) (.int 3)) .nil)))) (.ret (.bl false)) .skip) (.ret (.call "is_right_for" (.cons (.call "lots_if_missing" (.cons (.v 0) (.cons (.v 3) .nil))) (.cons (.ix (.v 1) (.int 4)) .nil)))))))))))))
def f_is_right_for : Fn := ⟨2, 5, b_is_right_for⟩
def b_judge_circuit : IS := (.ret (.and (.call "is_circuit" (.cons (.v 2) .nil)) (.call "is_right_for" (.cons (.blt .list (.cons (.call "smallest_lots" (.cons (.v 0) (.cons (.v 1) .nil))) .nil)) (.cons (.v 2) .nil)))))
def f_judge_circuit : Fn := ⟨3, 3, b_judge_circuit⟩
def b__law_held : IS := (.ret (.comp .val (.cons (.call "_law_worlds" (.cons (.v 0) .nil)) .nil) .nil (.n 2) [2] (.bl true) (.cmp .gt (.blt .len (.cons (.call "_law_answers" (.cons (.ix (.v 2) (.int 0)) (.cons (.v 1) .nil))) .nil)) (.int 0))))
def f__law_held : Fn := ⟨2, 3, b__law_held⟩
def b__law_sum : IS := (.seq (.set 2 (.tup (.cons (.int 0) (.cons (.int 1) .nil)))) (.seq (.set 3 (.call "_law_worlds" (.cons (.v 0) .nil))) (.seq (.loop .rng (.cons (.blt .len (.cons (.v 3) .nil)) .nil) .nil (.n 4) (.ite (.ix (.v 1) (.v 4)) (.set 2 (.call "_law_plus" (.cons (.v 2) (.cons (.ix (.ix (.v 3) (.v 4)) (.int 1)) .nil)))) .skip)) (.ret (.v 2)))))
def f__law_sum : Fn := ⟨2, 5, b__law_sum⟩
def b__law_all_places : IS := (.seq (.set 1 (.lst .nil)) (.seq (.loop .val (.cons (.v 0) .nil) .nil (.n 2) (.set 1 (.bin .add (.v 1) (.comp .val (.cons (.v 2) .nil) .nil (.n 3) [3] (.cmp .nin (.v 3) (.v 1)) (.v 3))))) (.ret (.v 1))))
def f__law_all_places : Fn := ⟨1, 4, b__law_all_places⟩
def b__law_by_lots : IS := (.seq (.set 2 (.lst (.cons (.tup .nil) .nil))) (.seq (.loop .val (.cons (.v 1) .nil) .nil (.n 3) (.set 2 (.bin .add (.v 2) (.comp .val (.cons (.v 2) .nil) .nil (.n 5) [5] (.bl true) (.bin .add (.v 5) (.tup (.cons (.v 3) .nil))))))) (.seq (.set 4 (.lst (.cons (.tup (.cons (.int 0) (.cons (.int 1) .nil))) (.cons (.tup (.cons (.int 0) (.cons (.int 1) .nil))) .nil)))) (.seq (.loop .val (.cons (.sl (.v 2) (.cons (.int 1) .nil) .nil) .nil) .nil (.n 5) (.seq (.set 6 (.tup (.cons (.int 1) (.cons (.int 1) .nil)))) (.seq (.loop .val (.cons (.call "_law_all_places" (.cons (.v 5) .nil)) .nil) .nil (.n 7) (.set 6 (.call "_law_times" (.cons (.v 6) (.cons (.call "_law_at" (.cons (.v 0) (.cons (.ix (.v 7) (.int 0)) (.cons (.ix (.v 7) (.int 1)) .nil)))) .nil))))) (.seq (.set 8 (.bin .md (.blt .int (.cons (.blt .len (.cons (.v 5) .nil)) .nil)) (.int 2))) (.put 4 (.v 8) (.call "_law_plus" (.cons (.ix (.v 4) (.v 8)) (.cons (.v 6) .nil)))))))) (.seq (.set 9 (.ix (.v 4) (.int 1))) (.seq (.set 10 (.ix (.v 4) (.int 0))) (.ret (.call "_law_share" (.cons (.bin .sub (.bin .mul (.ix (.v 9) (.int 0)) (.ix (.v 10) (.int 1))) (.bin .mul (.ix (.v 10) (.int 0)) (.ix (.v 9) (.int 1)))) (.cons (.bin .mul (.ix (.v 9) (.int 1)) (.ix (.v 10) (.int 1))) .nil))))))))))
def f__law_by_lots : Fn := ⟨2, 11, b__law_by_lots⟩
def b_chance_of : IS := (.ret (.call "number_of_circuit" (.cons (.v 0) (.cons (.call "make_circuit" (.cons (.v 0) (.cons (.v 1) .nil))) .nil))))
def f_chance_of : Fn := ⟨2, 2, b_chance_of⟩
def b__law_truth : IS := (.seq (.set 2 (.tup (.cons (.int 0) (.cons (.int 1) .nil)))) (.seq (.loop .val (.cons (.call "_law_worlds" (.cons (.v 0) .nil)) .nil) .nil (.n 3) (.ite (.cmp .gt (.blt .len (.cons (.call "_law_answers" (.cons (.ix (.v 3) (.int 0)) (.cons (.v 1) .nil))) .nil)) (.int 0)) (.set 2 (.call "_law_plus" (.cons (.v 2) (.cons (.ix (.v 3) (.int 1)) .nil)))) .skip)) (.ret (.v 2))))
def f__law_truth : Fn := ⟨2, 4, b__law_truth⟩
def b_law_k83 : IS := (.seq (.set 1 (.call "_law_draws" (.cons (.v 0) (.cons (.int 560) .nil)))) (.seq (.set 2 (.call "_law_full_scene" (.cons (.v 1) .nil))) (.seq (.set 3 (.call "_law_scene" (.cons (.v 1) .nil))) (.seq (.set 4 (.call "_law_without" (.cons (.ix (.v 2) (.int 0)) (.cons (.sl (.call "_law_pick" (.cons (.v 1) (.cons (.ix (.v 2) (.int 0)) .nil))) .nil (.cons (.int 2) .nil)) .nil)))) (.seq (.set 5 (.call "_law_held" (.cons (.ix (.v 2) (.int 0)) (.cons (.ix (.v 2) (.int 1)) .nil)))) (.seq (.set 6 (.call "_law_turned" (.cons (.v 1) (.cons (.ix (.v 2) (.int 0)) .nil)))) (.seq (.set 7 (.call "_law_sum" (.cons (.ix (.v 2) (.int 0)) (.cons (.v 5) .nil)))) (.seq (.ite (.not (.call "_law_same" (.cons (.call "chance_of" (.cons (.ix (.v 2) (.int 0)) (.cons (.ix (.v 2) (.int 1)) .nil))) (.cons (.v 7) .nil)))) (.ret (.bl false)) .skip) (.seq (.ite (.not (.call "_law_same" (.cons (.call "chance_of" (.cons (.ix (.v 3) (.int 0)) (.cons (.ix (.v 3) (.int 1)) .nil))) (.cons (.call "_law_truth" (.cons (.ix (.v 3) (.int 0)) (.cons (.ix (.v 3) (.int 1)) .nil))) .nil)))) (.ret (.bl false)) .skip) (.seq (.ite (.not (.call "_law_same" (.cons (.call "chance_of" (.cons (.v 6) (.cons (.ix (.v 2) (.int 1)) .nil))) (.cons (.call "_law_sum" (.cons (.v 6) (.cons (.v 5) .nil))) .nil)))) (.ret (.bl false)) .skip) (.seq (.ite (.not (.call "_law_same" (.cons (.call "chance_of" (.cons (.v 4) (.cons (.ix (.v 2) (.int 1)) .nil))) (.cons (.call "_law_truth" (.cons (.v 4) (.cons (.ix (.v 2) (.int 1)) .nil))) .nil)))) (.ret (.bl false)) .skip) (.seq (.set 8 (.call "_law_large_scene" (.cons (.v 1) .nil))) (.seq (.set 9 (.call "_law_lots" (.cons (.ix (.v 8) (.int 0)) (.cons (.ix (.v 8) (.int 1)) .nil)))) (.seq (.ite (.and (.cmp .le (.blt .len (.cons (.v 9) .nil)) (.int 4)) (.not (.call "_law_same" (.cons (.call "chance_of" (.cons (.ix (.v 8) (.int 0)) (.cons (.ix (.v 8) (.int 1)) .nil))) (.cons (.call "_law_by_lots" (.cons (.ix (.v 8) (.int 0)) (.cons (.v 9) .nil))) .nil))))) (.ret (.bl false)) .skip) (.ret (.call "_law_same" (.cons (.call "chance_of" (.cons (.ix (.v 2) (.int 0)) (.cons (.ix (.v 2) (.int 1)) .nil))) (.cons (.v 7) .nil))))))))))))))))))
def f_law_k83 : Fn := ⟨1, 10, b_law_k83⟩
def b_possible_rows : IS := (.ret (.call "answers" (.cons (.blt .tuple (.cons (.comp .val (.cons (.v 0) .nil) .nil (.n 2) [2] (.bl true) (.sl (.v 2) .nil (.cons (.int 2) .nil))) .nil)) (.cons (.v 1) .nil))))
def f_possible_rows : Fn := ⟨2, 3, b_possible_rows⟩
def b_chances_of : IS := (.seq (.set 2 (.lst .nil)) (.seq (.loop .val (.cons (.call "possible_rows" (.cons (.v 0) (.cons (.v 1) .nil))) .nil) .nil (.n 3) (.seq (.set 4 (.call "chance_of" (.cons (.v 0) (.cons (.call "put_row" (.cons (.v 1) (.cons (.v 3) .nil))) .nil)))) (.ite (.cmp .gt (.ix (.v 4) (.int 0)) (.int 0)) (.ex (.app 2 (.tup (.cons (.v 3) (.cons (.v 4) .nil))))) .skip))) (.ret (.blt .tuple (.cons (.v 2) .nil)))))
def f_chances_of : Fn := ⟨2, 5, b_chances_of⟩
def b_mean_of : IS := (.seq (.set 2 (.tup (.cons (.int 0) (.cons (.int 1) .nil)))) (.seq (.loop .val (.cons (.call "chances_of" (.cons (.v 0) (.cons (.v 1) .nil))) .nil) .nil (.tp (.cs (.n 3) (.cs (.n 4) .nl))) (.set 2 (.call "plus" (.cons (.v 2) (.cons (.v 4) .nil))))) (.ret (.v 2))))
def f_mean_of : Fn := ⟨2, 5, b_mean_of⟩
def b__law_chances : IS := (.seq (.set 2 (.call "_law_worlds" (.cons (.v 0) .nil))) (.seq (.set 3 (.lst .nil)) (.seq (.loop .val (.cons (.ix (.v 1) (.bin .sub (.blt .len (.cons (.v 1) .nil)) (.int 1))) .nil) .nil (.n 4) (.seq (.set 5 (.tup (.cons (.int 0) (.cons (.int 1) .nil)))) (.seq (.loop .rng (.cons (.blt .len (.cons (.v 2) .nil)) .nil) .nil (.n 6) (.ite (.cmp .isin (.v 4) (.ix (.v 1) (.v 6))) (.set 5 (.call "_law_plus" (.cons (.v 5) (.cons (.ix (.ix (.v 2) (.v 6)) (.int 1)) .nil)))) .skip)) (.ite (.cmp .gt (.ix (.v 5) (.int 0)) (.int 0)) (.ex (.app 3 (.tup (.cons (.v 4) (.cons (.v 5) .nil))))) .skip)))) (.ret (.blt .tuple (.cons (.v 3) .nil))))))
def f__law_chances : Fn := ⟨2, 7, b__law_chances⟩
def b__law_counts : IS := (.seq (.set 2 (.call "_law_worlds" (.cons (.v 0) .nil))) (.seq (.set 3 (.lst .nil)) (.seq (.loop .rng (.cons (.bin .add (.int 1) (.blt .len (.cons (.ix (.v 1) (.bin .sub (.blt .len (.cons (.v 1) .nil)) (.int 1))) .nil))) .nil) .nil (.n 4) (.seq (.set 5 (.tup (.cons (.int 0) (.cons (.int 1) .nil)))) (.seq (.loop .rng (.cons (.blt .len (.cons (.v 2) .nil)) .nil) .nil (.n 6) (.ite (.cmp .eq (.blt .len (.cons (.ix (.v 1) (.v 6)) .nil)) (.v 4)) (.set 5 (.call "_law_plus" (.cons (.v 5) (.cons (.ix (.ix (.v 2) (.v 6)) (.int 1)) .nil)))) .skip)) (.ite (.cmp .gt (.ix (.v 5) (.int 0)) (.int 0)) (.ex (.app 3 (.tup (.cons (.v 4) (.cons (.v 5) .nil))))) .skip)))) (.ret (.blt .tuple (.cons (.v 3) .nil))))))
def f__law_counts : Fn := ⟨2, 7, b__law_counts⟩
def b__law_mean : IS := (.seq (.set 1 (.tup (.cons (.int 0) (.cons (.int 1) .nil)))) (.seq (.loop .val (.cons (.v 0) .nil) .nil (.n 2) (.set 1 (.call "_law_plus" (.cons (.v 1) (.cons (.ix (.v 2) (.int 1)) .nil))))) (.ret (.v 1))))
def f__law_mean : Fn := ⟨1, 3, b__law_mean⟩
def b__law_longer : IS := (.seq (.set 2 (.ix (.ix (.v 0) (.int 1)) (.int 0))) (.ret (.tup (.cons (.ix (.v 0) (.int 0)) (.cons (.bin .add (.tup (.cons (.tup (.cons (.ix (.v 2) (.int 0)) (.cons (.sl (.bin .add (.ix (.v 2) (.int 1)) (.v 1)) .nil (.cons (.int 8) .nil)) .nil))) .nil)) (.sl (.ix (.v 0) (.int 1)) (.cons (.int 1) .nil) .nil)) .nil)))))
def f__law_longer : Fn := ⟨2, 3, b__law_longer⟩
def b_law_k84 : IS := (.seq (.set 1 (.call "_law_draws" (.cons (.v 0) (.cons (.int 300) .nil)))) (.seq (.set 2 (.call "_law_varied_world" (.cons (.v 1) .nil))) (.seq (.set 3 (.lst (.cons (.call "_law_question" (.cons (.v 1) (.cons (.v 2) (.cons (.ix (.lst (.cons (.int 1) (.cons (.int 2) (.cons (.int 1) (.cons (.int 0) (.cons (.int 3) (.cons (.int 8) .nil))))))) (.call "_law_take" (.cons (.v 1) (.cons (.int 6) .nil)))) .nil)))) .nil))) (.seq (.ex (.app 3 (.call "_law_question" (.cons (.v 1) (.cons (.v 2) (.cons (.ix (.lst (.cons (.int 1) (.cons (.int 2) (.cons (.int 0) .nil)))) (.call "_law_take" (.cons (.v 1) (.cons (.int 3) .nil)))) .nil)))))) (.seq (.set 4 (.blt .list (.cons (.bin .add (.ix (.ix (.v 3) (.int 0)) (.int 1)) (.ix (.ix (.v 3) (.int 1)) (.int 1))) .nil))) (.seq (.set 5 (.call "_law_store" (.cons (.call "_law_dense" (.cons (.v 1) (.cons (.v 2) (.cons (.v 4) (.cons (.ix (.lst (.cons (.int 6) (.cons (.int 6) (.cons (.int 5) (.cons (.int 4) (.cons (.int 6) (.cons (.int 0) (.cons (.int 3) (.cons (.int 6) .nil))))))))) (.call "_law_take" (.cons (.v 1) (.cons (.int 8) .nil)))) .nil))))) .nil))) (.seq (.set 6 (.lst (.cons (.v 5) (.cons (.call "_law_turned" (.cons (.v 1) (.cons (.v 5) .nil))) .nil)))) (.seq (.ite (.and (.cmp .gt (.blt .len (.cons (.v 5) .nil)) (.int 0)) (.and (.cmp .gt (.blt .len (.cons (.ix (.ix (.v 3) (.int 0)) (.int 1)) .nil)) (.int 0)) (.cmp .eq (.call "_law_take" (.cons (.v 1) (.cons (.int 2) .nil))) (.int 0)))) (.put 3 (.int 0) (.call "_law_longer" (.cons (.ix (.v 3) (.int 0)) (.cons (.ix (.ix (.ix (.call "_law_ground" (.cons (.v 1) (.cons (.v 5) .nil))) (.int 1)) (.int 0)) (.int 1)) .nil)))) .skip) (.seq (.loop .val (.cons (.v 3) .nil) .nil (.n 7) (.seq (.set 8 (.comp .val (.cons (.call "_law_worlds" (.cons (.v 5) .nil)) .nil) .nil (.n 11) [11] (.bl true) (.call "_law_answers" (.cons (.ix (.v 11) (.int 0)) (.cons (.v 7) .nil))))) (.loop .val (.cons (.lst (.cons (.int 0) (.cons (.int 1) .nil))) .nil) .nil (.n 9) (.seq (.set 10 (.call "_law_chances" (.cons (.ix (.v 6) (.v 9)) (.cons (.v 8) .nil)))) (.seq (.ite (.not (.call "_law_same" (.cons (.call "chances_of" (.cons (.ix (.v 6) (.v 9)) (.cons (.v 7) .nil))) (.cons (.v 10) .nil)))) (.ret (.bl false)) .skip) (.seq (.ite (.not (.call "_law_same" (.cons (.call "counts_of" (.cons (.ix (.v 6) (.v 9)) (.cons (.v 7) .nil))) (.cons (.call "_law_counts" (.cons (.ix (.v 6) (.v 9)) (.cons (.v 8) .nil))) .nil)))) (.ret (.bl false)) .skip) (.ite (.not (.call "_law_same" (.cons (.call "mean_of" (.cons (.ix (.v 6) (.v 9)) (.cons (.v 7) .nil))) (.cons (.call "_law_mean" (.cons (.v 10) .nil)) .nil)))) (.ret (.bl false)) .skip))))))) (.ret (.bl true)))))))))))
def f_law_k84 : Fn := ⟨1, 12, b_law_k84⟩
def b_check_place : IS := (.ite (.cmp .nin (.tup (.cons (.v 1) (.cons (.v 2) .nil))) (.comp .val (.cons (.v 0) .nil) .nil (.n 3) [3] (.bl true) (.sl (.v 3) .nil (.cons (.int 2) .nil)))) .rais .skip)
def f_check_place : Fn := ⟨3, 4, b_check_place⟩
def b_store_if : IS := (.seq (.set 4 (.lst .nil)) (.seq (.loop .val (.cons (.v 0) .nil) .nil (.n 5) (.ite (.cmp .ne (.sl (.v 5) .nil (.cons (.int 2) .nil)) (.tup (.cons (.v 1) (.cons (.v 2) .nil)))) (.ex (.app 4 (.v 5))) (.ite (.cmp .eq (.v 3) (.int 1)) (.ex (.app 4 (.tup (.cons (.v 1) (.cons (.v 2) (.cons (.tup (.cons (.int 1) (.cons (.int 1) .nil))) .nil)))))) .skip))) (.ret (.blt .tuple (.cons (.v 4) .nil)))))
def f_store_if : Fn := ⟨4, 6, b_store_if⟩
def b_chance_if : IS := (.seq (.ex (.call "check_place" (.cons (.v 0) (.cons (.v 2) (.cons (.v 3) .nil))))) (.ret (.call "chance_of" (.cons (.call "store_if" (.cons (.v 0) (.cons (.v 2) (.cons (.v 3) (.cons (.v 4) .nil))))) (.cons (.v 1) .nil)))))
def f_chance_if : Fn := ⟨5, 5, b_chance_if⟩
def b_influence_of : IS := (.seq (.set 4 (.call "chance_if" (.cons (.v 0) (.cons (.v 1) (.cons (.v 2) (.cons (.v 3) (.cons (.int 1) .nil))))))) (.seq (.set 5 (.call "chance_if" (.cons (.v 0) (.cons (.v 1) (.cons (.v 2) (.cons (.v 3) (.cons (.int 0) .nil))))))) (.ret (.call "make_share" (.cons (.bin .sub (.bin .mul (.ix (.v 4) (.int 0)) (.ix (.v 5) (.int 1))) (.bin .mul (.ix (.v 5) (.int 0)) (.ix (.v 4) (.int 1)))) (.cons (.bin .mul (.ix (.v 4) (.int 1)) (.ix (.v 5) (.int 1))) .nil))))))
def f_influence_of : Fn := ⟨4, 6, b_influence_of⟩
def b__law_with : IS := (.ret (.blt .tuple (.cons (.comp .val (.cons (.v 0) .nil) .nil (.n 3) [3] (.bl true) (.bin .add (.sl (.v 3) .nil (.cons (.int 2) .nil)) (.tup (.cons (.ix (.lst (.cons (.ix (.v 3) (.int 2)) (.cons (.v 2) .nil))) (.blt .int (.cons (.cmp .eq (.sl (.v 3) .nil (.cons (.int 2) .nil)) (.v 1)) .nil))) .nil)))) .nil)))
def f__law_with : Fn := ⟨3, 4, b__law_with⟩
def b_ranked_places : IS := (.seq (.set 2 (.lst .nil)) (.seq (.loop .val (.cons (.v 0) .nil) .nil (.n 3) (.seq (.set 4 (.call "influence_of" (.cons (.v 0) (.cons (.v 1) (.cons (.ix (.v 3) (.int 0)) (.cons (.ix (.v 3) (.int 1)) .nil)))))) (.seq (.set 5 (.blt .len (.cons (.comp .val (.cons (.v 2) .nil) .nil (.n 6) [6] (.cmp .ge (.call "compare_shares" (.cons (.ix (.v 6) (.int 0)) (.cons (.v 4) .nil))) (.int 0)) (.v 6)) .nil))) (.ex (.ins 2 (.v 5) (.tup (.cons (.v 4) (.cons (.sl (.v 3) .nil (.cons (.int 2) .nil)) .nil)))))))) (.ret (.blt .tuple (.cons (.v 2) .nil)))))
def f_ranked_places : Fn := ⟨2, 7, b_ranked_places⟩
def b__law_influence : IS := (.seq (.set 3 (.int 1)) (.seq (.loop .rng (.cons (.bin .sub (.bin .sub (.blt .len (.cons (.v 0) .nil)) (.int 1)) (.v 2)) .nil) .nil (.n 4) (.set 3 (.bin .mul (.v 3) (.int 2)))) (.seq (.set 5 (.call "_law_worlds" (.cons (.bin .add (.sl (.v 0) .nil (.cons (.v 2) .nil)) (.sl (.v 0) (.cons (.bin .add (.v 2) (.int 1)) .nil) .nil)) .nil))) (.seq (.set 6 (.tup (.cons (.int 0) (.cons (.int 1) .nil)))) (.seq (.loop .rng (.cons (.blt .len (.cons (.v 5) .nil)) .nil) .nil (.n 7) (.seq (.set 8 (.bin .md (.blt .int (.cons (.v 7) .nil)) (.v 3))) (.seq (.set 9 (.bin .add (.bin .mul (.bin .sub (.v 7) (.v 8)) (.int 2)) (.v 8))) (.ite (.and (.ix (.v 1) (.bin .add (.v 9) (.v 3))) (.not (.ix (.v 1) (.v 9)))) (.set 6 (.call "_law_plus" (.cons (.v 6) (.cons (.ix (.ix (.v 5) (.v 7)) (.int 1)) .nil)))) .skip)))) (.ret (.v 6)))))))
def f__law_influence : Fn := ⟨3, 10, b__law_influence⟩
def b__law_ranked : IS := (.seq (.set 2 (.lst .nil)) (.seq (.loop .rng (.cons (.blt .len (.cons (.v 0) .nil)) .nil) .nil (.n 3) (.seq (.set 4 (.call "_law_influence" (.cons (.v 0) (.cons (.v 1) (.cons (.v 3) .nil))))) (.seq (.set 5 (.comp .val (.cons (.v 2) .nil) .nil (.n 7) [7] (.not (.call "_law_less" (.cons (.ix (.v 7) (.int 0)) (.cons (.v 4) .nil)))) (.v 7))) (.seq (.set 6 (.comp .val (.cons (.v 2) .nil) .nil (.n 7) [7] (.call "_law_less" (.cons (.ix (.v 7) (.int 0)) (.cons (.v 4) .nil))) (.v 7))) (.set 2 (.bin .add (.bin .add (.v 5) (.lst (.cons (.tup (.cons (.v 4) (.cons (.sl (.ix (.v 0) (.v 3)) .nil (.cons (.int 2) .nil)) .nil))) .nil))) (.v 6))))))) (.ret (.blt .tuple (.cons (.v 2) .nil)))))
def f__law_ranked : Fn := ⟨2, 8, b__law_ranked⟩
def b_law_k86 : IS := (.seq (.set 1 (.call "_law_draws" (.cons (.v 0) (.cons (.int 360) .nil)))) (.seq (.set 2 (.lst (.cons (.call "_law_full_scene" (.cons (.v 1) .nil)) (.cons (.call "_law_full_scene" (.cons (.v 1) .nil)) .nil)))) (.seq (.ex (.app 2 (.bin .add (.lst (.cons (.call "_law_turned" (.cons (.v 1) (.cons (.ix (.ix (.v 2) (.int 0)) (.int 0)) .nil))) .nil)) (.sl (.ix (.v 2) (.int 0)) (.cons (.int 1) .nil) .nil)))) (.seq (.set 3 (.comp .val (.cons (.sl (.v 2) .nil (.cons (.int 2) .nil)) .nil) .nil (.n 10) [10] (.bl true) (.call "_law_held" (.cons (.ix (.v 10) (.int 0)) (.cons (.ix (.v 10) (.int 1)) .nil))))) (.seq (.loop .val (.cons (.lst (.cons (.int 0) (.cons (.int 1) (.cons (.int 2) (.cons (.int 0) .nil))))) .nil) .nil (.n 4) (.seq (.set 5 (.call "_law_ranked" (.cons (.ix (.ix (.v 2) (.v 4)) (.int 0)) (.cons (.ix (.v 3) (.bin .md (.blt .int (.cons (.v 4) .nil)) (.int 2))) .nil)))) (.seq (.set 6 (.sl (.call "_law_pick" (.cons (.v 1) (.cons (.ix (.ix (.v 2) (.v 4)) (.int 0)) .nil))) .nil (.cons (.int 2) .nil))) (.seq (.set 7 (.call "influence_of" (.cons (.ix (.ix (.v 2) (.v 4)) (.int 0)) (.cons (.ix (.ix (.v 2) (.v 4)) (.int 1)) (.cons (.ix (.v 6) (.int 0)) (.cons (.ix (.v 6) (.int 1)) .nil)))))) (.seq (.set 8 (.comp .val (.cons (.v 5) .nil) .nil (.n 9) [9] (.cmp .eq (.ix (.v 9) (.int 1)) (.v 6)) (.ix (.v 9) (.int 0)))) (.seq (.ite (.or (.not (.call "_law_same" (.cons (.lst (.cons (.v 7) .nil)) (.cons (.v 8) .nil)))) (.cmp .lt (.ix (.v 7) (.int 0)) (.int 0))) (.ret (.bl false)) .skip) (.ite (.not (.call "_law_same" (.cons (.call "ranked_places" (.cons (.ix (.ix (.v 2) (.v 4)) (.int 0)) (.cons (.ix (.ix (.v 2) (.v 4)) (.int 1)) .nil))) (.cons (.v 5) .nil)))) (.ret (.bl false)) .skip))))))) (.ret (.call "_law_same" (.cons (.call "ranked_places" (.cons (.tup .nil) (.cons (.ix (.ix (.v 2) (.int 0)) (.int 1)) .nil))) (.cons (.tup .nil) .nil)))))))))
def f_law_k86 : Fn := ⟨1, 11, b_law_k86⟩
def b__law_is_chance : IS := (.seq (.ite (.or (.not (.isi [.ttup] (.v 0))) (.cmp .ne (.blt .len (.cons (.v 0) .nil)) (.int 2))) (.ret (.bl false)) .skip) (.seq (.loop .val (.cons (.v 0) .nil) .nil (.n 1) (.ite (.or (.not (.isi [.tint] (.v 1))) (.isi [.tbool] (.v 1))) (.ret (.bl false)) .skip)) (.seq (.ite (.or (.cmp .lt (.ix (.v 0) (.int 0)) (.int 0)) (.or (.cmp .lt (.ix (.v 0) (.int 1)) (.int 1)) (.cmp .gt (.ix (.v 0) (.int 0)) (.ix (.v 0) (.int 1))))) (.ret (.bl false)) .skip) (.ret (.cmp .eq (.call "_law_share" (.cons (.ix (.v 0) (.int 0)) (.cons (.ix (.v 0) (.int 1)) .nil))) (.v 0))))))
def f__law_is_chance : Fn := ⟨1, 2, b__law_is_chance⟩
def b__law_inner : IS := (.seq (.set 2 (.lst .nil)) (.seq (.loop .val (.cons (.v 1) .nil) .nil (.n 3) (.seq (.set 4 (.bin .add (.int 1) (.call "_law_take" (.cons (.v 0) (.cons (.int 9) .nil))))) (.seq (.set 5 (.ix (.lst (.cons (.bin .add (.int 1) (.call "_law_take" (.cons (.v 0) (.cons (.int 9) .nil)))) (.cons (.bin .add (.bin .pow (.int 10) (.int 30)) (.call "_law_take" (.cons (.v 0) (.cons (.int 1000) .nil)))) .nil))) (.blt .int (.cons (.cmp .eq (.call "_law_take" (.cons (.v 0) (.cons (.int 9) .nil))) (.int 1)) .nil)))) (.ex (.app 2 (.bin .add (.sl (.v 3) .nil (.cons (.int 2) .nil)) (.tup (.cons (.call "_law_share" (.cons (.v 4) (.cons (.bin .add (.v 4) (.v 5)) .nil))) .nil)))))))) (.ret (.blt .tuple (.cons (.v 2) .nil)))))
def f__law_inner : Fn := ⟨2, 6, b__law_inner⟩
def b_law_k87 : IS := (.seq (.set 1 (.call "_law_draws" (.cons (.v 0) (.cons (.int 260) .nil)))) (.seq (.set 2 (.call "_law_full_scene" (.cons (.v 1) .nil))) (.seq (.set 3 (.call "_law_inner" (.cons (.v 1) (.cons (.ix (.v 2) (.int 0)) .nil)))) (.seq (.set 4 (.call "_law_lots" (.cons (.v 3) (.cons (.ix (.v 2) (.int 1)) .nil)))) (.seq (.set 5 (.call "_law_all_places" (.cons (.v 4) .nil))) (.seq (.loop .val (.cons (.v 3) .nil) .nil (.n 6) (.seq (.set 7 (.call "influence_of" (.cons (.v 3) (.cons (.ix (.v 2) (.int 1)) (.cons (.ix (.v 6) (.int 0)) (.cons (.ix (.v 6) (.int 1)) .nil)))))) (.seq (.ite (.or (.not (.call "_law_is_chance" (.cons (.v 7) .nil))) (.cmp .ne (.cmp .gt (.ix (.v 7) (.int 0)) (.int 0)) (.cmp .isin (.sl (.v 6) .nil (.cons (.int 2) .nil)) (.v 5)))) (.ret (.bl false)) .skip) (.ite (.cmp .isin (.tup (.cons (.sl (.v 6) .nil (.cons (.int 2) .nil)) .nil)) (.v 4)) (.seq (.set 8 (.call "_law_without" (.cons (.v 3) (.cons (.sl (.v 6) .nil (.cons (.int 2) .nil)) .nil)))) (.ite (.not (.call "_law_same" (.cons (.v 7) (.cons (.call "_law_rest" (.cons (.call "_law_truth" (.cons (.v 8) (.cons (.ix (.v 2) (.int 1)) .nil))) .nil)) .nil)))) (.ret (.bl false)) .skip)) .skip)))) (.ret (.bl true))))))))
def f_law_k87 : Fn := ⟨1, 9, b_law_k87⟩
def b__law_size : IS := (.seq (.set 2 (.call "_law_take" (.cons (.v 0) (.cons (.int 8) .nil)))) (.seq (.ite (.cmp .lt (.v 2) (.int 5)) (.ret (.call "_law_take" (.cons (.v 0) (.cons (.int 12) .nil)))) .skip) (.seq (.ite (.cmp .eq (.v 2) (.int 5)) (.ret (.call "_law_take" (.cons (.v 0) (.cons (.int 100) .nil)))) .skip) (.seq (.ite (.or (.cmp .eq (.v 2) (.int 6)) (.cmp .eq (.blt .len (.cons (.v 1) .nil)) (.int 0))) (.seq (.set 3 (.int 0)) (.seq (.loop .rng (.cons (.int 5) .nil) .nil (.n 4) (.set 3 (.bin .add (.bin .mul (.v 3) (.int 1000)) (.call "_law_take" (.cons (.v 0) (.cons (.int 1000) .nil)))))) (.ret (.v 3)))) .skip) (.ret (.blt .abs (.cons (.blt .int (.cons (.ix (.v 1) (.call "_law_take" (.cons (.v 0) (.cons (.blt .len (.cons (.v 1) .nil)) .nil)))) .nil)) .nil)))))))
def f__law_size : Fn := ⟨2, 5, b__law_size⟩
def b_law_k88 : IS := (.seq (.set 1 (.call "_law_draws" (.cons (.v 0) (.cons (.int 260) .nil)))) (.seq (.set 2 (.call "_law_full_scene" (.cons (.v 1) .nil))) (.seq (.set 3 (.call "_law_held" (.cons (.ix (.v 2) (.int 0)) (.cons (.ix (.v 2) (.int 1)) .nil)))) (.seq (.loop .rng (.cons (.int 2) .nil) .nil (.n 4) (.seq (.set 5 (.sl (.call "_law_pick" (.cons (.v 1) (.cons (.ix (.v 2) (.int 0)) .nil))) .nil (.cons (.int 2) .nil))) (.seq (.set 6 (.call "_law_sum" (.cons (.call "_law_with" (.cons (.ix (.v 2) (.int 0)) (.cons (.v 5) (.cons (.tup (.cons (.int 1) (.cons (.int 1) .nil))) .nil)))) (.cons (.v 3) .nil)))) (.seq (.set 7 (.call "_law_sum" (.cons (.call "_law_with" (.cons (.ix (.v 2) (.int 0)) (.cons (.v 5) (.cons (.tup (.cons (.int 0) (.cons (.int 1) .nil))) .nil)))) (.cons (.v 3) .nil)))) (.seq (.set 8 (.bin .md (.blt .int (.cons (.call "_law_size" (.cons (.v 1) (.cons (.v 0) .nil))) .nil)) (.bin .pow (.int 10) (.int 29)))) (.seq (.set 9 (.call "_law_share" (.cons (.v 8) (.cons (.bin .add (.bin .add (.v 8) (.int 1)) (.bin .md (.blt .int (.cons (.call "_law_size" (.cons (.v 1) (.cons (.v 0) .nil))) .nil)) (.bin .pow (.int 10) (.int 29)))) .nil)))) (.loop .val (.cons (.lst (.cons (.tup (.cons (.int 0) (.cons (.int 1) .nil))) (.cons (.v 9) (.cons (.call "_law_chance" (.cons (.v 1) .nil)) (.cons (.tup (.cons (.int 1) (.cons (.int 1) .nil))) .nil))))) .nil) .nil (.n 10) (.seq (.set 11 (.call "_law_with" (.cons (.ix (.v 2) (.int 0)) (.cons (.v 5) (.cons (.v 10) .nil))))) (.seq (.set 12 (.call "_law_plus" (.cons (.call "_law_times" (.cons (.v 10) (.cons (.v 6) .nil))) (.cons (.call "_law_times" (.cons (.call "_law_rest" (.cons (.v 10) .nil)) (.cons (.v 7) .nil))) .nil)))) (.seq (.ite (.not (.call "_law_same" (.cons (.call "chance_of" (.cons (.v 11) (.cons (.ix (.v 2) (.int 1)) .nil))) (.cons (.v 12) .nil)))) (.ret (.bl false)) .skip) (.seq (.ite (.not (.call "_law_same" (.cons (.call "chance_if" (.cons (.v 11) (.cons (.ix (.v 2) (.int 1)) (.cons (.ix (.v 5) (.int 0)) (.cons (.ix (.v 5) (.int 1)) (.cons (.int 1) .nil)))))) (.cons (.v 6) .nil)))) (.ret (.bl false)) .skip) (.ite (.not (.call "_law_same" (.cons (.call "chance_if" (.cons (.v 11) (.cons (.ix (.v 2) (.int 1)) (.cons (.ix (.v 5) (.int 0)) (.cons (.ix (.v 5) (.int 1)) (.cons (.int 0) .nil)))))) (.cons (.v 7) .nil)))) (.ret (.bl false)) .skip)))))))))))) (.ret (.bl true))))))
def f_law_k88 : Fn := ⟨1, 13, b_law_k88⟩
def b_chance_of_both : IS := (.seq (.set 3 (.lst .nil)) (.seq (.loop .val (.cons (.call "smallest_lots" (.cons (.v 0) (.cons (.v 1) .nil))) .nil) .nil (.n 4) (.loop .val (.cons (.call "smallest_lots" (.cons (.v 0) (.cons (.v 2) .nil))) .nil) .nil (.n 5) (.ex (.app 3 (.call "ordered_places" (.cons (.bin .add (.v 4) (.v 5)) .nil)))))) (.ret (.call "number_of_circuit" (.cons (.v 0) (.cons (.call "circuit_of_lots" (.cons (.call "smallest_of" (.cons (.v 3) .nil)) .nil)) .nil))))))
def f_chance_of_both : Fn := ⟨3, 6, b_chance_of_both⟩
def b_chance_given : IS := (.seq (.set 3 (.call "chance_of" (.cons (.v 0) (.cons (.v 2) .nil)))) (.seq (.ite (.cmp .eq (.ix (.v 3) (.int 0)) (.int 0)) .rais .skip) (.seq (.set 4 (.call "chance_of_both" (.cons (.v 0) (.cons (.v 1) (.cons (.v 2) .nil))))) (.ret (.call "make_share" (.cons (.bin .mul (.ix (.v 4) (.int 0)) (.ix (.v 3) (.int 1))) (.cons (.bin .mul (.ix (.v 4) (.int 1)) (.ix (.v 3) (.int 0))) .nil)))))))
def f_chance_given : Fn := ⟨3, 5, b_chance_given⟩
def b__law_pair_scene : IS := (.seq (.set 1 (.call "_law_full_scene" (.cons (.v 0) .nil))) (.seq (.set 2 (.call "_law_question" (.cons (.v 0) (.cons (.ix (.v 1) (.int 2)) (.cons (.int 0) .nil))))) (.seq (.ite (.cmp .gt (.call "_law_take" (.cons (.v 0) (.cons (.int 3) .nil))) (.int 0)) (.set 2 (.call "_law_ground" (.cons (.v 0) (.cons (.ix (.v 1) (.int 0)) .nil)))) .skip) (.ret (.lst (.cons (.ix (.v 1) (.int 0)) (.cons (.ix (.v 1) (.int 1)) (.cons (.v 2) .nil))))))))
def f__law_pair_scene : Fn := ⟨1, 3, b__law_pair_scene⟩
def b_chance_of_world : IS := (.ret (.call "product_of" (.cons (.comp .val (.cons (.v 0) .nil) .nil (.n 2) [2] (.bl true) (.ite (.cmp .isin (.sl (.v 2) .nil (.cons (.int 2) .nil)) (.v 1)) (.ix (.v 2) (.int 2)) (.call "rest_of" (.cons (.ix (.v 2) (.int 2)) .nil)))) .nil)))
def f_chance_of_world : Fn := ⟨2, 3, b_chance_of_world⟩
def b_world_with : IS := (.seq (.set 2 (.lst .nil)) (.seq (.loop .val (.cons (.v 0) .nil) .nil (.n 3) (.ite (.or (.cmp .isin (.sl (.v 3) .nil (.cons (.int 2) .nil)) (.v 1)) (.cmp .gt (.bin .mul (.int 2) (.ix (.ix (.v 3) (.int 2)) (.int 0))) (.ix (.ix (.v 3) (.int 2)) (.int 1)))) (.ex (.app 2 (.sl (.v 3) .nil (.cons (.int 2) .nil)))) .skip)) (.ret (.blt .tuple (.cons (.v 2) .nil)))))
def f_world_with : Fn := ⟨2, 4, b_world_with⟩
def b_best_world : IS := (.seq (.set 2 .non) (.seq (.set 3 (.tup (.cons (.int 0) (.cons (.int 1) .nil)))) (.seq (.loop .val (.cons (.call "smallest_lots" (.cons (.v 0) (.cons (.v 1) .nil))) .nil) .nil (.n 4) (.seq (.set 5 (.call "world_with" (.cons (.v 0) (.cons (.v 4) .nil)))) (.seq (.set 6 (.call "chance_of_world" (.cons (.v 0) (.cons (.v 5) .nil)))) (.ite (.or (.isn (.v 2)) (.cmp .gt (.call "compare_shares" (.cons (.v 6) (.cons (.v 3) .nil))) (.int 0))) (.seq (.set 2 (.v 5)) (.set 3 (.v 6))) .skip)))) (.ret (.v 2)))))
def f_best_world : Fn := ⟨2, 7, b_best_world⟩
def b__law_is_best : IS := (.seq (.set 3 (.call "_law_worlds" (.cons (.v 0) .nil))) (.seq (.ite (.cmp .nin (.bl true) (.v 1)) (.ret (.isn (.v 2))) .skip) (.seq (.set 4 (.comp .rng (.cons (.blt .len (.cons (.v 3) .nil)) .nil) .nil (.n 5) [5] (.ix (.v 1) (.v 5)) (.ix (.ix (.v 3) (.v 5)) (.int 1)))) (.seq (.loop .rng (.cons (.blt .len (.cons (.v 3) .nil)) .nil) .nil (.n 5) (.ite (.and (.ix (.v 1) (.v 5)) (.call "_law_same" (.cons (.v 2) (.cons (.ix (.ix (.v 3) (.v 5)) (.int 0)) .nil)))) (.ret (.cmp .nin (.bl true) (.comp .val (.cons (.v 4) .nil) .nil (.n 6) [6] (.bl true) (.call "_law_less" (.cons (.ix (.ix (.v 3) (.v 5)) (.int 1)) (.cons (.v 6) .nil)))))) .skip)) (.ret (.bl false))))))
def f__law_is_best : Fn := ⟨3, 7, b__law_is_best⟩
def b_law_k90 : IS := (.seq (.set 1 (.call "_law_draws" (.cons (.v 0) (.cons (.int 340) .nil)))) (.seq (.set 2 (.call "_law_scene" (.cons (.v 1) .nil))) (.seq (.set 3 (.call "_law_scene" (.cons (.v 1) .nil))) (.seq (.set 4 (.call "_law_held" (.cons (.ix (.v 2) (.int 0)) (.cons (.ix (.v 2) (.int 1)) .nil)))) (.seq (.set 5 (.call "_law_held" (.cons (.ix (.v 3) (.int 0)) (.cons (.ix (.v 3) (.int 1)) .nil)))) (.seq (.loop .val (.cons (.lst (.cons (.ix (.v 2) (.int 0)) (.cons (.call "_law_turned" (.cons (.v 1) (.cons (.ix (.v 2) (.int 0)) .nil))) (.cons (.ix (.v 2) (.int 0)) .nil)))) .nil) .nil (.n 6) (.seq (.ite (.not (.call "_law_is_best" (.cons (.v 6) (.cons (.v 4) (.cons (.call "best_world" (.cons (.v 6) (.cons (.ix (.v 2) (.int 1)) .nil))) .nil))))) (.ret (.bl false)) .skip) (.ite (.not (.call "_law_is_best" (.cons (.ix (.v 3) (.int 0)) (.cons (.v 5) (.cons (.call "best_world" (.cons (.ix (.v 3) (.int 0)) (.cons (.ix (.v 3) (.int 1)) .nil))) .nil))))) (.ret (.bl false)) .skip))) (.ret (.bl true))))))))
def f_law_k90 : Fn := ⟨1, 7, b_law_k90⟩
def b_law_k91 : IS := (.seq (.set 1 (.call "_law_draws" (.cons (.v 0) (.cons (.int 300) .nil)))) (.seq (.set 2 (.call "_law_pair_scene" (.cons (.v 1) .nil))) (.seq (.set 3 (.comp .val (.cons (.sl (.v 2) (.cons (.int 1) .nil) .nil) .nil) .nil (.n 7) [7] (.bl true) (.call "_law_held" (.cons (.ix (.v 2) (.int 0)) (.cons (.v 7) .nil))))) (.seq (.loop .val (.cons (.lst (.cons (.ix (.v 2) (.int 0)) (.cons (.call "_law_turned" (.cons (.v 1) (.cons (.ix (.v 2) (.int 0)) .nil))) .nil))) .nil) .nil (.n 4) (.seq (.set 5 (.comp .val (.cons (.v 3) .nil) .nil (.n 11) [11] (.bl true) (.call "_law_sum" (.cons (.v 4) (.cons (.v 11) .nil))))) (.loop .rng (.cons (.int 2) .nil) .nil (.n 6) (.seq (.set 7 (.ix (.v 2) (.bin .add (.int 1) (.v 6)))) (.seq (.set 8 (.ix (.v 2) (.bin .sub (.int 2) (.v 6)))) (.seq (.ite (.not (.call "_law_same" (.cons (.call "chance_of" (.cons (.v 4) (.cons (.v 7) .nil))) (.cons (.ix (.v 5) (.v 6)) .nil)))) (.ret (.bl false)) .skip) (.seq (.set 9 (.call "chance_of_both" (.cons (.v 4) (.cons (.v 7) (.cons (.v 8) .nil))))) (.seq (.ite (.or (.not (.call "_law_is_chance" (.cons (.v 9) .nil))) (.call "_law_less" (.cons (.v 9) (.cons (.call "_law_times" (.cons (.ix (.v 5) (.int 0)) (.cons (.ix (.v 5) (.int 1)) .nil))) .nil)))) (.ret (.bl false)) .skip) (.ite (.cmp .gt (.ix (.ix (.v 5) (.bin .sub (.int 1) (.v 6))) (.int 0)) (.int 0)) (.seq (.set 10 (.call "chance_given" (.cons (.v 4) (.cons (.v 7) (.cons (.v 8) .nil))))) (.ite (.or (.not (.call "_law_is_chance" (.cons (.v 10) .nil))) (.call "_law_less" (.cons (.v 10) (.cons (.ix (.v 5) (.v 6)) .nil)))) (.ret (.bl false)) .skip)) .skip))))))))) (.ret (.bl true))))))
def f_law_k91 : Fn := ⟨1, 12, b_law_k91⟩
end RC.Lb
end LB
section RP1
set_option Elab.async false
set_option linter.all false
set_option maxRecDepth 100000
set_option autoImplicit false
set_option maxHeartbeats 4000000
/-! RP1: what an interpreter's run answers, as a proposition; one equation for each form. The equations are no defeq-rules for simp (their proofs stand in brackets), and what is to come (Q) is a fixed argument, so simp does not enter it. -/
namespace RC.P
open PySem

inductive DepW {α : Type} (Q : α → Rho → Prop) : Type
  | mk
def wp0 {α : Type} (x : Rs α) (Q : α → Rho → Prop) : Prop := match x with
  | .ok a ρ => Q a ρ
  | .ex _ _ => False
  | .no => False
def wp {α : Type} (x : Rs α) (Q : α → Rho → Prop) (t : DepW Q := .mk) : Prop := wp0 x Q
inductive DepO {α : Type} (Q : α → Prop) : Type
  | mk
def wo0 {α : Type} (x : Option α) (Q : α → Prop) : Prop := match x with
  | some a => Q a
  | none => False
def wo {α : Type} (x : Option α) (Q : α → Prop) (t : DepO Q := .mk) : Prop := wo0 x Q
section
variable {α β : Type} {x y : Rs α} {f : α → Rho → Rs β} {Q : α → Rho → Prop} {Q2 : β → Rho → Prop} {a : α} {ρ : Rho} {e : D} {o : Option α} {P : α → Prop} {P2 : β → Prop} {t : DepW Q} {u : DepO P}
theorem wp_0 : wp x Q t = wp0 x Q := rfl
theorem wo_0 : wo o P u = wo0 o P := rfl
theorem wo0_some : wo0 (some a) P = P a := rfl
theorem wo0_none : wo0 (none : Option α) P = False := rfl
theorem wo0_map {g : α → β} : wo0 (o.map g) P2 = wo0 o (fun a => P2 (g a)) := by cases o <;> rfl
theorem wo0_bind {g : α → Option β} : wo0 (o.bind g) P2 = wo0 o (fun a => wo0 (g a) P2) := by cases o <;> rfl
theorem wp0_ok : wp0 (.ok a ρ) Q = Q a ρ := rfl
theorem wp0_no : wp0 (.no : Rs α) Q = False := rfl
theorem wp0_exn : wp0 (.ex e ρ : Rs α) Q = False := rfl
theorem wp0_bnd : wp0 (x.bnd f) Q2 = wp0 x (fun a ρ => wp0 (f a ρ) Q2) := by cases x <;> rfl
theorem wp0_ite {c : Prop} [Decidable c] : wp0 (if c then x else y) Q = if c then wp0 x Q else wp0 y Q := by
  by_cases h : c <;> simp [h]
theorem wp0_opt : wp0 (opt o ρ) Q = wo0 o (fun a => Q a ρ) := by cases o <;> rfl
theorem ite_f {c p : Prop} [Decidable c] : (if c then p else False) = (c ∧ p) := by
  by_cases h : c <;> simp [h]
theorem ite_f' {b : Bool} {p : Prop} : (if (!b) = true then False else p) = (b = true ∧ p) := by
  cases b <;> simp
theorem wp_ext {R : α → Rho → Prop} (h : ∀ a ρ, Q a ρ = R a ρ) : wp x Q = wp x R := by rw [show Q = R from funext fun a => funext fun ρ => h a ρ]
theorem wo_ext {R : α → Prop} (h : ∀ a, P a = R a) : wo o P = wo o R := by rw [show P = R from funext fun a => h a]
end
section
variable {α β : Type} {o : Option α} {Q R : α → Prop} {Q2 : β → Prop} {a : α}
@[simp ↓] theorem wo_some : wo (some a) Q = Q a := (rfl)
@[simp ↓] theorem wo_none : wo (none : Option α) Q = False := (rfl)
@[simp ↓] theorem wo_map {g : α → β} : wo (o.map g) Q2 = wo o (fun a => Q2 (g a)) := by cases o <;> rfl
@[simp ↓] theorem wo_bind {g : α → Option β} : wo (o.bind g) Q2 = wo o (fun a => wo (g a) Q2) := by cases o <;> rfl
@[simp ↓] theorem wo_ite {c : Prop} [Decidable c] : wo (if c then o else none) Q = (c ∧ wo o Q) := by
  by_cases h : c <;> simp [h]
@[simp ↓] theorem wo_ite2 {c : Prop} [Decidable c] : wo (if c then none else o) Q = (¬c ∧ wo o Q) := by
  by_cases h : c <;> simp [h]
theorem ite_i {c A B : Prop} [Decidable c] (h : c → A) (k : ¬c → B) : if c then A else B := by
  by_cases g : c
  · rw [if_pos g]; exact h g
  · rw [if_neg g]; exact k g
theorem wo_mono (h : wo o Q) (k : ∀ a, Q a → R a) : wo o R := by cases o <;> first | exact k _ h | cases h
theorem wo_of (h : wo o Q) : ∃ a, o = some a ∧ Q a := by
  cases o with
  | none => cases h
  | some a => exact ⟨a, rfl, h⟩
end
section
variable {α β : Type} {x y : Rs α} {f : α → Rho → Rs β} {Q R : α → Rho → Prop} {Q2 : β → Rho → Prop} {a : α} {ρ : Rho} {e : D} {o : Option α}
@[simp ↓] theorem wp_ok : wp (.ok a ρ) Q = Q a ρ := (rfl)
@[simp ↓] theorem wp_no : wp (.no : Rs α) Q = False := (rfl)
@[simp ↓] theorem wp_exn : wp (.ex e ρ : Rs α) Q = False := (rfl)
@[simp ↓] theorem wp_bnd : wp (x.bnd f) Q2 = wp x (fun a ρ => wp (f a ρ) Q2) := by cases x <;> rfl
@[simp ↓] theorem wp_ite {c : Prop} [Decidable c] : wp (if c then x else y) Q = if c then wp x Q else wp y Q := by
  by_cases h : c <;> simp [h]
@[simp ↓] theorem wp_opt : wp (opt o ρ) Q = wo o (fun a => Q a ρ) := by cases o <;> rfl
theorem wp_mono (h : wp x Q) (k : ∀ a ρ, Q a ρ → R a ρ) : wp x R := by cases x <;> first | exact k _ _ h | cases h
theorem wp_of {P : α → Rho → Prop} (h : wp x P) : ∃ a ρ, x = .ok a ρ ∧ P a ρ := by
  cases x with
  | ok a ρ => exact ⟨a, ρ, rfl, h⟩
  | ex e ρ => cases h
  | no => cases h
theorem wp_eq {P : α → Rho → Prop} {ρ : Rho} {a : α} (h : x = .ok a ρ) (p : P a ρ) : wp x P := by rw [h]; exact p
end

/-- what a call answers -/
inductive DepC (Q : W → List En → Prop) : Type
  | mk
def cSat (r : Option (W × List En)) (P : W → List En → Prop) (t : DepC P := .mk) : Prop := match r with
  | some (w, os) => P w os
  | none => False
def wpK (w : W) (os : List En) (ws : List W) (ρ : Rho) (Q : List W → Rho → Prop) (t : DepW Q := .mk) : Prop := match w with
  | .al _ => False
  | w => wo (outE ws os ρ) fun ρ1 => Q [w] ρ1
def wpC (r : Option (W × List En)) (ws : List W) (ρ : Rho) (Q : List W → Rho → Prop) (t : DepW Q := .mk) : Prop := cSat r fun w os => wpK w os ws ρ Q
section
variable {r : Option (W × List En)} {w : W} {d : D} {os : List En} {ws : List W} {ρ : Rho} {Q : List W → Rho → Prop} {P R : W → List En → Prop}
@[simp ↓] theorem cSat_some : cSat (some (w, os)) P = P w os := (rfl)
@[simp ↓] theorem cSat_none : cSat none P = False := (rfl)
theorem cSat_mono (h : cSat r P) (k : ∀ w os, P w os → R w os) : cSat r R := by
  cases r with
  | none => cases h
  | some x => exact k _ _ h
theorem cSat_ex (h : cSat r P) : ∃ w os, r = some (w, os) ∧ P w os := by
  cases r with
  | none => cases h
  | some x => exact ⟨_, _, rfl, h⟩
theorem cSat_of (h : r = some (w, os)) (p : P w os) : cSat r P := by
  rw [h]; exact p
theorem eq_of_cSat (h : cSat r fun w' os' => w' = w ∧ os' = os) : r = some (w, os) := by
  obtain ⟨w', os', h1, rfl, rfl⟩ := cSat_ex h
  exact h1
/-- what a call answers, told by an index -/
theorem ret_of {ι : Type} {wf : ι → W} {of : ι → List En} {p : ι → Prop} (h : ∀ Z : W → List En → Prop, (∀ i, p i → Z (wf i) (of i)) → cSat r Z) : ∃ i, p i ∧ r = some (wf i, of i) := by
  obtain ⟨w, os, e, i, hp, e1, e2⟩ := cSat_ex (h (fun w' os' => ∃ i, p i ∧ w' = wf i ∧ os' = of i) fun i hp => ⟨i, hp, rfl, rfl⟩)
  exact ⟨i, hp, by rw [e, e1, e2]⟩
theorem wpC_of (h : cSat r P) (k : ∀ w os, P w os → wpK w os ws ρ Q) : wpC r ws ρ Q := cSat_mono h k
@[simp ↓] theorem wpC_some : wpC (some (w, os)) ws ρ Q = wpK w os ws ρ Q := (rfl)
@[simp ↓] theorem wpK_imm : wpK (.imm d) os ws ρ Q = wo (outE ws os ρ) fun ρ1 => Q [.imm d] ρ1 := (rfl)
@[simp ↓] theorem wpK_fr : wpK (.fr d) os ws ρ Q = wo (outE ws os ρ) fun ρ1 => Q [.fr d] ρ1 := (rfl)
@[simp ↓] theorem wp_call {cal : String → List En → Option (W × List En)} {f : String} : wp (callW cal f ws ρ) Q = wp (preW ws ρ) fun ws ρ => (als ws).Nodup ∧ wo (argE ρ ws) fun es => wpC (cal f es) ws ρ Q := by
  unfold callW
  rw [wp_bnd]
  cases preW ws ρ with
  | ex e ρ => rfl
  | no => rfl
  | ok ws ρ =>
    rw [wp_ok, wp_ok]
    by_cases h : (als ws).Nodup
    · rw [if_pos h]
      cases h1 : argE ρ ws with
      | none => simp [wp, h, wo]
      | some es =>
        simp only [h, true_and, wo_some]
        cases h2 : cal f es with
        | none => simp [wp, wpC, cSat]
        | some x =>
          obtain ⟨w, os⟩ := x
          cases w with
          | al i => simp [wp, wpC, cSat, wpK]
          | imm d =>
            simp only [wpC, cSat, wpK]
            cases outE ws os ρ <;> rfl
          | fr d =>
            simp only [wpC, cSat, wpK]
            cases outE ws os ρ <;> rfl
    · rw [if_neg h]; simp [wp, h]
end

/-! ### slots -/
def okS : Option En → Bool
  | some e => !e.lk && (match e.k with
    | .imm => true
    | .own => true
    | _ => false)
  | none => true
def hidS : Option En → Bool
  | some e => !e.lk && (match e.k with
    | .imm => true
    | _ => false)
  | none => true
section
variable {ρ : Rho} {x : Option En} {i : Nat} {d : D} {l : Bool}
theorem lkp_eq (ρ : Rho) (i : Nat) : lkp ρ i = (ρ[i]?).join := by
  unfold lkp
  cases ρ[i]? <;> rfl
@[simp] theorem lkp0 : lkp (x :: ρ) 0 = x := (rfl)
@[simp] theorem lkpS : lkp (x :: ρ) (i + 1) = lkp ρ i := (rfl)
@[simp] theorem may_eq : mayStore ρ i = okS (lkp ρ i) := by
  unfold mayStore okS
  cases lkp ρ i <;> rfl
@[simp] theorem okS_imm : okS (some ⟨.imm, false, d⟩) = true := (rfl)
@[simp] theorem okS_own : okS (some ⟨.own, false, d⟩) = true := (rfl)
@[simp] theorem okS_none : okS none = true := (rfl)
@[simp] theorem ow_imm : En.ow ⟨.imm, l, d⟩ = false := (rfl)
@[simp] theorem ow_own : En.ow ⟨.own, l, d⟩ = true := (rfl)
@[simp] theorem ow_bor : En.ow ⟨.bor, l, d⟩ = true := (rfl)
@[simp] theorem ow_fb : En.ow ⟨.fb, l, d⟩ = false := (rfl)
@[simp] theorem der_imm : der ρ (.imm d) = some d := (rfl)
@[simp] theorem der_fr : der ρ (.fr d) = some d := (rfl)
@[simp] theorem der_al : der ρ (.al i) = (lkp ρ i).map (·.d) := (rfl)
@[simp] theorem frzK_own : frzK .own = .imm := (rfl)
@[simp] theorem frzK_bor : frzK .bor = .fb := (rfl)
@[simp] theorem frzK_imm : frzK .imm = .imm := (rfl)
@[simp] theorem frzK_fb : frzK .fb = .fb := (rfl)
@[simp] theorem hidS_imm : hidS (some ⟨.imm, false, d⟩) = true := (rfl)
@[simp] theorem hidS_none : hidS none = true := (rfl)
@[simp] theorem wipeR_nil : wipeR ρ [] = ρ := (rfl)
@[simp] theorem wipeR_cons {v : Nat} {vs : List Nat} : wipeR ρ (v :: vs) = (wipeR ρ vs).set v none := (rfl)
@[simp] theorem back_nil {ρ1 : Rho} : back ρ ρ1 [] = ρ1 := (rfl)
@[simp] theorem back_cons {ρ1 : Rho} {v : Nat} {vs : List Nat} : back ρ ρ1 (v :: vs) = (back ρ ρ1 vs).set v (lkp ρ v) := by rw [lkp_eq]; rfl
@[simp] theorem hidOk_nil : hidOk ρ [] = true := (rfl)
@[simp] theorem hidOk_cons {v : Nat} {vs : List Nat} : hidOk ρ (v :: vs) = (hidS (lkp ρ v) && hidOk ρ vs) := by
  unfold hidOk
  rw [List.all_cons]
  congr 1
end

/-! ### helpers -/
def boolO : D → Option Bool
  | .bool b => some b
  | _ => none
def intO : D → Option Int
  | .int i => some i
  | _ => none
section
variable {α : Type} {Q : α → Rho → Prop} {ρ : Rho} {x y w : W} {d : D} {i : Nat} {ws : List W}
@[simp] theorem boolO_b {b : Bool} : boolO (.bool b) = some b := (rfl)
@[simp] theorem intO_i {b : Int} : intO (.int b) = some b := (rfl)
@[simp ↓] theorem wp_one {k : W → Rho → Rs α} : wp (one k [w] ρ) Q = wp (k w ρ) Q := (rfl)
@[simp ↓] theorem wp_two {k : D → D → Rho → Rs α} : wp (two k [x] [y] ρ) Q = wo (der ρ x) fun d => wo (der ρ y) fun e => wp (k d e ρ) Q := by
  unfold two
  cases h : der ρ x with
  | none => simp only [h, wo_none]; rfl
  | some d => 
    cases k : der ρ y with
    | none => simp only [h, k, wo_none, wo_some]; rfl
    | some e => simp only [h, k, wo_some]
@[simp ↓] theorem wp_asB {Q : Bool → Rho → Prop} : wp (asB [w] ρ) Q = wo (der ρ w) fun d => wo (boolO d) fun b => Q b ρ := by
  show wp (match der ρ w with
    | some (.bool b) => .ok b ρ
    | _ => .no) Q = _
  cases der ρ w with
  | none => rfl
  | some d => cases d <;> rfl
@[simp ↓] theorem wp_oneD {k : D → Rho → Rs α} : wp (oneD k [w] ρ) Q = wo (der ρ w) fun d => wp (k d ρ) Q := by
  unfold oneD
  cases h : der ρ w with
  | none => simp only [h, wo_none]; rfl
  | some e => simp only [h, wo_some]
@[simp ↓] theorem wp_intP0 {Q : Option Int → Rho → Prop} : wp (intP [] ρ) Q = Q none ρ := (rfl)
@[simp ↓] theorem wp_intP1 {Q : Option Int → Rho → Prop} : wp (intP [w] ρ) Q = wo (der ρ w) fun d => wo (intO d) fun i => Q (some i) ρ := by
  show wp (match der ρ w with
    | some (.int i) => .ok (some i) ρ
    | _ => .no) Q = _
  cases der ρ w with
  | none => rfl
  | some d => cases d <;> rfl
@[simp ↓] theorem wp_frz_imm {Q : D → Rho → Prop} : wp (frzW (.imm d) ρ) Q = Q d ρ := (rfl)
@[simp ↓] theorem wp_frz_fr {Q : D → Rho → Prop} : wp (frzW (.fr d) ρ) Q = Q d ρ := (rfl)
@[simp ↓] theorem wp_frz_al {Q : D → Rho → Prop} : wp (frzW (.al i) ρ) Q = wo (lkp ρ i) fun e => Q e.d (ρ.set i (some { e with k := frzK e.k })) := by
  unfold frzW
  cases h : lkp ρ i with
  | none => simp only [h, wo_none]; rfl
  | some e => simp only [h, wo_some]; rfl
@[simp ↓] theorem wp_frzs0 {Q : List D → Rho → Prop} : wp (frzs [] ρ) Q = Q [] ρ := (rfl)
@[simp ↓] theorem wp_frzs {Q : List D → Rho → Prop} : wp (frzs (w :: ws) ρ) Q = wp (frzW w ρ) fun d ρ1 => wp (frzs ws ρ1) fun ds ρ2 => Q (d :: ds) ρ2 := by
  simp only [frzs, wp_0, wo_0, wp0_bnd, wp0_ok, wp0_no, wp0_opt, wo0_map, wo0_bind, wp0_ite, wo0_some, wo0_none, ite_f, ite_f']
@[simp] theorem ders_nil : ders ρ [] = some [] := (rfl)
@[simp] theorem ders_cons : ders ρ (w :: ws) = (der ρ w).bind fun d => (ders ρ ws).map (d :: ·) := (rfl)
def lkO (ρ : Rho) (i : Nat) (b : Bool) : Option En → Rho
  | some e => ρ.set i (some { e with lk := b })
  | none => ρ
@[simp] theorem lkO_some {b : Bool} {e : En} : lkO ρ i b (some e) = ρ.set i (some { e with lk := b }) := (rfl)
@[simp] theorem lock_imm : lock ρ (.imm d) = ρ := (rfl)
@[simp] theorem lock_fr : lock ρ (.fr d) = ρ := (rfl)
@[simp] theorem lock_al : lock ρ (.al i) = lkO ρ i true (lkp ρ i) := by
  show (match lkp ρ i with
    | some e => ρ.set i (some { e with lk := true })
    | none => ρ) = _
  cases lkp ρ i <;> rfl
@[simp] theorem unlock_imm {b : Bool} : unlock ρ (.imm d) b = ρ := (rfl)
@[simp] theorem unlock_fr {b : Bool} : unlock ρ (.fr d) b = ρ := (rfl)
@[simp] theorem unlock_al {b : Bool} : unlock ρ (.al i) b = lkO ρ i b (lkp ρ i) := by
  show (match lkp ρ i with
    | some e => ρ.set i (some { e with lk := b })
    | none => ρ) = _
  cases lkp ρ i <;> rfl
@[simp] theorem wasLk_imm : wasLk ρ (.imm d) = false := (rfl)
@[simp] theorem wasLk_fr : wasLk ρ (.fr d) = false := (rfl)
def lkOf : Option En → Bool
  | some e => e.lk
  | none => false
@[simp] theorem lkOf_some {e : En} : lkOf (some e) = e.lk := (rfl)
@[simp] theorem wasLk_al : wasLk ρ (.al i) = lkOf (lkp ρ i) := by
  show (match lkp ρ i with
    | some e => e.lk
    | none => false) = _
  cases lkp ρ i <;> rfl
@[simp ↓] theorem wp_pre0 {Q : List W → Rho → Prop} : wp (preW [] ρ) Q = Q [] ρ := (rfl)
@[simp ↓] theorem wp_pre_imm {Q : List W → Rho → Prop} : wp (preW (.imm d :: ws) ρ) Q = wp (preW ws ρ) fun us ρ2 => Q (.imm d :: us) ρ2 := by
  show wp ((preW ws ρ).bnd _) Q = _
  simp only [wp_0, wo_0, wp0_bnd, wp0_ok, wp0_no, wp0_opt, wo0_map, wo0_bind, wp0_ite, wo0_some, wo0_none, ite_f, ite_f']
@[simp ↓] theorem wp_pre_fr {Q : List W → Rho → Prop} : wp (preW (.fr d :: ws) ρ) Q = wp (preW ws ρ) fun us ρ2 => Q (.fr d :: us) ρ2 := by
  show wp ((preW ws ρ).bnd _) Q = _
  simp only [wp_0, wo_0, wp0_bnd, wp0_ok, wp0_no, wp0_opt, wo0_map, wo0_bind, wp0_ite, wo0_some, wo0_none, ite_f, ite_f']
@[simp ↓] theorem wp_pre_al {Q : List W → Rho → Prop} : wp (preW (.al i :: ws) ρ) Q = wo (lkp ρ i) fun e => if e.lk then wp (preW ws (ρ.set i (some { e with k := frzK e.k }))) fun us ρ2 => Q (.imm e.d :: us) ρ2 else wp (preW ws ρ) fun us ρ2 => Q (.al i :: us) ρ2 := by
  show wp (match lkp ρ i with
      | some e => if e.lk then (frzW (.al i) ρ).bnd fun d ρ1 => (preW ws ρ1).bnd fun us ρ2 => .ok (.imm d :: us) ρ2 else (preW ws ρ).bnd fun us ρ2 => .ok (.al i :: us) ρ2
      | none => .no) Q = _
  cases h : lkp ρ i with
  | none => rfl
  | some e =>
    simp only [wo_some, wp_ite, wp_bnd, wp_frz_al, h, wp_ok]
    simp only [wp_0, wo_0, wp0_bnd, wp0_ok, wp0_no, wp0_opt, wo0_map, wo0_bind, wp0_ite, wo0_some, wo0_none, ite_f, ite_f']
@[simp] theorem argE_nil : argE ρ [] = some [] := (rfl)
@[simp] theorem argE_cons : argE ρ (w :: ws) = (arg1 ρ w).bind fun e => (argE ρ ws).map (e :: ·) := (rfl)
@[simp] theorem arg1_imm : arg1 ρ (.imm d) = some ⟨.imm, false, d⟩ := (rfl)
@[simp] theorem arg1_fr : arg1 ρ (.fr d) = some ⟨.imm, false, d⟩ := (rfl)
@[simp] theorem arg1_al : arg1 ρ (.al i) = (lkp ρ i).bind fun e => if e.ow && !e.lk then some ⟨.bor, false, e.d⟩ else none := (rfl)
@[simp] theorem outE_nil : outE [] [] ρ = some ρ := (rfl)
@[simp] theorem outE_imm {o : En} {os : List En} : outE (.imm d :: ws) (o :: os) ρ = outE ws os ρ := (rfl)
@[simp] theorem outE_fr {o : En} {os : List En} : outE (.fr d :: ws) (o :: os) ρ = outE ws os ρ := (rfl)
@[simp] theorem outE_bor {os : List En} {l : Bool} : outE (.al i :: ws) (⟨.bor, l, d⟩ :: os) ρ = (lkp ρ i).bind fun e => outE ws os (ρ.set i (some { e with d := d })) := by
  show (match lkp ρ i with
      | some e => outE ws os (ρ.set i (some { e with d := d }))
      | none => none) = _
  cases lkp ρ i <;> rfl
@[simp] theorem outE_fb {os : List En} {l : Bool} : outE (.al i :: ws) (⟨.fb, l, d⟩ :: os) ρ = (lkp ρ i).bind fun e => outE ws os (ρ.set i (some { e with k := frzK e.k, d := d })) := by
  show (match lkp ρ i with
      | some e => outE ws os (ρ.set i (some { e with k := frzK e.k, d := d }))
      | none => none) = _
  cases lkp ρ i <;> rfl
@[simp] theorem als_nil : als [] = [] := (rfl)
@[simp] theorem als_al : als (.al i :: ws) = i :: als ws := (rfl)
@[simp] theorem als_imm : als (.imm d :: ws) = als ws := (rfl)
@[simp] theorem als_fr : als (.fr d :: ws) = als ws := (rfl)
@[simp] theorem seqD_l {ds : List D} : seqD (.list ds) = some ds := (rfl)
@[simp] theorem seqD_t {ds : List D} : seqD (.tuple ds) = some ds := (rfl)
@[simp ↓] theorem wp_srcV {Q : List D × W → Rho → Prop} : wp (srcW .val [w] ρ) Q = wo (der ρ w) fun d => wo (seqD d) fun ds => Q (ds, w) ρ := by
  show wp (match der ρ w with
      | some d => opt ((seqD d).map fun ds => (ds, w)) ρ
      | none => .no) Q = _
  cases der ρ w with
  | none => rfl
  | some d => simp only [wp_0, wo_0, wp0_bnd, wp0_ok, wp0_no, wp0_opt, wo0_map, wo0_bind, wp0_ite, wo0_some, wo0_none, ite_f, ite_f']
@[simp ↓] theorem wp_srcR {Q : List D × W → Rho → Prop} : wp (srcW .rng ws ρ) Q = wp (frzs ws ρ) fun ds ρ1 => wo (srcD .rng ds) fun items => Q (items, W.imm .none) ρ1 := by
  show wp ((frzs ws ρ).bnd _) Q = _
  simp only [wp_0, wo_0, wp0_bnd, wp0_ok, wp0_no, wp0_opt, wo0_map, wo0_bind, wp0_ite, wo0_some, wo0_none, ite_f, ite_f']
@[simp ↓] theorem wp_srcZ {Q : List D × W → Rho → Prop} : wp (srcW .zip ws ρ) Q = wp (frzs ws ρ) fun ds ρ1 => wo (srcD .zip ds) fun items => Q (items, W.imm .none) ρ1 := by
  show wp ((frzs ws ρ).bnd _) Q = _
  simp only [wp_0, wo_0, wp0_bnd, wp0_ok, wp0_no, wp0_opt, wo0_map, wo0_bind, wp0_ite, wo0_some, wo0_none, ite_f, ite_f']
@[simp] theorem srcD_rng {n : Int} : srcD .rng [.int n] = if -(2 ^ 62) ≤ n ∧ n < 2 ^ 62 then some ((List.range n.toNat).map fun k => .int (k : Nat)) else none := (rfl)
@[simp] theorem srcD_zipL {xs ys : List D} : srcD .zip [.list xs, .list ys] = some ((xs.zip ys).map fun p => .tuple [p.1, p.2]) := (rfl)
@[simp] theorem srcD_zipT {xs ys : List D} : srcD .zip [.tuple xs, .tuple ys] = some ((xs.zip ys).map fun p => .tuple [p.1, p.2]) := (rfl)
@[simp] theorem asg_n : asg (.n i) [d] ρ = if okS (lkp ρ i) && decide (i < ρ.length) then some (ρ.set i (some ⟨.imm, false, d⟩)) else none := by
  rw [← may_eq]; rfl
@[simp] theorem asg_tp {t : Tg} {ds : List D} : asg (.tp t) [.tuple ds] ρ = asg t ds ρ := by simp [asg]
@[simp] theorem asg_nl : asg .nl [] ρ = some ρ := (rfl)
@[simp] theorem asg_cs {t u : Tg} {ds : List D} : asg (.cs t u) (d :: ds) ρ = (asg t [d] ρ).bind fun ρ1 => asg u ds ρ1 := by simp [asg]
@[simp ↓] theorem wp_chg {f : D → Option (D × α)} : wp (chg i f ρ) Q = wo (lkp ρ i) fun e => (e.ow && !e.lk) = true ∧ wo (f e.d) fun da => Q da.2 (ρ.set i (some { e with d := da.1 })) := by
  unfold chg
  cases lkp ρ i with
  | none => rfl
  | some e =>
    simp only [wo_some]
    by_cases h : (e.ow && !e.lk) = true
    · rw [if_pos h]
      simp only [h, true_and]
      cases f e.d <;> rfl
    · rw [if_neg h]
      simp [wp, h]
def isLst : D → Bool
  | .list _ => true
  | _ => false
@[simp] theorem isLst_l {ds : List D} : isLst (.list ds) = true := (rfl)
def lstO : Option En → Bool
  | some e => e.ow && isLst e.d
  | none => false
@[simp] theorem lstO_some {e : En} : lstO (some e) = (e.ow && isLst e.d) := (rfl)
def isDct : D → Bool
  | .dict _ => true
  | _ => false
@[simp] theorem isDct_d {ds : List (D × D)} : isDct (.dict ds) = true := (rfl)
def dctO : Option En → Bool
  | some e => e.ow && isDct e.d
  | none => false
@[simp] theorem dctO_some {e : En} : dctO (some e) = (e.ow && isDct e.d) := (rfl)
@[simp] theorem hasD_eq : hasD i ρ = dctO (lkp ρ i) := by
  unfold hasD dctO
  cases lkp ρ i with
  | none => rfl
  | some e => 
    cases e with
    | mk k l d => cases d <;> rfl
@[simp] theorem hasL_eq : hasL i ρ = lstO (lkp ρ i) := by
  unfold hasL lstO
  cases lkp ρ i with
  | none => rfl
  | some e => 
    cases e with
    | mk k l d => cases d <;> rfl
end

/-! ### expressions -/
section
variable {cal : String → List En → Option (W × List En)} {ρ : Rho} {a b c e es r : IE} {i : Nat} {Q : List W → Rho → Prop}
def negD : D → Option D
  | .int i => some (.int (-i))
  | _ => none
def isnD : D → Bool
  | .none => true
  | _ => false
def bitsO : D → Option D
  | .int i => some (.int (bitLen i))
  | _ => none
@[simp ↓] theorem ev_v : wp (ev cal (.v i) ρ) Q = wo (lkp ρ i) fun e => Q [if e.ow then .al i else .imm e.d] ρ := by
  show wp (match lkp ρ i with
    | some e => if e.ow then .ok [.al i] ρ else .ok [.imm e.d] ρ
    | none => .no) Q = _
  cases lkp ρ i with
  | none => rfl
  | some e =>
    simp only [wo_some]
    by_cases h : e.ow = true <;> simp [h]
@[simp ↓] theorem ev_non : wp (ev cal .non ρ) Q = Q [.imm .none] ρ := (rfl)
@[simp ↓] theorem ev_bl {b : Bool} : wp (ev cal (.bl b) ρ) Q = Q [.imm (.bool b)] ρ := (rfl)
@[simp ↓] theorem ev_int {i : Int} : wp (ev cal (.int i) ρ) Q = Q [.imm (.int i)] ρ := (rfl)
@[simp ↓] theorem ev_str {s : String} : wp (ev cal (.str s) ρ) Q = Q [.imm (.str (Str.ofString s))] ρ := (rfl)
@[simp ↓] theorem ev_nil : wp (ev cal .nil ρ) Q = Q [] ρ := (rfl)
@[simp ↓] theorem ev_nild : wp (ev cal .nild ρ) Q = Q [.fr (.dict [])] ρ := (rfl)
@[simp ↓] theorem ev_cons : wp (ev cal (.cons a r) ρ) Q = wp (ev cal a ρ) fun ws ρ1 => wp (one (fun w ρ1 => (ev cal r ρ1).bnd fun us ρ2 => .ok (w :: us) ρ2) ws ρ1) Q := by
  simp only [ev, wp_0, wo_0, wp0_bnd, wp0_ok, wp0_no, wp0_opt, wo0_map, wo0_bind, wp0_ite, wo0_some, wo0_none, ite_f, ite_f']
@[simp ↓] theorem ev_tup : wp (ev cal (.tup es) ρ) Q = wp (ev cal es ρ) fun ws ρ1 => wp (frzs ws ρ1) fun ds ρ2 => ds.length ≤ line ∧ Q [.imm (.tuple ds)] ρ2 := by
  simp only [ev, wp_0, wo_0, wp0_bnd, wp0_ok, wp0_no, wp0_opt, wo0_map, wo0_bind, wp0_ite, wo0_some, wo0_none, ite_f, ite_f']
@[simp ↓] theorem ev_lst : wp (ev cal (.lst es) ρ) Q = wp (ev cal es ρ) fun ws ρ1 => wp (frzs ws ρ1) fun ds ρ2 => ds.length ≤ line ∧ Q [.fr (.list ds)] ρ2 := by
  simp only [ev, wp_0, wo_0, wp0_bnd, wp0_ok, wp0_no, wp0_opt, wo0_map, wo0_bind, wp0_ite, wo0_some, wo0_none, ite_f, ite_f']
@[simp ↓] theorem ev_bin {o : BOp} : wp (ev cal (.bin o a b) ρ) Q = wp (ev cal a ρ) fun xs ρ1 => wp (ev cal b ρ1) fun ys ρ2 => wp (two (fun x y ρ => opt ((binD o x y).map fun w => [w]) ρ) xs ys ρ2) Q := by
  simp only [ev, wp_0, wo_0, wp0_bnd, wp0_ok, wp0_no, wp0_opt, wo0_map, wo0_bind, wp0_ite, wo0_some, wo0_none, ite_f, ite_f']
@[simp ↓] theorem ev_neg : wp (ev cal (.neg a) ρ) Q = wp (ev cal a ρ) fun xs ρ1 => wp (oneD (fun x ρ => opt ((negD x).map fun d => [W.imm d]) ρ) xs ρ1) Q := by
  simp only [ev, wp_0, wo_0, wp0_bnd, wp0_ok, wp0_no, wp0_opt, wo0_map, wo0_bind, wp0_ite, wo0_some, wo0_none, ite_f, ite_f']
  congr; funext xs ρ1; congr; funext d ρ
  cases d <;> rfl
@[simp ↓] theorem ev_cmp {o : COp} : wp (ev cal (.cmp o a b) ρ) Q = wp (ev cal a ρ) fun xs ρ1 => wp (ev cal b ρ1) fun ys ρ2 => wp (two (fun x y ρ => opt ((cmpD o x y).map fun c => [W.imm (.bool c)]) ρ) xs ys ρ2) Q := by
  simp only [ev, wp_0, wo_0, wp0_bnd, wp0_ok, wp0_no, wp0_opt, wo0_map, wo0_bind, wp0_ite, wo0_some, wo0_none, ite_f, ite_f']
@[simp ↓] theorem ev_isn : wp (ev cal (.isn a) ρ) Q = wp (ev cal a ρ) fun xs ρ1 => wp (oneD (fun x ρ => .ok [.imm (.bool (isnD x))] ρ) xs ρ1) Q := by
  simp only [ev, wp_0, wo_0, wp0_bnd, wp0_ok, wp0_no, wp0_opt, wo0_map, wo0_bind, wp0_ite, wo0_some, wo0_none, ite_f, ite_f']
  congr
@[simp ↓] theorem ev_isnn : wp (ev cal (.isnn a) ρ) Q = wp (ev cal a ρ) fun xs ρ1 => wp (oneD (fun x ρ => .ok [.imm (.bool (!isnD x))] ρ) xs ρ1) Q := by
  simp only [ev, wp_0, wo_0, wp0_bnd, wp0_ok, wp0_no, wp0_opt, wo0_map, wo0_bind, wp0_ite, wo0_some, wo0_none, ite_f, ite_f']
  congr; funext xs ρ1; congr; funext d ρ
  cases d <;> rfl
@[simp ↓] theorem ev_and : wp (ev cal (.and a b) ρ) Q = wp (ev cal a ρ) fun xs ρ1 => wp (asB xs ρ1) fun c ρ2 => if c then wp (ev cal b ρ2) Q else Q [.imm (.bool false)] ρ2 := by
  simp only [ev, wp_0, wo_0, wp0_bnd, wp0_ok, wp0_no, wp0_opt, wo0_map, wo0_bind, wp0_ite, wo0_some, wo0_none, ite_f, ite_f']
@[simp ↓] theorem ev_or : wp (ev cal (.or a b) ρ) Q = wp (ev cal a ρ) fun xs ρ1 => wp (asB xs ρ1) fun c ρ2 => if c then Q [.imm (.bool true)] ρ2 else wp (ev cal b ρ2) Q := by
  simp only [ev, wp_0, wo_0, wp0_bnd, wp0_ok, wp0_no, wp0_opt, wo0_map, wo0_bind, wp0_ite, wo0_some, wo0_none, ite_f, ite_f']
@[simp ↓] theorem ev_not : wp (ev cal (.not a) ρ) Q = wp (ev cal a ρ) fun xs ρ1 => wp (asB xs ρ1) fun c ρ2 => Q [.imm (.bool (!c))] ρ2 := by
  simp only [ev, wp_0, wo_0, wp0_bnd, wp0_ok, wp0_no, wp0_opt, wo0_map, wo0_bind, wp0_ite, wo0_some, wo0_none, ite_f, ite_f']
@[simp ↓] theorem ev_ite : wp (ev cal (.ite c a b) ρ) Q = wp (ev cal c ρ) fun xs ρ1 => wp (asB xs ρ1) fun c ρ2 => if c then wp (ev cal a ρ2) Q else wp (ev cal b ρ2) Q := by
  simp only [ev, wp_0, wo_0, wp0_bnd, wp0_ok, wp0_no, wp0_opt, wo0_map, wo0_bind, wp0_ite, wo0_some, wo0_none, ite_f, ite_f']
@[simp ↓] theorem ev_ix : wp (ev cal (.ix a b) ρ) Q = wp (ev cal a ρ) fun xs ρ1 => wp (ev cal b ρ1) fun ys ρ2 => wp (two (fun x y ρ => opt ((ixD x y).map fun d => [W.imm d]) ρ) xs ys ρ2) Q := by
  simp only [ev, wp_0, wo_0, wp0_bnd, wp0_ok, wp0_no, wp0_opt, wo0_map, wo0_bind, wp0_ite, wo0_some, wo0_none, ite_f, ite_f']
@[simp ↓] theorem ev_sl {lo hi : IE} : wp (ev cal (.sl a lo hi) ρ) Q = wp (ev cal a ρ) fun xs ρ1 => wp (ev cal lo ρ1) fun ls ρ2 => wp (intP ls ρ2) fun l ρ3 => wp (ev cal hi ρ3) fun hs ρ4 => wp (intP hs ρ4) fun h ρ5 => wp (oneD (fun x ρ => opt ((slD x l h).map fun w => [w]) ρ) xs ρ5) Q := by
  simp only [ev, wp_0, wo_0, wp0_bnd, wp0_ok, wp0_no, wp0_opt, wo0_map, wo0_bind, wp0_ite, wo0_some, wo0_none, ite_f, ite_f']
@[simp ↓] theorem ev_call {f : String} : wp (ev cal (.call f es) ρ) Q = wp (ev cal es ρ) fun ws ρ1 => wp (callW cal f ws ρ1) Q := by
  simp only [ev, wp_0, wo_0, wp0_bnd, wp0_ok, wp0_no, wp0_opt, wo0_map, wo0_bind, wp0_ite, wo0_some, wo0_none, ite_f, ite_f']
@[simp ↓] theorem ev_blt {o : Blt} : wp (ev cal (.blt o es) ρ) Q = wp (ev cal es ρ) fun ws ρ1 => wo (ders ρ1 ws) fun ds => wo (bltD o ds) fun w => Q [w] ρ1 := by
  simp only [ev, wp_0, wo_0, wp0_bnd, wp0_ok, wp0_no, wp0_opt, wo0_map, wo0_bind, wp0_ite, wo0_some, wo0_none, ite_f, ite_f']
  congr; funext ws ρ1
  cases ders ρ1 ws with
  | none => rfl
  | some ds => simp only [wp_0, wo_0, wp0_bnd, wp0_ok, wp0_no, wp0_opt, wo0_map, wo0_bind, wp0_ite, wo0_some, wo0_none, ite_f, ite_f']
@[simp ↓] theorem ev_isi {ts : List Ty} : wp (ev cal (.isi ts a) ρ) Q = wp (ev cal a ρ) fun xs ρ1 => wp (oneD (fun x ρ => .ok [.imm (.bool (ts.any fun t => isTy t x))] ρ) xs ρ1) Q := by
  simp only [ev, wp_0, wo_0, wp0_bnd, wp0_ok, wp0_no, wp0_opt, wo0_map, wo0_bind, wp0_ite, wo0_some, wo0_none, ite_f, ite_f']
@[simp ↓] theorem ev_srt : wp (ev cal (.srt a) ρ) Q = wp (ev cal a ρ) fun xs ρ1 => wp (oneD (fun x ρ => opt (((seqD x).bind srtD).map fun ds => [W.fr (.list ds)]) ρ) xs ρ1) Q := by
  simp only [ev, wp_0, wo_0, wp0_bnd, wp0_ok, wp0_no, wp0_opt, wo0_map, wo0_bind, wp0_ite, wo0_some, wo0_none, ite_f, ite_f']
@[simp ↓] theorem ev_srts : wp (ev cal (.srts a) ρ) Q = wp (ev cal a ρ) fun xs ρ1 => wp (oneD (fun x ρ => opt (((seqD x).bind srtsD).map fun ds => [W.fr (.list ds)]) ρ) xs ρ1) Q := by
  simp only [ev, wp_0, wo_0, wp0_bnd, wp0_ok, wp0_no, wp0_opt, wo0_map, wo0_bind, wp0_ite, wo0_some, wo0_none, ite_f, ite_f']
@[simp ↓] theorem ev_srtl : wp (ev cal (.srtl a) ρ) Q = wp (ev cal a ρ) fun xs ρ1 => wp (oneD (fun x ρ => opt (((seqD x).bind fun ds => (lensD ds).bind fun ks => srtkD ks ds).map fun ds => [W.fr (.list ds)]) ρ) xs ρ1) Q := by
  simp only [ev, wp_0, wo_0, wp0_bnd, wp0_ok, wp0_no, wp0_opt, wo0_map, wo0_bind, wp0_ite, wo0_some, wo0_none, ite_f, ite_f']
@[simp ↓] theorem ev_srtk {f : String} : wp (ev cal (.srtk f a) ρ) Q = wp (ev cal a ρ) fun xs ρ1 => wp (oneD (fun x ρ => opt (((seqD x).bind fun ds => (mapC cal f ds).bind fun ks => srtkD ks ds).map fun ds => [W.fr (.list ds)]) ρ) xs ρ1) Q := by
  simp only [ev, wp_0, wo_0, wp0_bnd, wp0_ok, wp0_no, wp0_opt, wo0_map, wo0_bind, wp0_ite, wo0_some, wo0_none, ite_f, ite_f']
@[simp ↓] theorem ev_pop : wp (ev cal (.pop i) ρ) Q = wp (chg i popD ρ) fun d ρ1 => Q [.imm d] ρ1 := by
  simp only [ev, wp_0, wo_0, wp0_bnd, wp0_ok, wp0_no, wp0_opt, wo0_map, wo0_bind, wp0_ite, wo0_some, wo0_none, ite_f, ite_f']
@[simp ↓] theorem ev_popAt : wp (ev cal (.popAt i a) ρ) Q = (hasL i ρ = true ∧ wp (ev cal a ρ) fun xs ρ1 => wp (oneD (fun x ρ => (chg i (popAtD x) ρ).bnd fun d ρ2 => .ok [.imm d] ρ2) xs ρ1) Q) := by
  simp only [ev, wp_0, wo_0, wp0_bnd, wp0_ok, wp0_no, wp0_opt, wo0_map, wo0_bind, wp0_ite, wo0_some, wo0_none, ite_f, ite_f']
@[simp ↓] theorem ev_app : wp (ev cal (.app i a) ρ) Q = (hasL i ρ = true ∧ wp (ev cal a ρ) fun xs ρ1 => wp (one (fun x ρ => (frzW x ρ).bnd fun x ρ => (chg i (appD x) ρ).bnd fun d ρ2 => .ok [.imm d] ρ2) xs ρ1) Q) := by
  simp only [ev, wp_0, wo_0, wp0_bnd, wp0_ok, wp0_no, wp0_opt, wo0_map, wo0_bind, wp0_ite, wo0_some, wo0_none, ite_f, ite_f']
@[simp ↓] theorem ev_ext : wp (ev cal (.ext i a) ρ) Q = (hasL i ρ = true ∧ wp (ev cal a ρ) fun xs ρ1 => wp (oneD (fun x ρ => (chg i (extD x) ρ).bnd fun d ρ2 => .ok [.imm d] ρ2) xs ρ1) Q) := by
  simp only [ev, wp_0, wo_0, wp0_bnd, wp0_ok, wp0_no, wp0_opt, wo0_map, wo0_bind, wp0_ite, wo0_some, wo0_none, ite_f, ite_f']
@[simp ↓] theorem ev_ins : wp (ev cal (.ins i a b) ρ) Q = (hasL i ρ = true ∧ wp (ev cal a ρ) fun xs ρ1 => wp (ev cal b ρ1) fun ys ρ2 => wp (oneD (fun x ρ => one (fun y ρ => (frzW y ρ).bnd fun y ρ => (chg i (insD x y) ρ).bnd fun d ρ2 => .ok [.imm d] ρ2) ys ρ) xs ρ2) Q) := by
  simp only [ev, wp_0, wo_0, wp0_bnd, wp0_ok, wp0_no, wp0_opt, wo0_map, wo0_bind, wp0_ite, wo0_some, wo0_none, ite_f, ite_f']
@[simp ↓] theorem ev_sdef : wp (ev cal (.sdef i a b) ρ) Q = (hasD i ρ = true ∧ wp (ev cal a ρ) fun xs ρ1 => wp (ev cal b ρ1) fun ys ρ2 => wp (oneD (fun x ρ => one (fun y ρ => (frzW y ρ).bnd fun y ρ => (chg i (sdefD x y) ρ).bnd fun d ρ2 => .ok [.imm d] ρ2) ys ρ) xs ρ2) Q) := by
  simp only [ev, wp_0, wo_0, wp0_bnd, wp0_ok, wp0_no, wp0_opt, wo0_map, wo0_bind, wp0_ite, wo0_some, wo0_none, ite_f, ite_f']
@[simp ↓] theorem ev_rev : wp (ev cal (.rev i) ρ) Q = wp (chg i revD ρ) fun d ρ1 => Q [.imm d] ρ1 := by
  simp only [ev, wp_0, wo_0, wp0_bnd, wp0_ok, wp0_no, wp0_opt, wo0_map, wo0_bind, wp0_ite, wo0_some, wo0_none, ite_f, ite_f']
@[simp ↓] theorem ev_idx : wp (ev cal (.idx a b) ρ) Q = wp (ev cal a ρ) fun xs ρ1 => wp (one (fun x ρ => (frzW x ρ).bnd fun c ρ2 => (ev cal b ρ2).bnd fun ys ρ3 => oneD (fun y ρ => opt ((idxD c y).map fun d => [W.imm d]) ρ) ys ρ3) xs ρ1) Q := by
  simp only [ev, wp_0, wo_0, wp0_bnd, wp0_ok, wp0_no, wp0_opt, wo0_map, wo0_bind, wp0_ite, wo0_some, wo0_none, ite_f, ite_f']
@[simp ↓] theorem ev_join : wp (ev cal (.join a b) ρ) Q = wp (ev cal a ρ) fun xs ρ1 => wp (one (fun x ρ => (frzW x ρ).bnd fun c ρ2 => (ev cal b ρ2).bnd fun ys ρ3 => oneD (fun y ρ => opt ((joinO c y).map fun d => [W.imm d]) ρ) ys ρ3) xs ρ1) Q := by
  simp only [ev, wp_0, wo_0, wp0_bnd, wp0_ok, wp0_no, wp0_opt, wo0_map, wo0_bind, wp0_ite, wo0_some, wo0_none, ite_f, ite_f']
@[simp ↓] theorem ev_bits : wp (ev cal (.bits a) ρ) Q = wp (ev cal a ρ) fun xs ρ1 => wp (oneD (fun x ρ => opt ((bitsO x).map fun d => [W.imm d]) ρ) xs ρ1) Q := by
  simp only [ev, wp_0, wo_0, wp0_bnd, wp0_ok, wp0_no, wp0_opt, wo0_map, wo0_bind, wp0_ite, wo0_some, wo0_none, ite_f, ite_f']
  congr; funext xs ρ1; congr; funext d ρ
  cases d <;> rfl
/-- one turn of a comprehension -/
def bodyC (cal : String → List En → Option (W × List En)) (tg : Tg) (vs : List Nat) (c e : IE) (d : D) (ρ : Rho) : Rs (Option D) := match asg tg [d] ρ with
  | some ρ4 => (ev cal c ρ4).bnd fun cs ρ5 => (asB cs ρ5).bnd fun t ρ6 => if t then (ev cal e ρ6).bnd fun zs ρ7 => one (fun z ρ => (frzW z ρ).bnd fun x ρ8 => .ok (some x) (wipeR ρ8 vs)) zs ρ7 else .ok none (wipeR ρ6 vs)
  | none => .no
@[simp ↓] theorem ev_comp {k : Sk} {tg : Tg} {vs : List Nat} : wp (ev cal (.comp k a b tg vs c e) ρ) Q = wp (ev cal a ρ) fun xs ρ1 => wp (ev cal b ρ1) fun ys ρ2 => wp (srcW k (xs ++ ys) ρ2) fun iw ρ3 => hidOk (lock ρ3 iw.2) vs = true ∧
      wp (compL (bodyC cal tg vs c e) iw.1 (wipeR (lock ρ3 iw.2) vs) []) fun out ρ9 => Q [.fr (.list out)] (back (lock ρ3 iw.2) (unlock ρ9 iw.2 (wasLk ρ3 iw.2)) vs) := by
  show wp ((ev cal a ρ).bnd _) Q = _
  simp only [wp_0, wo_0, wp0_bnd, wp0_ok, wp0_no, wp0_opt, wo0_map, wo0_bind, wp0_ite, wo0_some, wo0_none, ite_f, ite_f']
  rfl
@[simp ↓] theorem wp_bodyC {tg : Tg} {vs : List Nat} {d : D} {Q : Option D → Rho → Prop} : wp (bodyC cal tg vs c e d ρ) Q = wo (asg tg [d] ρ) fun ρ4 => wp (ev cal c ρ4) fun cs ρ5 => wp (asB cs ρ5) fun t ρ6 => if t then wp (ev cal e ρ6) fun zs ρ7 => wp (one (fun z ρ => (frzW z ρ).bnd fun x ρ8 => .ok (some x) (wipeR ρ8 vs)) zs ρ7) Q else Q none (wipeR ρ6 vs) := by
  unfold bodyC
  cases asg tg [d] ρ with
  | none => rfl
  | some ρ4 => simp only [wp_0, wo_0, wp0_bnd, wp0_ok, wp0_no, wp0_opt, wo0_map, wo0_bind, wp0_ite, wo0_some, wo0_none, ite_f, ite_f']
end

/-! ### statements -/
inductive DepF (N : Rho → Prop) (Q : Fl → Rho → Prop) : Type
  | mk
def nxF (o : Fl) (ρ : Rho) (N : Rho → Prop) (Q : Fl → Rho → Prop) (t : DepF N Q := .mk) : Prop := match o with
  | .nx => N ρ
  | .bk => Q .bk ρ
  | .rt w => Q (.rt w) ρ
def outF (o : Fl) (ρ : Rho) (N : Rho → Prop) (Q : Fl → Rho → Prop) (t : DepF N Q := .mk) : Prop := match o with
  | .rt w => Q (.rt w) ρ
  | _ => N ρ
/-- one turn of a loop -/
def bodyL (cal : String → List En → Option (W × List En)) (tg : Tg) (s : IS) (d : D) (ρ : Rho) : Rs Fl := match asg tg [d] ρ with
  | some ρ4 => exs cal s ρ4
  | none => .no
def setS (i : Nat) (w : W) (ρ : Rho) (Q : Fl → Rho → Prop) (t : DepW Q := .mk) : Prop := match w with
  | .fr d => Q .nx (ρ.set i (some ⟨.own, false, d⟩))
  | w => wp (frzW w ρ) fun d ρ1 => Q .nx (ρ1.set i (some ⟨.imm, false, d⟩))
def retE (i : Nat) (ρ : Rho) (e : En) (Q : Fl → Rho → Prop) (t : DepW Q := .mk) : Prop := match e.k, e.lk with
  | .own, false => Q (.rt (.fr e.d)) (ρ.set i none)
  | k, _ => Q (.rt (.imm e.d)) (ρ.set i (some { e with k := frzK k }))
section
variable {cal : String → List En → Option (W × List En)} {ρ : Rho} {a b c e : IE} {s t : IS} {i : Nat} {Q : Fl → Rho → Prop} {N : Rho → Prop} {w : W} {d : D} {l : Bool}
@[simp ↓] theorem nxF_nx : nxF .nx ρ N Q = N ρ := (rfl)
@[simp ↓] theorem nxF_bk : nxF .bk ρ N Q = Q .bk ρ := (rfl)
@[simp ↓] theorem nxF_rt : nxF (.rt w) ρ N Q = Q (.rt w) ρ := (rfl)
@[simp ↓] theorem outF_nx : outF .nx ρ N Q = N ρ := (rfl)
@[simp ↓] theorem outF_bk : outF .bk ρ N Q = N ρ := (rfl)
@[simp ↓] theorem outF_rt : outF (.rt w) ρ N Q = Q (.rt w) ρ := (rfl)
@[simp ↓] theorem exs_skip : wp (exs cal .skip ρ) Q = Q .nx ρ := (rfl)
@[simp ↓] theorem exs_seq : wp (exs cal (.seq s t) ρ) Q = wp (exs cal s ρ) fun o ρ1 => nxF o ρ1 (fun ρ1 => wp (exs cal t ρ1) Q) Q := by
  show wp ((exs cal s ρ).bnd _) Q = _
  rw [wp_bnd]
  cases exs cal s ρ with
  | ex e ρ => rfl
  | no => rfl
  | ok o ρ1 => cases o <;> rfl
@[simp ↓] theorem exs_ex : wp (exs cal (.ex e) ρ) Q = wp (ev cal e ρ) fun ws ρ1 => wp (one (fun _ ρ1 => .ok .nx ρ1) ws ρ1) Q := by
  simp only [exs, wp_0, wo_0, wp0_bnd, wp0_ok, wp0_no, wp0_opt, wo0_map, wo0_bind, wp0_ite, wo0_some, wo0_none, ite_f, ite_f']
@[simp ↓] theorem exs_set : wp (exs cal (.set i e) ρ) Q = wp (ev cal e ρ) fun ws ρ1 => wp (one (setW i) ws ρ1) Q := by
  simp only [exs, wp_0, wo_0, wp0_bnd, wp0_ok, wp0_no, wp0_opt, wo0_map, wo0_bind, wp0_ite, wo0_some, wo0_none, ite_f, ite_f']
@[simp ↓] theorem exs_put : wp (exs cal (.put i a e) ρ) Q = wp (ev cal e ρ) fun ys ρ1 => hasL i ρ1 = true ∧ wp (ev cal a ρ1) fun xs ρ2 => wp (oneD (fun x ρ => one (fun y ρ => (frzW y ρ).bnd fun y ρ => (chg i (putD x y) ρ).bnd fun _ ρ3 => .ok .nx ρ3) ys ρ) xs ρ2) Q := by
  simp only [exs, wp_0, wo_0, wp0_bnd, wp0_ok, wp0_no, wp0_opt, wo0_map, wo0_bind, wp0_ite, wo0_some, wo0_none, ite_f, ite_f']
@[simp ↓] theorem exs_ite : wp (exs cal (.ite c s t) ρ) Q = wp (ev cal c ρ) fun xs ρ1 => wp (asB xs ρ1) fun c ρ2 => if c then wp (exs cal s ρ2) Q else wp (exs cal t ρ2) Q := by
  simp only [exs, wp_0, wo_0, wp0_bnd, wp0_ok, wp0_no, wp0_opt, wo0_map, wo0_bind, wp0_ite, wo0_some, wo0_none, ite_f, ite_f']
@[simp ↓] theorem wp_bodyL {tg : Tg} : wp (bodyL cal tg s d ρ) Q = wo (asg tg [d] ρ) fun ρ4 => wp (exs cal s ρ4) Q := by
  unfold bodyL
  cases asg tg [d] ρ <;> rfl
@[simp ↓] theorem exs_loop {k : Sk} {tg : Tg} : wp (exs cal (.loop k a b tg s) ρ) Q = wp (ev cal a ρ) fun xs ρ1 => wp (ev cal b ρ1) fun ys ρ2 => wp (srcW k (xs ++ ys) ρ2) fun iw ρ3 =>
      wp (loopL (bodyL cal tg s) iw.1 (lock ρ3 iw.2)) fun o ρ8 => outF o ρ8 (fun ρ8 => Q .nx (unlock ρ8 iw.2 (wasLk ρ3 iw.2))) Q := by
  show wp ((ev cal a ρ).bnd _) Q = _
  simp only [wp_0, wo_0, wp0_bnd, wp0_ok, wp0_no, wp0_opt, wo0_map, wo0_bind, wp0_ite, wo0_some, wo0_none, ite_f, ite_f']
  congr; funext xs ρ1; congr; funext ys ρ2; congr; funext iw ρ3; congr; funext o ρ8
  cases o <;> rfl
@[simp ↓] theorem exs_ret : wp (exs cal (.ret e) ρ) Q = wp (ev cal e ρ) fun ws ρ1 => wp (one retW ws ρ1) Q := by
  simp only [exs, wp_0, wo_0, wp0_bnd, wp0_ok, wp0_no, wp0_opt, wo0_map, wo0_bind, wp0_ite, wo0_some, wo0_none, ite_f, ite_f']
@[simp ↓] theorem exs_brk : wp (exs cal .brk ρ) Q = Q .bk ρ := (rfl)
@[simp ↓] theorem ret_imm : wp (retW (.imm d) ρ) Q = Q (.rt (.imm d)) ρ := (rfl)
@[simp ↓] theorem ret_fr : wp (retW (.fr d) ρ) Q = Q (.rt (.fr d)) ρ := (rfl)
@[simp ↓] theorem retE_own : retE i ρ ⟨.own, false, d⟩ Q = Q (.rt (.fr d)) (ρ.set i none) := (rfl)
@[simp ↓] theorem retE_bor : retE i ρ ⟨.bor, l, d⟩ Q = Q (.rt (.imm d)) (ρ.set i (some ⟨.fb, l, d⟩)) := (rfl)
@[simp ↓] theorem retE_imm : retE i ρ ⟨.imm, l, d⟩ Q = Q (.rt (.imm d)) (ρ.set i (some ⟨.imm, l, d⟩)) := (rfl)
@[simp ↓] theorem retE_fb : retE i ρ ⟨.fb, l, d⟩ Q = Q (.rt (.imm d)) (ρ.set i (some ⟨.fb, l, d⟩)) := (rfl)
@[simp ↓] theorem retE_lk : retE i ρ ⟨.own, true, d⟩ Q = Q (.rt (.imm d)) (ρ.set i (some ⟨.imm, true, d⟩)) := (rfl)
@[simp ↓] theorem ret_al : wp (retW (.al i) ρ) Q = wo (lkp ρ i) fun e => retE i ρ e Q := by
  show wp (match lkp ρ i with
    | some e => (match e.k, e.lk with
      | .own, false => .ok (.rt (.fr e.d)) (ρ.set i none)
      | _, _ => (frzW (.al i) ρ).bnd fun d ρ1 => .ok (.rt (.imm d)) ρ1)
    | none => .no) Q = _
  cases h : lkp ρ i with
  | none => rfl
  | some e =>
    obtain ⟨k, l, d⟩ := e
    cases k <;> cases l <;> simp [h, retE, wp_bnd]
@[simp ↓] theorem setS_fr : setS i (.fr d) ρ Q = Q .nx (ρ.set i (some ⟨.own, false, d⟩)) := (rfl)
@[simp ↓] theorem setS_imm : setS i (.imm d) ρ Q = Q .nx (ρ.set i (some ⟨.imm, false, d⟩)) := (rfl)
@[simp ↓] theorem setS_al {j : Nat} : setS i (.al j) ρ Q = wp (frzW (.al j) ρ) fun d ρ1 => Q .nx (ρ1.set i (some ⟨.imm, false, d⟩)) := (rfl)
@[simp ↓] theorem wp_setW : wp (setW i w ρ) Q = ((okS (lkp ρ i) = true ∧ i < ρ.length) ∧ setS i w ρ Q) := by
  have e : setW i w ρ = if okS (lkp ρ i) && decide (i < ρ.length) then (match w with
  | .fr d => .ok .nx (ρ.set i (some ⟨.own, false, d⟩))
  | w => (frzW w ρ).bnd fun d ρ1 => .ok .nx (ρ1.set i (some ⟨.imm, false, d⟩))) else .no := by
    rw [← may_eq]; rfl
  rw [e]
  by_cases h : okS (lkp ρ i) = true ∧ i < ρ.length
  · simp only [h, true_and]
    rw [if_pos (by simp [h])]
    cases w with
    | fr d => rfl
    | imm d => rfl
    | al j =>
      show wp ((frzW (.al j) ρ).bnd _) Q = wp (frzW (.al j) ρ) _
      rw [wp_bnd]
      exact wp_ext fun a ρ => rfl
  · simp only [h, false_and]
    rw [if_neg (by simpa using h)]
    rfl
end

/-! ### defs -/
section
variable {n i : Nat} {ρ : Rho} {as args os : List En} {d : D} {l : Bool} {P : W → List En → Prop}
def outO : Option En → Option En
  | some ⟨.bor, _, d⟩ => some ⟨.bor, false, d⟩
  | some ⟨.fb, _, d⟩ => some ⟨.fb, false, d⟩
  | _ => none
@[simp] theorem outO_bor : outO (some ⟨.bor, l, d⟩) = some ⟨.bor, false, d⟩ := (rfl)
@[simp] theorem outO_fb : outO (some ⟨.fb, l, d⟩) = some ⟨.fb, false, d⟩ := (rfl)
@[simp] theorem outs_nil : outs n [] ρ = some [] := (rfl)
@[simp] theorem outs_bor : outs i (⟨.bor, l, d⟩ :: as) ρ = (outO (lkp ρ i)).bind fun o => (outs (i + 1) as ρ).map (o :: ·) := by
  show (((lkp ρ i).bind fun e => match e.k with
      | .bor => some { e with lk := false }
      | .fb => some { e with lk := false }
      | _ => none).bind _) = _
  cases h : lkp ρ i with
  | none => rfl
  | some e =>
    obtain ⟨k, l, d⟩ := e
    cases k <;> rfl
@[simp] theorem outs_imm : outs i (⟨.imm, l, d⟩ :: as) ρ = (outs (i + 1) as ρ).map (⟨.imm, l, d⟩ :: ·) := (rfl)
def endF (o : Fl) (ρ : Rho) (args : List En) (P : W → List En → Prop) (t : DepC P := .mk) : Prop := match o with
  | .nx => wo (outs 0 args ρ) fun os => P (.imm .none) os
  | .rt w => (match w with
    | .al _ => False
    | w => wo (outs 0 args ρ) fun os => P w os)
  | .bk => False
@[simp ↓] theorem endF_nx : endF .nx ρ args P = wo (outs 0 args ρ) fun os => P (.imm .none) os := (rfl)
@[simp ↓] theorem endF_imm : endF (.rt (.imm d)) ρ args P = wo (outs 0 args ρ) fun os => P (.imm d) os := (rfl)
@[simp ↓] theorem endF_fr : endF (.rt (.fr d)) ρ args P = wo (outs 0 args ρ) fun os => P (.fr d) os := (rfl)
theorem runF_wp {cal : String → List En → Option (W × List En)} {f : Fn} {args : List En} {P : W → List En → Prop} : cSat (runF cal f args) P = ((args.length = f.np ∧ f.np ≤ f.ns) ∧ wp (exs cal f.body (args.map some ++ List.replicate (f.ns - f.np) none)) fun o ρ => endF o ρ args P) := by
  unfold runF
  by_cases h : args.length = f.np ∧ f.np ≤ f.ns
  · rw [if_pos h]
    simp only [h, and_self, true_and]
    cases exs cal f.body (args.map some ++ List.replicate (f.ns - f.np) none) with
    | ex e ρ => rfl
    | no => rfl
    | ok o ρ =>
      cases o with
      | bk => rfl
      | nx =>
        rw [wp_ok, endF_nx]
        show cSat ((outs 0 args ρ).map _) P = _
        cases outs 0 args ρ <;> rfl
      | rt w =>
        rw [wp_ok]
        cases w with
        | al i => rfl
        | imm d =>
          rw [endF_imm]
          show cSat ((outs 0 args ρ).map _) P = _
          cases outs 0 args ρ <;> rfl
        | fr d =>
          rw [endF_fr]
          show cSat ((outs 0 args ρ).map _) P = _
          cases outs 0 args ρ <;> rfl
  · rw [if_neg h]
    simp [cSat, h]
end
theorem callN_wp {T : Tab} {n : Nat} {f : String} {fn : Fn} {args : List En} (h : T.lookup f = some fn) : callN T (n + 1) f args = runF (callN T n) fn args := by
  show (match T.lookup f with
    | some fn => runF (callN T n) fn args
    | none => none) = _
  rw [h]

/-! ### loops -/
theorem wp_loopL {f : D → Rho → Rs Fl} {Q : Fl → Rho → Prop} (I : Nat → Rho → Prop) : ∀ {ds : List D} {ρ : Rho} (k : Nat), I k ρ → (∀ (i : Nat) (d : D) (ρ : Rho), ds[i]? = some d → I (k + i) ρ → wp (f d ρ) fun o ρ1 => nxF o ρ1 (fun ρ1 => I (k + i + 1) ρ1) fun o ρ1 => outF o ρ1 (fun ρ1 => Q .nx ρ1) Q) → (∀ ρ, I (k + ds.length) ρ → Q .nx ρ) → wp (loopL f ds ρ) Q
  | [], ρ, k, h, _, q => q ρ h
  | d :: ds, ρ, k, h, s, q => by
    show wp ((f d ρ).bnd _) Q
    rw [wp_bnd]
    refine wp_mono (s 0 d ρ rfl h) fun o ρ1 h1 => ?_
    cases o with
    | bk => exact h1
    | rt w => exact h1
    | nx =>
      refine wp_loopL I (k + 1) h1 (fun i d ρ hd hi => ?_) fun ρ hi => q ρ (by rw [List.length_cons]; exact (show k + 1 + ds.length = k + (ds.length + 1) by omega) ▸ hi)
      have := s (i + 1) d ρ (by simpa using hd) ((show k + 1 + i = k + (i + 1) by omega) ▸ hi)
      refine wp_mono this fun o ρ1 h1 => ?_
      cases o with
      | nx => exact (show k + (i + 1) + 1 = k + 1 + i + 1 by omega) ▸ h1
      | bk => exact h1
      | rt w => exact h1
/-- a loop over the items of a list, by what has been walked -/
theorem wp_for {f : D → Rho → Rs Fl} {Q : Fl → Rho → Prop} {α : Type} {g : α → D} (I : List α → Rho → Prop) : ∀ {xs : List α} {ρ : Rho} (ys : List α), I ys ρ → (∀ (ys : List α) (x : α) (zs : List α) (ρ : Rho), xs = ys ++ x :: zs → I ys ρ → wp (f (g x) ρ) fun o ρ1 => nxF o ρ1 (fun ρ1 => I (ys ++ [x]) ρ1) fun o ρ1 => outF o ρ1 (fun ρ1 => Q .nx ρ1) Q) → (∀ ρ, I xs ρ → Q .nx ρ) → ∀ zs, xs = ys ++ zs → wp (loopL f (zs.map g) ρ) Q := by
  intro xs ρ ys h s q zs
  induction zs generalizing ys ρ with
  | nil => intro e; rw [List.append_nil] at e; subst e; exact q ρ h
  | cons z zs ih =>
    intro e
    show wp ((f (g z) ρ).bnd _) Q
    rw [wp_bnd]
    refine wp_mono (s ys z zs ρ e h) fun o ρ1 h1 => ?_
    cases o with
    | bk => exact h1
    | rt w => exact h1
    | nx => exact ih (ys ++ [z]) h1 (by rw [e, List.append_assoc]; rfl)
theorem wp_compL {f : D → Rho → Rs (Option D)} {Q : List D → Rho → Prop} (I : Nat → List D → Rho → Prop) : ∀ {ds : List D} {ρ : Rho} {acc : List D} (k : Nat), I k acc ρ → (∀ (i : Nat) (d : D) (acc : List D) (ρ : Rho), ds[i]? = some d → I (k + i) acc ρ → wp (f d ρ) fun o ρ1 => match o with
    | none => I (k + i + 1) acc ρ1
    | some x => acc.length < line ∧ I (k + i + 1) (acc ++ [x]) ρ1) → (∀ acc ρ, I (k + ds.length) acc ρ → Q acc ρ) → wp (compL f ds ρ acc) Q
  | [], ρ, acc, k, h, _, q => q acc ρ h
  | d :: ds, ρ, acc, k, h, s, q => by
    show wp ((f d ρ).bnd _) Q
    rw [wp_bnd]
    refine wp_mono (s 0 d acc ρ rfl h) fun o ρ1 h1 => ?_
    have next : ∀ {acc1 ρ1}, I (k + 0 + 1) acc1 ρ1 → wp (compL f ds ρ1 acc1) Q := fun {acc1 ρ1} h1 => by
      refine wp_compL I (k + 1) h1 (fun i d acc ρ hd hi => ?_) fun acc ρ hi => q acc ρ (by rw [List.length_cons]; exact (show k + 1 + ds.length = k + (ds.length + 1) by omega) ▸ hi)
      have := s (i + 1) d acc ρ (by simpa using hd) ((show k + 1 + i = k + (i + 1) by omega) ▸ hi)
      refine wp_mono this fun o ρ1 h1 => ?_
      cases o with
      | none => exact (show k + (i + 1) + 1 = k + 1 + i + 1 by omega) ▸ h1
      | some x => exact ⟨h1.1, (show k + (i + 1) + 1 = k + 1 + i + 1 by omega) ▸ h1.2⟩
    cases o with
    | none => exact next h1
    | some x =>
      show wp (if acc.length < line then _ else _) Q
      rw [if_pos h1.1]
      exact next h1.2
/-- a comprehension that leaves the frame as it is -/
theorem compL_pure {f : D → Rho → Rs (Option D)} {α : Type} {g : α → D} {ρ : Rho} (o : α → Option D) : ∀ {xs : List α} {acc : List D}, acc.length + xs.length ≤ line → (∀ x, x ∈ xs → f (g x) ρ = .ok (o x) ρ) → compL f (xs.map g) ρ acc = .ok (acc ++ xs.filterMap o) ρ
  | [], acc, _, _ => by simp [compL]
  | x :: xs, acc, hl, h => by
    show (f (g x) ρ).bnd _ = _
    rw [h x (List.mem_cons_self ..)]
    rw [List.length_cons] at hl
    cases e : o x with
    | none =>
      rw [List.filterMap_cons_none e]
      exact compL_pure o (by omega) fun y hy => h y (List.mem_cons_of_mem _ hy)
    | some d =>
      rw [List.filterMap_cons_some e]
      show (if acc.length < line then _ else _) = _
      rw [if_pos (by omega)]
      rw [compL_pure o (by rw [List.length_append]; simp; omega) fun y hy => h y (List.mem_cons_of_mem _ hy)]
      rw [List.append_assoc]; rfl
end RC.P
end RP1
section RP2
set_option Elab.async false
set_option linter.all false
set_option maxRecDepth 100000
set_option autoImplicit false
set_option maxHeartbeats 4000000
/-! RP2: operations on data, one equation for each form -/
namespace RC.P
open PySem

abbrev im (d : D) : En := ⟨.imm, false, d⟩
/-- the draws -/
def drD (ns : List Int) : D := .list (ns.map .int)
abbrev dr (ns : List Int) : En := ⟨.bor, false, drD ns⟩
@[simp] theorem drD_len {ns : List Int} : bltD .len [drD ns] = some (.imm (.int ns.length)) := by
  show some (W.imm (.int ((ns.map PyData.int).length : Nat))) = _
  rw [List.length_map]
@[simp] theorem drD_l {ns : List Int} : isLst (drD ns) = true := (rfl)
section
variable {i j : Int} {x y : Str} {xs ys : List D} {d e : D}
@[simp] theorem bin_addi : binD .add (.int i) (.int j) = some (.imm (.int (i + j))) := (rfl)
@[simp] theorem bin_adds : binD .add (.str x) (.str y) = if x.length + y.length ≤ line then some (.imm (.str (x ++ y))) else none := (rfl)
@[simp] theorem bin_addl : binD .add (.list xs) (.list ys) = if xs.length + ys.length ≤ line then some (.fr (.list (xs ++ ys))) else none := (rfl)
@[simp] theorem bin_addt : binD .add (.tuple xs) (.tuple ys) = if xs.length + ys.length ≤ line then some (.imm (.tuple (xs ++ ys))) else none := (rfl)
@[simp] theorem bin_sub : binD .sub (.int i) (.int j) = some (.imm (.int (i - j))) := (rfl)
@[simp] theorem bin_mul : binD .mul (.int i) (.int j) = if mulOk i j then some (.imm (.int (i * j))) else none := (rfl)
@[simp] theorem bin_fdiv : binD .fdiv (.int i) (.int j) = if 0 < j ∧ j.natAbs.log2 < 9000 then some (.imm (.int (i / j))) else none := (rfl)
@[simp] theorem bin_md : binD .md (.int i) (.int j) = if 0 < j then some (.imm (.int (i % j))) else none := (rfl)
@[simp] theorem bin_pow : binD .pow (.int i) (.int j) = if 0 ≤ j ∧ j ≤ 1000000 ∧ i.natAbs < 2 ^ 64 then some (.imm (.int (i ^ j.toNat))) else none := (rfl)
@[simp] theorem negD_i : negD (.int i) = some (.int (-i)) := (rfl)
@[simp] theorem bitsO_i : bitsO (.int i) = some (.int (bitLen i)) := (rfl)
@[simp] theorem cmp_eq : cmpD .eq d e = if shp d && shp e then some (PyData.eqv d e) else none := (rfl)
@[simp] theorem cmp_ne : cmpD .ne d e = if shp d && shp e then some (!PyData.eqv d e) else none := (rfl)
@[simp] theorem cmp_lt : cmpD .lt (.int i) (.int j) = some (decide (i < j)) := (rfl)
@[simp] theorem cmp_le : cmpD .le (.int i) (.int j) = some (decide (i ≤ j)) := (rfl)
@[simp] theorem cmp_gt : cmpD .gt (.int i) (.int j) = some (decide (j < i)) := (rfl)
@[simp] theorem cmp_ge : cmpD .ge (.int i) (.int j) = some (decide (j ≤ i)) := (rfl)
@[simp] theorem cmp_in : cmpD .isin d e = (seqD e).bind fun ds => if shp d && shp e then some (ds.any fun z => PyData.eqv z d) else none := (rfl)
@[simp] theorem cmp_nin : cmpD .nin d e = (seqD e).bind fun ds => if shp d && shp e then some (!ds.any fun z => PyData.eqv z d) else none := (rfl)
@[simp] theorem ix_l : ixD (.list xs) (.int i) = L2.atI xs i := (rfl)
@[simp] theorem ix_t : ixD (.tuple xs) (.int i) = L2.atI xs i := (rfl)
@[simp] theorem ix_s : ixD (.str x) (.int i) = if x.length ≤ line then (L2.atI x.cps.toList i).map fun c => .str ⟨#[c]⟩ else none := (rfl)
@[simp] theorem sl_l {lo hi : Option Int} : slD (.list xs) lo hi = some (.fr (.list (cutD xs lo hi))) := (rfl)
@[simp] theorem sl_t {lo hi : Option Int} : slD (.tuple xs) lo hi = some (.imm (.tuple (cutD xs lo hi))) := (rfl)
@[simp] theorem blt_lenl : bltD .len [.list xs] = some (.imm (.int xs.length)) := (rfl)
@[simp] theorem blt_lent : bltD .len [.tuple xs] = some (.imm (.int xs.length)) := (rfl)
@[simp] theorem blt_int : bltD .int [.int i] = some (.imm (.int i)) := (rfl)
@[simp] theorem blt_intb {b : Bool} : bltD .int [.bool b] = some (.imm (.int (if b then 1 else 0))) := (rfl)
@[simp] theorem blt_abs : bltD .abs [.int i] = some (.imm (.int (if i < 0 then -i else i))) := (rfl)
@[simp] theorem blt_all : bltD .all [.list xs] = (boolsD xs).map fun bs => .imm (.bool (bs.all id)) := (rfl)
@[simp] theorem blt_any : bltD .any [.list xs] = (boolsD xs).map fun bs => .imm (.bool (bs.any id)) := (rfl)
@[simp] theorem blt_tupl : bltD .tuple [.list xs] = some (.imm (.tuple xs)) := (rfl)
@[simp] theorem blt_tupt : bltD .tuple [.tuple xs] = some (.imm (.tuple xs)) := (rfl)
@[simp] theorem blt_lisl : bltD .list [.list xs] = some (.fr (.list xs)) := (rfl)
@[simp] theorem blt_list : bltD .list [.tuple xs] = some (.fr (.list xs)) := (rfl)
@[simp] theorem blt_gcd : bltD .gcd [.int i, .int j] = some (.imm (.int (Nat.gcd i.natAbs j.natAbs : Nat))) := (rfl)
theorem popD_l : popD (.list xs) = (xs[xs.length - 1]?).map fun d => (.list xs.dropLast, d) := (rfl)
@[simp] theorem appD_l : appD d (.list xs) = if xs.length < line then some (.list (xs ++ [d]), .none) else none := (rfl)
@[simp] theorem extD_l : extD (.list ys) (.list xs) = if xs.length + ys.length ≤ line then some (.list (xs ++ ys), .none) else none := (rfl)
@[simp] theorem extD_t : extD (.tuple ys) (.list xs) = if xs.length + ys.length ≤ line then some (.list (xs ++ ys), .none) else none := (rfl)
@[simp] theorem blt_dict {kvs : List (D × D)} : bltD .dict [.dict kvs] = some (.fr (.dict kvs)) := (rfl)
@[simp] theorem revD_l : revD (.list xs) = some (.list xs.reverse, .none) := (rfl)
@[simp] theorem putD_l : putD (.int i) d (.list xs) = (L2.ixN xs.length i).map fun j => (.list (xs.set j d), ()) := (rfl)
@[simp] theorem insD_l : insD (.int i) d (.list xs) = if 0 ≤ i ∧ i ≤ xs.length ∧ xs.length < line then some (.list (xs.take i.toNat ++ d :: xs.drop i.toNat), .none) else none := (rfl)
theorem idxD_eq : idxD e d = (seqD e).bind fun ds => if shp d && shp e then (ds.findIdx? fun z => PyData.eqv z d).map fun j => .int (j : Nat) else none := (rfl)
theorem joinO_eq : joinO (.str x) (.list xs) = (strsD xs).bind fun zs => if (zs.map Str.length).sum + zs.length * x.length ≤ line then some (.str (joinD x zs)) else none := (rfl)
@[simp] theorem isTy_int : isTy .tint (.int i) = true := (rfl)
@[simp] theorem isTy_ints : isTy .tint (.str x) = false := (rfl)
@[simp] theorem isTy_intt : isTy .tint (.tuple xs) = false := (rfl)
@[simp] theorem isTy_intn : isTy .tint .none = false := (rfl)
@[simp] theorem isTy_intb {b : Bool} : isTy .tint (.bool b) = true := (rfl)
@[simp] theorem isTy_str : isTy .tstr (.str x) = true := (rfl)
@[simp] theorem isTy_stri : isTy .tstr (.int i) = false := (rfl)
@[simp] theorem isTy_strt : isTy .tstr (.tuple xs) = false := (rfl)
@[simp] theorem isTy_strn : isTy .tstr .none = false := (rfl)
@[simp] theorem isTy_strb {b : Bool} : isTy .tstr (.bool b) = false := (rfl)
@[simp] theorem isTy_bool {b : Bool} : isTy .tbool (.bool b) = true := (rfl)
@[simp] theorem isTy_booli : isTy .tbool (.int i) = false := (rfl)
@[simp] theorem isTy_bools : isTy .tbool (.str x) = false := (rfl)
@[simp] theorem isTy_boolt : isTy .tbool (.tuple xs) = false := (rfl)
@[simp] theorem isTy_booln : isTy .tbool .none = false := (rfl)
@[simp] theorem isTy_tup : isTy .ttup (.tuple xs) = true := (rfl)
@[simp] theorem isTy_tupl : isTy .ttup (.list xs) = false := (rfl)
@[simp] theorem isTy_tupi : isTy .ttup (.int i) = false := (rfl)
@[simp] theorem isTy_tups : isTy .ttup (.str x) = false := (rfl)
@[simp] theorem isTy_tupn : isTy .ttup .none = false := (rfl)
@[simp] theorem isTy_tupb {b : Bool} : isTy .ttup (.bool b) = false := (rfl)
@[simp] theorem isTy_lst : isTy .tlst (.list xs) = true := (rfl)
@[simp] theorem isTy_lstt : isTy .tlst (.tuple xs) = false := (rfl)
@[simp] theorem isTy_lsti : isTy .tlst (.int i) = false := (rfl)
@[simp] theorem isTy_lsts : isTy .tlst (.str x) = false := (rfl)
@[simp] theorem isTy_lstn : isTy .tlst .none = false := (rfl)
@[simp] theorem isTy_lstb {b : Bool} : isTy .tlst (.bool b) = false := (rfl)
@[simp] theorem eqv_ii : PyData.eqv (.int i) (.int j) = decide (i = j) := by simp only [PyData.eqv]; exact W.beq_decide i j
@[simp] theorem eqv_ss : PyData.eqv (.str x) (.str y) = decide (x = y) := by simp only [PyData.eqv]; exact W.beq_decide x y
@[simp] theorem eqv_bb {b c : Bool} : PyData.eqv (.bool b) (.bool c) = decide (b = c) := by simp only [PyData.eqv]; exact W.beq_decide b c
@[simp] theorem eqv_si : PyData.eqv (.str x) (.int j) = false := by simp only [PyData.eqv]
@[simp] theorem eqv_is : PyData.eqv (.int j) (.str x) = false := by simp only [PyData.eqv]
@[simp] theorem eqv_ll : PyData.eqv (.list xs) (.list ys) = PyData.eqvAll xs ys := by simp only [PyData.eqv]
@[simp] theorem eqv_tt : PyData.eqv (.tuple xs) (.tuple ys) = PyData.eqvAll xs ys := by simp only [PyData.eqv]
@[simp] theorem shp_i : shp (.int i) = true := by simp [shp, SeqAt.shaped, PyData.canLay0, PyData.depth]
@[simp] theorem shp_s : shp (.str x) = PyData.strOk x := by simp [shp, SeqAt.shaped, PyData.canLay0, PyData.depth]
@[simp] theorem shp_b {b : Bool} : shp (.bool b) = true := by simp [shp, SeqAt.shaped, PyData.canLay0, PyData.depth]
@[simp] theorem shp_n : shp .none = true := by simp [shp, SeqAt.shaped, PyData.canLay0, PyData.depth]
@[simp] theorem isnD_i : isnD (.int i) = false := (rfl)
@[simp] theorem isnD_s : isnD (.str x) = false := (rfl)
@[simp] theorem isnD_t : isnD (.tuple xs) = false := (rfl)
@[simp] theorem isnD_l : isnD (.list xs) = false := (rfl)
@[simp] theorem isnD_n : isnD .none = true := (rfl)
@[simp] theorem isnD_b {b : Bool} : isnD (.bool b) = false := (rfl)
end
/-! texts -/
theorem ofString_inj {s t : String} : Str.ofString s = Str.ofString t ↔ s = t := by
  refine ⟨fun h => ?_, fun h => by rw [h]⟩
  rw [Str.ofString_eq_toList, Str.ofString_eq_toList] at h
  have h1 : s.toList.map Char.toNat = t.toList.map Char.toNat := by simpa using h
  have h2 : s.toList = t.toList := by
    refine (List.map_inj_right fun a b e => ?_).mp h1
    exact Char.ext (UInt32.toNat.inj e)
  exact String.toList_inj.mp h2
@[simp] theorem strOk_of {s : String} : PyData.strOk (Str.ofString s) = true := by
  rw [Str.ofString_eq_toList]
  unfold PyData.strOk
  rw [Array.all_eq_true']
  intro n hn
  simp only [List.mem_toArray, List.mem_map] at hn
  obtain ⟨c, _, rfl⟩ := hn
  have := c.valid
  simp only [decide_eq_true_eq]
  rcases this with h | h
  · exact Nat.lt_of_lt_of_le h (by decide)
  · exact h.2
@[simp] theorem ofString_eq {s t : String} : (Str.ofString s = Str.ofString t) = (s = t) := propext ofString_inj
/-! places in a list -/
section
variable {α : Type} {xs : List α}
@[simp] theorem atI_nat {n : Nat} : L2.atI xs (n : Int) = xs[n]? := by
  unfold L2.atI L2.ixN
  by_cases h : n < xs.length
  · simp [h]
  · simp [h]
@[simp] theorem atI_0 : L2.atI xs 0 = xs[0]? := atI_nat (n := 0)
@[simp] theorem atI_1 : L2.atI xs 1 = xs[1]? := atI_nat (n := 1)
@[simp] theorem atI_2 : L2.atI xs 2 = xs[2]? := atI_nat (n := 2)
@[simp] theorem atI_3 : L2.atI xs 3 = xs[3]? := atI_nat (n := 3)
@[simp] theorem atI_4 : L2.atI xs 4 = xs[4]? := atI_nat (n := 4)
theorem atI_pos {i : Int} (h : 0 ≤ i) : L2.atI xs i = xs[i.toNat]? := by
  obtain ⟨n, rfl⟩ := Int.eq_ofNat_of_zero_le h
  exact atI_nat
@[simp] theorem ixN_nat {l n : Nat} : L2.ixN l (n : Int) = if n < l then some n else none := by
  unfold L2.ixN
  by_cases h : n < l
  · simp [h]
  · simp [h]
theorem ixN_pos {l : Nat} {i : Int} (h : 0 ≤ i) : L2.ixN l i = if i.toNat < l then some i.toNat else none := by
  obtain ⟨n, rfl⟩ := Int.eq_ofNat_of_zero_le h
  exact ixN_nat
@[simp] theorem ixN_0 {l : Nat} : L2.ixN l 0 = if 0 < l then some 0 else none := ixN_nat (n := 0)
@[simp] theorem ixN_1 {l : Nat} : L2.ixN l 1 = if 1 < l then some 1 else none := ixN_nat (n := 1)
@[simp] theorem ixN_2 {l : Nat} : L2.ixN l 2 = if 2 < l then some 2 else none := ixN_nat (n := 2)
theorem cut_all {ds : List D} : cutD ds none none = ds := by
  unfold cutD
  rw [HT.sIx_none, HT.sIx_none]; simp
theorem cut_hi {ds : List D} {n : Nat} : cutD ds none (some (n : Int)) = ds.take n := by
  unfold cutD
  rw [HT.sIx_none, HT.sIx_nat]
  simp [List.take_eq_take_iff]
theorem cut_lo {ds : List D} {n : Nat} : cutD ds (some (n : Int)) none = ds.drop n := by
  unfold cutD
  rw [HT.sIx_none, HT.sIx_nat]
  by_cases h : n ≤ ds.length
  · rw [Nat.min_eq_left h, List.take_of_length_le (by rw [List.length_drop]; omega)]
  · rw [Nat.min_eq_right (by omega)]; simp; omega
theorem cut_two {ds : List D} {m n : Nat} : cutD ds (some (m : Int)) (some (n : Int)) = (ds.drop m).take (n - m) := by
  unfold cutD
  rw [HT.sIx_nat, HT.sIx_nat]
  by_cases h : m ≤ ds.length
  · rw [Nat.min_eq_left h, List.take_eq_take_iff, List.length_drop]; omega
  · have h : ds.length ≤ m := by omega
    rw [Nat.min_eq_right h, List.drop_of_length_le (Nat.le_refl _), List.drop_of_length_le h]; simp
end
theorem mulOk_l {i j : Int} (h : -(2 ^ 64) < i) (k : i < 2 ^ 64) : mulOk i j = true := by
  unfold mulOk
  simp only [h, k, decide_true, Bool.and_self, Bool.true_or]
theorem mulOk_r {i j : Int} (h : -(2 ^ 64) < j) (k : j < 2 ^ 64) : mulOk i j = true := by
  unfold mulOk
  simp only [h, k, decide_true, Bool.and_self, Bool.true_or, Bool.or_true]
theorem log2_lt {i : Int} {k : Nat} (hk : 0 < k) (h : -(2 ^ k) < i) (g : i < 2 ^ k) : i.natAbs.log2 < k := by
  by_cases z : i.natAbs = 0
  · rw [z]; simpa using hk
  · rw [Nat.log2_lt z]
    have e : ((2 ^ k : Nat) : Int) = 2 ^ k := by simp
    omega
theorem mulOk_b {i j : Int} {k l : Nat} (hk : 0 < k) (hl : 0 < l) (hi : -(2 ^ k) < i) (gi : i < 2 ^ k) (hj : -(2 ^ l) < j) (gj : j < 2 ^ l) (h : k + l ≤ 1000000) : mulOk i j = true := by
  have h1 := log2_lt hk hi gi
  have h2 := log2_lt hl hj gj
  unfold mulOk
  have : i.natAbs.log2 + j.natAbs.log2 < 1000000 := by omega
  simp [this]
/-! lists of one kind -/
section
variable {α : Type}
@[simp] theorem boolsD_map {f : α → Bool} {xs : List α} : boolsD (xs.map fun x => .bool (f x)) = some (xs.map f) := by
  induction xs with
  | nil => rfl
  | cons x xs ih => simp [boolsD, ih]
@[simp] theorem strsD_map {f : α → Str} {xs : List α} : strsD (xs.map fun x => .str (f x)) = some (xs.map f) := by
  induction xs with
  | nil => rfl
  | cons x xs ih => simp [strsD, ih]
@[simp] theorem strsD_map' {xs : List Str} : strsD (xs.map .str) = some xs := by
  have := strsD_map (f := id) (xs := xs)
  simpa using this
@[simp] theorem intsD_map' {xs : List Int} : intsD (xs.map .int) = some xs := by
  induction xs with
  | nil => rfl
  | cons x xs ih => simp [intsD, ih]
end
end RC.P
end RP2
section RP3
set_option Elab.async false
set_option linter.all false
set_option maxRecDepth 100000
set_option autoImplicit false
set_option maxHeartbeats 4000000
/-! RP3: the program's things with a Lean type, and as data -/
namespace RC.P
open PySem

/-- a text that may be compared -/
structure Wd where
  s : Str
  ok : PyData.strOk s = true
theorem Wd.eq {a b : Wd} (h : a.s = b.s) : a = b := by
  cases a; cases b; cases h; rfl
instance : DecidableEq Wd := fun a b => if h : a.s = b.s then .isTrue (Wd.eq h) else .isFalse fun e => h (by rw [e])
@[simp] theorem Wd.s_inj {a b : Wd} : (a.s = b.s) = (a = b) := propext ⟨Wd.eq, fun e => by rw [e]⟩
@[simp] theorem Wd.okb {a : Wd} : PyData.strOk a.s = true := a.ok
def wl (s : String) : Wd := ⟨Str.ofString s, strOk_of⟩
inductive Val where
  | int (i : Int) | str (w : Wd)
  deriving DecidableEq
def Val.d : Val → D
  | .int i => .int i
  | .str w => .str w.s
abbrev Row := List Val
def rowD (r : Row) : D := .tuple (r.map Val.d)
structure Place where
  name : Wd
  row : Row
  deriving DecidableEq
def Place.d (p : Place) : D := .tuple [.str p.name.s, rowD p.row]
abbrev Sh := Int × Int
def shD (s : Sh) : D := .tuple [.int s.1, .int s.2]
structure Fact where
  pl : Place
  ch : Sh
  deriving DecidableEq
def Fact.d (f : Fact) : D := .tuple [.str f.pl.name.s, rowD f.pl.row, shD f.ch]
inductive Term where
  | var (w : Wd) | val (v : Val)
  deriving DecidableEq
def Term.d : Term → D
  | .var w => .tuple [.str (Str.ofString "var"), .str w.s]
  | .val v => .tuple [.str (Str.ofString "value"), v.d]
structure Atom where
  name : Wd
  ts : List Term
  deriving DecidableEq
def Atom.d (a : Atom) : D := .tuple [.str a.name.s, .tuple (a.ts.map Term.d)]
structure Join where
  head : List Term
  body : List Atom
  deriving DecidableEq
def Join.d (j : Join) : D := .tuple [.tuple (j.head.map Term.d), .tuple (j.body.map Atom.d)]
structure Quest where
  width : Int
  joins : List Join
  deriving DecidableEq
def Quest.d (q : Quest) : D := .tuple [.int q.width, .tuple (q.joins.map Join.d)]
structure Table where
  name : Wd
  cols : Int
  deriving DecidableEq
def Table.d (t : Table) : D := .tuple [.str t.name.s, .int t.cols]
def storeD (s : List Fact) : D := .tuple (s.map Fact.d)
def wdD (w : Wd) : D := .str w.s
structure World where
  schema : List Table
  vars : List Wd
  vals : List Val
def World.d (w : World) : D := .list [.tuple (w.schema.map Table.d), .list (w.vars.map wdD), .list (w.vals.map Val.d)]
abbrev Lot := List Place
def lotD (l : Lot) : D := .tuple (l.map Place.d)

/-! equality and shape -/
/-- a kind of data that is told apart by == just as in Lean -/
structure Kn {α : Type} (f : α → D) (n : Nat) : Prop where
  eqv : ∀ a b : α, (PyData.eqv (f a) (f b) = true) = (a = b)
  lay : ∀ a, (f a).canLay0 = true
  dep : ∀ a, (f a).depth ≤ n
section
variable {α β : Type} {f : α → D} {n : Nat}
theorem Kn.shp (k : Kn f n) (h : n ≤ 64) (a : α) : shp (f a) = true := by
  unfold RC.shp SeqAt.shaped
  have := k.dep a
  have h2 : (f a).depth ≤ 64 := by omega
  simp [k.lay a, h2]
theorem Kn.eqb [DecidableEq α] (k : Kn f n) (a b : α) : PyData.eqv (f a) (f b) = decide (a = b) := by
  rw [Bool.eq_iff_iff, decide_eq_true_eq]
  exact iff_of_eq (k.eqv a b)
theorem Kn.all (k : Kn f n) : ∀ xs ys : List α, (PyData.eqvAll (xs.map f) (ys.map f) = true) = (xs = ys)
  | [], [] => by simp [PyData.eqvAll]
  | [], _ :: _ => by simp [PyData.eqvAll]
  | _ :: _, [] => by simp [PyData.eqvAll]
  | x :: xs, y :: ys => by
    rw [List.map_cons, List.map_cons, PyData.eqvAll, Bool.and_eq_true, k.eqv x y, k.all xs ys, List.cons.injEq]
theorem Kn.layAll (k : Kn f n) : ∀ xs : List α, PyData.canLayAll0 (xs.map f) = true
  | [] => by simp [PyData.canLayAll0]
  | x :: xs => by simp [PyData.canLayAll0, k.lay x, k.layAll xs]
theorem Kn.depAll (k : Kn f n) : ∀ xs : List α, PyData.depthAll (xs.map f) ≤ n
  | [] => by simp [PyData.depthAll]
  | x :: xs => by
    have h1 := k.dep x
    have h2 := k.depAll xs
    simp [PyData.depthAll]; omega
theorem Kn.tup (k : Kn f n) : Kn (fun xs : List α => .tuple (xs.map f)) (n + 1) :=
  ⟨fun a b => by simp only [eqv_tt]; exact k.all a b, fun a => by simp [PyData.canLay0, k.layAll], fun a => by
    have := k.depAll a
    simp [PyData.depth]; exact this⟩
theorem Kn.lst (k : Kn f n) : Kn (fun xs : List α => .list (xs.map f)) (n + 1) :=
  ⟨fun a b => by simp only [eqv_ll]; exact k.all a b, fun a => by simp [PyData.canLay0, k.layAll], fun a => by
    have := k.depAll a
    simp [PyData.depth]; exact this⟩
theorem Kn.any [DecidableEq α] (k : Kn f n) (xs : List α) (a : α) : ((xs.map f).any fun z => PyData.eqv z (f a)) = decide (a ∈ xs) := by
  rw [List.any_map, Bool.eq_iff_iff, List.any_eq_true, decide_eq_true_eq]
  constructor
  · rintro ⟨y, hy, e⟩
    have e' : PyData.eqv (f y) (f a) = true := e
    rw [k.eqv] at e'
    exact e' ▸ hy
  · intro hx
    refine ⟨a, hx, ?_⟩
    show PyData.eqv (f a) (f a) = true
    rw [k.eqv]
theorem Kn.two {g : β → D} {m : Nat} (k : Kn f n) (l : Kn g m) {γ : Type} {h : γ → D} {p : γ → α} {q : γ → β} (e : ∀ c, h c = .tuple [f (p c), g (q c)]) (i : ∀ a b, p a = p b → q a = q b → a = b) : Kn h (max n m + 1) :=
  ⟨fun a b => by
    rw [e, e]
    simp only [eqv_tt, PyData.eqvAll, Bool.and_true, Bool.and_eq_true, k.eqv, l.eqv]
    exact propext ⟨fun z => i a b z.1 z.2, fun z => by rw [z]; exact ⟨rfl, rfl⟩⟩, fun a => by rw [e]; simp [PyData.canLay0, PyData.canLayAll0, k.lay, l.lay], fun a => by
    have h1 := k.dep (p a)
    have h2 := l.dep (q a)
    rw [e]
    simp [PyData.depth, PyData.depthAll]; omega⟩
end
theorem kn_int : Kn PyData.int 0 := ⟨fun a b => by simp, fun _ => by simp [PyData.canLay0], fun _ => by simp [PyData.depth]⟩
theorem kn_wd : Kn wdD 0 := ⟨fun a b => by simp [wdD], fun a => by simp [wdD, PyData.canLay0], fun _ => by simp [wdD, PyData.depth]⟩
theorem kn_val : Kn Val.d 0 := ⟨fun a b => by cases a <;> cases b <;> simp [Val.d], fun a => by cases a <;> simp [Val.d, PyData.canLay0], fun a => by cases a <;> simp [Val.d, PyData.depth]⟩
theorem kn_row : Kn rowD 1 := kn_val.tup
theorem kn_place : Kn Place.d 2 := kn_wd.two kn_row (p := Place.name) (q := Place.row) (fun _ => rfl) fun a b h1 h2 => by cases a; cases b; simp_all
theorem kn_sh : Kn shD 1 := kn_int.two kn_int (p := Prod.fst) (q := Prod.snd) (fun _ => rfl) fun a b h1 h2 => Prod.ext h1 h2
theorem kn_lot : Kn lotD 3 := kn_place.tup
theorem kn_fact : Kn Fact.d 2 := ⟨fun a b => by
    show (PyData.eqv (.tuple [wdD a.pl.name, rowD a.pl.row, shD a.ch]) (.tuple [wdD b.pl.name, rowD b.pl.row, shD b.ch]) = true) = _
    simp only [eqv_tt, PyData.eqvAll, Bool.and_true, Bool.and_eq_true, kn_wd.eqv, kn_row.eqv, kn_sh.eqv]
    obtain ⟨⟨a1, a2⟩, a3⟩ := a
    obtain ⟨⟨b1, b2⟩, b3⟩ := b
    simp [and_assoc], fun a => by
    show PyData.canLay0 (.tuple [wdD a.pl.name, rowD a.pl.row, shD a.ch]) = true
    simp [PyData.canLay0, PyData.canLayAll0, kn_wd.lay, kn_row.lay, kn_sh.lay], fun a => by
    have h1 := kn_wd.dep a.pl.name
    have h2 := kn_row.dep a.pl.row
    have h3 := kn_sh.dep a.ch
    show PyData.depth (.tuple [wdD a.pl.name, rowD a.pl.row, shD a.ch]) ≤ 2
    simp [PyData.depth, PyData.depthAll]; omega⟩
theorem kn_term : Kn Term.d 1 := ⟨fun a b => by
    cases a with
    | var w => cases b with
      | var u => simp [Term.d, PyData.eqvAll]
      | val v => simp [Term.d, PyData.eqvAll]
    | val w => cases b with
      | var u => simp [Term.d, PyData.eqvAll]
      | val v => simp [Term.d, PyData.eqvAll, kn_val.eqv], fun a => by
    cases a with
    | var w => simp [Term.d, PyData.canLay0, PyData.canLayAll0]
    | val v => simp [Term.d, PyData.canLay0, PyData.canLayAll0, kn_val.lay], fun a => by
    cases a with
    | var w => simp [Term.d, PyData.depth, PyData.depthAll]
    | val v =>
      have := kn_val.dep v
      simp [Term.d, PyData.depth, PyData.depthAll]; omega⟩
theorem kn_atom : Kn Atom.d 3 := kn_wd.two kn_term.tup (p := Atom.name) (q := Atom.ts) (fun _ => rfl) fun a b h1 h2 => by cases a; cases b; simp_all
section
variable {a b : Wd} {v w : Val} {r q : Row} {x y : Place} {s t : Sh} {f g : Fact} {m n : Term} {l k : Lot} {i j : Atom}
@[simp] theorem eqv_wd : PyData.eqv (wdD a) (wdD b) = decide (a = b) := kn_wd.eqb a b
@[simp] theorem eqv_val : PyData.eqv v.d w.d = decide (v = w) := kn_val.eqb v w
@[simp] theorem eqv_row : PyData.eqv (rowD r) (rowD q) = decide (r = q) := kn_row.eqb r q
@[simp] theorem eqv_place : PyData.eqv x.d y.d = decide (x = y) := kn_place.eqb x y
@[simp] theorem eqv_sh : PyData.eqv (shD s) (shD t) = decide (s = t) := kn_sh.eqb s t
@[simp] theorem eqv_fact : PyData.eqv f.d g.d = decide (f = g) := kn_fact.eqb f g
@[simp] theorem eqv_term : PyData.eqv m.d n.d = decide (m = n) := kn_term.eqb m n
@[simp] theorem eqv_lot : PyData.eqv (lotD l) (lotD k) = decide (l = k) := kn_lot.eqb l k
@[simp] theorem eqv_atom : PyData.eqv i.d j.d = decide (i = j) := kn_atom.eqb i j
@[simp] theorem shp_wd : shp (wdD a) = true := kn_wd.shp (by decide) a
@[simp] theorem shp_val : shp v.d = true := kn_val.shp (by decide) v
@[simp] theorem shp_row : shp (rowD r) = true := kn_row.shp (by decide) r
@[simp] theorem shp_place : shp x.d = true := kn_place.shp (by decide) x
@[simp] theorem shp_sh : shp (shD s) = true := kn_sh.shp (by decide) s
@[simp] theorem shp_fact : shp f.d = true := kn_fact.shp (by decide) f
@[simp] theorem shp_term : shp m.d = true := kn_term.shp (by decide) m
@[simp] theorem shp_lot : shp (lotD l) = true := kn_lot.shp (by decide) l
@[simp] theorem shp_atom : shp i.d = true := kn_atom.shp (by decide) i
@[simp] theorem shp_wds {l : List Wd} : shp (.list (l.map wdD)) = true := kn_wd.lst.shp (by decide) l
@[simp] theorem shp_places {l : List Place} : shp (.list (l.map Place.d)) = true := kn_place.lst.shp (by decide) l
@[simp] theorem shp_placest {l : List Place} : shp (.tuple (l.map Place.d)) = true := kn_place.tup.shp (by decide) l
@[simp] theorem shp_lots {l : List Lot} : shp (.list (l.map lotD)) = true := kn_lot.lst.shp (by decide) l
@[simp] theorem shp_lotst {l : List Lot} : shp (.tuple (l.map lotD)) = true := kn_lot.tup.shp (by decide) l
@[simp] theorem shp_terms {l : List Term} : shp (.tuple (l.map Term.d)) = true := kn_term.tup.shp (by decide) l
@[simp high] theorem any_wd {l : List Wd} : ((l.map wdD).any fun z => PyData.eqv z (wdD a)) = decide (a ∈ l) := kn_wd.any l a
@[simp high] theorem any_place {l : List Place} : ((l.map Place.d).any fun z => PyData.eqv z x.d) = decide (x ∈ l) := kn_place.any l x
@[simp high] theorem any_lot {l : List Lot} {k : Lot} : ((l.map lotD).any fun z => PyData.eqv z (lotD k)) = decide (k ∈ l) := (kn_lot.any l k).trans (decide_eq_decide.mpr Iff.rfl)
/-! items -/
@[simp] theorem ix_pl0 : ixD x.d (.int 0) = some (wdD x.name) := (rfl)
@[simp] theorem ix_pl1 : ixD x.d (.int 1) = some (rowD x.row) := (rfl)
@[simp] theorem ix_sh0 : ixD (shD s) (.int 0) = some (.int s.1) := (rfl)
@[simp] theorem ix_sh1 : ixD (shD s) (.int 1) = some (.int s.2) := (rfl)
@[simp] theorem ix_fact0 : ixD f.d (.int 0) = some (wdD f.pl.name) := (rfl)
@[simp] theorem ix_fact1 : ixD f.d (.int 1) = some (rowD f.pl.row) := (rfl)
@[simp] theorem ix_fact2 : ixD f.d (.int 2) = some (shD f.ch) := (rfl)
@[simp] theorem ix_atom0 : ixD i.d (.int 0) = some (wdD i.name) := (rfl)
@[simp] theorem ix_atom1 : ixD i.d (.int 1) = some (.tuple (i.ts.map Term.d)) := (rfl)
@[simp] theorem ix_table0 {t : Table} : ixD t.d (.int 0) = some (wdD t.name) := (rfl)
@[simp] theorem ix_table1 {t : Table} : ixD t.d (.int 1) = some (.int t.cols) := (rfl)
@[simp] theorem ix_join0 {j : Join} : ixD j.d (.int 0) = some (.tuple (j.head.map Term.d)) := (rfl)
@[simp] theorem ix_join1 {j : Join} : ixD j.d (.int 1) = some (.tuple (j.body.map Atom.d)) := (rfl)
@[simp] theorem ix_quest0 {j : Quest} : ixD j.d (.int 0) = some (.int j.width) := (rfl)
@[simp] theorem ix_quest1 {j : Quest} : ixD j.d (.int 1) = some (.tuple (j.joins.map Join.d)) := (rfl)
@[simp] theorem ix_world0 {w : World} : ixD w.d (.int 0) = some (.tuple (w.schema.map Table.d)) := (rfl)
@[simp] theorem ix_world1 {w : World} : ixD w.d (.int 1) = some (.list (w.vars.map wdD)) := (rfl)
@[simp] theorem ix_world2 {w : World} : ixD w.d (.int 2) = some (.list (w.vals.map Val.d)) := (rfl)
@[simp] theorem sl_fact : slD f.d none (some 2) = some (.imm f.pl.d) := by
  show some (W.imm (.tuple (cutD _ none (some ((2 : Nat) : Int))))) = _
  rw [cut_hi]; rfl
@[simp] theorem ix_var0 {w : Wd} : ixD (Term.var w).d (.int 0) = some (.str (Str.ofString "var")) := (rfl)
@[simp] theorem ix_var1 {w : Wd} : ixD (Term.var w).d (.int 1) = some (wdD w) := (rfl)
@[simp] theorem ix_value0 {w : Val} : ixD (Term.val w).d (.int 0) = some (.str (Str.ofString "value")) := (rfl)
@[simp] theorem ix_value1 {w : Val} : ixD (Term.val w).d (.int 1) = some w.d := (rfl)
end
def Term.tag : Term → String
  | .var _ => "var"
  | .val _ => "value"
def Term.pay : Term → D
  | .var w => wdD w
  | .val v => v.d
@[simp] theorem tag_var {w : Wd} : (Term.var w).tag = "var" := (rfl)
@[simp] theorem tag_val {w : Val} : (Term.val w).tag = "value" := (rfl)
@[simp] theorem pay_var {w : Wd} : (Term.var w).pay = wdD w := (rfl)
@[simp] theorem pay_val {w : Val} : (Term.val w).pay = w.d := (rfl)
@[simp] theorem ix_term0 {t : Term} : ixD t.d (.int 0) = some (.str (Str.ofString t.tag)) := by cases t <;> rfl
@[simp] theorem ix_term1 {t : Term} : ixD t.d (.int 1) = some t.pay := by cases t <;> rfl
/-! draws -/
def lastI (ns : List Int) : Int := ns.getLastD 0
@[simp] theorem pop_dr {ns : List Int} : popD (drD ns) = if ns ≠ [] then some (drD ns.dropLast, .int (lastI ns)) else none := by
  unfold lastI drD
  rw [popD_l]
  cases h : ns with
  | nil => rfl
  | cons n l =>
    rw [← h, if_pos (by rw [h]; exact List.cons_ne_nil _ _)]
    have hp : 0 < ns.length := by rw [h]; exact Nat.succ_pos _
    rw [List.length_map, List.getElem?_map, ← List.getLast?_eq_getElem?]
    rw [List.getLastD_eq_getLast?]
    have hn : ns ≠ [] := by rw [h]; exact List.cons_ne_nil _ _
    rw [List.getLast?_eq_some_getLast hn]
    simp [List.map_dropLast]
def tk (ns : List Int) (m : Int) : Int := lastI ns % m
theorem tk_lo {ns : List Int} {m : Int} (h : 0 < m) : 0 ≤ tk ns m := Int.emod_nonneg _ (by omega)
theorem tk_hi {ns : List Int} {m : Int} (h : 0 < m) : tk ns m < m := Int.emod_lt_of_pos _ h
end RC.P
end RP3
section RP4
set_option Elab.async false
set_option linter.all false
set_option maxRecDepth 100000
set_option autoImplicit false
set_option maxHeartbeats 4000000
/-! RP4: the drawing helpers, first part -/
namespace RC.P
open PySem
abbrev Cal := String → List En → Option (W × List En)
variable {C : Cal}
/-- a list that is only read: frozen, or handed in -/
abbrev Rd (k : Kd) : Prop := k = .imm ∨ k = .bor
abbrev en (k : Kd) (d : D) : En := ⟨k, false, d⟩

def TakeOk (C : Cal) : Prop := ∀ (ns : List Int) (m : Int), 0 < m → C "_law_take" [dr ns, im (.int m)] = some (.imm (.int (tk ns m)), [dr ns.dropLast, im (.int m)])
theorem take_run {ns : List Int} {m : Int} (h : 0 < m) : runF C Lb.f__law_take [dr ns, im (.int m)] = some (.imm (.int (tk ns m)), [dr ns.dropLast, im (.int m)]) := by
  refine eq_of_cSat ?_
  rw [runF_wp]
  simp [Lb.f__law_take, Lb.b__law_take, h]
  refine ite_i ?_ ?_
  · rintro rfl; simp [tk, lastI]
  · intro hn; simp [hn, tk, List.map_dropLast, h]
def PickOk (C : Cal) : Prop := ∀ {α : Type} (g : α → D) (xs : List α) (d : D) (ns : List Int) (k : Kd), Rd k → xs ≠ [] → (d = .list (xs.map g) ∨ d = .tuple (xs.map g)) → ∃ x, x ∈ xs ∧ C "_law_pick" [dr ns, en k d] = some (.imm (g x), [dr ns.dropLast, en k d])
theorem pick_run (hT : TakeOk C) {α : Type} (g : α → D) (xs : List α) (d : D) (ns : List Int) (k : Kd) (hk : Rd k) (hn : xs ≠ []) (hd : d = .list (xs.map g) ∨ d = .tuple (xs.map g)) : ∃ x, x ∈ xs ∧ runF C Lb.f__law_pick [dr ns, en k d] = some (.imm (g x), [dr ns.dropLast, en k d]) := by
  have hl : 0 < xs.length := List.length_pos_iff.mpr hn
  have hl2 : 0 < (xs.length : Int) := by omega
  have h1 := tk_lo (ns := ns) hl2
  have h2 := tk_hi (ns := ns) hl2
  have h3 : (tk ns xs.length).toNat < xs.length := by omega
  refine ⟨xs[(tk ns xs.length).toNat], List.getElem_mem _, eq_of_cSat ?_⟩
  rw [runF_wp]
  rcases hk with rfl | rfl <;> rcases hd with rfl | rfl <;> simp [Lb.f__law_pick, Lb.b__law_pick, hT _ _ hl2, atI_pos h1, h3]

theorem atI_mem {α : Type} {xs : List α} {r : Int} (h1 : 0 ≤ r) (h2 : r < xs.length) : ∃ x, x ∈ xs ∧ L2.atI xs r = some x := by
  rw [atI_pos h1]
  exact ⟨xs[r.toNat], List.getElem_mem _, List.getElem?_eq_getElem (by omega)⟩
theorem atI_ints (l : List Int) {r : Int} (h1 : 0 ≤ r) (h2 : r < l.length) : ∃ j, j ∈ l ∧ L2.atI (l.map PyData.int) r = some (.int j) := by
  rw [atI_pos h1, List.getElem?_map]
  exact ⟨l[r.toNat], List.getElem_mem _, by rw [List.getElem?_eq_getElem (by omega)]; rfl⟩
def ValueOk (C : Cal) : Prop := ∀ (ns : List Int) (k : Kd) (vs : List Val), Rd k → vs.length = 3 → ∃ v ns', v ∈ vs ∧ C "_law_value" [dr ns, en k (.list (vs.map Val.d))] = some (.imm v.d, [dr ns', en k (.list (vs.map Val.d))])
theorem value_run (hT : TakeOk C) (ns : List Int) (k : Kd) (vs : List Val) (hk : Rd k) (hl : vs.length = 3) : ∃ v ns', v ∈ vs ∧ runF C Lb.f__law_value [dr ns, en k (.list (vs.map Val.d))] = some (.imm v.d, [dr ns', en k (.list (vs.map Val.d))]) := by
  obtain ⟨a, b, c, rfl⟩ : ∃ a b c, vs = [a, b, c] := by
    match vs, hl with
    | [a, b, c], _ => exact ⟨a, b, c, rfl⟩
  have h5 : (0 : Int) < 5 := by decide
  obtain ⟨j, hj, e⟩ := atI_ints [0, 1, 0, 2, 1] (tk_lo (ns := ns) h5) (tk_hi h5)
  simp only [List.map] at e
  have : ∃ v, v ∈ [a, b, c] ∧ L2.atI [a.d, b.d, c.d] j = some v.d := by
    simp at hj
    rcases hj with rfl | rfl | rfl | rfl | rfl <;> simp
  obtain ⟨v, hv, e2⟩ := this
  refine ⟨v, ns.dropLast, hv, eq_of_cSat ?_⟩
  rw [runF_wp]
  rcases hk with rfl | rfl <;> simp [Lb.f__law_value, Lb.b__law_value, hT _ _ h5, line, e, e2]
end RC.P
end RP4
section RP5
set_option Elab.async false
set_option linter.all false
set_option maxRecDepth 100000
set_option autoImplicit false
set_option maxHeartbeats 4000000
/-! RP5: shares -/
namespace RC.P
open PySem
variable {C : Cal}
def EuInv (N D L k a b : Nat) : Prop := Nat.gcd a b = Nat.gcd N D ∧ ((k = 0 ∧ a = N ∧ b = D) ∨ (1 ≤ k ∧ b < a ∧ a * 2 ^ ((k - 1) / 2) < 2 ^ L ∧ b * 2 ^ (k / 2) < 2 ^ L))
theorem eu_step {N D L k a b : Nat} (hd : D < 2 ^ L) (h : EuInv N D L k a b) (hb : b ≠ 0) : EuInv N D L (k + 1) b (a % b) := by
  obtain ⟨h1, h2⟩ := h
  have hb : 0 < b := Nat.pos_of_ne_zero hb
  have hm : a % b < b := Nat.mod_lt _ hb
  refine ⟨by rw [← h1, Nat.gcd_comm, ← Nat.gcd_rec, Nat.gcd_comm], .inr ⟨by omega, hm, ?_, ?_⟩⟩
  · rcases h2 with ⟨rfl, rfl, rfl⟩ | ⟨k1, k2, k3, k4⟩
    · simpa using hd
    · simpa using k4
  · rcases h2 with ⟨rfl, rfl, rfl⟩ | ⟨k1, k2, k3, k4⟩
    · simp; omega
    · have e : (k + 1) / 2 = (k - 1) / 2 + 1 := by omega
      have two : 2 * (a % b) ≤ a := by
        have h3 := Nat.div_add_mod a b
        have h4 : 1 ≤ a / b := (Nat.one_le_div_iff hb).mpr (by omega)
        have h5 : b * 1 ≤ b * (a / b) := Nat.mul_le_mul_left b h4
        omega
      rw [e, Nat.pow_succ]
      calc a % b * (2 ^ ((k - 1) / 2) * 2) = (2 * (a % b)) * 2 ^ ((k - 1) / 2) := by
            rw [Nat.mul_comm (2 ^ _) 2, ← Nat.mul_assoc, Nat.mul_comm (a % b) 2]
        _ ≤ a * 2 ^ ((k - 1) / 2) := Nat.mul_le_mul_right _ two
        _ < 2 ^ L := k3
theorem eu_end {N D L a b : Nat} (h : EuInv N D L (2 * L + 4) a b) : b = 0 := by
  obtain ⟨h1, h2⟩ := h
  rcases h2 with ⟨z, _⟩ | ⟨k1, k2, k3, k4⟩
  · omega
  · have e : (2 * L + 4) / 2 = L + 2 := by omega
    rw [e, Nat.pow_add] at k4
    by_cases hb : b = 0
    · exact hb
    · have h5 : 1 * (2 ^ L * 2 ^ 2) ≤ b * (2 ^ L * 2 ^ 2) := Nat.mul_le_mul_right _ (Nat.pos_of_ne_zero hb)
      have h6 : 0 < 2 ^ L := Nat.two_pow_pos L
      generalize 2 ^ L = p at *
      omega
def gcdI (n d : Int) : Int := (Nat.gcd n.natAbs d.natAbs : Nat)
def mkSh (n d : Int) : Sh := (n / gcdI n d, d / gcdI n d)
theorem gcdI_pos {n d : Int} (h : 0 < d) : 0 < gcdI n d := by
  unfold gcdI
  have := Nat.gcd_pos_of_pos_right n.natAbs (show 0 < d.natAbs by omega)
  omega
theorem gcdI_le {n d : Int} (h : 0 < d) : gcdI n d ≤ d := by
  unfold gcdI
  have := Nat.gcd_le_right n.natAbs (show 0 < d.natAbs by omega)
  omega
theorem bits_iff {m : Nat} {x : Int} : Builtin.Int.intBits x ≤ m ↔ x.natAbs < 2 ^ m := PySem.intBits_le_iff
theorem bitLen_lt (d : Nat) : d < 2 ^ (Builtin.Int.intBits (d : Int)) := by
  have := (bits_iff (m := Builtin.Int.intBits (d : Int)) (x := (d : Int))).mp (Nat.le_refl _)
  simpa using this
/-- a whole number of at most k bits -/
def Bd (k : Nat) (d : Int) : Prop := d.natAbs < 2 ^ k
theorem Bd.log {k : Nat} {d : Int} (h : Bd k d) (hk : k ≤ 8000) : d.natAbs.log2 < 9000 := by
  by_cases z : d.natAbs = 0
  · rw [z]; decide
  · have := (Nat.log2_lt z).mpr h
    omega
theorem Bd.mono {k l : Nat} {d : Int} (h : Bd k d) (hk : k ≤ l) : Bd l d := Nat.lt_of_lt_of_le h (Nat.pow_le_pow_right (by decide) hk)
theorem Bd.le {k : Nat} {d e : Int} (h : Bd k d) (h0 : 0 ≤ e) (hk : e ≤ d) : Bd k e := by
  unfold Bd at *
  omega
theorem Bd.mul {k l : Nat} {d e : Int} (h : Bd k d) (g : Bd l e) : Bd (k + l) (d * e) := by
  unfold Bd at *
  rw [Int.natAbs_mul, Nat.pow_add]
  exact Nat.mul_lt_mul'' h g
theorem Bd.mulOk {k l : Nat} {d e : Int} (h : Bd k d) (g : Bd l e) (hk : k + l ≤ 900000) : mulOk d e = true := by
  have h1 : d.natAbs.log2 ≤ k := by
    by_cases z : d.natAbs = 0
    · rw [z]; exact Nat.zero_le _
    · exact Nat.le_of_lt ((Nat.log2_lt z).mpr h)
  have h2 : e.natAbs.log2 ≤ l := by
    by_cases z : e.natAbs = 0
    · rw [z]; exact Nat.zero_le _
    · exact Nat.le_of_lt ((Nat.log2_lt z).mpr g)
  have : d.natAbs.log2 + e.natAbs.log2 < 1000000 := by omega
  unfold RC.mulOk
  simp only [this, decide_true, Bool.or_true]
def ShareOk (C : Cal) : Prop := ∀ (n d : Int) (k : Nat), 0 ≤ n → 0 < d → Bd k d → k ≤ 8000 → C "_law_share" [im (.int n), im (.int d)] = some (.imm (shD (mkSh n d)), [im (.int n), im (.int d)])
theorem share_run (n d : Int) (k : Nat) (hn : 0 ≤ n) (hd : 0 < d) (hb : Bd k d) (hk : k ≤ 8000) : runF C Lb.f__law_share [im (.int n), im (.int d)] = some (.imm (shD (mkSh n d)), [im (.int n), im (.int d)]) := by
  obtain ⟨N, rfl⟩ := Int.eq_ofNat_of_zero_le hn
  obtain ⟨D', rfl⟩ := Int.eq_ofNat_of_zero_le (Int.le_of_lt hd)
  have hD : 0 < D' := by omega
  have hbit : Builtin.Int.intBits (D' : Int) ≤ k := bits_iff.mpr hb
  have hL := bitLen_lt D'
  have hbl : bitLen (D' : Int) = ((Builtin.Int.intBits (D' : Int) : Nat) : Int) := rfl
  have hg := gcdI_pos (n := N) hd
  have hg2 := gcdI_le (n := N) hd
  have hlog := (hb.le (Int.le_of_lt hg) hg2).log hk
  generalize Builtin.Int.intBits (D' : Int) = L at *
  refine eq_of_cSat ?_
  rw [runF_wp]
  have hm : mulOk 2 (L : Int) = true := mulOk_l (by decide) (by decide)
  have hr : -4611686018427387904 ≤ 2 * (L : Int) + 4 ∧ 2 * (L : Int) + 4 < 4611686018427387904 := by omega
  simp [Lb.f__law_share, Lb.b__law_share, hbl, hm, hr]
  have hlen : (2 * (L : Int) + 4).toNat = 2 * L + 4 := by omega
  rw [hlen]
  obtain ⟨I, hI⟩ : ∃ I : Nat → Rho → Prop, ∀ k ρ, I k ρ ↔ ∃ a b x4 x5, okS x4 = true ∧ okS x5 = true ∧ ρ = [some (im (.int N)), some (im (.int D')), some (im (.int (a : Nat))), some (im (.int (b : Nat))), x4, x5] ∧ EuInv N D' L k a b := ⟨_, fun _ _ => Iff.rfl⟩
  obtain ⟨Z, hZ⟩ : ∃ Z : Rho → Prop, ∀ ρ, Z ρ ↔ ∃ b x4 x5, ρ = [some (im (.int N)), some (im (.int D')), some (im (.int (gcdI N D'))), b, x4, x5] := ⟨_, fun _ => Iff.rfl⟩
  refine wp_mono (Q := fun o ρ => o = .nx ∧ Z ρ) (wp_loopL I 0 ((hI _ _).mpr ⟨N, D', none, none, rfl, rfl, rfl, rfl, .inl ⟨rfl, rfl, rfl⟩⟩) (fun i e ρ he h => ?_) fun ρ h => ?_) ?_
  · obtain ⟨a, b, x4, x5, h4, h5, rfl, hE⟩ := (hI _ _).mp h
    simp [h4, h5]
    refine ite_i (fun hz => (hZ _).mpr ?_) (fun hz => ⟨by omega, (hI _ _).mpr ⟨b, a % b, some (im e), some (im (.int ((a : Int) % (b : Int)))), rfl, rfl, ?_, ?_⟩⟩)
    · subst hz
      have := hE.1
      simp at this
      exact ⟨_, _, _, by simp only [gcdI, Int.natAbs_natCast, this]; rfl⟩
    · rw [Int.natCast_emod]
    · have := eu_step hL hE (show b ≠ 0 by omega)
      simpa using this
  · obtain ⟨a, b, x4, x5, h4, h5, rfl, hE⟩ := (hI _ _).mp h
    have hz := eu_end (by simpa using hE)
    subst hz
    have := hE.1
    simp at this
    exact ⟨rfl, (hZ _).mpr ⟨_, _, _, by simp only [gcdI, Int.natAbs_natCast, this]; rfl⟩⟩
  · rintro _ ρ ⟨rfl, h⟩
    obtain ⟨b, x4, x5, rfl⟩ := (hZ _).mp h
    simp [hg, hlog, line, shD, mkSh]
theorem mkSh_lo {n d : Int} (hn : 0 ≤ n) (hd : 0 < d) : 0 ≤ (mkSh n d).1 := Int.ediv_nonneg hn (Int.le_of_lt (gcdI_pos hd))
theorem mkSh_pos {n d : Int} (hd : 0 < d) : 0 < (mkSh n d).2 := by
  have hg := gcdI_pos (n := n) hd
  exact Int.ediv_pos_of_pos_of_dvd hd (Int.le_of_lt hg) (by
    unfold gcdI
    exact Int.ofNat_dvd_left.mpr (Nat.gcd_dvd_right _ _))
theorem mkSh_le {n d : Int} (h : n ≤ d) (hd : 0 < d) : (mkSh n d).1 ≤ (mkSh n d).2 := Int.ediv_le_ediv (gcdI_pos hd) h
theorem mkSh_le2 {n d : Int} (hd : 0 < d) : (mkSh n d).2 ≤ d := Int.ediv_le_self _ (Int.le_of_lt hd)
/-- a share in lowest terms that is at most 1 -/
structure ChOk (s : Sh) : Prop where
  lo : 0 ≤ s.1
  hi : s.1 ≤ s.2
  pos : 0 < s.2
  cop : Nat.gcd s.1.natAbs s.2.natAbs = 1
theorem mkSh_cop {n d : Int} (hn : 0 ≤ n) (hd : 0 < d) : Nat.gcd (mkSh n d).1.natAbs (mkSh n d).2.natAbs = 1 := by
  obtain ⟨N, rfl⟩ := Int.eq_ofNat_of_zero_le hn
  obtain ⟨D', rfl⟩ := Int.eq_ofNat_of_zero_le (Int.le_of_lt hd)
  have hD : 0 < D' := by omega
  show Nat.gcd (((N : Int) / ((Nat.gcd N D' : Nat) : Int))).natAbs (((D' : Int) / ((Nat.gcd N D' : Nat) : Int))).natAbs = 1
  rw [← Int.natCast_ediv, ← Int.natCast_ediv, Int.natAbs_natCast, Int.natAbs_natCast]
  exact Nat.gcd_div_gcd_div_gcd_of_pos_right hD
theorem mkSh_ok {n d : Int} (hn : 0 ≤ n) (h : n ≤ d) (hd : 0 < d) : ChOk (mkSh n d) := ⟨mkSh_lo hn hd, mkSh_le h hd, mkSh_pos hd, mkSh_cop hn hd⟩
end RC.P
namespace RC.P
open PySem
variable {C : Cal}
theorem chance_num {d t r : Int} (hd : 2 ≤ d) (t0 : 0 ≤ t) (t1 : t ≤ d) (r0 : 0 ≤ r) (r1 : r < 4) : ∃ n, 0 ≤ n ∧ n ≤ d ∧ L2.atI [PyData.int 1, .int (d - 1), .int t, .int 1] r = some (.int n) := by
  obtain ⟨n, hn, e⟩ := atI_ints [1, d - 1, t, 1] r0 r1
  refine ⟨n, ?_, ?_, e⟩
  · simp at hn; omega
  · simp at hn; omega
def ChanceOk (C : Cal) : Prop := ∀ ns : List Int, ∃ s ns', ChOk s ∧ Bd 31 s.2 ∧ C "_law_chance" [dr ns] = some (.imm (shD s), [dr ns'])
theorem chance_end {n d : Int} (hn : 0 ≤ n) (hd : n ≤ d) (d0 : 0 < d) (hb : d < 2 ^ 31) : ChOk (mkSh n d) ∧ Bd 31 (mkSh n d).2 := by
  refine ⟨mkSh_ok hn hd d0, ?_⟩
  have h1 := mkSh_le2 (n := n) d0
  have h2 := mkSh_pos (n := n) d0
  unfold Bd
  omega
theorem chance_run (hT : TakeOk C) (hS : ShareOk C) (ns : List Int) : ∃ s ns', ChOk s ∧ Bd 31 s.2 ∧ runF C Lb.f__law_chance [dr ns] = some (.imm (shD s), [dr ns']) := by
  have a1 := tk_lo (ns := ns) (m := 5) (by decide)
  have a2 := tk_hi (ns := ns) (m := 5) (by decide)
  have hT5 := hT ns 5 (by decide)
  have hT14 := hT ns.dropLast 14 (by decide)
  by_cases h : tk ns.dropLast 14 = 0
  · have hT1000 := hT ns.dropLast.dropLast 1000 (by decide)
    have b1 := tk_lo (ns := ns.dropLast.dropLast) (m := 1000) (by decide)
    have b2 := tk_hi (ns := ns.dropLast.dropLast) (m := 1000) (by decide)
    generalize tk ns.dropLast.dropLast 1000 = t3 at *
    generalize ns.dropLast.dropLast.dropLast = ns3 at *
    have hp : 0 < 1000003 + 1000000 * t3 + 1 := by omega
    have hTd := hT ns3 _ hp
    have hT4 := hT ns3.dropLast 4 (by decide)
    obtain ⟨n, n0, n1, e⟩ := chance_num (d := 1000003 + 1000000 * t3) (t := tk ns3 (1000003 + 1000000 * t3 + 1)) (r := tk ns3.dropLast 4) (by omega) (tk_lo hp) (by have := tk_hi (ns := ns3) hp; omega) (tk_lo (by decide)) (tk_hi (by decide))
    have hs := hS n (1000003 + 1000000 * t3) 31 n0 (by omega) (by unfold Bd; omega) (by decide)
    obtain ⟨c1, c2⟩ := chance_end n0 n1 (by omega) (by omega)
    refine ⟨_, ns3.dropLast.dropLast, c1, c2, eq_of_cSat ?_⟩
    rw [runF_wp]
    have hm : mulOk 1000000 t3 = true := mulOk_l (by decide) (by decide)
    simp [Lb.f__law_chance, Lb.b__law_chance, hT5, hT14, h, hT1000, hm, hTd, hT4, e, hs, line]
  · have hp : 0 < 2 + tk ns 5 + 1 := by omega
    have hTd := hT ns.dropLast.dropLast _ hp
    have hT4 := hT ns.dropLast.dropLast.dropLast 4 (by decide)
    obtain ⟨n, n0, n1, e⟩ := chance_num (d := 2 + tk ns 5) (t := tk ns.dropLast.dropLast (2 + tk ns 5 + 1)) (r := tk ns.dropLast.dropLast.dropLast 4) (by omega) (tk_lo hp) (by have := tk_hi (ns := ns.dropLast.dropLast) hp; omega) (tk_lo (by decide)) (tk_hi (by decide))
    have hs := hS n (2 + tk ns 5) 31 n0 (by omega) (by unfold Bd; omega) (by decide)
    obtain ⟨c1, c2⟩ := chance_end n0 n1 (by omega) (by omega)
    refine ⟨_, ns.dropLast.dropLast.dropLast.dropLast, c1, c2, eq_of_cSat ?_⟩
    rw [runF_wp]
    simp [Lb.f__law_chance, Lb.b__law_chance, hT5, hT14, h, hTd, hT4, e, hs, line]
/-! sums and products of shares -/
def plusS (s t : Sh) : Sh := mkSh (s.1 * t.2 + t.1 * s.2) (s.2 * t.2)
def timesS (s t : Sh) : Sh := mkSh (s.1 * t.1) (s.2 * t.2)
def restS (s : Sh) : Sh := (s.2 - s.1, s.2)
/-- a share whose denominator has at most k bits -/
structure ShB (k : Nat) (s : Sh) : Prop where
  lo : 0 ≤ s.1
  pos : 0 < s.2
  top : Bd k s.1
  bd : Bd k s.2
def LPlusOk (C : Cal) : Prop := ∀ (s t : Sh) (k l : Nat), ShB k s → ShB l t → k + l ≤ 8000 → C "_law_plus" [im (shD s), im (shD t)] = some (.imm (shD (plusS s t)), [im (shD s), im (shD t)])
def LTimesOk (C : Cal) : Prop := ∀ (s t : Sh) (k l : Nat), ShB k s → ShB l t → k + l ≤ 8000 → C "_law_times" [im (shD s), im (shD t)] = some (.imm (shD (timesS s t)), [im (shD s), im (shD t)])
def LRestOk (C : Cal) : Prop := ∀ (s : Sh), C "_law_rest" [im (shD s)] = some (.imm (shD (restS s)), [im (shD s)])
theorem lplus_run (hS : ShareOk C) (s t : Sh) (k l : Nat) (hs : ShB k s) (ht : ShB l t) (h : k + l ≤ 8000) : runF C Lb.f__law_plus [im (shD s), im (shD t)] = some (.imm (shD (plusS s t)), [im (shD s), im (shD t)]) := by
  refine eq_of_cSat ?_
  rw [runF_wp]
  have m1 := hs.top.mulOk ht.bd (by omega)
  have m2 := ht.top.mulOk hs.bd (by omega)
  have m3 := hs.bd.mulOk ht.bd (by omega)
  have e := hS (s.1 * t.2 + t.1 * s.2) (s.2 * t.2) (k + l) (Int.add_nonneg (Int.mul_nonneg hs.lo (Int.le_of_lt ht.pos)) (Int.mul_nonneg ht.lo (Int.le_of_lt hs.pos))) (Int.mul_pos hs.pos ht.pos) (hs.bd.mul ht.bd) h
  simp [Lb.f__law_plus, Lb.b__law_plus, m1, m2, m3, e, plusS]
theorem ltimes_run (hS : ShareOk C) (s t : Sh) (k l : Nat) (hs : ShB k s) (ht : ShB l t) (h : k + l ≤ 8000) : runF C Lb.f__law_times [im (shD s), im (shD t)] = some (.imm (shD (timesS s t)), [im (shD s), im (shD t)]) := by
  refine eq_of_cSat ?_
  rw [runF_wp]
  have m1 := hs.top.mulOk ht.top (by omega)
  have m3 := hs.bd.mulOk ht.bd (by omega)
  have e := hS (s.1 * t.1) (s.2 * t.2) (k + l) (Int.mul_nonneg hs.lo ht.lo) (Int.mul_pos hs.pos ht.pos) (hs.bd.mul ht.bd) h
  simp [Lb.f__law_times, Lb.b__law_times, m1, m3, e, timesS]
theorem lrest_run (s : Sh) : runF C Lb.f__law_rest [im (shD s)] = some (.imm (shD (restS s)), [im (shD s)]) := by
  refine eq_of_cSat ?_
  rw [runF_wp]
  simp [Lb.f__law_rest, Lb.b__law_rest, restS, line, shD]
end RC.P
end RP5
section RP6
set_option Elab.async false
set_option linter.all false
set_option maxRecDepth 100000
set_option autoImplicit false
set_option maxHeartbeats 4000000
/-! RP6: loops that draw; words -/
namespace RC.P
open PySem
variable {C : Cal}
/-- a comprehension whose frame is told by a state -/
theorem wp_compS {f : D → Rho → Rs (Option D)} {Q : List D → Rho → Prop} {σ α : Type} (F : σ → Rho) (g : α → D) (P : α → Prop) : ∀ {ds : List D} (s : σ) (as : List α), as.length + ds.length ≤ line → (∀ a, a ∈ as → P a) → (∀ d, d ∈ ds → ∀ s, ∀ Z : Option D → Rho → Prop, (∀ a s', P a → Z (some (g a)) (F s')) → wp (f d (F s)) Z) → (∀ (bs : List α) s, bs.length = as.length + ds.length → (∀ b, b ∈ bs → P b) → Q (bs.map g) (F s)) → wp (compL f ds (F s) (as.map g)) Q
  | [], s, as, _, ha, _, q => q as s rfl ha
  | d :: ds, s, as, hl, ha, h, q => by
    obtain ⟨o, ρ, e, a, s', pa, rfl, rfl⟩ := wp_of (h d (List.mem_cons_self ..) s (fun o ρ => ∃ a s', P a ∧ o = some (g a) ∧ ρ = F s') fun a s' pa => ⟨a, s', pa, rfl, rfl⟩)
    show wp ((f d (F s)).bnd _) Q
    rw [e]
    rw [List.length_cons] at hl
    show wp (if (as.map g).length < line then _ else _) Q
    rw [if_pos (by rw [List.length_map]; omega)]
    have e2 : as.map g ++ [g a] = (as ++ [a]).map g := by simp
    rw [e2]
    refine wp_compS F g P s' (as ++ [a]) (by simp; omega) (fun b hb => ?_) (fun d hd => h d (List.mem_cons_of_mem _ hd)) fun bs s hb => q bs s (by rw [hb]; simp; omega)
    rcases List.mem_append.mp hb with hb | hb
    · exact ha b hb
    · rw [List.mem_singleton.mp hb]; exact pa
/-- a comprehension that leaves the frame as it is -/
theorem wp_compP {f : D → Rho → Rs (Option D)} {Q : List D → Rho → Prop} {α : Type} {g : α → D} {ρ : Rho} (o : α → Option D) {xs : List α} (hl : xs.length ≤ line) (h : ∀ x, x ∈ xs → wp (f (g x) ρ) fun z ρ' => z = o x ∧ ρ' = ρ) (q : Q (xs.filterMap o) ρ) : wp (compL f (xs.map g) ρ []) Q := by
  refine wp_eq (compL_pure (acc := []) o (by simpa using hl) fun x hx => ?_) (by simpa using q)
  obtain ⟨z, ρ', e, rfl, rfl⟩ := wp_of (h x hx)
  exact e
theorem wp_compM {f : D → Rho → Rs (Option D)} {Q : List D → Rho → Prop} {α : Type} {g : α → D} {ρ : Rho} (k : α → D) {xs : List α} (hl : xs.length ≤ line) (h : ∀ x, x ∈ xs → wp (f (g x) ρ) fun z ρ' => z = some (k x) ∧ ρ' = ρ) (q : Q (xs.map k) ρ) : wp (compL f (xs.map g) ρ []) Q :=
  wp_compP (fun x => some (k x)) hl h (by rw [List.filterMap_eq_map']; exact q)
theorem wp_compF {f : D → Rho → Rs (Option D)} {Q : List D → Rho → Prop} {α : Type} {g : α → D} {ρ : Rho} (p : α → Bool) (k : α → D) {xs : List α} (hl : xs.length ≤ line) (h : ∀ x, x ∈ xs → wp (f (g x) ρ) fun z ρ' => z = (if p x then some (k x) else none) ∧ ρ' = ρ) (q : Q ((xs.filter p).map k) ρ) : wp (compL f (xs.map g) ρ []) Q := by
  refine wp_compP (fun x => if p x then some (k x) else none) hl h ?_
  have e : ∀ xs : List α, (xs.filterMap fun x => if p x then some (k x) else none) = (xs.filter p).map k := fun xs => by
    induction xs with
    | nil => rfl
    | cons x xs ih =>
      by_cases c : p x = true <;> simp [List.filterMap_cons, c, ih]
  rw [e]; exact q
/-- what the turns of a loop may end with -/
abbrev endL (Q : Fl → Rho → Prop) (Z : Rho → Prop) (o : Fl) (ρ : Rho) : Prop := nxF o ρ Z fun o ρ1 => outF o ρ1 (fun ρ1 => Q .nx ρ1) Q
/-- a loop whose frame is told by a state -/
theorem wp_loopS {f : D → Rho → Rs Fl} {Q : Fl → Rho → Prop} {σ : Type} (F : σ → Rho) (I : Nat → σ → Prop) {ds : List D} (s : σ) (h0 : I 0 s) (h : ∀ (i : Nat) d s, ds[i]? = some d → I i s → ∀ Z : Rho → Prop, (∀ s', I (i + 1) s' → Z (F s')) → wp (f d (F s)) fun o ρ => nxF o ρ Z fun o ρ1 => outF o ρ1 (fun ρ1 => Q .nx ρ1) Q) (q : ∀ s, I ds.length s → Q .nx (F s)) : wp (loopL f ds (F s)) Q := by
  refine wp_loopL (fun k ρ => ∃ s, I k s ∧ ρ = F s) 0 ⟨s, h0, rfl⟩ (fun i d ρ hd hi => ?_) fun ρ hi => ?_
  · obtain ⟨s, hs, rfl⟩ := hi
    exact h i d s hd (by simpa using hs) _ fun s' hs' => ⟨s', by simpa using hs', rfl⟩
  · obtain ⟨s, hs, rfl⟩ := hi
    exact q s (by simpa using hs)
/-- a loop over a list, by what has been walked -/
theorem wp_forS {f : D → Rho → Rs Fl} {Q : Fl → Rho → Prop} {σ α : Type} {g : α → D} (F : σ → Rho) (I : List α → σ → Prop) {xs : List α} (s : σ) (h0 : I [] s) (h : ∀ (ys : List α) (x : α) (zs : List α) s, xs = ys ++ x :: zs → I ys s → ∀ Z : Rho → Prop, (∀ s', I (ys ++ [x]) s' → Z (F s')) → wp (f (g x) (F s)) fun o ρ => nxF o ρ Z fun o ρ1 => outF o ρ1 (fun ρ1 => Q .nx ρ1) Q) (q : ∀ s, I xs s → Q .nx (F s)) : wp (loopL f (xs.map g) (F s)) Q := by
  refine wp_for (xs := xs) (fun ys ρ => ∃ s, I ys s ∧ ρ = F s) [] ⟨s, h0, rfl⟩ (fun ys x zs ρ hx hi => ?_) (fun ρ hi => ?_) xs rfl
  · obtain ⟨s, hs, rfl⟩ := hi
    exact h ys x zs s hx hs _ fun s' hs' => ⟨s', hs', rfl⟩
  · obtain ⟨s, hs, rfl⟩ := hi
    exact q s hs
/-- slots that are written anew -/
abbrev S1 := { x : Option En // okS x = true }
abbrev S2 := { x : Option En × Option En // okS x.1 = true ∧ okS x.2 = true }
abbrev H1 := { x : Option En // hidS x = true }
def h1n : H1 := ⟨none, rfl⟩
theorem ok_of_hid {x : Option En} (h : hidS x = true) : okS x = true := by
  cases x with
  | none => rfl
  | some e =>
    obtain ⟨k, l, d⟩ := e
    cases k <;> cases l <;> first | rfl | cases h
def s1n : S1 := ⟨none, rfl⟩
def s2n : S2 := ⟨(none, none), rfl, rfl⟩
/-! texts -/
/-- a word: letters only -/
structure Wdl (w : Wd) : Prop where
  ne : 0 < w.s.length
  low : ∀ c ∈ w.s.cps.toList, 97 ≤ c ∧ c ≤ 122
theorem join_nil (ps : List Str) : (joinD (Str.ofString "") ps).cps.toList = (ps.map fun p => p.cps.toList).flatten := by
  unfold joinD
  rw [TL.join_eq]
  induction ps with
  | nil => rfl
  | cons x r ih =>
    cases r with
    | nil => simp [Str.join]
    | cons z r =>
      show (x ++ Str.ofString "" ++ Str.join (Str.ofString "") (z :: r)).cps.toList = _
      have e : ∀ a b : Str, (a ++ b).cps.toList = a.cps.toList ++ b.cps.toList := fun a b => by
        show (a.cps ++ b.cps).toList = _
        simp
      rw [e, e, ih]
      have e2 : (Str.ofString "").cps.toList = [] := by rw [Str.ofString_eq_toList]; rfl
      rw [e2]
      simp
theorem len_join (ps : List Str) : (joinD (Str.ofString "") ps).length = (ps.map Str.length).sum := by
  have e : ∀ s : Str, s.length = s.cps.toList.length := fun s => by simp [Str.length]
  rw [e, join_nil, List.length_flatten, List.map_map]
  congr 1
theorem strOk_iff {s : Str} : PyData.strOk s = true ↔ ∀ c ∈ s.cps.toList, c < 0x110000 := by
  unfold PyData.strOk
  rw [Array.all_eq_true']
  simp
/-- joined words -/
def joinW (ws : List Wd) : Wd := ⟨joinD (Str.ofString "") (ws.map (·.s)), by
  rw [strOk_iff]
  intro c hc
  rw [join_nil] at hc
  simp only [List.map_map, List.mem_flatten, List.mem_map] at hc
  obtain ⟨l, ⟨w, _, rfl⟩, hc⟩ := hc
  exact strOk_iff.mp w.ok c hc⟩
def addW (a b : Wd) : Wd := ⟨a.s ++ b.s, by
  rw [strOk_iff]
  intro c hc
  have e : (a.s ++ b.s).cps.toList = a.s.cps.toList ++ b.s.cps.toList := by
    show (a.s.cps ++ b.s.cps).toList = _
    simp
  rw [e] at hc
  rcases List.mem_append.mp hc with h | h
  · exact strOk_iff.mp a.ok c h
  · exact strOk_iff.mp b.ok c h⟩
def lenW (ws : List Wd) : Nat := (ws.map fun w => w.s.length).sum
theorem joinO_wd {ws : List Wd} {s : Str} : joinO (.str s) (.list (ws.map wdD)) = if lenW ws + ws.length * s.length ≤ line then some (.str (joinD s (ws.map (·.s)))) else none := by
  rw [joinO_eq]
  have e : strsD (ws.map wdD) = some (ws.map (·.s)) := by
    have := strsD_map (f := fun w : Wd => w.s) (xs := ws)
    exact this
  rw [e]
  show (if ((ws.map (·.s)).map Str.length).sum + (ws.map (·.s)).length * s.length ≤ line then _ else _) = _
  unfold lenW
  rw [List.map_map, List.length_map]
  rfl
@[simp] theorem joinO_e {ws : List Wd} : joinO (.str (Str.ofString "")) (.list (ws.map wdD)) = if lenW ws ≤ line then some (wdD (joinW ws)) else none := by
  rw [joinO_wd]
  have e : (Str.ofString "").length = 0 := by rw [Str.ofString_eq_toList]; rfl
  rw [e, Nat.mul_zero, Nat.add_zero]
  rfl
@[simp] theorem add_wd {a b : Wd} : binD .add (wdD a) (wdD b) = if a.s.length + b.s.length ≤ line then some (.imm (wdD (addW a b))) else none := (rfl)
@[simp] theorem add_wl {a : Wd} {s : String} : binD .add (wdD a) (.str (Str.ofString s)) = if a.s.length + (Str.ofString s).length ≤ line then some (.imm (wdD (addW a (wl s)))) else none := (rfl)
theorem len_joinW (ws : List Wd) : (joinW ws).s.length = lenW ws := by
  show (joinD (Str.ofString "") (ws.map (·.s))).length = _
  rw [len_join, List.map_map]; rfl
theorem len_add (a b : Str) : (a ++ b).length = a.length + b.length := by
  show (a.cps ++ b.cps).size = _
  simp [Str.length]
theorem abc_len : (Str.ofString "abcdefghijklmnopqrstuvwxyz").length = 26 := by
  rw [Str.ofString_eq_toList]; rfl
theorem abc_get {r : Int} (h0 : 0 ≤ r) (h1 : r < 26) : ∃ w : Wd, Wdl w ∧ w.s.length = 1 ∧ ∃ c, L2.atI (Str.ofString "abcdefghijklmnopqrstuvwxyz").cps.toList r = some c ∧ w.s = ⟨#[c]⟩ := by
  have e : (Str.ofString "abcdefghijklmnopqrstuvwxyz").cps.toList = [97, 98, 99, 100, 101, 102, 103, 104, 105, 106, 107, 108, 109, 110, 111, 112, 113, 114, 115, 116, 117, 118, 119, 120, 121, 122] := by
    rw [Str.ofString_eq_toList]; rfl
  rw [e]
  obtain ⟨c, hc, h⟩ := atI_mem (xs := [97, 98, 99, 100, 101, 102, 103, 104, 105, 106, 107, 108, 109, 110, 111, 112, 113, 114, 115, 116, 117, 118, 119, 120, 121, 122]) h0 h1
  have hb : 97 ≤ c ∧ c ≤ 122 := by
    simp at hc; omega
  refine ⟨⟨⟨#[c]⟩, ?_⟩, ⟨?_, ?_⟩, rfl, c, h, rfl⟩
  · rw [strOk_iff]; simp; omega
  · exact Nat.one_pos
  · simp; exact hb
theorem Wdl.join {ws : List Wd} (h : ∀ w ∈ ws, Wdl w) (hn : ws ≠ []) : Wdl (joinW ws) := by
  refine ⟨?_, fun c hc => ?_⟩
  · rw [len_joinW]
    cases ws with
    | nil => exact absurd rfl hn
    | cons w l =>
      have := (h w (List.mem_cons_self ..)).ne
      simp [lenW]; omega
  · change c ∈ (joinD (Str.ofString "") (ws.map (·.s))).cps.toList at hc
    rw [join_nil] at hc
    simp only [List.map_map, List.mem_flatten, List.mem_map] at hc
    obtain ⟨l, ⟨w, hw, rfl⟩, hc⟩ := hc
    exact (h w hw).low c hc
theorem Wdl.add {a b : Wd} (h : ∀ c ∈ a.s.cps.toList, 97 ≤ c ∧ c ≤ 122) (g : Wdl b) : Wdl (addW a b) := by
  refine ⟨?_, fun c hc => ?_⟩
  · show 0 < (a.s ++ b.s).length
    rw [len_add]
    have := g.ne
    omega
  · have e : (addW a b).s.cps.toList = a.s.cps.toList ++ b.s.cps.toList := by
      show (a.s.cps ++ b.s.cps).toList = _
      simp
    rw [e] at hc
    rcases List.mem_append.mp hc with z | z
    · exact h c z
    · exact g.low c z
theorem wdl_z : Wdl (wl "z") := by
  have e : (wl "z").s.cps.toList = [122] := by
    show (Str.ofString "z").cps.toList = _
    rw [Str.ofString_eq_toList]; rfl
  refine ⟨?_, fun c hc => ?_⟩
  · have : (wl "z").s.length = (wl "z").s.cps.toList.length := by simp [Str.length]
    rw [this, e]; decide
  · rw [e] at hc; simp at hc; omega
theorem len_z : (Str.ofString "z").length = 1 := by
  rw [Str.ofString_eq_toList]; rfl
theorem len_e : (Str.ofString "").length = 0 := by
  rw [Str.ofString_eq_toList]; rfl
structure PoolI (k : Nat) (ws : List Wd) : Prop where
  len : ws.length = k
  nd : ws.Nodup
  wd : ∀ w ∈ ws, Wdl w
  sum : lenW ws ≤ 4 * 2 ^ k - 4
theorem lenW_mem {w : Wd} {ws : List Wd} (h : w ∈ ws) : w.s.length ≤ lenW ws := by
  induction ws with
  | nil => cases h
  | cons v l ih =>
    rw [show lenW (v :: l) = v.s.length + lenW l by simp [lenW]]
    rcases List.mem_cons.mp h with rfl | h
    · omega
    · have := ih h; omega
theorem lenW_snoc (w : Wd) (ws : List Wd) : lenW (ws ++ [w]) = lenW ws + w.s.length := by simp [lenW]
/-- the next word of the pool -/
theorem pool_next {k : Nat} {ws ls : List Wd} (h : PoolI k ws) (hl : ∀ w ∈ ls, Wdl w ∧ w.s.length = 1) (h1 : 1 ≤ ls.length) (h3 : ls.length ≤ 3) : PoolI (k + 1) (ws ++ [if joinW ls ∈ ws then addW (joinW ws) (wl "z") else joinW ls]) := by
  have p : 0 < 2 ^ k := Nat.two_pow_pos k
  have hs := h.sum
  by_cases c : joinW ls ∈ ws
  · rw [if_pos c]
    have hz : (addW (joinW ws) (wl "z")).s.length = lenW ws + 1 := by
      show ((joinW ws).s ++ (wl "z").s).length = _
      rw [len_add, len_joinW]
      show _ + (Str.ofString "z").length = _
      rw [len_z]
    refine ⟨by simp [h.len], ?_, fun w hw => ?_, ?_⟩
    · rw [List.nodup_append]
      refine ⟨h.nd, by simp, fun a ha b hb e => ?_⟩
      rw [List.mem_singleton] at hb
      subst hb; subst e
      have := lenW_mem ha
      omega
    · rcases List.mem_append.mp hw with hw | hw
      · exact h.wd w hw
      · rw [List.mem_singleton.mp hw]
        have hn : ws ≠ [] := fun z => by rw [z] at c; cases c
        exact Wdl.add (Wdl.join h.wd hn).low wdl_z
    · rw [lenW_snoc, hz, Nat.pow_succ]; omega
  · rw [if_neg c]
    have hle : lenW ls ≤ 3 := by
      have : lenW ls = ls.length := by
        unfold lenW
        rw [List.map_congr_left (g := fun _ => 1) fun w hw => (hl w hw).2, List.map_const', List.sum_replicate_nat, Nat.mul_one]
      omega
    refine ⟨by simp [h.len], ?_, fun w hw => ?_, ?_⟩
    · rw [List.nodup_append]
      refine ⟨h.nd, by simp, fun a ha b hb e => ?_⟩
      rw [List.mem_singleton] at hb
      subst hb; subst e
      exact c ha
    · rcases List.mem_append.mp hw with hw | hw
      · exact h.wd w hw
      · rw [List.mem_singleton.mp hw]
        exact Wdl.join (fun w hw => (hl w hw).1) fun z => by rw [z] at h1; exact absurd h1 (by decide)
    · rw [lenW_snoc, len_joinW, Nat.pow_succ]; omega
/-- slots that are written anew -/
abbrev S3 := { x : Option En × Option En × Option En // okS x.1 = true ∧ okS x.2.1 = true ∧ okS x.2.2 = true }
def PoolOk (C : Cal) : Prop := ∀ (ns : List Int) (m : Nat), m ≤ 20 → ∃ i : List Wd × List Int, PoolI m i.1 ∧ C "_law_pool" [dr ns, im (.int m)] = some (.fr (.list (i.1.map wdD)), [dr i.2, im (.int m)])
theorem pool_run (hT : TakeOk C) (ns : List Int) (m : Nat) (hm : m ≤ 20) : ∃ i : List Wd × List Int, PoolI m i.1 ∧ runF C Lb.f__law_pool [dr ns, im (.int m)] = some (.fr (.list (i.1.map wdD)), [dr i.2, im (.int m)]) := by
  refine ret_of fun Z hZ => ?_
  rw [runF_wp]
  have hr : -4611686018427387904 ≤ (m : Int) ∧ (m : Int) < 4611686018427387904 := by omega
  simp [Lb.f__law_pool, Lb.b__law_pool, hr, line]
  refine wp_loopS (σ := List Int × List Wd × S3) (fun s => [some (dr s.1), some (im (.int m)), some ⟨.own, false, .list (s.2.1.map wdD)⟩, s.2.2.1.1, s.2.2.1.2.1, s.2.2.1.2.2, none]) (fun k s => PoolI k s.2.1) (ns, [], ⟨(none, none, none), rfl, rfl, rfl⟩) ⟨rfl, List.Pairwise.nil, (fun _ h => by cases h), Nat.zero_le _⟩ ?_ ?_
  · rintro i d ⟨ns, ws, ⟨⟨x3, x4, x5⟩, h3, h4, h5⟩⟩ hd hI Y hY
    have t0 := tk_lo (ns := ns) (m := 3) (by decide)
    have t1 := tk_hi (ns := ns) (m := 3) (by decide)
    have hr2 : -4611686018427387904 ≤ 1 + tk ns 3 ∧ 1 + tk ns 3 < 4611686018427387904 := by omega
    simp [h3, h4, h5, hT ns 3 (by decide), hr2]
    refine wp_compS (fun ns : List Int => [some (dr ns), some (im (.int m)), some ⟨.own, false, .list (ws.map wdD)⟩, some (im d), x4, x5, none]) wdD (fun w => Wdl w ∧ w.s.length = 1) ns.dropLast [] (by simp [line]; omega) (by simp) ?_ ?_
    · intro k hk ns Y hY
      obtain ⟨w, w1, w2, c, w3, w4⟩ := abc_get (tk_lo (ns := ns) (m := 26) (by decide)) (tk_hi (by decide))
      have := hY w ns.dropLast ⟨w1, w2⟩
      rw [show wdD w = .str ⟨#[c]⟩ by rw [← w4]; rfl] at this
      simp [hT ns 26 (by decide), w3, abc_len, line, this]
    · intro ls ns hl hls
      simp only [List.length_map, List.length_range, List.length_nil] at hl
      have hl1 : 1 ≤ ls.length ∧ ls.length ≤ 3 := by omega
      have nx := pool_next hI hls hl1.1 hl1.2
      have e1 : lenW ls ≤ 16777216 := by
        have : lenW ls = ls.length := by
          unfold lenW
          rw [List.map_congr_left (g := fun _ => 1) fun w hw => (hls w hw).2, List.map_const', List.sum_replicate_nat, Nat.mul_one]
        omega
      have hi : i < m := by
        have := List.getElem?_eq_some_iff.mp hd
        obtain ⟨z, _⟩ := this
        simpa using z
      have e2 : lenW ws + 1 ≤ 16777216 := by
        have := hI.sum
        have p : 2 ^ i ≤ 2 ^ 20 := Nat.pow_le_pow_right (by decide) (by omega)
        have p1 : 0 < 2 ^ i := Nat.two_pow_pos i
        simp only at this
        omega
      have e3 : lenW ws ≤ 16777216 := by omega
      have e4 : ws.length < 16777216 := by
        have := hI.len
        simp only at this
        omega
      by_cases c : joinW ls ∈ ws
      · rw [if_pos c] at nx
        have := hY (ns, _, ⟨(some (im d), some ⟨.own, false, .list (ls.map wdD)⟩, some (im (wdD (addW (joinW ws) (wl "z"))))), rfl, rfl, rfl⟩) nx
        simp at this
        simp [h3, h4, h5, line, e1, e2, e3, e4, len_joinW, len_z, c, this]
      · rw [if_neg c] at nx
        have := hY (ns, _, ⟨(some (im d), some ⟨.own, false, .list (ls.map wdD)⟩, some (im (wdD (joinW ls)))), rfl, rfl, rfl⟩) nx
        simp at this
        simp [h3, h4, h5, line, e1, e2, e3, e4, len_joinW, len_z, c, this]
  · rintro ⟨ns, ws, ⟨⟨x3, x4, x5⟩, h3, h4, h5⟩⟩ hI
    have := hZ (ws, ns) (by simpa using hI)
    simp [this]
end RC.P
end RP6
section RP7
set_option Elab.async false
set_option linter.all false
set_option maxRecDepth 100000
set_option autoImplicit false
set_option maxHeartbeats 4000000
/-! RP7: worlds -/
namespace RC.P
open PySem SrtO
variable {C : Cal}
structure ValsOk (vs : List Val) : Prop where
  len : vs.length = 3
  nd : vs.Nodup
  str : ∃ w, Wdl w ∧ vs[2]? = some (.str w)
  wd : ∀ w, .str w ∈ vs → Wdl w
def ValuesOk (C : Cal) : Prop := ∀ (ns : List Int) (k : Kd) (ws : List Wd), Rd k → 2 ≤ ws.length → ws.Nodup → (∀ w ∈ ws, Wdl w) → ∃ i : List Val × List Int, ValsOk i.1 ∧ C "_law_values" [dr ns, en k (.list (ws.map wdD))] = some (.fr (.list (i.1.map Val.d)), [dr i.2, en k (.list (ws.map wdD))])
theorem vals3 {a b : Val} {w : Wd} (h1 : a ≠ b) (h2 : a ≠ .str w) (h3 : b ≠ .str w) (hw : Wdl w) (ha : ∀ w, a = .str w → Wdl w) (hb : ∀ w, b = .str w → Wdl w) : ValsOk [a, b, .str w] :=
  ⟨rfl, by simp [h1, h2, h3], ⟨w, hw, rfl⟩, fun u hu => by
    simp at hu
    rcases hu with h | h | h
    · exact ha u h.symm
    · exact hb u h.symm
    · rw [h]; exact hw⟩
theorem values_run (hT : TakeOk C) (ns : List Int) (k : Kd) (ws : List Wd) (hk : Rd k) (hl : 2 ≤ ws.length) (hn : ws.Nodup) (hw : ∀ w ∈ ws, Wdl w) : ∃ i : List Val × List Int, ValsOk i.1 ∧ runF C Lb.f__law_values [dr ns, en k (.list (ws.map wdD))] = some (.fr (.list (i.1.map Val.d)), [dr i.2, en k (.list (ws.map wdD))]) := by
  obtain ⟨u, v, r, rfl⟩ : ∃ u v r, ws = u :: v :: r := by
    match ws, hl with
    | u :: v :: r, _ => exact ⟨u, v, r, rfl⟩
  refine ret_of fun Z hZ => ?_
  rw [runF_wp]
  have t0 := tk_lo (ns := ns.dropLast) (m := 5) (by decide)
  have hu := hw u (by simp)
  have hv := hw v (by simp)
  have huv : u ≠ v := fun e => by simp [e] at hn
  by_cases c : tk ns.dropLast.dropLast 3 = 0
  · have := hZ ([.int (tk ns 7 - 3), .str v, .str u], ns.dropLast.dropLast.dropLast) (vals3 (by simp) (by simp) (by simpa using fun e => huv e.symm) hu (by simp) (by simpa using hv))
    simp [Val.d] at this
    rcases hk with rfl | rfl <;> simp [Lb.f__law_values, Lb.b__law_values, hT _ 7 (by decide), hT _ 5 (by decide), hT _ 3 (by decide), line, c, wdD] <;> exact this
  · have := hZ ([.int (tk ns 7 - 3), .int (tk ns 7 - 3 + 1 + tk ns.dropLast 5), .str u], ns.dropLast.dropLast.dropLast) (vals3 (by simp; omega) (by simp) (by simp) hu (by simp) (by simp))
    simp [Val.d] at this
    rcases hk with rfl | rfl <;> simp [Lb.f__law_values, Lb.b__law_values, hT _ 7 (by decide), hT _ 5 (by decide), hT _ 3 (by decide), line, c, wdD] <;> exact this
/-! sorting -/
section
variable {α β : Type}
theorem insBy_map {lt : β → β → Bool} {h : α → β} (x : α) : ∀ l : List α, insBy lt (h x) (l.map h) = (insBy (fun a b => lt (h a) (h b)) x l).map h
  | [] => rfl
  | y :: l => by
    show (if lt (h x) (h y) then _ else _) = (if lt (h x) (h y) then _ else _ : List α).map h
    by_cases c : lt (h x) (h y) = true
    · rw [if_pos c, if_pos c]; rfl
    · rw [if_neg c, if_neg c, insBy_map x l]; rfl
theorem sortBy_map {lt : β → β → Bool} {h : α → β} (l : List α) : sortBy lt (l.map h) = (sortBy (fun a b => lt (h a) (h b)) l).map h := by
  unfold sortBy
  have go : ∀ (l acc : List α), (l.map h).foldl (fun acc x => insBy lt x acc) (acc.map h) = (l.foldl (fun acc x => insBy (fun a b => lt (h a) (h b)) x acc) acc).map h := by
    intro l
    induction l with
    | nil => intro acc; rfl
    | cons x l ih =>
      intro acc
      show (l.map h).foldl _ (insBy lt (h x) (acc.map h)) = _
      rw [insBy_map, ih]
      rfl
  exact go l []
/-- sorted by the key kf -/
def sortK (kf : α → D) (l : List α) : List α := sortBy (fun a b => ltD (kf a) (kf b)) l
theorem srtk_map {kf g : α → D} {l : List α} (h : keysOk (l.map kf) = true) : srtkD (l.map kf) (l.map g) = some ((sortK kf l).map g) := by
  unfold srtkD
  rw [if_pos ⟨by simp, h⟩]
  have e : (l.map kf).zip (l.map g) = l.map fun x => (kf x, g x) := by
    induction l with
    | nil => rfl
    | cons x l ih => 
      have h2 : (l.map kf).zip (l.map g) = l.map fun x => (kf x, g x) := by
        clear ih h
        induction l with
        | nil => rfl
        | cons y l ih => simp [ih]
      simp [h2]
  rw [e, sortBy_map (lt := fun a b : D × D => ltD a.1 b.1), List.map_map]
  rfl
theorem sortK_perm (kf : α → D) (l : List α) : (sortK kf l).Perm l := (sortBy_ok (swo_key swo_D kf) l).2.perm
theorem sortK_mem {kf : α → D} {l : List α} {x : α} : x ∈ sortK kf l ↔ x ∈ l := (sortK_perm kf l).mem_iff
theorem sortK_len {kf : α → D} {l : List α} : (sortK kf l).length = l.length := (sortK_perm kf l).length_eq
theorem sortK_srtd (kf : α → D) (l : List α) : Srtd (fun a b => ltD (kf a) (kf b)) (sortK kf l) := (sortBy_ok (swo_key swo_D kf) l).1
/-- keys that are no tuples and of one kind -/
theorem keysOk_of {kf : α → D} {l : List α} (h1 : ∀ x ∈ l, shp (kf x) = true) (h2 : ∀ x ∈ l, ∀ y ∈ l, cmpb (kf x) (kf y) = true) (h3 : ∀ x ∈ l, ∀ y ∈ l, rkD (kf x) = rkD (kf y)) (h4 : ∀ x ∈ l, rkD (kf x) ≠ 2) : keysOk (l.map kf) = true := by
  unfold keysOk
  simp only [Bool.and_eq_true, Bool.or_eq_true, List.all_eq_true, List.mem_map, forall_exists_index, _root_.and_imp, forall_apply_eq_imp_iff₂]
  refine ⟨⟨h1, h2⟩, .inr ?_⟩
  cases l with
  | nil => rfl
  | cons x l =>
    show ((kf x :: l.map kf).all _ || _) = true
    rw [Bool.or_eq_true]
    refine .inl ?_
    rw [List.all_eq_true]
    intro y hy
    change y ∈ (x :: l).map kf at hy
    obtain ⟨z, hz, rfl⟩ := List.mem_map.mp hy
    simp [h3 z hz x (List.mem_cons_self ..), h4 z hz]
    have := h4 z hz
    rwa [h3 z hz x (List.mem_cons_self ..)] at this
/-- keys that are tuples whose first items are of one kind -/
theorem keysOk_tup {kf : α → D} {hd : α → D} {tl : α → List D} {l : List α} (h0 : ∀ x ∈ l, kf x = .tuple (hd x :: tl x)) (h1 : ∀ x ∈ l, shp (kf x) = true) (h2 : ∀ x ∈ l, ∀ y ∈ l, cmpb (kf x) (kf y) = true) (h3 : ∀ x ∈ l, ∀ y ∈ l, rkD (hd x) = rkD (hd y)) : keysOk (l.map kf) = true := by
  unfold keysOk
  simp only [Bool.and_eq_true, Bool.or_eq_true, List.all_eq_true, List.mem_map, forall_exists_index, _root_.and_imp, forall_apply_eq_imp_iff₂]
  refine ⟨⟨h1, h2⟩, .inr ?_⟩
  cases l with
  | nil => rfl
  | cons x l =>
    show (_ || match hdD (kf x) with
    | some h => (kf x :: l.map kf).all fun x => match hdD x with
      | some y => decide (rkD y = rkD h)
      | none => false
    | none => false) = true
    rw [Bool.or_eq_true]
    refine .inr ?_
    rw [h0 x (List.mem_cons_self ..)]
    show (List.all _ _) = true
    rw [List.all_eq_true]
    intro y hy
    rw [← h0 x (List.mem_cons_self ..)] at hy
    change y ∈ (x :: l).map kf at hy
    obtain ⟨z, hz, rfl⟩ := List.mem_map.mp hy
    rw [h0 z hz]
    show decide (rkD (hd z) = rkD (hd x)) = true
    simp [h3 z hz x (List.mem_cons_self ..)]
end
def sortW (ws : List Wd) : List Wd := sortK wdD ws
@[simp] theorem srtD_wd {ws : List Wd} : srtD (ws.map wdD) = some ((sortW ws).map wdD) :=
  srtk_map (keysOk_of (fun _ _ => shp_wd) (fun _ _ _ _ => rfl) (fun _ _ _ _ => rfl) fun _ _ h => by cases h)
end RC.P
end RP7
section RP8
set_option Elab.async false
set_option linter.all false
set_option maxRecDepth 100000
set_option autoImplicit false
set_option maxHeartbeats 4000000
/-! RP8: tables, terms, atoms -/
namespace RC.P
open PySem SrtO
variable {C : Cal}
structure WorldOk (w : World) : Prop where
  ne : w.schema ≠ []
  few : w.schema.length ≤ 4
  nd : (w.schema.map Table.name).Nodup
  lo : ∀ t ∈ w.schema, 0 ≤ t.cols
  hi : ∀ t ∈ w.schema, t.cols ≤ 8
  wd : ∀ t ∈ w.schema, Wdl t.name
  vlen : w.vars.length = 3
  vnd : w.vars.Nodup
  vwd : ∀ v ∈ w.vars, Wdl v
  vals : ValsOk w.vals
def TermOk (w : World) : Term → Prop
  | .var x => x ∈ w.vars
  | .val v => v ∈ w.vals
structure AtomOk (w : World) (a : Atom) : Prop where
  tab : ∃ t ∈ w.schema, a.name = t.name ∧ (a.ts.length : Int) = t.cols
  ts : ∀ t ∈ a.ts, TermOk w t
def TableOk (C : Cal) : Prop := ∀ (sc : List Table) (t : Table), (sc.map Table.name).Nodup → t ∈ sc → C "_law_table" [im (.tuple (sc.map Table.d)), im (wdD t.name)] = some (.imm t.d, [im (.tuple (sc.map Table.d)), im (wdD t.name)])
theorem table_uniq {sc : List Table} (hn : (sc.map Table.name).Nodup) {s t : Table} (hs : s ∈ sc) (ht : t ∈ sc) (e : s.name = t.name) : s = t := by
  induction sc with
  | nil => cases hs
  | cons x sc ih =>
    rw [List.map_cons, List.nodup_cons] at hn
    rcases List.mem_cons.mp hs with h1 | h1 <;> rcases List.mem_cons.mp ht with h2 | h2
    · rw [h1, h2]
    · exact absurd (List.mem_map.mpr ⟨t, h2, by rw [← e, h1]⟩) hn.1
    · exact absurd (List.mem_map.mpr ⟨s, h1, by rw [e, h2]⟩) hn.1
    · exact ih hn.2 h1 h2
theorem table_run (sc : List Table) (t : Table) (hn : (sc.map Table.name).Nodup) (ht : t ∈ sc) : runF C Lb.f__law_table [im (.tuple (sc.map Table.d)), im (wdD t.name)] = some (.imm t.d, [im (.tuple (sc.map Table.d)), im (wdD t.name)]) := by
  refine eq_of_cSat ?_
  rw [runF_wp]
  simp [Lb.f__law_table, Lb.b__law_table]
  refine wp_forS (σ := S1) (fun s => [some (im (.tuple (sc.map Table.d))), some (im (wdD t.name)), s.1]) (fun ys _ => ∀ y ∈ ys, y.name ≠ t.name) s1n (fun _ h => by cases h) ?_ ?_
  · rintro ys x zs ⟨o, ho⟩ hs hy Z hZ
    by_cases c : x.name = t.name
    · have : x = t := table_uniq hn (by rw [hs]; simp) ht c
      subst this
      simp [ho]
    · simp [ho, c]
      refine hZ ⟨_, rfl⟩ fun y hm => ?_
      rcases List.mem_append.mp hm with hm | hm
      · exact hy y hm
      · rw [List.mem_singleton.mp hm]; exact c
  · rintro s hy
    exact absurd rfl (hy t ht)
def TermSp (C : Cal) : Prop := ∀ (ns : List Int) (k : Kd) (w : World), Rd k → WorldOk w → ∃ i : Term × List Int, TermOk w i.1 ∧ C "_law_term" [dr ns, en k w.d] = some (.imm i.1.d, [dr i.2, en k w.d])
@[simp] theorem term_val {v : Val} : (PyData.tuple [.str (Str.ofString "value"), v.d]) = (Term.val v).d := (rfl)
@[simp] theorem term_var {v : Wd} : (PyData.tuple [.str (Str.ofString "var"), wdD v]) = (Term.var v).d := (rfl)
theorem term_run (hT : TakeOk C) (hV : ValueOk C) (hP : PickOk C) (ns : List Int) (k : Kd) (w : World) (hk : Rd k) (hw : WorldOk w) : ∃ i : Term × List Int, TermOk w i.1 ∧ runF C Lb.f__law_term [dr ns, en k w.d] = some (.imm i.1.d, [dr i.2, en k w.d]) := by
  refine ret_of fun Z hZ => ?_
  rw [runF_wp]
  by_cases c : tk ns 8 = 0
  · obtain ⟨v, ns', hv, e⟩ := hV ns.dropLast .imm w.vals (.inl rfl) hw.vals.len
    have := hZ (.val v, ns') hv
    rcases hk with rfl | rfl <;> simp [Lb.f__law_term, Lb.b__law_term, hT _ 8 (by decide), line, c, e, this]
  · obtain ⟨v, hv, e⟩ := hP wdD w.vars _ ns.dropLast .imm (.inl rfl) (fun z => by have := hw.vlen; rw [z] at this; cases this) (.inl rfl)
    have := hZ (.var v, ns.dropLast.dropLast) hv
    rcases hk with rfl | rfl <;> simp [Lb.f__law_term, Lb.b__law_term, hT _ 8 (by decide), line, c, e, this]
def AtomSp (C : Cal) : Prop := ∀ (ns : List Int) (k : Kd) (w : World) (t : Table), Rd k → WorldOk w → t ∈ w.schema → ∃ i : Atom × List Int, (AtomOk w i.1 ∧ i.1.name = t.name) ∧ C "_law_atom" [dr ns, en k w.d, im t.d] = some (.imm i.1.d, [dr i.2, en k w.d, im t.d])
@[simp] theorem atom_d {x : Wd} {l : List Term} : (PyData.tuple [wdD x, .tuple (l.map Term.d)]) = (Atom.mk x l).d := (rfl)
theorem small_rng {n : Int} (h0 : 0 ≤ n) (h1 : n ≤ 1000000) : -4611686018427387904 ≤ n ∧ n < 4611686018427387904 := by omega
theorem atom_run (hT : TermSp C) (ns : List Int) (k : Kd) (w : World) (t : Table) (hk : Rd k) (hw : WorldOk w) (ht : t ∈ w.schema) : ∃ i : Atom × List Int, (AtomOk w i.1 ∧ i.1.name = t.name) ∧ runF C Lb.f__law_atom [dr ns, en k w.d, im t.d] = some (.imm i.1.d, [dr i.2, en k w.d, im t.d]) := by
  refine ret_of fun Z hZ => ?_
  rw [runF_wp]
  have c0 := hw.lo t ht
  have c1 := hw.hi t ht
  have hr := small_rng c0 (by omega)
  have fin : ∀ (ts : List Term) ns', (ts.length : Int) = t.cols → (∀ b ∈ ts, TermOk w b) → Z (.imm (Atom.mk t.name ts).d) [dr ns', en k w.d, im t.d] := fun ts ns' hl ht2 => hZ (⟨t.name, ts⟩, ns') ⟨⟨⟨t, ht, rfl, hl⟩, ht2⟩, rfl⟩
  have step : ∀ ns (Y : Option D → Rho → Prop) d, (∀ a s', TermOk w a → Y (some a.d) [some (dr s'), some (en k w.d), some (im t.d), none]) → wp (bodyC C (Tg.n 3) [3] (IE.bl true) (IE.call "_law_term" ((IE.v 0).cons ((IE.v 1).cons IE.nil))) d [some (dr ns), some (en k w.d), some (im t.d), none]) Y := by
    intro ns Y d hY
    obtain ⟨⟨b, ns'⟩, hb, e⟩ := hT ns k w hk hw
    have := hY b ns' hb
    rcases hk with rfl | rfl <;> simp [e, this]
  rcases hk with rfl | rfl
  all_goals
    simp [Lb.f__law_atom, Lb.b__law_atom, hr, line]
    refine wp_compS (fun ns : List Int => [some (dr ns), some (en _ w.d), some (im t.d), none]) Term.d (TermOk w) ns [] (by simp [line]; omega) (by simp) (fun d _ ns Y hY => step ns Y d hY) ?_
    intro ts ns' hl hts
    simp at hl
    have := fin ts ns' (by omega) hts
    simp [line, this]
end RC.P
end RP8
section RP9
set_option Elab.async false
set_option linter.all false
set_option maxRecDepth 100000
set_option autoImplicit false
set_option maxHeartbeats 4000000
/-! RP9: worlds, joins, questions -/
namespace RC.P
open PySem SrtO
variable {C : Cal}
@[simp] theorem cut_none {ds : List D} : cutD ds none none = ds := cut_all
@[simp] theorem cut_hiI {ds : List D} {j : Int} (h : 0 ≤ j) : cutD ds none (some j) = ds.take j.toNat := by
  obtain ⟨n, rfl⟩ := Int.eq_ofNat_of_zero_le h
  exact cut_hi
@[simp] theorem cut_loI {ds : List D} {j : Int} (h : 0 ≤ j) : cutD ds (some j) none = ds.drop j.toNat := by
  obtain ⟨n, rfl⟩ := Int.eq_ofNat_of_zero_le h
  exact cut_lo
@[simp] theorem srtD_take {ws : List Wd} {n : Nat} : srtD ((ws.map wdD).take n) = some ((sortW (ws.take n)).map wdD) := by
  rw [← List.map_take, srtD_wd]
@[simp] theorem srtD_drop {ws : List Wd} {n : Nat} : srtD ((ws.map wdD).drop n) = some ((sortW (ws.drop n)).map wdD) := by
  rw [← List.map_drop, srtD_wd]
@[simp] theorem table_d {x : Wd} {c : Int} : (PyData.tuple [wdD x, .int c]) = (Table.mk x c).d := (rfl)
@[simp] theorem isLst_w {w : World} : isLst w.d = true := (rfl)
@[simp] theorem put_w0 {w : World} {x : D} : putD (.int 0) x w.d = some (.list [x, .list (w.vars.map wdD), .list (w.vals.map Val.d)], ()) := (rfl)
@[simp] theorem put_w2 {w : World} {x : D} : putD (.int 2) x w.d = some (.list [.tuple (w.schema.map Table.d), .list (w.vars.map wdD), x], ()) := (rfl)
def WorldSp (C : Cal) : Prop := ∀ (ns : List Int), ∃ i : World × List Int, WorldOk i.1 ∧ C "_law_world" [dr ns] = some (.fr i.1.d, [dr i.2])
theorem world_run (hT : TakeOk C) (hP : PoolOk C) (hV : ValuesOk C) (ns : List Int) : ∃ i : World × List Int, WorldOk i.1 ∧ runF C Lb.f__law_world [dr ns] = some (.fr i.1.d, [dr i.2]) := by
  refine ret_of fun Z hZ => ?_
  rw [runF_wp]
  obtain ⟨⟨ws, n1⟩, hp, e1⟩ := hP ns 7 (by decide)
  obtain ⟨j, hj, e2⟩ := atI_ints [3, 2, 3, 4] (tk_lo (ns := n1) (m := 4) (by decide)) (tk_hi (by decide))
  simp only [List.map] at e2
  have e3 := hT n1 4 (by decide)
  have hj0 : 2 ≤ j ∧ j ≤ 4 := by
    simp at hj; omega
  have hj1 : 0 ≤ j := by omega
  have e1' : C "_law_pool" [dr ns, im (.int 7)] = _ := e1
  simp [Lb.f__law_world, Lb.b__law_world, e1', e2, e3, line, hj1]
  refine wp_forS (σ := List Int × List Table × S1) (fun s => [some (dr s.1), some ⟨.own, false, .list (ws.map wdD)⟩, some ⟨.own, false, .list (s.2.1.map Table.d)⟩, s.2.2.1]) (fun ys s => s.2.1.map Table.name = ys ∧ ∀ t ∈ s.2.1, 0 ≤ t.cols ∧ t.cols ≤ 8) (n1.dropLast, [], s1n) ⟨rfl, fun _ h => by cases h⟩ ?_ ?_
  · rintro ys x zs ⟨ns, ts, o, ho⟩ hs ⟨h1, h2⟩ Y hY
    obtain ⟨c, hc, e4⟩ := atI_ints [2, 1, 2, 1, 2, 0, 1, 3] (tk_lo (ns := ns) (m := 8) (by decide)) (tk_hi (by decide))
    simp only [List.map] at e4
    have hlen : ts.length < 16777216 := by
      have hz := congrArg List.length hs
      have : ts.length = ys.length := by rw [← h1]; simp
      rw [sortW, sortK_len, List.length_take, hp.len] at hz
      simp at hz
      omega
    have := hY (ns.dropLast, ts ++ [⟨x, c⟩], ⟨some (im (wdD x)), rfl⟩) ⟨by simp [h1], fun t ht => by
      rcases List.mem_append.mp ht with ht | ht
      · exact h2 t ht
      · rw [List.mem_singleton.mp ht]
        simp at hc
        show 0 ≤ c ∧ c ≤ 8
        omega⟩
    simp at this
    simp [ho, hT ns 8 (by decide), e4, line, hlen, this]
  · rintro ⟨ns, ts, o, ho⟩ ⟨h1, h2⟩
    obtain ⟨⟨vs, n2⟩, hv, e5⟩ := hV ns .bor ws (.inr rfl) (by rw [hp.len]; decide) hp.nd hp.wd
    simp [e5, line]
    have hm : ∀ x, x ∈ ts.map Table.name → x ∈ ws := fun x hx => by
      simp only at h1
      rw [h1] at hx
      exact List.mem_of_mem_take (sortK_mem.mp hx)
    refine hZ (⟨ts, sortW (ws.drop 4), vs⟩, n2) ⟨fun z => ?_, ?_, ?_, fun t ht => (h2 t ht).1, fun t ht => (h2 t ht).2, fun t ht => hp.wd _ (hm _ (List.mem_map.mpr ⟨t, ht, rfl⟩)), ?_, ?_, fun v hv => hp.wd _ (List.mem_of_mem_drop (sortK_mem.mp hv)), hv⟩
    · simp only at z h1
      rw [z] at h1
      have := congrArg List.length h1
      rw [sortW, sortK_len, List.length_take, hp.len] at this
      simp at this
      omega
    · have := congrArg List.length h1
      rw [sortW, sortK_len, List.length_take, hp.len] at this
      simp at this
      simp only
      omega
    · show (ts.map Table.name).Nodup
      simp only at h1
      rw [h1]
      exact ((sortK_perm _ _).nodup_iff).mpr (List.Sublist.nodup (List.take_sublist _ _) hp.nd)
    · show (sortW (ws.drop 4)).length = 3
      rw [sortW, sortK_len, List.length_drop, hp.len]
    · exact ((sortK_perm _ _).nodup_iff).mpr (List.Sublist.nodup (List.drop_sublist _ _) hp.nd)
def VWorldSp (C : Cal) : Prop := ∀ (ns : List Int), ∃ i : World × List Int, WorldOk i.1 ∧ C "_law_varied_world" [dr ns] = some (.fr i.1.d, [dr i.2])
theorem WorldOk.sch {w : World} {t : Table} {r : List Table} {c : Int} (h : WorldOk w) (e : w.schema = t :: r) (c0 : 0 ≤ c) (c1 : c ≤ 8) : WorldOk { w with schema := ⟨t.name, c⟩ :: r } := by
  refine ⟨by simp, by have := h.few; rw [e] at this; exact this, by have := h.nd; rw [e] at this; exact this, fun s hs => ?_, fun s hs => ?_, fun s hs => ?_, h.vlen, h.vnd, h.vwd, h.vals⟩
  · rcases List.mem_cons.mp hs with rfl | hs
    · exact c0
    · exact h.lo s (by rw [e]; exact List.mem_cons_of_mem _ hs)
  · rcases List.mem_cons.mp hs with rfl | hs
    · exact c1
    · exact h.hi s (by rw [e]; exact List.mem_cons_of_mem _ hs)
  · rcases List.mem_cons.mp hs with rfl | hs
    · exact h.wd t (by rw [e]; exact List.mem_cons_self ..)
    · exact h.wd s (by rw [e]; exact List.mem_cons_of_mem _ hs)
theorem WorldOk.vls {w : World} {vs : List Val} (h : WorldOk w) (k : ValsOk vs) : WorldOk { w with vals := vs } := ⟨h.ne, h.few, h.nd, h.lo, h.hi, h.wd, h.vlen, h.vnd, h.vwd, k⟩
theorem vworld_run (hT : TakeOk C) (hW : WorldSp C) (ns : List Int) : ∃ i : World × List Int, WorldOk i.1 ∧ runF C Lb.f__law_varied_world [dr ns] = some (.fr i.1.d, [dr i.2]) := by
  refine ret_of fun Z hZ => ?_
  rw [runF_wp]
  obtain ⟨⟨w, n1⟩, hw, e1⟩ := hW ns
  obtain ⟨t, r, hs⟩ : ∃ t r, w.schema = t :: r := by
    cases h : w.schema with
    | nil => exact absurd h hw.ne
    | cons t r => exact ⟨t, r, rfl⟩
  obtain ⟨u, hu, hu2⟩ := hw.vals.str
  have a0 := tk_lo (ns := n1.dropLast) (m := 5) (by decide)
  have a1 := tk_hi (ns := n1.dropLast) (m := 5) (by decide)
  have hw1 := hw.sch hs (c := 4 + tk n1.dropLast 5) (by omega) (by omega)
  have vok : ∀ i j : Int, i < 10 → 10 ≤ j → ValsOk [.int i, .int j, .str u] := fun i j h1 h2 => vals3 (by simp; omega) (by simp) (by simp) hu (by simp) (by simp)
  have g0 : ∀ ns, 2 + tk ns 8 < 10 := fun ns => by have := tk_hi (ns := ns) (m := 8) (by decide); omega
  have g1 : ∀ ns, 10 ≤ 10 + tk ns 90 := fun ns => by have := tk_lo (ns := ns) (m := 90) (by decide); omega
  by_cases c1 : tk n1 10 = 5
  · by_cases c2 : tk n1.dropLast.dropLast 6 = 0
    · have := hZ (_, n1.dropLast.dropLast.dropLast.dropLast.dropLast) (hw1.vls (vok (2 + tk n1.dropLast.dropLast.dropLast 8) (10 + tk n1.dropLast.dropLast.dropLast.dropLast 90) (g0 _) (g1 _)))
      have hl : 1 + r.length ≤ 16777216 := by have := hw.few; rw [hs] at this; simp at this; omega
      simp [Lb.f__law_varied_world, Lb.b__law_varied_world, e1, hT _ 10 (by decide), hT _ 5 (by decide), hT _ 6 (by decide), hT _ 8 (by decide), hT _ 90 (by decide), c1, c2, hs, hu2, line, hl]
      exact this
    · have := hZ (_, n1.dropLast.dropLast.dropLast) hw1
      have hl : 1 + r.length ≤ 16777216 := by have := hw.few; rw [hs] at this; simp at this; omega
      simp [Lb.f__law_varied_world, Lb.b__law_varied_world, e1, hT _ 10 (by decide), hT _ 5 (by decide), hT _ 6 (by decide), c1, c2, hs, line, hl]
      exact this
  · by_cases c2 : tk n1.dropLast 6 = 0
    · have := hZ (_, n1.dropLast.dropLast.dropLast.dropLast) (hw.vls (vok (2 + tk n1.dropLast.dropLast 8) (10 + tk n1.dropLast.dropLast.dropLast 90) (g0 _) (g1 _)))
      simp [Lb.f__law_varied_world, Lb.b__law_varied_world, e1, hT _ 10 (by decide), hT _ 6 (by decide), hT _ 8 (by decide), hT _ 90 (by decide), c1, c2, hu2, line]
      exact this
    · have := hZ (w, n1.dropLast.dropLast) hw
      simp [Lb.f__law_varied_world, Lb.b__law_varied_world, e1, hT _ 10 (by decide), hT _ 6 (by decide), c1, c2, line]
      exact this
end RC.P
end RP9
section RP10
set_option Elab.async false
set_option linter.all false
set_option maxRecDepth 100000
set_option autoImplicit false
set_option maxHeartbeats 4000000
/-! RP10: joins, questions -/
namespace RC.P
open PySem SrtO
variable {C : Cal}
structure JoinOk (w : World) (width : Int) (j : Join) : Prop where
  hl : (j.head.length : Int) = width
  hd : ∀ h ∈ j.head, (∃ v ∈ w.vals, h = .val v) ∨ (∃ x, h = .var x ∧ ∃ a ∈ j.body, h ∈ a.ts)
  bl : j.body.length ≤ 3
  bd : ∀ a ∈ j.body, AtomOk w a
theorem WorldOk.tsl {w : World} (hw : WorldOk w) {a : Atom} (h : AtomOk w a) : a.ts.length ≤ 8 := by
  obtain ⟨t, ht, _, e⟩ := h.tab
  have := hw.hi t ht
  omega
def JoinSp (C : Cal) : Prop := ∀ (ns : List Int) (k : Kd) (w : World) (width : Int), Rd k → WorldOk w → 0 ≤ width → width ≤ 8 → ∃ i : Join × List Int, JoinOk w width i.1 ∧ C "_law_join" [dr ns, en k w.d, im (.int width)] = some (.imm i.1.d, [dr i.2, en k w.d, im (.int width)])
theorem join_run (hT : TakeOk C) (hV : ValueOk C) (hP : PickOk C) (hA : AtomSp C) (ns : List Int) (k : Kd) (w : World) (width : Int) (hk : Rd k) (hw : WorldOk w) (w0 : 0 ≤ width) (w8 : width ≤ 8) : ∃ i : Join × List Int, JoinOk w width i.1 ∧ runF C Lb.f__law_join [dr ns, en k w.d, im (.int width)] = some (.imm i.1.d, [dr i.2, en k w.d, im (.int width)]) := by
  refine ret_of fun Z hZ => ?_
  rw [runF_wp]
  have hr := small_rng w0 (by omega)
  obtain ⟨j, hj, e1⟩ := atI_ints [1, 2, 2, 3, 1, 2, 0, 2] (tk_lo (ns := ns) (m := 8) (by decide)) (tk_hi (by decide))
  simp only [List.map] at e1
  have hj0 : 0 ≤ j ∧ j ≤ 3 := by
    simp at hj; omega
  have hr2 := small_rng hj0.1 (by omega)
  have hk' := hk
  rcases hk with rfl | rfl
  all_goals
    simp [Lb.f__law_join, Lb.b__law_join, hT _ 8 (by decide), e1, line, hr2]
    refine wp_loopS (σ := List Int × List Atom × H1) (fun s => [some (dr s.1), some (en _ w.d), some (im (.int width)), some ⟨.own, false, .list (s.2.1.map Atom.d)⟩, s.2.2.1, none, none, none]) (fun i s => s.2.1.length = i ∧ ∀ a ∈ s.2.1, AtomOk w a) (ns.dropLast, [], h1n) ⟨rfl, fun _ h => by cases h⟩ ?_ ?_
    · rintro i d ⟨ns, as, o, ho⟩ hd ⟨h1, h2⟩ Y hY
      obtain ⟨t, ht, e2⟩ := hP Table.d w.schema _ ns .imm (.inl rfl) hw.ne (.inr rfl)
      obtain ⟨⟨a, n2⟩, ⟨ha, _⟩, e3⟩ := hA ns.dropLast _ w t hk' hw ht
      have hi : i < j.toNat := by
        obtain ⟨z, _⟩ := List.getElem?_eq_some_iff.mp hd
        simpa using z
      have hlen : as.length < 16777216 := by simp only at h1; omega
      have := hY (n2, as ++ [a], ⟨some (im d), rfl⟩) ⟨by simp only at h1; simp [h1], fun b hb => by
        rcases List.mem_append.mp hb with hb | hb
        · exact h2 b hb
        · rw [List.mem_singleton.mp hb]; exact ha⟩
      simp at this
      simp [ok_of_hid ho, e2, e3, line, hlen, this]
    · rintro ⟨ns, as, o, ho⟩ ⟨h1, h2⟩
      simp only [List.length_map, List.length_range] at h1
      obtain ⟨v, n2, hv, e4⟩ := hV ns .imm w.vals (.inl rfl) hw.vals.len
      have h1' : as.length ≤ 3 := by omega
      simp [ho, e4, line]
      refine wp_forS (σ := List Term × S1) (fun s => [some (dr n2), some (en _ w.d), some (im (.int width)), some ⟨.own, true, .list (as.map Atom.d)⟩, o, some ⟨.own, false, .list (s.1.map Term.d)⟩, s.2.1, none]) (fun ys s => s.1.length ≤ 8 * ys.length + 1 ∧ s.1 ≠ [] ∧ ∀ h ∈ s.1, (∃ v ∈ w.vals, h = .val v) ∨ (∃ x, h = .var x ∧ ∃ a ∈ as, h ∈ a.ts)) ([.val v], s1n) ⟨by simp, by simp, fun h hh => .inl ⟨v, hv, List.mem_singleton.mp hh⟩⟩ ?_ ?_
      · rintro ys a zs ⟨ts, o6, ho6⟩ hs ⟨g1, g2, g3⟩ Y hY
        have ham : a ∈ as := by rw [hs]; simp
        have hal := hw.tsl (h2 a ham)
        have hys : ys.length ≤ 2 := by
          have := congrArg List.length hs
          simp at this; omega
        simp [ho6, line]
        refine wp_compF (fun t => decide (t.tag = "var")) Term.d (by simp [line]; omega) (fun t ht => ?_) ?_
        · by_cases c : t.tag = "var" <;> simp [c]
        · simp only at g1 g2 g3
          have hfl := List.length_filter_le (fun t : Term => decide (t.tag = "var")) a.ts
          have := hY ((a.ts.filter fun t => decide (t.tag = "var")) ++ ts, ⟨some (im a.d), rfl⟩) ⟨by simp; omega, by simp [g2], fun h hh => by
            rcases List.mem_append.mp hh with hh | hh
            · rw [List.mem_filter] at hh
              obtain ⟨k1, k2⟩ := hh
              cases h with
              | var x => exact .inr ⟨x, rfl, a, ham, k1⟩
              | val v => simp at k2
            · exact g3 h hh⟩
          simp at this
          have hb : (a.ts.filter fun t => decide (t.tag = "var")).length + ts.length ≤ 16777216 := by omega
          simp [hb, line, this]
      · rintro ⟨ts, o6, ho6⟩ ⟨g1, g2, g3⟩
        simp [hr, line, ho]
        refine wp_compS (fun ns : List Int => [some (dr ns), some (en _ w.d), some (im (.int width)), some ⟨.own, false, .list (as.map Atom.d)⟩, none, some ⟨.own, false, .list (ts.map Term.d)⟩, o6, none]) Term.d (fun t => t ∈ ts) n2 [] (by simp [line]; omega) (by simp) ?_ ?_
        · intro d hd ns Y hY
          obtain ⟨t, ht, e5⟩ := hP Term.d ts _ ns .bor (.inr rfl) g2 (.inl rfl)
          have := hY t ns.dropLast ht
          simp [e5, this]
        · intro hs n3 hl hh
          simp at hl
          have := hZ (⟨hs, as⟩, n3) ⟨by simp only; omega, fun h hm => g3 h (hh h hm), h1', h2⟩
          simp [line]
          exact this
def QuestSp (C : Cal) : Prop := ∀ (ns : List Int) (k : Kd) (w : World) (width : Int), Rd k → WorldOk w → 0 ≤ width → width ≤ 8 → ∃ i : Quest × List Int, (i.1.width = width ∧ i.1.joins.length ≤ 2 ∧ ∀ j ∈ i.1.joins, JoinOk w width j) ∧ C "_law_question" [dr ns, en k w.d, im (.int width)] = some (.imm i.1.d, [dr i.2, en k w.d, im (.int width)])
theorem quest_run (hT : TakeOk C) (hJ : JoinSp C) (ns : List Int) (k : Kd) (w : World) (width : Int) (hk : Rd k) (hw : WorldOk w) (w0 : 0 ≤ width) (w8 : width ≤ 8) : ∃ i : Quest × List Int, (i.1.width = width ∧ i.1.joins.length ≤ 2 ∧ ∀ j ∈ i.1.joins, JoinOk w width j) ∧ runF C Lb.f__law_question [dr ns, en k w.d, im (.int width)] = some (.imm i.1.d, [dr i.2, en k w.d, im (.int width)]) := by
  refine ret_of fun Z hZ => ?_
  rw [runF_wp]
  obtain ⟨j, hj, e1⟩ := atI_ints [1, 1, 2, 1, 2, 1, 0, 2] (tk_lo (ns := ns) (m := 8) (by decide)) (tk_hi (by decide))
  simp only [List.map] at e1
  have hj0 : 0 ≤ j ∧ j ≤ 2 := by
    simp at hj; omega
  have hr2 := small_rng hj0.1 (by omega)
  have hk' := hk
  rcases hk with rfl | rfl
  all_goals
    simp [Lb.f__law_question, Lb.b__law_question, hT _ 8 (by decide), e1, line, hr2]
    refine wp_compS (fun ns : List Int => [some (dr ns), some (en _ w.d), some (im (.int width)), some (im (.int j)), none]) Join.d (JoinOk w width) ns.dropLast [] (by simp [line]; omega) (by simp) ?_ ?_
    · intro d hd ns Y hY
      obtain ⟨⟨t, n2⟩, ht, e5⟩ := hJ ns _ w width hk' hw w0 w8
      have := hY t n2 ht
      simp [e5, this]
    · intro js n3 hl hh
      simp at hl
      have := hZ (⟨width, js⟩, n3) ⟨rfl, by simp only; omega, hh⟩
      simp [line]
      exact this
end RC.P
end RP10
section RP11
set_option Elab.async false
set_option linter.all false
set_option maxRecDepth 100000
set_option autoImplicit false
set_option maxHeartbeats 4000000
/-! RP11: keys, stores -/
namespace RC.P
open PySem SrtO
variable {C : Cal}
def Val.rk : Val → Int
  | .int _ => 0
  | .str _ => 1
def keyD (v : Val) : D := .tuple [.int v.rk, v.d]
def pkD (p : Place) : D := .tuple [wdD p.name, .list (p.row.map keyD)]
theorem kn_key : Kn keyD 1 := kn_int.two kn_val (p := Val.rk) (q := id) (fun _ => rfl) fun a b _ h => h
theorem kn_pk : Kn pkD 3 := kn_wd.two kn_key.lst (p := Place.name) (q := Place.row) (fun _ => rfl) fun a b h1 h2 => by cases a; cases b; simp_all
@[simp] theorem seqD_row {r : Row} : seqD (rowD r) = some (r.map Val.d) := (rfl)
def LKeyOk (C : Cal) : Prop := ∀ v : Val, C "_law_key" [im v.d] = some (.imm (keyD v), [im v.d])
theorem lkey_run (v : Val) : runF C Lb.f__law_key [im v.d] = some (.imm (keyD v), [im v.d]) := by
  refine eq_of_cSat ?_
  rw [runF_wp]
  cases v <;> simp [Lb.f__law_key, Lb.b__law_key, Val.d, keyD, Val.rk, line]
def LRowKeyOk (C : Cal) : Prop := ∀ r : Row, r.length ≤ 1000 → C "_law_row_key" [im (rowD r)] = some (.fr (.list (r.map keyD)), [im (rowD r)])
theorem lrowkey_run (hK : LKeyOk C) (r : Row) (h : r.length ≤ 1000) : runF C Lb.f__law_row_key [im (rowD r)] = some (.fr (.list (r.map keyD)), [im (rowD r)]) := by
  refine eq_of_cSat ?_
  rw [runF_wp]
  simp [Lb.f__law_row_key, Lb.b__law_row_key]
  refine wp_compM keyD (by simp [line]; omega) (fun v hv => ?_) ?_
  · simp [hK v]
  · simp
def LPkOk (C : Cal) : Prop := ∀ (d : D) (p : Place), ixD d (.int 0) = some (wdD p.name) → ixD d (.int 1) = some (rowD p.row) → p.row.length ≤ 1000 → C "_law_place_key" [im d] = some (.imm (pkD p), [im d])
theorem lpk_run (hK : LRowKeyOk C) (d : D) (p : Place) (h0 : ixD d (.int 0) = some (wdD p.name)) (h1 : ixD d (.int 1) = some (rowD p.row)) (hl : p.row.length ≤ 1000) : runF C Lb.f__law_place_key [im d] = some (.imm (pkD p), [im d]) := by
  refine eq_of_cSat ?_
  rw [runF_wp]
  simp [Lb.f__law_place_key, Lb.b__law_place_key, h0, h1, hK _ hl, line, pkD]
theorem cmpb_val {u v : Val} (h : u.rk = v.rk) : cmpb u.d v.d = true := by
  cases u <;> cases v <;> first | rfl | cases h
theorem cmpb_key (u v : Val) : cmpb (keyD u) (keyD v) = true := by
  show (cmpb (.int u.rk) (.int v.rk) && (!PyData.eqv (.int u.rk) (.int v.rk) || cmpbs [u.d] [v.d])) = true
  by_cases h : u.rk = v.rk
  · simp [h, cmpb, cmpbs, cmpb_val h]
  · simp [h, cmpb]
theorem cmpbs_keys : ∀ u v : List Val, cmpbs (u.map keyD) (v.map keyD) = true
  | [], _ => rfl
  | _ :: _, [] => rfl
  | x :: u, y :: v => by
    show (cmpb (keyD x) (keyD y) && (!PyData.eqv (keyD x) (keyD y) || cmpbs (u.map keyD) (v.map keyD))) = true
    rw [cmpb_key, cmpbs_keys u v]; simp
theorem cmpb_pk (p q : Place) : cmpb (pkD p) (pkD q) = true := by
  show (true && (!PyData.eqv (wdD p.name) (wdD q.name) || (cmpbs (p.row.map keyD) (q.row.map keyD) && (!PyData.eqv (.list (p.row.map keyD)) (.list (q.row.map keyD)) || true)))) = true
  rw [cmpbs_keys]; simp
theorem keysOk_pk {α : Type} (f : α → Place) (l : List α) : keysOk (l.map fun x => pkD (f x)) = true :=
  keysOk_tup (hd := fun x => wdD (f x).name) (tl := fun x => [.list ((f x).row.map keyD)]) (fun _ _ => rfl) (fun x _ => kn_pk.shp (by decide) _) (fun x _ y _ => cmpb_pk _ _) fun _ _ _ _ => rfl
theorem mapC_map {α : Type} {f : String} {g h : α → D} : ∀ {xs : List α}, (∀ x ∈ xs, C f [im (g x)] = some (.imm (h x), [im (g x)])) → mapC C f (xs.map g) = some (xs.map h)
  | [], _ => rfl
  | x :: xs, k => by
    show (match C f [im (g x)] with
    | some (w, _) => (match w with
      | .imm k => (mapC C f (xs.map g)).map (k :: ·)
      | .fr k => (mapC C f (xs.map g)).map (k :: ·)
      | .al _ => none)
    | none => none) = _
    rw [k x (List.mem_cons_self ..), mapC_map fun y hy => k y (List.mem_cons_of_mem _ hy)]
    rfl
theorem mapC_mapf {α : Type} {f : String} {g h : α → D} : ∀ {xs : List α}, (∀ x ∈ xs, C f [im (g x)] = some (.fr (h x), [im (g x)])) → mapC C f (xs.map g) = some (xs.map h)
  | [], _ => rfl
  | x :: xs, k => by
    show (match C f [im (g x)] with
    | some (w, _) => (match w with
      | .imm k => (mapC C f (xs.map g)).map (k :: ·)
      | .fr k => (mapC C f (xs.map g)).map (k :: ·)
      | .al _ => none)
    | none => none) = _
    rw [k x (List.mem_cons_self ..), mapC_mapf fun y hy => k y (List.mem_cons_of_mem _ hy)]
    rfl
/-- facts, of several with one place the first one -/
def dedupF (fs : List Fact) : List Fact := fs.foldl (fun acc f => if f.pl ∈ acc.map Fact.pl then acc else acc ++ [f]) []
def storeOf (fs : List Fact) : List Fact := dedupF (sortK (fun f => pkD f.pl) fs)
theorem dedup_snoc (ys : List Fact) (x : Fact) : dedupF (ys ++ [x]) = if x.pl ∈ (dedupF ys).map Fact.pl then dedupF ys else dedupF ys ++ [x] := by
  unfold dedupF
  rw [List.foldl_append]; rfl
structure DedupI (ys zs : List Fact) : Prop where
  sub : ∀ f ∈ zs, f ∈ ys
  all : ∀ f ∈ ys, f.pl ∈ zs.map Fact.pl
  nd : (zs.map Fact.pl).Nodup
  len : zs.length ≤ ys.length
  sl : zs.Sublist ys
theorem dedup_inv (ys : List Fact) : DedupI ys (dedupF ys) := by
  have go : ∀ (zs ys : List Fact), DedupI ys (dedupF ys) → DedupI (ys ++ zs) (dedupF (ys ++ zs)) := by
    intro zs
    induction zs with
    | nil => intro ys h; rwa [List.append_nil]
    | cons z zs ih =>
      intro ys h
      have e : ys ++ z :: zs = (ys ++ [z]) ++ zs := by simp
      rw [e]
      refine ih _ ?_
      rw [dedup_snoc]
      by_cases c : z.pl ∈ (dedupF ys).map Fact.pl
      · rw [if_pos c]
        refine ⟨fun f hf => List.mem_append_left _ (h.sub f hf), fun f hf => ?_, h.nd, by have := h.len; simp; omega, h.sl.trans (List.sublist_append_left _ _)⟩
        rcases List.mem_append.mp hf with hf | hf
        · exact h.all f hf
        · rw [List.mem_singleton.mp hf]; exact c
      · rw [if_neg c]
        refine ⟨fun f hf => ?_, fun f hf => ?_, ?_, by have := h.len; simp; omega, List.Sublist.append h.sl (List.Sublist.refl _)⟩
        · rcases List.mem_append.mp hf with hf | hf
          · exact List.mem_append_left _ (h.sub f hf)
          · exact List.mem_append_right _ hf
        · rw [List.map_append]
          rcases List.mem_append.mp hf with hf | hf
          · exact List.mem_append_left _ (h.all f hf)
          · rw [List.mem_singleton.mp hf]; exact List.mem_append_right _ (by simp)
        · rw [List.map_append, List.nodup_append]
          refine ⟨h.nd, by simp, fun a ha b hb e => ?_⟩
          simp at hb
          rw [e, hb] at ha
          exact c ha
  have := go ys [] ⟨(fun _ h => by cases h), (fun _ h => by cases h), List.Pairwise.nil, Nat.le_refl _, List.Sublist.refl _⟩
  simpa using this
theorem store_sub {fs : List Fact} {f : Fact} (h : f ∈ storeOf fs) : f ∈ fs := sortK_mem.mp ((dedup_inv _).sub f h)
theorem store_all {fs : List Fact} {f : Fact} (h : f ∈ fs) : f.pl ∈ (storeOf fs).map Fact.pl := (dedup_inv _).all f (sortK_mem.mpr h)
theorem store_nd (fs : List Fact) : ((storeOf fs).map Fact.pl).Nodup := (dedup_inv _).nd
theorem store_len (fs : List Fact) : (storeOf fs).length ≤ fs.length := by
  have := (dedup_inv (sortK (fun f => pkD f.pl) fs)).len
  rwa [sortK_len] at this
def LStoreOk (C : Cal) : Prop := ∀ fs : List Fact, fs.length ≤ 1000 → (∀ f ∈ fs, f.pl.row.length ≤ 1000) → C "_law_store" [im (.list (fs.map Fact.d))] = some (.imm (storeD (storeOf fs)), [im (.list (fs.map Fact.d))])
theorem lstore_run (hK : LPkOk C) (fs : List Fact) (hl : fs.length ≤ 1000) (hr : ∀ f ∈ fs, f.pl.row.length ≤ 1000) : runF C Lb.f__law_store [im (.list (fs.map Fact.d))] = some (.imm (storeD (storeOf fs)), [im (.list (fs.map Fact.d))]) := by
  refine eq_of_cSat ?_
  rw [runF_wp]
  have e1 : mapC C "_law_place_key" (fs.map Fact.d) = some (fs.map fun f => pkD f.pl) := mapC_map fun f hf => hK _ f.pl ix_fact0 ix_fact1 (hr f hf)
  have e2 : srtkD (fs.map fun f => pkD f.pl) (fs.map Fact.d) = some ((sortK (fun f => pkD f.pl) fs).map Fact.d) := srtk_map (keysOk_pk Fact.pl fs)
  simp [Lb.f__law_store, Lb.b__law_store, e1, e2, line]
  refine wp_forS (σ := List Fact × List Place × S1) (fun s => [some (im (.list (fs.map Fact.d))), some ⟨.own, false, .list (s.1.map Fact.d)⟩, some ⟨.own, false, .list (s.2.1.map Place.d)⟩, s.2.2.1]) (fun ys s => s.1 = dedupF ys ∧ s.2.1 = (dedupF ys).map Fact.pl) ([], [], s1n) ⟨rfl, rfl⟩ ?_ ?_
  · rintro ys x zs ⟨acc, ps, o, ho⟩ hs ⟨h1, h2⟩ Y hY
    simp only at h1 h2
    have hlen : (dedupF ys).length < 16777216 := by
      have h1 := (dedup_inv ys).len
      have h2 := congrArg List.length hs
      rw [sortK_len] at h2
      simp at h2; omega
    have hlp : ps.length < 16777216 := by rw [h2, List.length_map]; exact hlen
    have hd := dedup_snoc ys x
    rw [← h1] at hlen
    rw [← h2, ← h1] at hd
    by_cases c : x.pl ∈ ps
    · rw [if_pos c] at hd
      have := hY (acc, ps, ⟨some (im x.d), rfl⟩) ⟨hd.symm, by rw [hd, h2, h1]⟩
      simp [ho, c]
      exact this
    · rw [if_neg c] at hd
      have := hY (acc ++ [x], ps ++ [x.pl], ⟨some (im x.d), rfl⟩) ⟨hd.symm, by rw [hd, List.map_append, h1, h2]; rfl⟩
      simp at this
      simp [ho, c, line, hlen, hlp, this]
  · rintro ⟨acc, ps, o, ho⟩ ⟨h1, h2⟩
    simp only at h1 h2
    subst h1
    simp
    rfl
end RC.P
end RP11
section RP12
set_option Elab.async false
set_option linter.all false
set_option maxRecDepth 100000
set_option autoImplicit false
set_option maxHeartbeats 4000000
/-! RP12: drawn facts -/
namespace RC.P
open PySem SrtO
variable {C : Cal}
structure FactOk (w : World) (f : Fact) : Prop where
  tab : ∃ t ∈ w.schema, f.pl.name = t.name ∧ (f.pl.row.length : Int) = t.cols
  vs : ∀ v ∈ f.pl.row, v ∈ w.vals
  ch : ChOk f.ch
  bd : Bd 64 f.ch.2
theorem WorldOk.rwl {w : World} (hw : WorldOk w) {f : Fact} (h : FactOk w f) : f.pl.row.length ≤ 8 := by
  obtain ⟨t, ht, _, e⟩ := h.tab
  have := hw.hi t ht
  omega
/-- where a term stands for the first time -/
theorem idx_term {ts : List Term} {j : Nat} {t : Term} (h : ts[j]? = some t) : ∃ m : Nat, m < ts.length ∧ idxD (.tuple (ts.map Term.d)) t.d = some (.int (m : Nat)) := by
  have e : idxD (.tuple (ts.map Term.d)) t.d = ((ts.findIdx? fun z => decide (z = t)).map fun j => PyData.int (j : Nat)) := by
    rw [idxD_eq]
    simp [List.findIdx?_map, Function.comp_def]
  rw [e]
  have : (ts.findIdx? fun z => decide (z = t)).isSome = true := by
    rw [List.findIdx?_isSome, List.any_eq_true]
    exact ⟨t, List.mem_of_getElem? h, by simp⟩
  obtain ⟨m, hm⟩ := Option.isSome_iff_exists.mp this
  obtain ⟨lt, _⟩ := List.findIdx?_eq_some_iff_getElem.mp hm
  exact ⟨m, lt, by rw [hm]; rfl⟩
theorem fact_d {x : Wd} {r : Row} {s : Sh} : (PyData.tuple [wdD x, .tuple (r.map Val.d), shD s]) = (Fact.mk ⟨x, r⟩ s).d := (rfl)
def FactsSp (C : Cal) : Prop := ∀ (ns : List Int) (k : Kd) (w : World) (js : List Join) (many : Int), Rd k → WorldOk w → (∀ j ∈ js, ∀ a ∈ j.body, AtomOk w a) → (∀ j ∈ js, j.body.length ≤ 100) → js.length ≤ 100 → 0 ≤ many → many ≤ 100 → ∃ i : List Fact × List Int, ((i.1.length : Int) ≤ many ∧ ∀ f ∈ i.1, FactOk w f) ∧ C "_law_facts" [dr ns, en k w.d, im (.list (js.map Join.d)), im (.int many)] = some (.fr (.list (i.1.map Fact.d)), [dr i.2, en k w.d, im (.list (js.map Join.d)), im (.int many)])
theorem facts_run (hT : TakeOk C) (hV : ValueOk C) (hP : PickOk C) (hB : TableOk C) (hC : ChanceOk C) (ns : List Int) (k : Kd) (w : World) (js : List Join) (many : Int) (hk : Rd k) (hw : WorldOk w) (ha : ∀ j ∈ js, ∀ a ∈ j.body, AtomOk w a) (hjb : ∀ j ∈ js, j.body.length ≤ 100) (hjl : js.length ≤ 100) (m0 : 0 ≤ many) (m1 : many ≤ 100) : ∃ i : List Fact × List Int, ((i.1.length : Int) ≤ many ∧ ∀ f ∈ i.1, FactOk w f) ∧ runF C Lb.f__law_facts [dr ns, en k w.d, im (.list (js.map Join.d)), im (.int many)] = some (.fr (.list (i.1.map Fact.d)), [dr i.2, en k w.d, im (.list (js.map Join.d)), im (.int many)]) := by
  refine ret_of fun Z hZ => ?_
  rw [runF_wp]
  have hp : 0 < many + 1 := by omega
  have t0 := tk_lo (ns := ns) hp
  have t1 := tk_hi (ns := ns) hp
  have hr := small_rng t0 (by omega)
  have hTm := hT ns _ hp
  generalize tk ns (many + 1) = q at *
  have hk' := hk
  rcases hk with rfl | rfl
  all_goals
    simp [Lb.f__law_facts, Lb.b__law_facts, line]
    refine wp_forS (σ := List Atom × H1) (fun s => [some (dr ns), some (en _ w.d), some (im (.list (js.map Join.d))), some (im (.int many)), some ⟨.own, false, .list (s.1.map Atom.d)⟩, s.2.1, none, none, none, none, none, none, none]) (fun ys s => (∀ a ∈ s.1, AtomOk w a) ∧ s.1.length ≤ 100 * ys.length) ([], h1n) ⟨(fun _ h => by cases h), Nat.zero_le _⟩ ?_ ?_
    · rintro ys j zs ⟨as, o, ho⟩ hs ⟨h1, h2⟩ Y hY
      have hj : j ∈ js := by rw [hs]; simp
      have hys : ys.length ≤ 99 := by
        have := congrArg List.length hs
        simp at this; omega
      have hbl := hjb j hj
      simp only at h1 h2
      have hl : as.length + j.body.length ≤ 16777216 := by omega
      have := hY (as ++ j.body, ⟨some (im j.d), rfl⟩) ⟨fun a hm => by
        rcases List.mem_append.mp hm with hm | hm
        · exact h1 a hm
        · exact ha j hj a hm, by simp; omega⟩
      simp at this
      simp [ok_of_hid ho, line, hl, this]
    · rintro ⟨as, o, ho⟩ ⟨h1, h2⟩
      simp only at h1 h2
      simp [hTm, hr, line]
      refine wp_loopS (σ := List Int × List Fact × H1 × S2 × S1 × H1) (fun s => [some (dr s.1), some (en _ w.d), some (im (.list (js.map Join.d))), some (im (.int many)), some ⟨.own, false, .list (as.map Atom.d)⟩, o, some ⟨.own, false, .list (s.2.1.map Fact.d)⟩, s.2.2.1.1, s.2.2.2.1.1.1, s.2.2.2.1.1.2, s.2.2.2.2.1.1, s.2.2.2.2.2.1, none]) (fun i s => s.2.1.length = i ∧ ∀ f ∈ s.2.1, FactOk w f) (ns.dropLast, [], h1n, s2n, s1n, h1n) ⟨rfl, fun _ h => by cases h⟩ ?_ ?_
      · rintro i d ⟨ns, fs, ⟨o7, h7⟩, ⟨⟨o8, o9⟩, h8, h9⟩, ⟨o10, h10⟩, ⟨o11, h11⟩⟩ hd ⟨g1, g2⟩ Y hY
        simp only at g1 g2 h8 h9
        obtain ⟨t, ht, e1⟩ := hP Table.d w.schema _ ns .imm (.inl rfl) hw.ne (.inr rfl)
        have c0 := hw.lo t ht
        have c1 := hw.hi t ht
        have hrt := small_rng c0 (by omega)
        have hi : i < q.toNat := by
          obtain ⟨z, _⟩ := List.getElem?_eq_some_iff.mp hd
          simpa using z
        have hfl : fs.length < 16777216 := by omega
        have fin : ∀ (r : Row) (n : Wd) (s : Sh) n2 (x : H1 × S2 × S1 × H1), (∃ t ∈ w.schema, n = t.name ∧ (r.length : Int) = t.cols) → (∀ v ∈ r, v ∈ w.vals) → ChOk s → Bd 31 s.2 → Y [some (dr n2), some (en _ w.d), some (im (.list (js.map Join.d))), some (im (.int many)), some ⟨.own, false, .list (as.map Atom.d)⟩, o, some ⟨.own, false, .list ((fs ++ [Fact.mk ⟨n, r⟩ s]).map Fact.d)⟩, x.1.1, x.2.1.1.1, x.2.1.1.2, x.2.2.1.1, x.2.2.2.1, none] := fun r n s n2 x k1 k2 k3 k4 => hY (n2, fs ++ [⟨⟨n, r⟩, s⟩], x) ⟨by simp [g1], fun f hf => by
          rcases List.mem_append.mp hf with hf | hf
          · exact g2 f hf
          · rw [List.mem_singleton.mp hf]
            exact ⟨k1, k2, k3, k4.mono (by decide)⟩⟩
        simp [ok_of_hid h7, h8, h9, e1, line, hrt, h11]
        refine wp_compS (fun n : List Int => [some (dr n), some (en _ w.d), some (im (.list (js.map Join.d))), some (im (.int many)), some ⟨.own, false, .list (as.map Atom.d)⟩, o, some ⟨.own, false, .list (fs.map Fact.d)⟩, some (im d), some (im t.d), o9, o10, none, none]) Val.d (fun v => v ∈ w.vals) ns.dropLast [] (by simp [line]; omega) (by simp) ?_ ?_
        · intro d hd ns Y hY
          obtain ⟨v, n2, hv, e5⟩ := hV ns .imm w.vals (.inl rfl) hw.vals.len
          have := hY v n2 hv
          simp [e5, this]
        · intro row n2 hl hrow
          simp at hl
          by_cases hc : 0 < as.length ∧ 0 < tk n2 6
          · obtain ⟨a, hma, e2⟩ := hP Atom.d as _ n2.dropLast .bor (.inr rfl) (List.length_pos_iff.mp hc.1) (.inl rfl)
            obtain ⟨t2, ht2, e3, e4⟩ := (h1 a hma).tab
            have eB := hB w.schema t2 hw.nd ht2
            rw [← e3] at eB
            have hal := hw.tsl (h1 a hma)
            simp [h9, hT _ 6 (by decide), hc.1, hc.2, e2, eB, line, h10, h11]
            refine wp_compS (fun n : List Int => [some (dr n), some (en _ w.d), some (im (.list (js.map Join.d))), some (im (.int many)), some ⟨.own, false, .list (as.map Atom.d)⟩, o, some ⟨.own, false, .list (fs.map Fact.d)⟩, some (im d), some (im t2.d), some ⟨.own, false, .list (row.map Val.d)⟩, some (im a.d), o11, none]) Val.d (fun v => v ∈ w.vals) n2.dropLast.dropLast [] ?_ (by simp) ?_ ?_
            · simp [line]; omega
            · intro d hd ns Y hY
              obtain ⟨v, n2, hv, e5⟩ := hV ns .imm w.vals (.inl rfl) hw.vals.len
              have := hY v n2 hv
              simp [e5, this]
            · intro row2 n3 hl2 hrow2
              simp at hl2
              have hr2 := small_rng (n := (row2.length : Int)) (by omega) (by omega)
              simp [h9, line, hr2]
              refine wp_loopS (σ := Row × H1) (fun s => [some (dr n3), some (en _ w.d), some (im (.list (js.map Join.d))), some (im (.int many)), some ⟨.own, false, .list (as.map Atom.d)⟩, o, some ⟨.own, false, .list (fs.map Fact.d)⟩, some (im d), some (im t2.d), some ⟨.own, false, .list (s.1.map Val.d)⟩, some (im a.d), s.2.1, none]) (fun i s => s.1.length = a.ts.length ∧ ∀ v ∈ s.1, v ∈ w.vals) (row2, ⟨o11, h11⟩) ⟨hl2, hrow2⟩ ?_ ?_
              · rintro i dd ⟨row3, ⟨p11, q11⟩⟩ hd ⟨k1, k2⟩ Y hY
                simp only at k1 k2
                have hi : i < row2.length ∧ dd = .int (i : Nat) := by
                  obtain ⟨z, e⟩ := List.getElem?_eq_some_iff.mp hd
                  simp at z e
                  exact ⟨z, e.symm⟩
                obtain ⟨hi, rfl⟩ := hi
                have hi3 : i < row3.length := by omega
                obtain ⟨tm, htm⟩ : ∃ tm, a.ts[i]? = some tm := ⟨_, List.getElem?_eq_getElem (by omega)⟩
                obtain ⟨m, hm, e6⟩ := idx_term htm
                obtain ⟨v, hv⟩ : ∃ v, row3[m]? = some v := ⟨_, List.getElem?_eq_getElem (by omega)⟩
                have hvm := k2 v (List.mem_of_getElem? hv)
                cases tm with
                | var x =>
                  have := hY (row3.set i v, ⟨some (im (.int (i : Nat))), rfl⟩) ⟨by simp [k1], fun u hu => by
                    rcases List.mem_or_eq_of_mem_set hu with hu | hu
                    · exact k2 u hu
                    · rw [hu]; exact hvm⟩
                  simp at this
                  simp [ok_of_hid q11, htm, e6, hv, hi3, this]
                | val x =>
                  have hx : x ∈ w.vals := (h1 a hma).ts _ (List.mem_of_getElem? htm)
                  have := hY ((row3.set i v).set i x, ⟨some (im (.int (i : Nat))), rfl⟩) ⟨by simp [k1], fun u hu => by
                    rcases List.mem_or_eq_of_mem_set hu with hu | hu
                    · rcases List.mem_or_eq_of_mem_set hu with hu | hu
                      · exact k2 u hu
                      · rw [hu]; exact hvm
                    · rw [hu]; exact hx⟩
                  simp at this
                  simp [ok_of_hid q11, htm, e6, hv, hi3, this]
              · rintro ⟨row3, ⟨p11, q11⟩⟩ ⟨k1, k2⟩
                simp only at k1 k2
                obtain ⟨s, n4, s1, s2, e7⟩ := hC n3
                have hY := fin row3 t2.name s n4 (⟨some (im d), rfl⟩, ⟨(some (im t2.d), some ⟨.own, false, .list (row3.map Val.d)⟩), rfl, rfl⟩, ⟨some (im a.d), rfl⟩, ⟨p11, q11⟩) ⟨t2, ht2, rfl, (by rw [k1]; exact e4)⟩ k2 s1 s2
                simp [fact_d] at hY
                simp [e7, line, hfl, fact_d, hY]
          · by_cases hz : ¬ 0 < as.length
            · obtain ⟨s, n4, s1, s2, e7⟩ := hC n2
              have hY := fin row t.name s n4 (⟨some (im d), rfl⟩, ⟨(some (im t.d), some ⟨.own, false, .list (row.map Val.d)⟩), rfl, rfl⟩, ⟨o10, h10⟩, ⟨o11, h11⟩) ⟨t, ht, rfl, (by omega)⟩ hrow s1 s2
              simp [fact_d] at hY
              simp [h9, hz, e7, line, hfl, fact_d]
              exact hY
            · have hz : 0 < as.length := Nat.pos_of_ne_zero fun z => hz (by omega)
              have hc2 : ¬ 0 < tk n2 6 := fun z => hc ⟨hz, z⟩
              obtain ⟨s, n4, s1, s2, e7⟩ := hC n2.dropLast
              have hY := fin row t.name s n4 (⟨some (im d), rfl⟩, ⟨(some (im t.d), some ⟨.own, false, .list (row.map Val.d)⟩), rfl, rfl⟩, ⟨o10, h10⟩, ⟨o11, h11⟩) ⟨t, ht, rfl, (by omega)⟩ hrow s1 s2
              simp [fact_d] at hY
              simp [h9, hz, hc2, hT _ 6 (by decide), e7, line, hfl, fact_d, hY]
      · rintro ⟨ns, fs, ⟨o7, h7⟩, ⟨⟨o8, o9⟩, h8, h9⟩, ⟨o10, h10⟩, ⟨o11, h11⟩⟩ ⟨g1, g2⟩
        simp only [List.length_map, List.length_range] at g1 g2
        have := hZ (fs, ns) ⟨by simp only; omega, g2⟩
        simp
        exact this
end RC.P
end RP12
section RP13
set_option Elab.async false
set_option linter.all false
set_option maxRecDepth 100000
set_option autoImplicit false
set_option maxHeartbeats 4000000
/-! RP13: scenes -/
namespace RC.P
open PySem SrtO
variable {C : Cal}
def DenseSp (C : Cal) : Prop := ∀ (ns : List Int) (k : Kd) (w : World) (js : List Join) (many : Int), Rd k → WorldOk w → (∀ j ∈ js, ∀ a ∈ j.body, AtomOk w a) → (∀ j ∈ js, j.body.length ≤ 100) → js.length ≤ 100 → 0 ≤ many → many ≤ 100 → ∃ i : List Fact × List Int, ((i.1.length : Int) ≤ many ∧ ∀ f ∈ i.1, FactOk w f) ∧ C "_law_dense" [dr ns, en k w.d, im (.list (js.map Join.d)), im (.int many)] = some (.fr (.list (i.1.map Fact.d)), [dr i.2, en k w.d, im (.list (js.map Join.d)), im (.int many)])
theorem dense_run (hF : FactsSp C) (ns : List Int) (k : Kd) (w : World) (js : List Join) (many : Int) (hk : Rd k) (hw : WorldOk w) (ha : ∀ j ∈ js, ∀ a ∈ j.body, AtomOk w a) (hjb : ∀ j ∈ js, j.body.length ≤ 100) (hjl : js.length ≤ 100) (m0 : 0 ≤ many) (m1 : many ≤ 100) : ∃ i : List Fact × List Int, ((i.1.length : Int) ≤ many ∧ ∀ f ∈ i.1, FactOk w f) ∧ runF C Lb.f__law_dense [dr ns, en k w.d, im (.list (js.map Join.d)), im (.int many)] = some (.fr (.list (i.1.map Fact.d)), [dr i.2, en k w.d, im (.list (js.map Join.d)), im (.int many)]) := by
  refine ret_of fun Z hZ => ?_
  rw [runF_wp]
  have hr := small_rng (n := 2 * many) (by omega) (by omega)
  have hm : mulOk 2 many = true := mulOk_l (by decide) (by decide)
  have hk' := hk
  rcases hk with rfl | rfl
  all_goals
    simp [Lb.f__law_dense, Lb.b__law_dense, line, hm, hr]
    refine wp_loopS (σ := List Int × List Fact × H1) (fun s => [some (dr s.1), some (en _ w.d), some (im (.list (js.map Join.d))), some (im (.int many)), some ⟨.own, false, .list (s.2.1.map Fact.d)⟩, s.2.2.1]) (fun i s => s.2.1.length ≤ i ∧ ∀ f ∈ s.2.1, FactOk w f) (ns, [], h1n) ⟨Nat.le_refl _, fun _ h => by cases h⟩ ?_ ?_
    · rintro i d ⟨ns, fs, ⟨o5, h5⟩⟩ hd ⟨g1, g2⟩ Y hY
      simp only at g1 g2
      obtain ⟨⟨gs, n2⟩, ⟨k1, k2⟩, e⟩ := hF ns _ w js 1 hk' hw ha hjb hjl (by decide) (by decide)
      simp only at k1 k2 e
      have hi : i < (2 * many).toNat := by
        obtain ⟨z, _⟩ := List.getElem?_eq_some_iff.mp hd
        simpa using z
      have hl : fs.length + gs.length ≤ 16777216 := by omega
      have := hY (n2, fs ++ gs, ⟨some (im d), rfl⟩) ⟨by simp; omega, fun f hf => by
        rcases List.mem_append.mp hf with hf | hf
        · exact g2 f hf
        · exact k2 f hf⟩
      simp at this
      simp [ok_of_hid h5, e, line, hl, this]
    · rintro ⟨ns, fs, ⟨o5, h5⟩⟩ ⟨g1, g2⟩
      have := hZ (fs.take many.toNat, ns) ⟨by simp; omega, fun f hf => g2 f (List.mem_of_mem_take hf)⟩
      simp at this
      simp [m0, this]
@[simp] theorem len_store {s : List Fact} : bltD .len [storeD s] = some (.imm (.int s.length)) := by
  show some (W.imm (.int ((s.map Fact.d).length : Nat))) = _
  rw [List.length_map]
@[simp] theorem seq_store {s : List Fact} : seqD (storeD s) = some (s.map Fact.d) := (rfl)
@[simp] theorem tup_store {s : List Fact} : bltD .tuple [.list (s.map Fact.d)] = some (.imm (storeD s)) := (rfl)
@[simp] theorem lst_store {s : List Fact} : bltD .list [storeD s] = some (.fr (.list (s.map Fact.d))) := (rfl)
/-- the atom that is a place -/
def atomOf (p : Place) : Atom := ⟨p.name, p.row.map .val⟩
/-- all atoms are places of the store -/
def GroundJ (s : List Fact) (j : Join) : Prop := j.head = [] ∧ ∀ a ∈ j.body, ∃ f ∈ s, a = atomOf f.pl
def GroundSp (C : Cal) : Prop := ∀ (ns : List Int) (s : List Fact), s ≠ [] → s.length ≤ 100 → (∀ f ∈ s, f.pl.row.length ≤ 8) → ∃ i : Quest × List Int, (i.1.width = 0 ∧ i.1.joins.length ≤ 6 ∧ (∀ j ∈ i.1.joins, GroundJ s j ∧ j.body.length ≤ 8 ∧ (s.length ≤ 6 → j.body.length ≤ 6))) ∧ C "_law_ground" [dr ns, im (storeD s)] = some (.imm i.1.d, [dr i.2, im (storeD s)])
theorem ground_run (hT : TakeOk C) (hP : PickOk C) (ns : List Int) (s : List Fact) (hs : s ≠ []) (hl : s.length ≤ 100) (hr8 : ∀ f ∈ s, f.pl.row.length ≤ 8) : ∃ i : Quest × List Int, (i.1.width = 0 ∧ i.1.joins.length ≤ 6 ∧ (∀ j ∈ i.1.joins, GroundJ s j ∧ j.body.length ≤ 8 ∧ (s.length ≤ 6 → j.body.length ≤ 6))) ∧ runF C Lb.f__law_ground [dr ns, im (storeD s)] = some (.imm i.1.d, [dr i.2, im (storeD s)]) := by
  refine ret_of fun Z hZ => ?_
  rw [runF_wp]
  obtain ⟨L, hL⟩ : ∃ L : Int, L = if 6 < (s.length : Int) then 1 else 0 := ⟨_, rfl⟩
  have hL2 : (L = 1 ∧ 6 < s.length) ∨ (L = 0 ∧ ¬ 6 < s.length) := by
    by_cases c : 6 < (s.length : Int)
    · exact .inl ⟨by rw [hL, if_pos c], by omega⟩
    · exact .inr ⟨by rw [hL, if_neg c], by omega⟩
  have hL0 : 0 ≤ L ∧ L ≤ 1 := by omega
  obtain ⟨j, hj, e1⟩ := atI_ints [3, 2, 4, 5 - L, 3, 2, 1, 6 - 2 * L] (tk_lo (ns := ns) (m := 8) (by decide)) (tk_hi (by decide))
  simp only [List.map] at e1
  have hj0 : 0 ≤ j ∧ j ≤ 6 := by
    simp at hj; omega
  have hr := small_rng hj0.1 (by omega)
  have hm : ∀ x : Int, mulOk x L = true := fun x => mulOk_r (by omega) (by omega)
  simp [Lb.f__law_ground, Lb.b__law_ground, line, hT _ 8 (by decide), ← hL, hm, e1, hr]
  clear hL
  refine wp_loopS (σ := List Int × List Join × H1 × S2 × H1 × S1) (fun t => [some (dr t.1), some (im (storeD s)), some (im (.int L)), some ⟨.own, false, .list (t.2.1.map Join.d)⟩, t.2.2.1.1, t.2.2.2.1.1.1, t.2.2.2.1.1.2, t.2.2.2.2.1.1, t.2.2.2.2.2.1, none]) (fun i t => t.2.1.length = i ∧ (∀ j ∈ t.2.1, GroundJ s j ∧ j.body.length ≤ 8 ∧ (s.length ≤ 6 → j.body.length ≤ 6))) (ns.dropLast, [], h1n, s2n, h1n, s1n) ⟨rfl, fun _ h => by cases h⟩ ?_ ?_
  · rintro i d ⟨ns, js, ⟨o4, h4⟩, ⟨⟨o5, o6⟩, h5, h6⟩, ⟨o7, h7⟩, ⟨o8, h8⟩⟩ hd ⟨g1, g2⟩ Y hY
    simp only at g1 g2 h5 h6
    have hi : i < j.toNat ∧ d = .int (i : Nat) := by
      obtain ⟨z, e⟩ := List.getElem?_eq_some_iff.mp hd
      simp at z e
      exact ⟨by omega, e.symm⟩
    obtain ⟨hi, rfl⟩ := hi
    have hjl : js.length < 16777216 := by omega
    obtain ⟨m, hmm, e2⟩ := atI_ints [2, 1, 2, 3, 2, 1, 4 - L, 6 - 3 * L] (tk_lo (ns := ns) (m := 8) (by decide)) (tk_hi (by decide))
    simp only [List.map] at e2
    have hm0 : 0 ≤ m ∧ m ≤ 6 := by
      simp at hmm; omega
    -- the loop over the places
    have inner : ∀ (e4 : D) (q : Int) (n1 : List Int), 0 ≤ q → q ≤ 8 → (s.length ≤ 6 → q ≤ 6) → ∀ (o7 : H1) (o8 : S1) (Q : Fl → Rho → Prop), (∀ n2 (o7 : H1) (o8 : S1) (j : Join), GroundJ s j → j.body.length ≤ 8 → (s.length ≤ 6 → j.body.length ≤ 6) → Q .nx [some (dr n2), some (im (storeD s)), some (im (.int L)), some ⟨.own, false, .list (js.map Join.d)⟩, some (im e4), some ⟨.own, false, .list (j.body.map Atom.d)⟩, some (im (.int q)), o7.1, o8.1, none]) → wp (loopL (bodyL C (Tg.n 7) ((IS.set 8 (IE.call "_law_pick" ((IE.v 0).cons ((IE.v 1).cons IE.nil)))).seq (IS.ex (IE.app 5 (IE.tup (IE.cons (IE.ix (IE.v 8) (IE.int 0)) (IE.cons (IE.blt .tuple (IE.cons (IE.comp .val (IE.cons (IE.ix (IE.v 8) (IE.int 1)) IE.nil) IE.nil (Tg.n 9) [9] (IE.bl true) (IE.tup (IE.cons (IE.str "value") (IE.cons (IE.v 9) IE.nil)))) IE.nil)) IE.nil))))))) (List.map (fun k : Nat => PyData.int (k : Int)) (List.range q.toNat)) [some (dr n1), some (im (storeD s)), some (im (.int L)), some ⟨.own, false, .list (js.map Join.d)⟩, some (im e4), some ⟨.own, false, .list []⟩, some (im (.int q)), o7.1, o8.1, none]) Q := by
      intro e4 q n1 q0 q8 q6 o7 o8 Q hQ
      refine wp_loopS (σ := List Int × List Atom × H1 × S1) (fun t => [some (dr t.1), some (im (storeD s)), some (im (.int L)), some ⟨.own, false, .list (js.map Join.d)⟩, some (im e4), some ⟨.own, false, .list (t.2.1.map Atom.d)⟩, some (im (.int q)), t.2.2.1.1, t.2.2.2.1, none]) (fun i t => t.2.1.length = i ∧ ∀ a ∈ t.2.1, ∃ f ∈ s, a = atomOf f.pl) (n1, [], o7, o8) ⟨rfl, fun _ h => by cases h⟩ ?_ ?_
      · rintro i2 d2 ⟨ns, as, ⟨o7, h7⟩, ⟨o8, h8⟩⟩ hd2 ⟨g1, g2⟩ Y2 hY2
        simp only at g1 g2
        have hi2 : i2 < q.toNat := by
          obtain ⟨z, _⟩ := List.getElem?_eq_some_iff.mp hd2
          simpa using z
        obtain ⟨f, hf, e3⟩ := hP Fact.d s (storeD s) ns .imm (.inl rfl) hs (.inr rfl)
        have hal : as.length < 16777216 := by omega
        have hrl := hr8 f hf
        simp [ok_of_hid h7, h8, e3, line]
        refine wp_compM (fun v => (Term.val v).d) (by simp [line]; omega) (fun v hv => ?_) ?_
        · simp [line]
        · have e4 : (PyData.tuple [wdD f.pl.name, .tuple (f.pl.row.map fun v => (Term.val v).d)]) = (atomOf f.pl).d := by
            show _ = PyData.tuple [_, .tuple ((f.pl.row.map Term.val).map Term.d)]
            rw [List.map_map]; rfl
          have := hY2 (ns.dropLast, as ++ [atomOf f.pl], ⟨some (im d2), rfl⟩, ⟨some (im f.d), rfl⟩) ⟨by simp [g1], fun a ha => by
            rcases List.mem_append.mp ha with ha | ha
            · exact g2 a ha
            · exact ⟨f, hf, List.mem_singleton.mp ha⟩⟩
          simp at this
          simp [e4, line, hal, this]
      · rintro ⟨ns, as, o7, o8⟩ ⟨g1, g2⟩
        simp only [List.length_map, List.length_range] at g1 g2
        exact hQ ns o7 o8 ⟨[], as⟩ ⟨rfl, g2⟩ (by simp only; omega) (fun z => by have := q6 z; simp only; omega)
    have fin : ∀ (e4 : D) n2 (o7 : H1) (o8 : S1) (jn : Join) (q : Int), GroundJ s jn → jn.body.length ≤ 8 → (s.length ≤ 6 → jn.body.length ≤ 6) → Y [some (dr n2), some (im (storeD s)), some (im (.int L)), some ⟨.own, false, .list ((js ++ [jn]).map Join.d)⟩, some (im e4), some ⟨.own, false, .list (jn.body.map Atom.d)⟩, some (im (.int q)), o7.1, o8.1, none] := fun e4 n2 o7 o8 jn q k1 k2 k3 => hY (n2, js ++ [jn], ⟨some (im e4), rfl⟩, ⟨(some ⟨.own, false, .list (jn.body.map Atom.d)⟩, some (im (.int q))), rfl, rfl⟩, o7, o8) ⟨by simp [g1], fun j hj => by
      rcases List.mem_append.mp hj with hj | hj
      · exact g2 j hj
      · rw [List.mem_singleton.mp hj]; exact ⟨k1, k2, k3⟩⟩
    have hrm := small_rng hm0.1 (by omega)
    have jd : ∀ jn : Join, GroundJ s jn → PyData.tuple [.tuple [], .tuple (jn.body.map Atom.d)] = jn.d := fun jn k => by
      show _ = PyData.tuple [.tuple (jn.head.map Term.d), _]
      rw [k.1]; rfl
    have close : ∀ (q : Int) (n2 : List Int) (o7 : H1) (o8 : S1) (jn : Join), GroundJ s jn → True := fun _ _ _ _ _ _ => trivial
    by_cases cL : L = 1
    · subst cL
      simp only [Int.reduceSub, Int.reduceMul] at e2
      by_cases ci : i = 0
      · by_cases cm : m = 1
        · subst cm
          simp [ok_of_hid h4, h5, h6, hT _ 8 (by decide), e2, hm, line, ci]
          refine inner _ 8 _ (by omega) (by omega) (by omega) ⟨_, h7⟩ ⟨_, h8⟩ _ fun n2 o7 o8 jn k1 k2 k3 => ?_
          have := fin (.int 0) n2 o7 o8 jn 8 k1 k2 k3
          simp at this
          simp [line, hjl, jd jn k1, this]
        · simp [ok_of_hid h4, h5, h6, hT _ 8 (by decide), e2, hm, line, ci, cm, hrm]
          refine inner _ m _ (by omega) (by omega) (by omega) ⟨_, h7⟩ ⟨_, h8⟩ _ fun n2 o7 o8 jn k1 k2 k3 => ?_
          have := fin (.int 0) n2 o7 o8 jn m k1 k2 k3
          simp at this
          simp [line, hjl, jd jn k1, this]
      · simp [ok_of_hid h4, h5, h6, hT _ 8 (by decide), e2, hm, line, ci, hrm]
        refine inner _ m _ (by omega) (by omega) (by omega) ⟨_, h7⟩ ⟨_, h8⟩ _ fun n2 o7 o8 jn k1 k2 k3 => ?_
        have := fin (.int (i : Nat)) n2 o7 o8 jn m k1 k2 k3
        simp at this
        simp [line, hjl, jd jn k1, this]
    · simp [ok_of_hid h4, h5, h6, hT _ 8 (by decide), e2, hm, line, cL, hrm]
      refine inner _ m _ (by omega) (by omega) (by omega) ⟨_, h7⟩ ⟨_, h8⟩ _ fun n2 o7 o8 jn k1 k2 k3 => ?_
      have := fin (.int (i : Nat)) n2 o7 o8 jn m k1 k2 k3
      simp at this
      simp [line, hjl, jd jn k1, this]
  · rintro ⟨ns, js, ⟨o4, h4⟩, ⟨⟨o5, o6⟩, h5, h6⟩, ⟨o7, h7⟩, ⟨o8, h8⟩⟩ ⟨g1, g2⟩
    simp only [List.length_map, List.length_range] at g1 g2
    have := hZ (⟨0, js⟩, ns) ⟨rfl, by simp only; omega, g2⟩
    simp [line]
    exact this
end RC.P
end RP13
section RP14
set_option Elab.async false
set_option linter.all false
set_option maxRecDepth 100000
set_option autoImplicit false
set_option maxHeartbeats 4000000
/-! RP14: scenes, turned stores, draws -/
namespace RC.P
open PySem SrtO
variable {C : Cal}
theorem ground_atom {w : World} {s : List Fact} (hf : ∀ f ∈ s, FactOk w f) {f : Fact} (h : f ∈ s) : AtomOk w (atomOf f.pl) := by
  obtain ⟨t, ht, e1, e2⟩ := (hf f h).tab
  refine ⟨⟨t, ht, e1, by simpa [atomOf] using e2⟩, fun x hx => ?_⟩
  obtain ⟨v, hv, rfl⟩ := List.mem_map.mp hx
  exact (hf f h).vs v hv
/-- the joins of a closed drawn question: drawn ones, or of places of the store -/
structure CJoin (w : World) (s : List Fact) (j : Join) : Prop where
  hd : j.head = []
  at_ : ∀ a ∈ j.body, AtomOk w a
  len : (j.body.length ≤ 3 ∧ s.length ≤ 6) ∨ (GroundJ s j ∧ j.body.length ≤ 8 ∧ (s.length ≤ 6 → j.body.length ≤ 6))
structure SceneOk (n : Nat) (s : List Fact) (q : Quest) (w : World) : Prop where
  wo : WorldOk w
  st : ∃ fs, s = storeOf fs
  len : s.length ≤ n
  fs : ∀ f ∈ s, FactOk w f
  qw : q.width = 0
  ql : q.joins.length ≤ 8
  qj : ∀ j ∈ q.joins, CJoin w s j
def sceneD (s : List Fact) (q : Quest) (w : World) : D := .list [storeD s, q.d, w.d]
def SceneSp (C : Cal) : Prop := ∀ (ns : List Int), ∃ i : (List Fact × Quest × World) × List Int, SceneOk 6 i.1.1 i.1.2.1 i.1.2.2 ∧ C "_law_scene" [dr ns] = some (.fr (sceneD i.1.1 i.1.2.1 i.1.2.2), [dr i.2])
@[simp] theorem quest_d {a : Int} {l : List Join} : (PyData.tuple [.int a, .tuple (l.map Join.d)]) = (Quest.mk a l).d := (rfl)
theorem cjoin_of {w : World} {s : List Fact} {j : Join} (h : JoinOk w 0 j) (hs : s.length ≤ 6) : CJoin w s j := ⟨by
  have := h.hl
  exact List.length_eq_zero_iff.mp (by omega), h.bd, .inl ⟨h.bl, hs⟩⟩
theorem scene_run (hT : TakeOk C) (hW : VWorldSp C) (hQ : QuestSp C) (hD : DenseSp C) (hS : LStoreOk C) (hG : GroundSp C) (ns : List Int) : ∃ i : (List Fact × Quest × World) × List Int, SceneOk 6 i.1.1 i.1.2.1 i.1.2.2 ∧ runF C Lb.f__law_scene [dr ns] = some (.fr (sceneD i.1.1 i.1.2.1 i.1.2.2), [dr i.2]) := by
  refine ret_of fun Z hZ => ?_
  rw [runF_wp]
  obtain ⟨⟨w, n1⟩, hw, e1⟩ := hW ns
  obtain ⟨⟨q, n2⟩, ⟨q1, q2, q3⟩, e2⟩ := hQ n1 .bor w 0 (.inr rfl) hw (by decide) (by decide)
  obtain ⟨m, hm, e3⟩ := atI_ints [6, 6, 5, 4, 6, 0, 3, 6] (tk_lo (ns := n2) (m := 8) (by decide)) (tk_hi (by decide))
  simp only [List.map] at e3
  simp only at hw q1 q2 q3 e1 e2
  have hm0 : 0 ≤ m ∧ m ≤ 6 := by
    simp at hm; omega
  obtain ⟨⟨fs, n3⟩, ⟨f1, f2⟩, e4⟩ := hD n2.dropLast .bor w q.joins m (.inr rfl) hw (fun j hj => (q3 j hj).bd) (fun j hj => by have := (q3 j hj).bl; omega) (by omega) hm0.1 (by omega)
  simp only at f1 f2 e4
  have e5 := hS fs (by omega) (fun f hf => by have := hw.rwl (f2 f hf); omega)
  have hlen := store_len fs
  have hf : ∀ f ∈ storeOf fs, FactOk w f := fun f hf => f2 f (store_sub hf)
  have hl6 : (storeOf fs).length ≤ 6 := by omega
  have base : ∀ q : Quest, q.width = 0 → q.joins.length ≤ 8 → (∀ j ∈ q.joins, CJoin w (storeOf fs) j) → SceneOk 6 (storeOf fs) q w := fun q k1 k2 k3 => ⟨hw, ⟨fs, rfl⟩, hl6, hf, k1, k2, k3⟩
  by_cases c1 : tk n3 2 = 0
  · by_cases c2 : 0 < (storeOf fs).length
    · have b0 := tk_lo (ns := n3.dropLast) (m := 3) (by decide)
      have b1 := tk_hi (ns := n3.dropLast) (m := 3) (by decide)
      obtain ⟨⟨g, n4⟩, ⟨g1, g2, g3⟩, e6⟩ := hG n3.dropLast.dropLast (storeOf fs) (List.length_pos_iff.mp c2) (by omega) fun f h => hw.rwl (hf f h)
      simp only at g1 g2 g3 e6
      have := hZ ((storeOf fs, ⟨0, g.joins ++ q.joins.take (tk n3.dropLast 3).toNat⟩, w), n4) (base _ rfl (by simp; omega) fun j hj => by
        rcases List.mem_append.mp hj with hj | hj
        · obtain ⟨k1, k2, k3⟩ := g3 j hj
          refine ⟨k1.1, fun a ha => ?_, .inr ⟨k1, k2, k3⟩⟩
          obtain ⟨f, hf2, rfl⟩ := k1.2 a ha
          exact ground_atom hf hf2
        · exact cjoin_of (q3 j (List.mem_of_mem_take hj)) hl6)
      have hl : g.joins.length + min (tk n3.dropLast 3).toNat q.joins.length ≤ 16777216 := by omega
      have hd : (PyData.tuple [.int 0, .tuple (g.joins.map Join.d ++ List.take (tk n3.dropLast 3).toNat (q.joins.map Join.d))]) = (Quest.mk 0 (g.joins ++ q.joins.take (tk n3.dropLast 3).toNat)).d := by
        show _ = PyData.tuple [_, .tuple ((g.joins ++ q.joins.take (tk n3.dropLast 3).toNat).map Join.d)]
        rw [List.map_append, List.map_take]
      simp [Lb.f__law_scene, Lb.b__law_scene, e1, e2, hT _ 8 (by decide), hT _ 2 (by decide), hT _ 3 (by decide), e3, e4, e5, e6, c1, c2, line, b0, hl, hd]
      exact this
    · have := hZ ((storeOf fs, q, w), n3.dropLast) (base q q1 (by omega) fun j hj => cjoin_of (q3 j hj) hl6)
      simp [Lb.f__law_scene, Lb.b__law_scene, e1, e2, hT _ 8 (by decide), hT _ 2 (by decide), e3, e4, e5, c1, c2, line]
      exact this
  · have := hZ ((storeOf fs, q, w), n3.dropLast) (base q q1 (by omega) fun j hj => cjoin_of (q3 j hj) hl6)
    simp [Lb.f__law_scene, Lb.b__law_scene, e1, e2, hT _ 8 (by decide), hT _ 2 (by decide), e3, e4, e5, c1, line]
    exact this
@[simp] theorem ix_scene0 {s : List Fact} {q : Quest} {w : World} : ixD (sceneD s q w) (.int 0) = some (storeD s) := (rfl)
@[simp] theorem ix_scene1 {s : List Fact} {q : Quest} {w : World} : ixD (sceneD s q w) (.int 1) = some q.d := (rfl)
@[simp] theorem ix_scene2 {s : List Fact} {q : Quest} {w : World} : ixD (sceneD s q w) (.int 2) = some w.d := (rfl)
@[simp] theorem isLst_scene {s : List Fact} {q : Quest} {w : World} : isLst (sceneD s q w) = true := (rfl)
@[simp] theorem put_scene {s : List Fact} {q : Quest} {w : World} {x : D} : putD (.int 0) x (sceneD s q w) = some (.list [x, q.d, w.d], ()) := (rfl)
def FullSp (C : Cal) : Prop := ∀ (ns : List Int), ∃ i : (List Fact × Quest × World) × List Int, (SceneOk 6 i.1.1 i.1.2.1 i.1.2.2 ∧ i.1.1 ≠ []) ∧ C "_law_full_scene" [dr ns] = some (.fr (sceneD i.1.1 i.1.2.1 i.1.2.2), [dr i.2])
theorem store_one (f : Fact) : storeOf [f] = [f] := by
  unfold storeOf
  have : sortK (fun f : Fact => pkD f.pl) [f] = [f] := rfl
  rw [this]; rfl
theorem cjoin_mono {w : World} {s t : List Fact} {j : Join} (h : CJoin w s j) (hs : s = []) (ht : t.length ≤ 6) : CJoin w t j := by
  refine ⟨h.hd, h.at_, ?_⟩
  rcases h.len with ⟨h1, _⟩ | ⟨h1, h2, h3⟩
  · exact .inl ⟨h1, ht⟩
  · cases hb : j.body with
    | nil => exact .inl ⟨by simp, ht⟩
    | cons a l =>
      obtain ⟨f, hf, _⟩ := h1.2 a (by rw [hb]; exact List.mem_cons_self ..)
      rw [hs] at hf
      cases hf
theorem full_run (hV : ValueOk C) (hC : ChanceOk C) (hS : SceneSp C) (ns : List Int) : ∃ i : (List Fact × Quest × World) × List Int, (SceneOk 6 i.1.1 i.1.2.1 i.1.2.2 ∧ i.1.1 ≠ []) ∧ runF C Lb.f__law_full_scene [dr ns] = some (.fr (sceneD i.1.1 i.1.2.1 i.1.2.2), [dr i.2]) := by
  refine ret_of fun Z hZ => ?_
  rw [runF_wp]
  obtain ⟨⟨⟨s, q, w⟩, n1⟩, h, e1⟩ := hS ns
  simp only at h e1
  by_cases c : s = []
  · have hs := h.wo.ne
    obtain ⟨t, r, hs⟩ : ∃ t r, w.schema = t :: r := by
      cases h' : w.schema with
      | nil => exact absurd h' hs
      | cons t r => exact ⟨t, r, rfl⟩
    have ht : t ∈ w.schema := by rw [hs]; exact List.mem_cons_self ..
    have c0 := h.wo.lo t ht
    have c1 := h.wo.hi t ht
    have hr := small_rng c0 (by omega)
    subst c
    simp [Lb.f__law_full_scene, Lb.b__law_full_scene, e1, hs, hr]
    refine wp_compS (fun n : List Int => [some (dr n), some ⟨.own, false, sceneD [] q w⟩, some (im t.d), none, none]) Val.d (fun v => v ∈ w.vals) n1 [] (by simp [line]; omega) (by simp) ?_ ?_
    · intro d hd ns Y hY
      obtain ⟨v, n2, hv, e5⟩ := hV ns .imm w.vals (.inl rfl) h.wo.vals.len
      have := hY v n2 hv
      simp [e5, this]
    · intro row n2 hl hrow
      simp at hl
      obtain ⟨x, n3, x1, x2, e6⟩ := hC n2
      have hfo : FactOk w ⟨⟨t.name, row⟩, x⟩ := ⟨⟨t, ht, rfl, by simp only; omega⟩, hrow, x1, x2.mono (by decide)⟩
      have := hZ (([⟨⟨t.name, row⟩, x⟩], q, w), n3) ⟨⟨h.wo, ⟨_, (store_one _).symm⟩, by simp, fun f hf => by rw [List.mem_singleton.mp hf]; exact hfo, h.qw, h.ql, fun j hj => cjoin_mono (h.qj j hj) rfl (by simp)⟩, by simp⟩
      simp [e6, line]
      exact this
  · have := hZ ((s, q, w), n1) ⟨h, c⟩
    have c' : ¬ s.length = 0 := fun z => c (List.length_eq_zero_iff.mp z)
    simp [Lb.f__law_full_scene, Lb.b__law_full_scene, e1, c]
    exact this
def LWithoutOk (C : Cal) : Prop := ∀ (s : List Fact) (p : Place), s.length ≤ 1000 → C "_law_without" [im (storeD s), im p.d] = some (.imm (storeD (s.filter fun f => decide (f.pl ≠ p))), [im (storeD s), im p.d])
theorem lwithout_run (s : List Fact) (p : Place) (hl : s.length ≤ 1000) : runF C Lb.f__law_without [im (storeD s), im p.d] = some (.imm (storeD (s.filter fun f => decide (f.pl ≠ p))), [im (storeD s), im p.d]) := by
  refine eq_of_cSat ?_
  rw [runF_wp]
  simp [Lb.f__law_without, Lb.b__law_without]
  refine wp_compF (fun f => decide (f.pl ≠ p)) Fact.d (by simp [line]; omega) (fun f hf => ?_) ?_
  · by_cases c : f.pl = p <;> simp [c]
  · simp
    rfl
/-- a store's chances, of at most 64 bits -/
def ChS (s : List Fact) : Prop := ∀ f ∈ s, ChOk f.ch ∧ Bd 64 f.ch.2
def TurnedSp (C : Cal) : Prop := ∀ (ns : List Int) (s : List Fact), s.length ≤ 1000 → ∃ i : List Fact × List Int, (i.1.map Fact.pl = s.map Fact.pl ∧ ChS i.1) ∧ C "_law_turned" [dr ns, im (storeD s)] = some (.imm (storeD i.1), [dr i.2, im (storeD s)])
theorem turn_d {p : Place} {s : Sh} : (PyData.tuple [.str p.name.s, rowD p.row, shD s]) = (Fact.mk p s).d := (rfl)
@[simp] theorem add_pl {p : Place} {s : Sh} : binD .add p.d (.tuple [shD s]) = some (.imm (Fact.mk p s).d) := by
  simp [Place.d, line]
  rfl
theorem turned_run (hT : TakeOk C) (hC : ChanceOk C) (hS : ShareOk C) (ns : List Int) (s : List Fact) (hl : s.length ≤ 1000) : ∃ i : List Fact × List Int, (i.1.map Fact.pl = s.map Fact.pl ∧ ChS i.1) ∧ runF C Lb.f__law_turned [dr ns, im (storeD s)] = some (.imm (storeD i.1), [dr i.2, im (storeD s)]) := by
  refine ret_of fun Z hZ => ?_
  rw [runF_wp]
  simp [Lb.f__law_turned, Lb.b__law_turned]
  -- the comprehension, item by item
  have comp : ∀ (xs : List Fact) (ns : List Int) (ys : List Fact), ys.length + xs.length ≤ 1000 → ChS ys → ∀ Q : List D → Rho → Prop, (∀ zs ns, zs.map Fact.pl = ys.map Fact.pl ++ xs.map Fact.pl → ChS zs → Q (zs.map Fact.d) [some (dr ns), some (im (storeD s)), none, none, none, none]) → wp (compL (bodyC C (Tg.n 5) [5] (IE.bl true) (IE.bin BOp.add (IE.sl (IE.v 5) IE.nil (IE.cons (IE.int 2) IE.nil)) (IE.tup (IE.cons (IE.call "_law_chance" (IE.cons (IE.v 0) IE.nil)) IE.nil)))) (xs.map Fact.d) [some (dr ns), some (im (storeD s)), none, none, none, none] (ys.map Fact.d)) Q := by
    intro xs
    induction xs with
    | nil => intro ns ys _ hy Q hQ; exact hQ ys ns (by simp) hy
    | cons x xs ih =>
      intro ns ys hl hy Q hQ
      obtain ⟨c, n2, c1, c2, e⟩ := hC ns
      show wp ((bodyC C (Tg.n 5) [5] (IE.bl true) _ x.d [some (dr ns), some (im (storeD s)), none, none, none, none]).bnd _) Q
      rw [wp_bnd]
      simp [e, line]
      rw [List.length_cons] at hl
      refine ⟨by omega, ?_⟩
      have e2 : ys.map Fact.d ++ [(Fact.mk x.pl c).d] = (ys ++ [Fact.mk x.pl c]).map Fact.d := by simp
      rw [e2]
      refine ih n2 (ys ++ [⟨x.pl, c⟩]) (by simp; omega) (fun f hf => ?_) Q fun zs ns hz hc => hQ zs ns (by rw [hz]; simp) hc
      rcases List.mem_append.mp hf with hf | hf
      · exact hy f hf
      · rw [List.mem_singleton.mp hf]; exact ⟨c1, c2.mono (by decide)⟩
  refine comp s ns [] (by simpa using hl) (fun _ h => by cases h) _ fun zs ns hz hc => ?_
  have hz : zs.map Fact.pl = s.map Fact.pl := by simpa using hz
  have hlen : zs.length = s.length := by
    have := congrArg List.length hz
    simpa using this
  by_cases c0 : 0 < zs.length
  · by_cases c1 : tk ns 3 = 0
    · have hp : 0 < (zs.length : Int) := by omega
      have t0 := tk_lo (ns := ns.dropLast) hp
      have t1 := tk_hi (ns := ns.dropLast) hp
      obtain ⟨K, hK⟩ := Int.eq_ofNat_of_zero_le t0
      have hTl := hT ns.dropLast _ hp
      rw [hK] at hTl
      have hKl : K < zs.length := by omega
      have a0 := tk_lo (ns := ns.dropLast.dropLast) (m := 1000) (by decide)
      have a1 := tk_hi (ns := ns.dropLast.dropLast) (m := 1000) (by decide)
      have b0 := tk_lo (ns := ns.dropLast.dropLast.dropLast) (m := 1000) (by decide)
      have b1 := tk_hi (ns := ns.dropLast.dropLast.dropLast) (m := 1000) (by decide)
      have d0 := tk_lo (ns := ns.dropLast.dropLast.dropLast.dropLast) (m := 1000) (by decide)
      have d1 := tk_hi (ns := ns.dropLast.dropLast.dropLast.dropLast) (m := 1000) (by decide)
      have hm : ∀ x, mulOk x 1000 = true := fun x => mulOk_r (by decide) (by decide)
      generalize hx : 1 + tk ns.dropLast.dropLast 1000 * 1000 + tk ns.dropLast.dropLast.dropLast 1000 = X at *
      have hX : 0 ≤ X ∧ X ≤ 1000000 := by omega
      have hs := hS X (X + 1000000000000000 + tk ns.dropLast.dropLast.dropLast.dropLast 1000) 60 hX.1 (by omega) (by unfold Bd; omega) (by decide)
      have hf : zs[K]? = some zs[K] := List.getElem?_eq_getElem hKl
      have hb : Bd 64 (mkSh X (X + 1000000000000000 + tk ns.dropLast.dropLast.dropLast.dropLast 1000)).2 := by
        have h1 := mkSh_le2 (n := X) (d := X + 1000000000000000 + tk ns.dropLast.dropLast.dropLast.dropLast 1000) (by omega)
        have h2 := mkSh_pos (n := X) (d := X + 1000000000000000 + tk ns.dropLast.dropLast.dropLast.dropLast 1000) (by omega)
        unfold Bd; omega
      have hch := mkSh_ok (n := X) (d := X + 1000000000000000 + tk ns.dropLast.dropLast.dropLast.dropLast 1000) hX.1 (by omega) (by omega)
      have := hZ (zs.set K ⟨zs[K].pl, mkSh X (X + 1000000000000000 + tk ns.dropLast.dropLast.dropLast.dropLast 1000)⟩, ns.dropLast.dropLast.dropLast.dropLast.dropLast) ⟨by
        rw [← hz]
        simp only [List.map_set]
        refine List.ext_getElem? fun i => ?_
        rw [List.getElem?_set]
        by_cases hi : K = i
        · subst hi; simp [hf, hKl]
        · simp [hi], fun g hg => by
        rcases List.mem_or_eq_of_mem_set hg with hg | hg
        · exact hc g hg
        · rw [hg]; exact ⟨hch, hb⟩⟩
      simp [hT _ 3 (by decide), hT _ 1000 (by decide), c0, c1, hTl, hm, hx, hf, hKl, line, hs]
      have e3 : (PyData.tuple ((zs.map Fact.d).set K (Fact.mk zs[K].pl (mkSh X (X + 1000000000000000 + tk ns.dropLast.dropLast.dropLast.dropLast 1000))).d)) = storeD (zs.set K ⟨zs[K].pl, mkSh X (X + 1000000000000000 + tk ns.dropLast.dropLast.dropLast.dropLast 1000)⟩) := by
        unfold storeD
        rw [List.map_set]
      rw [e3]
      exact this
    · have := hZ (zs, ns.dropLast) ⟨hz, hc⟩
      simp [hT _ 3 (by decide), c0, c1, line]
      exact this
  · have := hZ (zs, ns) ⟨hz, hc⟩
    simp [c0, line]
    exact this
def DrawsSp (C : Cal) : Prop := ∀ (xs : List Int) (many : Int), xs.length ≤ 1000 → 0 ≤ many → many ≤ 100000 → ∃ ns : List Int, C "_law_draws" [im (.list (xs.map .int)), im (.int many)] = some (.fr (drD ns), [im (.list (xs.map .int)), im (.int many)])
theorem draws_run (xs : List Int) (many : Int) (hl : xs.length ≤ 1000) (m0 : 0 ≤ many) (m1 : many ≤ 100000) : ∃ ns : List Int, runF C Lb.f__law_draws [im (.list (xs.map .int)), im (.int many)] = some (.fr (drD ns), [im (.list (xs.map .int)), im (.int many)]) := by
  have := ret_of (r := runF C Lb.f__law_draws [im (.list (xs.map .int)), im (.int many)]) (wf := fun ns => .fr (drD ns)) (of := fun _ => [im (.list (xs.map .int)), im (.int many)]) (p := fun _ => True) fun Z hZ => ?_
  · obtain ⟨ns, _, h⟩ := this
    exact ⟨ns, h⟩
  rw [runF_wp]
  have hr := small_rng m0 (by omega)
  simp [Lb.f__law_draws, Lb.b__law_draws]
  refine wp_compM PyData.int (by simp [line]; omega) (fun x hx => by simp) ?_
  -- behind the cells
  obtain ⟨cs, hcs, hc1, hc2⟩ : ∃ cs : List Int, cs = (if xs.length = 0 then [0] else xs) ∧ 0 < cs.length ∧ cs.length ≤ 1000 := by
    refine ⟨_, rfl, ?_⟩
    by_cases c : xs.length = 0
    · rw [if_pos c]; exact ⟨by decide, by decide⟩
    · rw [if_neg c]; exact ⟨by omega, hl⟩
  have main : ∀ Q : Fl → Rho → Prop, (∀ (ns : List Int) (x3 x5 x6 x7 : Option En), Q .nx [some (im (.list (xs.map .int))), some (im (.int many)), some ⟨.own, false, .list (cs.map .int)⟩, x3, some ⟨.own, false, .list (ns.map .int)⟩, x5, x6, x7, none]) → wp (loopL (bodyL C (Tg.n 5) (IS.seq (IS.set 6 (IE.bin .md (IE.v 5) (IE.blt .len (IE.cons (IE.v 2) IE.nil)))) (IS.ite (IE.cmp .ge (IE.ix (IE.v 2) (IE.v 6)) (IE.bin .pow (IE.int 10) (IE.int 18))) (IS.seq (IS.ex (IE.app 4 (IE.bin .md (IE.blt .int (IE.cons (IE.ix (IE.v 3) (IE.v 6)) IE.nil)) (IE.int 1000)))) (IS.put 3 (IE.v 6) (IE.bin .fdiv (IE.ix (IE.v 3) (IE.v 6)) (IE.int 1000)))) (IS.seq (IS.set 7 (IE.bin .md (IE.blt .int (IE.cons (IE.bin .add (IE.bin .add (IE.bin .mul (IE.ix (IE.v 2) (IE.v 6)) (IE.int 48271)) (IE.bin .mul (IE.v 5) (IE.int 69621))) (IE.int 11)) IE.nil)) (IE.int 2147483647))) (IS.ex (IE.app 4 (IE.bin .md (IE.blt .int (IE.cons (IE.bin .add (IE.bin .add (IE.bin .mul (IE.v 7) (IE.v 7)) (IE.bin .mul (IE.int 3) (IE.v 7))) (IE.v 5)) IE.nil)) (IE.int 1000003)))))))) (List.map (fun k : Nat => PyData.int (k : Int)) (List.range many.toNat)) [some (im (.list (xs.map .int))), some (im (.int many)), some ⟨.own, false, .list (cs.map .int)⟩, some ⟨.own, false, .list (cs.map .int)⟩, some ⟨.own, false, .list []⟩, none, none, none, none]) Q := by
    intro Q hQ
    refine wp_loopS (σ := List Int × List Int × H1 × S1 × S1) (fun t => [some (im (.list (xs.map .int))), some (im (.int many)), some ⟨.own, false, .list (cs.map .int)⟩, some ⟨.own, false, .list (t.1.map .int)⟩, some ⟨.own, false, .list (t.2.1.map .int)⟩, t.2.2.1.1, t.2.2.2.1.1, t.2.2.2.2.1, none]) (fun i t => t.1.length = cs.length ∧ t.2.1.length = i) (cs, [], h1n, s1n, s1n) ⟨rfl, rfl⟩ ?_ ?_
    · rintro i d ⟨rs, ds, ⟨o5, h5⟩, ⟨o6, h6⟩, ⟨o7, h7⟩⟩ hd ⟨g1, g2⟩ Y hY
      simp only at g1 g2
      have hi : i < many.toNat ∧ d = .int (i : Nat) := by
        obtain ⟨z, e⟩ := List.getElem?_eq_some_iff.mp hd
        simp at z e
        exact ⟨by omega, e.symm⟩
      obtain ⟨hi, rfl⟩ := hi
      have hp : 0 < (cs.length : Int) := by omega
      have hml : i % cs.length < cs.length := Nat.mod_lt _ hc1
      obtain ⟨v, hv⟩ : ∃ v, cs[i % cs.length]? = some v := ⟨_, List.getElem?_eq_getElem hml⟩
      obtain ⟨u, hu⟩ : ∃ u, rs[i % cs.length]? = some u := ⟨_, List.getElem?_eq_getElem (by omega)⟩
      have e1 : L2.atI (cs.map PyData.int) ((i : Int) % (cs.length : Int)) = some (.int v) := by
        rw [← Int.natCast_emod, atI_nat, List.getElem?_map, hv]; rfl
      have e2 : L2.atI (rs.map PyData.int) ((i : Int) % (cs.length : Int)) = some (.int u) := by
        rw [← Int.natCast_emod, atI_nat, List.getElem?_map, hu]; rfl
      have e3 : L2.ixN rs.length ((i : Int) % (cs.length : Int)) = some (i % cs.length) := by
        rw [← Int.natCast_emod, ixN_nat, if_pos (by omega)]
      have hdl : ds.length < 16777216 := by omega
      have hm1 : mulOk v 48271 = true := mulOk_r (by decide) (by decide)
      have hm2 : ∀ x, mulOk x 69621 = true := fun x => mulOk_r (by decide) (by decide)
      have hm3 : ∀ x, mulOk 3 x = true := fun x => mulOk_l (by decide) (by decide)
      have hm4 : ∀ x : Int, mulOk (x % 2147483647) (x % 2147483647) = true := fun x => by
        have h0 := Int.emod_nonneg x (show (2147483647 : Int) ≠ 0 by decide)
        have h1 := Int.emod_lt_of_pos x (show (0 : Int) < 2147483647 by decide)
        exact mulOk_l (by omega) (by omega)
      have hlog : Nat.log2 1000 < 9000 := Nat.lt_of_le_of_lt (Nat.log2_le_self 1000) (by decide)
      by_cases c : 1000000000000000000 ≤ v
      · have := hY (rs.set (i % cs.length) (u / 1000), ds ++ [u % 1000], ⟨some (im (.int (i : Nat))), rfl⟩, ⟨some (im (.int ((i : Int) % (cs.length : Int)))), rfl⟩, ⟨o7, h7⟩) ⟨by simp [g1], by simp [g2]⟩
        simp at this
        simp [ok_of_hid h5, h6, h7, hp, hc1, e1, e2, e3, c, line, hdl, hlog, this]
      · have := hY (rs, ds ++ [((v * 48271 + i * 69621 + 11) % 2147483647 * ((v * 48271 + i * 69621 + 11) % 2147483647) + 3 * ((v * 48271 + i * 69621 + 11) % 2147483647) + i) % 1000003], ⟨some (im (.int (i : Nat))), rfl⟩, ⟨some (im (.int ((i : Int) % (cs.length : Int)))), rfl⟩, ⟨some (im (.int ((v * 48271 + i * 69621 + 11) % 2147483647))), rfl⟩) ⟨g1, by simp [g2]⟩
        simp at this
        simp [ok_of_hid h5, h6, h7, hp, hc1, e1, c, line, hdl, hm1, hm2, hm3, hm4, this]
    · rintro ⟨rs, ds, ⟨o5, h5⟩, ⟨o6, h6⟩, ⟨o7, h7⟩⟩ ⟨g1, g2⟩
      exact hQ ds _ _ _ _
  by_cases c : xs.length = 0
  · rw [if_pos c] at hcs
    subst hcs
    have hx : xs = [] := List.length_eq_zero_iff.mp c
    subst hx
    simp [line, hr]
    refine main _ fun ns x3 x5 x6 x7 => ?_
    have := hZ ns.reverse trivial
    simp [drD] at this
    simp [this]
  · rw [if_neg c] at hcs
    subst hcs
    have hx : ¬ cs = [] := fun z => c (List.length_eq_zero_iff.mpr z)
    simp [line, hx, hr]
    refine main _ fun ns x3 x5 x6 x7 => ?_
    have := hZ ns.reverse trivial
    simp [drD] at this
    simp [this]
end RC.P
end RP14
section RP15
set_option Elab.async false
set_option linter.all false
set_option maxRecDepth 100000
set_option autoImplicit false
set_option maxHeartbeats 4000000
/-! RP15: _law_same of equal things -/
namespace RC.P
open PySem SrtO
variable {C : Cal}
/-- _law_same is True of equal things -/
def SameAt (C : Cal) (d : D) : Prop := C "_law_same" [im d, im d] = some (.imm (.bool true), [im d, im d])
@[simp] theorem eqv_nn : PyData.eqv .none .none = true := by simp [PyData.eqv]
theorem kn_bool : Kn PyData.bool 0 := ⟨fun a b => by simp, fun _ => by simp [PyData.canLay0], fun _ => by simp [PyData.depth]⟩
theorem same_items {ds : List D} (hs : ∀ d ∈ ds, SameAt C d) (e : D) (he : e = .tuple ds ∨ e = .list ds) (hl : ds.length ≤ 1000000) (Q : List D → Rho → Prop) (hQ : Q ((List.range ds.length).map fun _ => PyData.bool true) [some (im e), some (im e), none]) : wp (compL (bodyC C (Tg.n 2) [2] (IE.bl true) (IE.call "_law_same" (IE.cons (IE.ix (IE.v 0) (IE.v 2)) (IE.cons (IE.ix (IE.v 1) (IE.v 2)) IE.nil)))) (List.map (fun k : Nat => PyData.int (k : Int)) (List.range ds.length)) [some (im e), some (im e), none] []) Q := by
  refine wp_compM (fun _ => PyData.bool true) (by simp [line]; omega) (fun k hk => ?_) hQ
  have hk : k < ds.length := List.mem_range.mp hk
  have h1 : ds[k]? = some ds[k] := List.getElem?_eq_getElem hk
  have h2 : C "_law_same" [im ds[k], im ds[k]] = _ := hs _ (List.getElem_mem hk)
  rcases he with rfl | rfl <;> simp [hk, h2]
theorem all_true (n : Nat) : ((List.range n).map fun _ => PyData.bool true) = (List.replicate n true).map PyData.bool := by
  induction n with
  | zero => rfl
  | succ n ih => rw [List.range_succ, List.map_append, ih, List.replicate_succ', List.map_append]; rfl
theorem same_run (d : D) (hc : d.canLay0 = true) (hdp : d.depth ≤ 60) (hs : ∀ ds, (d = .tuple ds ∨ d = .list ds) → ds.length ≤ 1000000 ∧ ∀ x ∈ ds, SameAt C x) : runF C Lb.f__law_same [im d, im d] = some (.imm (.bool true), [im d, im d]) := by
  refine eq_of_cSat ?_
  rw [runF_wp]
  have hnin : ∀ n : Nat, wo (cmpD .nin (.bool false) (.list ((List.range n).map fun _ => PyData.bool true))) (fun b => b = true) := fun n => by
    rw [all_true]
    have h1 : shp (.list ((List.replicate n true).map PyData.bool)) = true := kn_bool.lst.shp (by decide) _
    have h2 : (((List.replicate n true).map PyData.bool).any fun z => PyData.eqv z (.bool false)) = false := by
      rw [kn_bool.any]
      simp [List.mem_replicate]
    simp [-List.any_map, -List.map_replicate, h1, h2]
  cases d with
  | none => simp [Lb.f__law_same, Lb.b__law_same]
  | bool b => simp [Lb.f__law_same, Lb.b__law_same]
  | int b => simp [Lb.f__law_same, Lb.b__law_same]
  | str b =>
    have : PyData.strOk b = true := by simpa [PyData.canLay0] using hc
    simp [Lb.f__law_same, Lb.b__law_same, this]
  | dict kvs => simp [PyData.canLay0] at hc
  | tuple ds =>
    obtain ⟨hl, hx⟩ := hs ds (.inl rfl)
    have hr := small_rng (n := (ds.length : Int)) (by omega) (by omega)
    simp [Lb.f__law_same, Lb.b__law_same, hr]
    refine same_items hx _ (.inl rfl) hl _ ?_
    obtain ⟨b, e, rfl⟩ := wo_of (hnin ds.length)
    simp [-cmp_nin, e]
  | list ds =>
    obtain ⟨hl, hx⟩ := hs ds (.inr rfl)
    have hr := small_rng (n := (ds.length : Int)) (by omega) (by omega)
    simp [Lb.f__law_same, Lb.b__law_same, hr]
    refine same_items hx _ (.inr rfl) hl _ ?_
    obtain ⟨b, e, rfl⟩ := wo_of (hnin ds.length)
    simp [-cmp_nin, e]
/-- no list in it is longer than a million -/
inductive Short : D → Prop
  | non : Short .none
  | bool (b : Bool) : Short (.bool b)
  | int (i : Int) : Short (.int i)
  | str (s : Str) : Short (.str s)
  | tup (ds : List D) : ds.length ≤ 1000000 → (∀ d ∈ ds, Short d) → Short (.tuple ds)
  | lst (ds : List D) : ds.length ≤ 1000000 → (∀ d ∈ ds, Short d) → Short (.list ds)
theorem lay_mem {ds : List D} (h : PyData.canLayAll0 ds = true) {d : D} (hd : d ∈ ds) : d.canLay0 = true := by
  induction ds with
  | nil => cases hd
  | cons x ds ih =>
    simp only [PyData.canLayAll0, Bool.and_eq_true] at h
    rcases List.mem_cons.mp hd with rfl | hd
    · exact h.1
    · exact ih h.2 hd
theorem dep_mem {ds : List D} {d : D} (hd : d ∈ ds) : d.depth ≤ PyData.depthAll ds := by
  induction ds with
  | nil => cases hd
  | cons x ds ih =>
    simp only [PyData.depthAll]
    rcases List.mem_cons.mp hd with rfl | hd
    · exact Nat.le_max_left _ _
    · exact Nat.le_trans (ih hd) (Nat.le_max_right _ _)
theorem same_all {T : Tab} (hT : T.lookup "_law_same" = some Lb.f__law_same) : ∀ (n : Nat) (d : D), d.canLay0 = true → d.depth < n → d.depth ≤ 60 → Short d → SameAt (callN T n) d
  | 0, _, _, h, _, _ => absurd h (Nat.not_lt_zero _)
  | n + 1, d, h1, h2, h3, h4 => by
    show callN T (n + 1) "_law_same" [im d, im d] = _
    rw [callN_wp hT]
    refine same_run d h1 h3 fun ds e => ?_
    rcases e with rfl | rfl
    · cases h4 with
      | tup _ hl hx =>
        refine ⟨hl, fun x hm => same_all hT n x (lay_mem (by simpa [PyData.canLay0] using h1) hm) ?_ ?_ (hx x hm)⟩
        · have := dep_mem hm
          simp only [PyData.depth] at h2; omega
        · have := dep_mem hm
          simp only [PyData.depth] at h3; omega
    · cases h4 with
      | lst _ hl hx =>
        refine ⟨hl, fun x hm => same_all hT n x (lay_mem (by simpa [PyData.canLay0] using h1) hm) ?_ ?_ (hx x hm)⟩
        · have := dep_mem hm
          simp only [PyData.depth] at h2; omega
        · have := dep_mem hm
          simp only [PyData.depth] at h3; omega
theorem short_sh (s : Sh) : Short (shD s) := .tup _ (by show (2 : Nat) ≤ 1000000; decide) fun d hd => by
  simp at hd
  rcases hd with rfl | rfl
  · exact .int _
  · exact .int _
end RC.P
end RP15
section RP16
set_option Elab.async false
set_option linter.all false
set_option maxRecDepth 100000
set_option autoImplicit false
set_option maxHeartbeats 4000000
/-! RP16: shares of the program; circuits and their numbers -/
namespace RC.P
open PySem SrtO
variable {C : Cal}
/-- a share that is at most 1, of at most k bits -/
structure ShC (k : Nat) (s : Sh) : Prop where
  lo : 0 ≤ s.1
  le : s.1 ≤ s.2
  pos : 0 < s.2
  bd : Bd k s.2
theorem ShC.b {k : Nat} {s : Sh} (h : ShC k s) : ShB k s := ⟨h.lo, h.pos, h.bd.le h.lo h.le, h.bd⟩
theorem ShC.mono {k l : Nat} {s : Sh} (h : ShC k s) (g : k ≤ l) : ShC l s := ⟨h.lo, h.le, h.pos, h.bd.mono g⟩
theorem ShC.rest {k : Nat} {s : Sh} (h : ShC k s) : ShC k (restS s) := ⟨by have := h.le; simp only [restS]; omega, by have := h.lo; simp only [restS]; omega, h.pos, h.bd⟩
theorem mkSh_c {n d : Int} {k : Nat} (hn : 0 ≤ n) (h : n ≤ d) (hd : 0 < d) (hb : Bd k d) : ShC k (mkSh n d) := by
  have o := mkSh_ok hn h hd
  exact ⟨o.lo, o.hi, o.pos, hb.le (Int.le_of_lt o.pos) (mkSh_le2 hd)⟩
theorem ShC.times {k l : Nat} {s t : Sh} (h : ShC k s) (g : ShC l t) : ShC (k + l) (timesS s t) :=
  mkSh_c (Int.mul_nonneg h.lo g.lo) (Int.mul_le_mul h.le g.le g.lo (Int.le_of_lt h.pos)) (Int.mul_pos h.pos g.pos) (h.bd.mul g.bd)
/-- the cross product tells a share from its terms -/
theorem mkSh_cross {n d : Int} (hd : 0 < d) : (mkSh n d).1 * d = n * (mkSh n d).2 := by
  have hg := gcdI_pos (n := n) hd
  have h1 : gcdI n d ∣ n := by
    unfold gcdI
    exact Int.ofNat_dvd_left.mpr (Nat.gcd_dvd_left _ _)
  have h2 : gcdI n d ∣ d := by
    unfold gcdI
    exact Int.ofNat_dvd_left.mpr (Nat.gcd_dvd_right _ _)
  show n / gcdI n d * d = n * (d / gcdI n d)
  generalize gcdI n d = g at *
  obtain ⟨a, rfl⟩ := h1
  obtain ⟨b, rfl⟩ := h2
  have hg0 : g ≠ 0 := by omega
  rw [Int.mul_ediv_cancel_left _ hg0, Int.mul_ediv_cancel_left _ hg0]
  rw [← Int.mul_assoc, Int.mul_comm a g]
/-- a product is at most its factor -/
theorem times_le {k l : Nat} {s t : Sh} (h : ShC k s) (g : ShC l t) : (timesS s t).1 * s.2 ≤ s.1 * (timesS s t).2 := by
  have hd : 0 < s.2 * t.2 := Int.mul_pos h.pos g.pos
  have c := mkSh_cross (n := s.1 * t.1) hd
  have p := mkSh_pos (n := s.1 * t.1) hd
  show (mkSh (s.1 * t.1) (s.2 * t.2)).1 * s.2 ≤ s.1 * (mkSh (s.1 * t.1) (s.2 * t.2)).2
  generalize mkSh (s.1 * t.1) (s.2 * t.2) = m at *
  have e1 : (m.1 * s.2) * t.2 = (s.1 * m.2) * t.1 := by
    have : m.1 * s.2 * t.2 = m.1 * (s.2 * t.2) := Int.mul_assoc ..
    rw [this, c]
    rw [Int.mul_assoc, Int.mul_comm t.1 m.2, ← Int.mul_assoc]
  have e2 : (s.1 * m.2) * t.1 ≤ (s.1 * m.2) * t.2 := Int.mul_le_mul_of_nonneg_left g.le (Int.mul_nonneg h.lo (Int.le_of_lt p))
  rw [← e1] at e2
  exact Int.le_of_mul_le_mul_right e2 g.pos
theorem ShC.case {k a b : Nat} {ch s t : Sh} (hc : ShC k ch) (hs : ShC a s) (ht : ShC b t) : ShC (k + a + (k + b)) (plusS (timesS ch s) (timesS (restS ch) t)) := by
  have h1 := hc.times hs
  have h2 := hc.rest.times ht
  have l1 := times_le hc hs
  have l2 := times_le hc.rest ht
  have p1 := h1.pos
  have p2 := h2.pos
  refine mkSh_c (Int.add_nonneg (Int.mul_nonneg h1.lo (Int.le_of_lt p2)) (Int.mul_nonneg h2.lo (Int.le_of_lt p1))) ?_ (Int.mul_pos p1 p2) (h1.bd.mul h2.bd)
  generalize timesS ch s = x at *
  generalize timesS (restS ch) t = y at *
  simp only [restS] at l2
  have m1 := Int.mul_le_mul_of_nonneg_right l1 (Int.le_of_lt p2)
  have m2 := Int.mul_le_mul_of_nonneg_right l2 (Int.le_of_lt p1)
  refine Int.le_of_mul_le_mul_right (a := ch.2) ?_ hc.pos
  have e : (x.1 * y.2 + y.1 * x.2) * ch.2 = x.1 * ch.2 * y.2 + y.1 * ch.2 * x.2 := by
    rw [Int.add_mul, Int.mul_assoc, Int.mul_comm y.2, ← Int.mul_assoc, Int.mul_assoc y.1, Int.mul_comm x.2, ← Int.mul_assoc]
  have e2 : x.2 * y.2 * ch.2 = ch.1 * x.2 * y.2 + (ch.2 - ch.1) * y.2 * x.2 := by
    rw [Int.mul_assoc ch.1, Int.mul_assoc (ch.2 - ch.1), Int.mul_comm y.2 x.2, ← Int.add_mul, Int.mul_comm]
    congr 1
    omega
  rw [e, e2]
  exact Int.add_le_add m1 m2
/-! the program's shares -/
def MkOk (C : Cal) : Prop := ∀ (n d : Int) (k : Nat), 0 ≤ n → 0 < d → Bd k n → Bd k d → k ≤ 8000 → C "make_share" [im (.int n), im (.int d)] = some (.imm (shD (mkSh n d)), [im (.int n), im (.int d)])
theorem mk_run (n d : Int) (k : Nat) (hn : 0 ≤ n) (hd : 0 < d) (bn : Bd k n) (bd : Bd k d) (hk : k ≤ 8000) : runF C Lb.f_make_share [im (.int n), im (.int d)] = some (.imm (shD (mkSh n d)), [im (.int n), im (.int d)]) := by
  refine eq_of_cSat ?_
  rw [runF_wp]
  have hm := bn.mulOk bd (by omega)
  have h1 : ¬ d = 0 := by omega
  have h2 : ¬ n * d < 0 := Int.not_lt.mpr (Int.mul_nonneg hn (Int.le_of_lt hd))
  have h3 : ¬ n < 0 := by omega
  have h4 : ¬ d < 0 := by omega
  have hg := gcdI_pos (n := n) hd
  have hlog := (bd.le (Int.le_of_lt hg) (gcdI_le hd)).log hk
  have e : ((Nat.gcd n.natAbs d.natAbs : Nat) : Int) = gcdI n d := rfl
  simp [-Int.natCast_pos, Lb.f_make_share, Lb.b_make_share, hm, h1, h2, h3, h4, e, hg, hlog, line, shD, mkSh]
def PlusOk (C : Cal) : Prop := ∀ (s t : Sh) (k l : Nat), ShB k s → ShB l t → k + l ≤ 7000 → C "plus" [im (shD s), im (shD t)] = some (.imm (shD (plusS s t)), [im (shD s), im (shD t)])
def TimesOk (C : Cal) : Prop := ∀ (s t : Sh) (k l : Nat), ShB k s → ShB l t → k + l ≤ 7000 → C "times" [im (shD s), im (shD t)] = some (.imm (shD (timesS s t)), [im (shD s), im (shD t)])
def RestOk (C : Cal) : Prop := ∀ (s : Sh), C "rest_of" [im (shD s)] = some (.imm (shD (restS s)), [im (shD s)])
theorem Bd.add {k : Nat} {d e : Int} (h : Bd k d) (g : Bd k e) : Bd (k + 1) (d + e) := by
  unfold Bd at *
  rw [Nat.pow_succ]
  omega
theorem plus_run (hS : MkOk C) (s t : Sh) (k l : Nat) (hs : ShB k s) (ht : ShB l t) (h : k + l ≤ 7000) : runF C Lb.f_plus [im (shD s), im (shD t)] = some (.imm (shD (plusS s t)), [im (shD s), im (shD t)]) := by
  refine eq_of_cSat ?_
  rw [runF_wp]
  have m1 := hs.top.mulOk ht.bd (by omega)
  have m2 := ht.top.mulOk hs.bd (by omega)
  have m3 := hs.bd.mulOk ht.bd (by omega)
  have b1 : Bd (k + l + 1) (s.1 * t.2 + t.1 * s.2) := (hs.top.mul ht.bd).add (by rw [Nat.add_comm]; exact ht.top.mul hs.bd)
  have e := hS (s.1 * t.2 + t.1 * s.2) (s.2 * t.2) (k + l + 1) (Int.add_nonneg (Int.mul_nonneg hs.lo (Int.le_of_lt ht.pos)) (Int.mul_nonneg ht.lo (Int.le_of_lt hs.pos))) (Int.mul_pos hs.pos ht.pos) b1 ((hs.bd.mul ht.bd).mono (by omega)) (by omega)
  simp [Lb.f_plus, Lb.b_plus, m1, m2, m3, e, plusS]
theorem times_run (hS : MkOk C) (s t : Sh) (k l : Nat) (hs : ShB k s) (ht : ShB l t) (h : k + l ≤ 7000) : runF C Lb.f_times [im (shD s), im (shD t)] = some (.imm (shD (timesS s t)), [im (shD s), im (shD t)]) := by
  refine eq_of_cSat ?_
  rw [runF_wp]
  have m1 := hs.top.mulOk ht.top (by omega)
  have m3 := hs.bd.mulOk ht.bd (by omega)
  have e := hS (s.1 * t.1) (s.2 * t.2) (k + l) (Int.mul_nonneg hs.lo ht.lo) (Int.mul_pos hs.pos ht.pos) (hs.top.mul ht.top) (hs.bd.mul ht.bd) (by omega)
  simp [Lb.f_times, Lb.b_times, m1, m3, e, timesS]
theorem rest_run (s : Sh) : runF C Lb.f_rest_of [im (shD s)] = some (.imm (shD (restS s)), [im (shD s)]) := by
  refine eq_of_cSat ?_
  rw [runF_wp]
  simp [Lb.f_rest_of, Lb.b_rest_of, restS, line, shD]
/-- shares with bits that sum to at most N -/
inductive ShL : Nat → List Sh → Prop
  | nil (n : Nat) : ShL n []
  | cons {k n : Nat} {s : Sh} {l : List Sh} : ShC k s → ShL n l → ShL (k + n) (s :: l)
def prodS (l : List Sh) : Sh := l.foldl timesS (1, 1)
theorem one_c : ShC 1 ((1, 1) : Sh) := ⟨by decide, by decide, by decide, by unfold Bd; decide⟩
theorem prod_go : ∀ {l : List Sh} {n k : Nat} {a : Sh}, ShC k a → ShL n l → ShC (k + n) (l.foldl timesS a)
  | [], n, k, a, h, _ => h.mono (by omega)
  | s :: l, _, k, a, h, .cons (n := m) (k := j) g t => by
    have := prod_go (h.times g) t
    rw [List.foldl_cons]
    exact this.mono (by omega)
theorem prod_c {l : List Sh} {n : Nat} (h : ShL n l) : ShC (n + 1) (prodS l) := (prod_go one_c h).mono (by omega)
theorem ShL.rests : ∀ {l : List Sh} {n : Nat}, ShL n l → ShL n (l.map restS)
  | [], _, _ => .nil _
  | _ :: _, _, .cons h t => .cons h.rest (ShL.rests t)
theorem ShL.pre : ∀ {l m : List Sh} {n : Nat}, ShL n (l ++ m) → ShL n l
  | [], _, _, _ => .nil _
  | _ :: _, _, _, .cons h t => .cons h (ShL.pre t)
theorem ShL.at {l m : List Sh} {s : Sh} {n : Nat} (h : ShL n (l ++ s :: m)) : ShC n s := by
  induction l generalizing n with
  | nil =>
    cases h with
    | cons h t => exact h.mono (Nat.le_add_right _ _)
  | cons x l ih =>
    cases h with
    | cons h t => exact (ih t).mono (Nat.le_add_left _ _)
def ProdOk (C : Cal) : Prop := ∀ (l : List Sh) (n : Nat), ShL n l → n ≤ 3000 → C "product_of" [im (.list (l.map shD))] = some (.imm (shD (prodS l)), [im (.list (l.map shD))])
theorem prod_run (hT : TimesOk C) (l : List Sh) (n : Nat) (h : ShL n l) (hn : n ≤ 3000) : runF C Lb.f_product_of [im (.list (l.map shD))] = some (.imm (shD (prodS l)), [im (.list (l.map shD))]) := by
  refine eq_of_cSat ?_
  rw [runF_wp]
  simp [Lb.f_product_of, Lb.b_product_of, line]
  refine wp_forS (σ := Sh × S1) (fun s => [some (im (.list (l.map shD))), some (im (shD s.1)), s.2.1]) (fun ys s => s.1 = prodS ys) ((1, 1), s1n) rfl ?_ ?_
  · rintro ys x zs ⟨p, ⟨o, ho⟩⟩ hl hp Y hY
    simp only at hp
    subst hp
    rw [hl] at h
    have e := hT (prodS ys) x (n + 1) n (prod_c h.pre).b h.at.b (by omega)
    have := hY (timesS (prodS ys) x, ⟨some (im (shD x)), rfl⟩) (by simp [prodS])
    simp at this
    simp [ho, e, this]
  · rintro ⟨p, ⟨o, ho⟩⟩ hp
    simp only at hp
    subst hp
    simp
def anyS (l : List Sh) : Sh := restS (prodS (l.map restS))
theorem ShL.len_le : ∀ {l : List Sh} {n : Nat}, ShL n l → True := fun _ => trivial
def AnyOk (C : Cal) : Prop := ∀ (l : List Sh) (n : Nat), ShL n l → n ≤ 3000 → l.length ≤ 1000000 → C "any_of" [im (.list (l.map shD))] = some (.imm (shD (anyS l)), [im (.list (l.map shD))])
theorem any_run (hP : ProdOk C) (hR : RestOk C) (l : List Sh) (n : Nat) (h : ShL n l) (hn : n ≤ 3000) (hl : l.length ≤ 1000000) : runF C Lb.f_any_of [im (.list (l.map shD))] = some (.imm (shD (anyS l)), [im (.list (l.map shD))]) := by
  refine eq_of_cSat ?_
  rw [runF_wp]
  simp [Lb.f_any_of, Lb.b_any_of]
  refine wp_compM (fun s => shD (restS s)) (by simp [line]; omega) (fun s hs => by simp [hR s]) ?_
  have e := hP (l.map restS) n h.rests hn
  rw [List.map_map] at e
  have e : C "product_of" [im (.list (l.map fun s => shD (restS s)))] = some (.imm (shD (prodS (l.map restS))), [im (.list (l.map fun s => shD (restS s)))]) := e
  simp [e, hR (prodS (l.map restS)), anyS]
def LAnyOk (C : Cal) : Prop := ∀ (l : List Sh) (n : Nat), ShL n l → n ≤ 3000 → C "_law_any" [im (.list (l.map shD))] = some (.imm (shD (anyS l)), [im (.list (l.map shD))])
theorem lany_run (hT : LTimesOk C) (hR : LRestOk C) (l : List Sh) (n : Nat) (h : ShL n l) (hn : n ≤ 3000) : runF C Lb.f__law_any [im (.list (l.map shD))] = some (.imm (shD (anyS l)), [im (.list (l.map shD))]) := by
  refine eq_of_cSat ?_
  rw [runF_wp]
  simp [Lb.f__law_any, Lb.b__law_any, line]
  refine wp_forS (σ := Sh × S1) (fun s => [some (im (.list (l.map shD))), some (im (shD s.1)), s.2.1]) (fun ys s => s.1 = prodS (ys.map restS)) ((1, 1), s1n) rfl ?_ ?_
  · rintro ys x zs ⟨p, ⟨o, ho⟩⟩ hl hp Y hY
    simp only at hp
    subst hp
    rw [hl] at h
    have e := hT (prodS (ys.map restS)) (restS x) (n + 1) n (prod_c h.pre.rests).b h.at.rest.b (by omega)
    have := hY (timesS (prodS (ys.map restS)) (restS x), ⟨some (im (shD x)), rfl⟩) (by simp [prodS])
    simp at this
    simp [ho, hR x, e, this]
  · rintro ⟨p, ⟨o, ho⟩⟩ hp
    simp only at hp
    subst hp
    simp [hR (prodS (l.map restS)), anyS]
/-- the chance of a place -/
def atS (s : List Fact) (p : Place) : Sh := match s with
  | [] => (0, 1)
  | f :: r => if f.pl = p then f.ch else atS r p
theorem at_none {s : List Fact} {p : Place} (h : ∀ f ∈ s, f.pl ≠ p) : atS s p = (0, 1) := by
  induction s with
  | nil => rfl
  | cons f r ih =>
    rw [atS, if_neg (h f (List.mem_cons_self ..))]
    exact ih fun g hg => h g (List.mem_cons_of_mem _ hg)
theorem at_some {ys zs : List Fact} {f : Fact} {p : Place} (h : ∀ f ∈ ys, f.pl ≠ p) (e : f.pl = p) : atS (ys ++ f :: zs) p = f.ch := by
  induction ys with
  | nil => rw [List.nil_append, atS, if_pos e]
  | cons g r ih =>
    rw [List.cons_append, atS, if_neg (h g (List.mem_cons_self ..))]
    exact ih fun g hg => h g (List.mem_cons_of_mem _ hg)
def AtOk (C : Cal) : Prop := ∀ (s : List Fact) (p : Place), C "chance_at" [im (storeD s), im (wdD p.name), im (rowD p.row)] = some (.imm (shD (atS s p)), [im (storeD s), im (wdD p.name), im (rowD p.row)])
theorem at_run (s : List Fact) (p : Place) : runF C Lb.f_chance_at [im (storeD s), im (wdD p.name), im (rowD p.row)] = some (.imm (shD (atS s p)), [im (storeD s), im (wdD p.name), im (rowD p.row)]) := by
  refine eq_of_cSat ?_
  rw [runF_wp]
  simp [Lb.f_chance_at, Lb.b_chance_at]
  refine wp_forS (σ := S1) (fun t => [some (im (storeD s)), some (im (wdD p.name)), some (im (rowD p.row)), t.1]) (fun ys _ => ∀ f ∈ ys, f.pl ≠ p) s1n (fun _ h => by cases h) ?_ ?_
  · rintro ys x zs ⟨o, ho⟩ hl hy Y hY
    by_cases c : x.pl = p
    · have e := at_some (zs := zs) hy c
      rw [← hl] at e
      subst c
      simp [ho, e]
    · have := hY ⟨some (im x.d), rfl⟩ fun f hf => by
        rcases List.mem_append.mp hf with hf | hf
        · exact hy f hf
        · rw [List.mem_singleton.mp hf]; exact c
      by_cases c1 : x.pl.name = p.name
      · by_cases c2 : x.pl.row = p.row
        · exfalso
          apply c
          obtain ⟨⟨a, b⟩, _⟩ := x
          obtain ⟨a', b'⟩ := p
          simp only at c1 c2
          rw [c1, c2]
        · simp [ho, c1, c2, this]
      · simp [ho, c1, this]
  · rintro ⟨o, ho⟩ hy
    simp [line, at_none hy, shD]
def LAtOk (C : Cal) : Prop := ∀ (s : List Fact) (p : Place), C "_law_at" [im (storeD s), im (wdD p.name), im (rowD p.row)] = some (.imm (shD (atS s p)), [im (storeD s), im (wdD p.name), im (rowD p.row)])
theorem place_d {p : Place} : (PyData.tuple [wdD p.name, rowD p.row]) = p.d := (rfl)
theorem lat_run (s : List Fact) (p : Place) : runF C Lb.f__law_at [im (storeD s), im (wdD p.name), im (rowD p.row)] = some (.imm (shD (atS s p)), [im (storeD s), im (wdD p.name), im (rowD p.row)]) := by
  refine eq_of_cSat ?_
  rw [runF_wp]
  simp [Lb.f__law_at, Lb.b__law_at]
  refine wp_forS (σ := S1) (fun t => [some (im (storeD s)), some (im (wdD p.name)), some (im (rowD p.row)), t.1]) (fun ys _ => ∀ f ∈ ys, f.pl ≠ p) s1n (fun _ h => by cases h) ?_ ?_
  · rintro ys x zs ⟨o, ho⟩ hl hy Y hY
    by_cases c : x.pl = p
    · have e := at_some (zs := zs) hy c
      rw [← hl] at e
      simp [ho, line, place_d, c, e]
    · have := hY ⟨some (im x.d), rfl⟩ fun f hf => by
        rcases List.mem_append.mp hf with hf | hf
        · exact hy f hf
        · rw [List.mem_singleton.mp hf]; exact c
      simp [ho, line, place_d, c, this]
  · rintro ⟨o, ho⟩ hy
    simp [line, at_none hy, shD]
/-! circuits -/
inductive Circ where
  | yes | no | fact (p : Place) | case (p : Place) (a b : Circ) | any (cs : List Circ) | both (cs : List Circ)
mutual
def Circ.d : Circ → D
  | .yes => .tuple [.str (Str.ofString "yes")]
  | .no => .tuple [.str (Str.ofString "no")]
  | .fact p => .tuple [.str (Str.ofString "fact"), wdD p.name, rowD p.row]
  | .case p a b => .tuple [.str (Str.ofString "case"), wdD p.name, rowD p.row, a.d, b.d]
  | .any cs => .tuple [.str (Str.ofString "any"), .tuple (Circ.ds cs)]
  | .both cs => .tuple [.str (Str.ofString "both"), .tuple (Circ.ds cs)]
def Circ.ds : List Circ → List D
  | [] => []
  | c :: cs => c.d :: Circ.ds cs
end
theorem ds_map (cs : List Circ) : Circ.ds cs = cs.map Circ.d := by
  induction cs with
  | nil => rfl
  | cons c cs ih => rw [Circ.ds, ih]; rfl
mutual
/-- the number of a circuit -/
def Circ.num (s : List Fact) : Circ → Sh
  | .yes => (1, 1)
  | .no => (0, 1)
  | .fact p => atS s p
  | .case p a b => plusS (timesS (atS s p) (a.num s)) (timesS (restS (atS s p)) (b.num s))
  | .any cs => anyS (Circ.nums s cs)
  | .both cs => prodS (Circ.nums s cs)
def Circ.nums (s : List Fact) : List Circ → List Sh
  | [] => []
  | c :: cs => c.num s :: Circ.nums s cs
end
theorem nums_map (s : List Fact) (cs : List Circ) : Circ.nums s cs = cs.map (Circ.num s) := by
  induction cs with
  | nil => rfl
  | cons c cs ih => rw [Circ.nums, ih]; rfl
mutual
/-- bits -/
def Circ.cnt : Circ → Nat
  | .yes => 1
  | .no => 1
  | .fact _ => 64
  | .case _ a b => 64 + a.cnt + (64 + b.cnt)
  | .any cs => Circ.cnts cs + 1
  | .both cs => Circ.cnts cs + 1
def Circ.cnts : List Circ → Nat
  | [] => 0
  | c :: cs => c.cnt + Circ.cnts cs
end
mutual
def Circ.dep : Circ → Nat
  | .yes => 1
  | .no => 1
  | .fact _ => 1
  | .case _ a b => max a.dep b.dep + 1
  | .any cs => Circ.deps cs + 1
  | .both cs => Circ.deps cs + 1
def Circ.deps : List Circ → Nat
  | [] => 0
  | c :: cs => max c.dep (Circ.deps cs)
end
theorem dep_le {c : Circ} : ∀ {cs : List Circ}, c ∈ cs → c.dep ≤ Circ.deps cs
  | _ :: _, h => by
    rw [Circ.deps]
    rcases List.mem_cons.mp h with rfl | h
    · exact Nat.le_max_left _ _
    · exact Nat.le_trans (dep_le h) (Nat.le_max_right _ _)
theorem cnt_le {c : Circ} : ∀ {cs : List Circ}, c ∈ cs → c.cnt ≤ Circ.cnts cs
  | _ :: _, h => by
    rw [Circ.cnts]
    rcases List.mem_cons.mp h with rfl | h
    · exact Nat.le_add_right _ _
    · exact Nat.le_trans (cnt_le h) (Nat.le_add_left _ _)
theorem zero_c : ShC 1 ((0, 1) : Sh) := ⟨by decide, by decide, by decide, by unfold Bd; decide⟩
theorem at_c {s : List Fact} (h : ChS s) (p : Place) : ShC 64 (atS s p) := by
  induction s with
  | nil => exact zero_c.mono (by decide)
  | cons f r ih =>
    rw [atS]
    by_cases c : f.pl = p
    · rw [if_pos c]
      obtain ⟨h1, h2⟩ := h f (List.mem_cons_self ..)
      exact ⟨h1.lo, h1.hi, h1.pos, h2⟩
    · rw [if_neg c]; exact ih fun g hg => h g (List.mem_cons_of_mem _ hg)
mutual
theorem num_c {s : List Fact} (h : ChS s) : ∀ c : Circ, ShC c.cnt (c.num s)
  | .yes => one_c
  | .no => zero_c
  | .fact p => at_c h p
  | .case p a b => (at_c h p).case (num_c h a) (num_c h b)
  | .any cs => by
    rw [Circ.num, Circ.cnt]
    exact (prod_c (nums_c h cs).rests).rest
  | .both cs => by
    rw [Circ.num, Circ.cnt]
    exact prod_c (nums_c h cs)
theorem nums_c {s : List Fact} (h : ChS s) : ∀ cs : List Circ, ShL (Circ.cnts cs) (Circ.nums s cs)
  | [] => .nil _
  | c :: cs => by
    rw [Circ.nums, Circ.cnts]
    exact .cons (num_c h c) (nums_c h cs)
end
/-- the number of a circuit is told -/
def NumAt (C : Cal) (s : List Fact) (c : Circ) : Prop := C "number_of_circuit" [im (storeD s), im c.d] = some (.imm (shD (c.num s)), [im (storeD s), im c.d])
theorem num_run (hA : AtOk C) (hAn : AnyOk C) (hP : ProdOk C) (hT : TimesOk C) (hR : RestOk C) (hPl : PlusOk C) {s : List Fact} (h : ChS s) (c : Circ) (hc : c.cnt ≤ 2000) (ha : ∀ p a b, c = .case p a b → NumAt C s a ∧ NumAt C s b) (hcs : ∀ cs, (c = .any cs ∨ c = .both cs) → cs.length ≤ 100000 ∧ ∀ x ∈ cs, NumAt C s x) : runF C Lb.f_number_of_circuit [im (storeD s), im c.d] = some (.imm (shD (c.num s)), [im (storeD s), im c.d]) := by
  refine eq_of_cSat ?_
  rw [runF_wp]
  cases c with
  | yes => simp [Lb.f_number_of_circuit, Lb.b_number_of_circuit, Circ.d, Circ.num, line, shD]
  | no => simp [Lb.f_number_of_circuit, Lb.b_number_of_circuit, Circ.d, Circ.num, line, shD]
  | fact p => simp [Lb.f_number_of_circuit, Lb.b_number_of_circuit, Circ.d, Circ.num, hA s p]
  | case p a b =>
    obtain ⟨h1, h2⟩ := ha p a b rfl
    rw [Circ.cnt] at hc
    have c1 := at_c h p
    have c2 := num_c h a
    have c3 := num_c h b
    have e1 := hT (atS s p) (a.num s) 64 a.cnt c1.b c2.b (by omega)
    have e2 := hT (restS (atS s p)) (b.num s) 64 b.cnt c1.rest.b c3.b (by omega)
    have e3 := hPl _ _ _ _ (c1.times c2).b (c1.rest.times c3).b (by omega)
    unfold NumAt at h1 h2
    simp [Lb.f_number_of_circuit, Lb.b_number_of_circuit, Circ.d, Circ.num, hA s p, h1, h2, hR (atS s p), e1, e2, e3]
  | any cs =>
    obtain ⟨hl, hx⟩ := hcs cs (.inl rfl)
    rw [Circ.cnt] at hc
    simp [Lb.f_number_of_circuit, Lb.b_number_of_circuit, Circ.d, Circ.num, ds_map]
    refine wp_compM (fun c => shD (c.num s)) (by simp [line]; omega) (fun c hc => ?_) ?_
    · have h1 := hx c hc
      unfold NumAt at h1
      simp [h1]
    · have e := hAn _ _ (nums_c h cs) (by omega) (by rw [nums_map, List.length_map]; omega)
      rw [nums_map, List.map_map] at e
      have e : C "any_of" [im (.list (cs.map fun c => shD (c.num s)))] = some (.imm (shD (anyS (cs.map (Circ.num s)))), [im (.list (cs.map fun c => shD (c.num s)))]) := e
      simp [e, nums_map]
  | both cs =>
    obtain ⟨hl, hx⟩ := hcs cs (.inr rfl)
    rw [Circ.cnt] at hc
    simp [Lb.f_number_of_circuit, Lb.b_number_of_circuit, Circ.d, Circ.num, ds_map]
    refine wp_compM (fun c => shD (c.num s)) (by simp [line]; omega) (fun c hc => ?_) ?_
    · have h1 := hx c hc
      unfold NumAt at h1
      simp [h1]
    · have e := hP _ _ (nums_c h cs) (by omega)
      rw [nums_map, List.map_map] at e
      have e : C "product_of" [im (.list (cs.map fun c => shD (c.num s)))] = some (.imm (shD (prodS (cs.map (Circ.num s)))), [im (.list (cs.map fun c => shD (c.num s)))]) := e
      simp [e, nums_map]
def WorthAt (C : Cal) (s : List Fact) (c : Circ) : Prop := C "_law_worth" [im (storeD s), im c.d] = some (.imm (shD (c.num s)), [im (storeD s), im c.d])
theorem worth_run (hA : LAtOk C) (hAn : LAnyOk C) (hT : LTimesOk C) (hR : LRestOk C) (hPl : LPlusOk C) {s : List Fact} (h : ChS s) (c : Circ) (hc : c.cnt ≤ 2000) (ha : ∀ p a b, c = .case p a b → WorthAt C s a ∧ WorthAt C s b) (hcs : ∀ cs, (c = .any cs ∨ c = .both cs) → cs.length ≤ 100000 ∧ ∀ x ∈ cs, WorthAt C s x) : runF C Lb.f__law_worth [im (storeD s), im c.d] = some (.imm (shD (c.num s)), [im (storeD s), im c.d]) := by
  refine eq_of_cSat ?_
  rw [runF_wp]
  cases c with
  | yes => simp [Lb.f__law_worth, Lb.b__law_worth, Circ.d, Circ.num, line, shD]
  | no => simp [Lb.f__law_worth, Lb.b__law_worth, Circ.d, Circ.num, line, shD]
  | fact p => simp [Lb.f__law_worth, Lb.b__law_worth, Circ.d, Circ.num, hA s p, line]
  | case p a b =>
    obtain ⟨h1, h2⟩ := ha p a b rfl
    rw [Circ.cnt] at hc
    have c1 := at_c h p
    have c2 := num_c h a
    have c3 := num_c h b
    have e1 := hT (atS s p) (a.num s) 64 a.cnt c1.b c2.b (by omega)
    have e2 := hT (restS (atS s p)) (b.num s) 64 b.cnt c1.rest.b c3.b (by omega)
    have e3 := hPl _ _ _ _ (c1.times c2).b (c1.rest.times c3).b (by omega)
    unfold WorthAt at h1 h2
    simp [Lb.f__law_worth, Lb.b__law_worth, Circ.d, Circ.num, hA s p, h1, h2, hR (atS s p), e1, e2, e3, line]
  | any cs =>
    obtain ⟨hl, hx⟩ := hcs cs (.inl rfl)
    rw [Circ.cnt] at hc
    simp [Lb.f__law_worth, Lb.b__law_worth, Circ.d, Circ.num, ds_map]
    refine wp_compM (fun c => shD (c.num s)) (by simp [line]; omega) (fun c hc => ?_) ?_
    · have h1 := hx c hc
      unfold WorthAt at h1
      simp [h1]
    · have e := hAn _ _ (nums_c h cs) (by omega)
      rw [nums_map, List.map_map] at e
      have e : C "_law_any" [im (.list (cs.map fun c => shD (c.num s)))] = some (.imm (shD (anyS (cs.map (Circ.num s)))), [im (.list (cs.map fun c => shD (c.num s)))]) := e
      simp [e, nums_map]
  | both cs =>
    obtain ⟨hl, hx⟩ := hcs cs (.inr rfl)
    rw [Circ.cnt] at hc
    simp [Lb.f__law_worth, Lb.b__law_worth, Circ.d, Circ.num, ds_map, line]
    refine wp_forS (σ := Sh × S1) (fun t => [some (im (storeD s)), some (im (PyData.tuple [.str (Str.ofString "both"), .tuple (cs.map Circ.d)])), some (im (shD t.1)), t.2.1, none]) (fun ys t => t.1 = prodS (ys.map (Circ.num s))) ((1, 1), s1n) rfl ?_ ?_
    · rintro ys x zs ⟨p, ⟨o, ho⟩⟩ hl hp Y hY
      simp only at hp
      subst hp
      have hxm : x ∈ cs := by rw [hl]; simp
      have h1 := hx x hxm
      unfold WorthAt at h1
      obtain ⟨N, hN, hL⟩ : ∃ N, N ≤ 2000 ∧ ShL N (cs.map (Circ.num s)) := ⟨Circ.cnts cs, by omega, by
        have hL := nums_c h cs
        rwa [nums_map] at hL⟩
      rw [hl, List.map_append, List.map_cons] at hL
      have e := hT (prodS (ys.map (Circ.num s))) (x.num s) (N + 1) N (prod_c hL.pre).b hL.at.b (by omega)
      have := hY (timesS (prodS (ys.map (Circ.num s))) (x.num s), ⟨some (im x.d), rfl⟩) (by simp [prodS])
      simp at this
      simp [ho, h1, e, this]
    · rintro ⟨p, ⟨o, ho⟩⟩ hp
      simp only at hp
      subst hp
      simp [nums_map]
end RC.P
end RP16
section RP17
set_option Elab.async false
set_option linter.all false
set_option maxRecDepth 100000
set_option autoImplicit false
set_option maxHeartbeats 4000000
/-! RP17: the levels of the drawing helpers in a table -/
namespace RC.P
open PySem SrtO
theorem callN_fn {T : Tab} {n : Nat} {f : String} {fn : Fn} (h : T.lookup f = some fn) : callN T (n + 1) f = runF (callN T n) fn := funext fun args => callN_wp h
/-- the drawing helpers stand in the table -/
structure DrT (T : Tab) : Prop where
  take : T.lookup "_law_take" = some Lb.f__law_take
  pick : T.lookup "_law_pick" = some Lb.f__law_pick
  value : T.lookup "_law_value" = some Lb.f__law_value
  values : T.lookup "_law_values" = some Lb.f__law_values
  share : T.lookup "_law_share" = some Lb.f__law_share
  chance : T.lookup "_law_chance" = some Lb.f__law_chance
  pool : T.lookup "_law_pool" = some Lb.f__law_pool
  world : T.lookup "_law_world" = some Lb.f__law_world
  vworld : T.lookup "_law_varied_world" = some Lb.f__law_varied_world
  table : T.lookup "_law_table" = some Lb.f__law_table
  term : T.lookup "_law_term" = some Lb.f__law_term
  atom : T.lookup "_law_atom" = some Lb.f__law_atom
  join : T.lookup "_law_join" = some Lb.f__law_join
  quest : T.lookup "_law_question" = some Lb.f__law_question
  key : T.lookup "_law_key" = some Lb.f__law_key
  rowkey : T.lookup "_law_row_key" = some Lb.f__law_row_key
  plkey : T.lookup "_law_place_key" = some Lb.f__law_place_key
  store : T.lookup "_law_store" = some Lb.f__law_store
  facts : T.lookup "_law_facts" = some Lb.f__law_facts
  dense : T.lookup "_law_dense" = some Lb.f__law_dense
  ground : T.lookup "_law_ground" = some Lb.f__law_ground
  scene : T.lookup "_law_scene" = some Lb.f__law_scene
  draws : T.lookup "_law_draws" = some Lb.f__law_draws
section
variable {T : Tab} (h : DrT T) (n : Nat)
include h
theorem DrT.takeL : TakeOk (callN T (n + 1)) := fun ns m k => by rw [callN_fn h.take]; exact take_run k
theorem DrT.pickL : PickOk (callN T (n + 2)) := fun g xs d ns k a b c => by rw [callN_fn h.pick]; exact pick_run (h.takeL n) g xs d ns k a b c
theorem DrT.valueL : ValueOk (callN T (n + 2)) := fun ns k vs a b => by rw [callN_fn h.value]; exact value_run (h.takeL n) ns k vs a b
theorem DrT.valuesL : ValuesOk (callN T (n + 2)) := fun ns k ws a b c d => by rw [callN_fn h.values]; exact values_run (h.takeL n) ns k ws a b c d
theorem DrT.shareL : ShareOk (callN T (n + 1)) := fun a b k c d e f => by rw [callN_fn h.share]; exact share_run a b k c d e f
theorem DrT.chanceL : ChanceOk (callN T (n + 2)) := fun ns => by rw [callN_fn h.chance]; exact chance_run (h.takeL n) (h.shareL n) ns
theorem DrT.poolL : PoolOk (callN T (n + 2)) := fun ns m a => by rw [callN_fn h.pool]; exact pool_run (h.takeL n) ns m a
theorem DrT.worldL : WorldSp (callN T (n + 3)) := fun ns => by rw [callN_fn h.world]; exact world_run (h.takeL (n + 1)) (h.poolL n) (h.valuesL n) ns
theorem DrT.vworldL : VWorldSp (callN T (n + 4)) := fun ns => by rw [callN_fn h.vworld]; exact vworld_run (h.takeL (n + 2)) (h.worldL n) ns
theorem DrT.tableL : TableOk (callN T (n + 1)) := fun sc t a b => by rw [callN_fn h.table]; exact table_run sc t a b
theorem DrT.termL : TermSp (callN T (n + 3)) := fun ns k w a b => by rw [callN_fn h.term]; exact term_run (h.takeL (n + 1)) (h.valueL n) (h.pickL n) ns k w a b
theorem DrT.atomL : AtomSp (callN T (n + 4)) := fun ns k w t a b c => by rw [callN_fn h.atom]; exact atom_run (h.termL n) ns k w t a b c
theorem DrT.joinL : JoinSp (callN T (n + 5)) := fun ns k w t a b c d => by rw [callN_fn h.join]; exact join_run (h.takeL (n + 3)) (h.valueL (n + 2)) (h.pickL (n + 2)) (h.atomL n) ns k w t a b c d
theorem DrT.questL : QuestSp (callN T (n + 6)) := fun ns k w t a b c d => by rw [callN_fn h.quest]; exact quest_run (h.takeL (n + 4)) (h.joinL n) ns k w t a b c d
theorem DrT.keyL : LKeyOk (callN T (n + 1)) := fun v => by rw [callN_fn h.key]; exact lkey_run v
theorem DrT.rowkeyL : LRowKeyOk (callN T (n + 2)) := fun r a => by rw [callN_fn h.rowkey]; exact lrowkey_run (h.keyL n) r a
theorem DrT.plkeyL : LPkOk (callN T (n + 3)) := fun d p a b c => by rw [callN_fn h.plkey]; exact lpk_run (h.rowkeyL n) d p a b c
theorem DrT.storeL : LStoreOk (callN T (n + 4)) := fun fs a b => by rw [callN_fn h.store]; exact lstore_run (h.plkeyL n) fs a b
theorem DrT.factsL : FactsSp (callN T (n + 3)) := fun ns k w js m a b c d e f g => by rw [callN_fn h.facts]; exact facts_run (h.takeL (n + 1)) (h.valueL n) (h.pickL n) (h.tableL (n + 1)) (h.chanceL n) ns k w js m a b c d e f g
theorem DrT.denseL : DenseSp (callN T (n + 4)) := fun ns k w js m a b c d e f g => by rw [callN_fn h.dense]; exact dense_run (h.factsL n) ns k w js m a b c d e f g
theorem DrT.groundL : GroundSp (callN T (n + 3)) := fun ns s a b c => by rw [callN_fn h.ground]; exact ground_run (h.takeL (n + 1)) (h.pickL n) ns s a b c
theorem DrT.sceneL : SceneSp (callN T (n + 7)) := fun ns => by rw [callN_fn h.scene]; exact scene_run (h.takeL (n + 5)) (h.vworldL (n + 2)) (h.questL n) (h.denseL (n + 2)) (h.storeL (n + 2)) (h.groundL (n + 3)) ns
theorem DrT.drawsL : DrawsSp (callN T (n + 1)) := fun xs m a b c => by rw [callN_fn h.draws]; exact draws_run xs m a b c
theorem DrT.fullL (hf : T.lookup "_law_full_scene" = some Lb.f__law_full_scene) : FullSp (callN T (n + 8)) := fun ns => by rw [callN_fn hf]; exact full_run (h.valueL (n + 5)) (h.chanceL (n + 5)) (h.sceneL n) ns
theorem DrT.turnedL (hf : T.lookup "_law_turned" = some Lb.f__law_turned) : TurnedSp (callN T (n + 3)) := fun ns s a => by rw [callN_fn hf]; exact turned_run (h.takeL (n + 1)) (h.chanceL n) (h.shareL (n + 1)) ns s a
end
theorem without_L {T : Tab} (hf : T.lookup "_law_without" = some Lb.f__law_without) (n : Nat) : LWithoutOk (callN T (n + 1)) := fun s p a => by rw [callN_fn hf]; exact lwithout_run s p a
/-- the law's own shares -/
structure LShT (T : Tab) : Prop where
  share : T.lookup "_law_share" = some Lb.f__law_share
  plus : T.lookup "_law_plus" = some Lb.f__law_plus
  times : T.lookup "_law_times" = some Lb.f__law_times
  rest : T.lookup "_law_rest" = some Lb.f__law_rest
theorem lshare_L {T : Tab} (hf : T.lookup "_law_share" = some Lb.f__law_share) (n : Nat) : ShareOk (callN T (n + 1)) := fun a b k c d e f => by rw [callN_fn hf]; exact share_run a b k c d e f
theorem lplus_L {T : Tab} (hs : T.lookup "_law_share" = some Lb.f__law_share) (hf : T.lookup "_law_plus" = some Lb.f__law_plus) (n : Nat) : LPlusOk (callN T (n + 2)) := fun s t k l a b c => by rw [callN_fn hf]; exact lplus_run (lshare_L hs n) s t k l a b c
theorem ltimes_L {T : Tab} (hs : T.lookup "_law_share" = some Lb.f__law_share) (hf : T.lookup "_law_times" = some Lb.f__law_times) (n : Nat) : LTimesOk (callN T (n + 2)) := fun s t k l a b c => by rw [callN_fn hf]; exact ltimes_run (lshare_L hs n) s t k l a b c
theorem lrest_L {T : Tab} (hf : T.lookup "_law_rest" = some Lb.f__law_rest) (n : Nat) : LRestOk (callN T (n + 1)) := fun s => by rw [callN_fn hf]; exact lrest_run s
theorem lany_L {T : Tab} (hs : T.lookup "_law_share" = some Lb.f__law_share) (ht : T.lookup "_law_times" = some Lb.f__law_times) (hr : T.lookup "_law_rest" = some Lb.f__law_rest) (hf : T.lookup "_law_any" = some Lb.f__law_any) (n : Nat) : LAnyOk (callN T (n + 3)) := fun l k a b => by rw [callN_fn hf]; exact lany_run (ltimes_L hs ht n) (lrest_L hr (n + 1)) l k a b
theorem lat_L {T : Tab} (hf : T.lookup "_law_at" = some Lb.f__law_at) (n : Nat) : LAtOk (callN T (n + 1)) := fun s p => by rw [callN_fn hf]; exact lat_run s p
/-- the program's shares and circuits -/
structure ShT (T : Tab) : Prop where
  mks : T.lookup "make_share" = some Lb.f_make_share
  plus : T.lookup "plus" = some Lb.f_plus
  times : T.lookup "times" = some Lb.f_times
  rest : T.lookup "rest_of" = some Lb.f_rest_of
  prod : T.lookup "product_of" = some Lb.f_product_of
  any : T.lookup "any_of" = some Lb.f_any_of
  at_ : T.lookup "chance_at" = some Lb.f_chance_at
  num : T.lookup "number_of_circuit" = some Lb.f_number_of_circuit
section
variable {T : Tab} (h : ShT T) (n : Nat)
include h
theorem ShT.mkL : MkOk (callN T (n + 1)) := fun a b k c d e f g => by rw [callN_fn h.mks]; exact mk_run a b k c d e f g
theorem ShT.plusL : PlusOk (callN T (n + 2)) := fun s t k l a b c => by rw [callN_fn h.plus]; exact plus_run (h.mkL n) s t k l a b c
theorem ShT.timesL : TimesOk (callN T (n + 2)) := fun s t k l a b c => by rw [callN_fn h.times]; exact times_run (h.mkL n) s t k l a b c
theorem ShT.restL : RestOk (callN T (n + 1)) := fun s => by rw [callN_fn h.rest]; exact rest_run s
theorem ShT.prodL : ProdOk (callN T (n + 3)) := fun l k a b => by rw [callN_fn h.prod]; exact prod_run (h.timesL n) l k a b
theorem ShT.anyL : AnyOk (callN T (n + 4)) := fun l k a b c => by rw [callN_fn h.any]; exact any_run (h.prodL n) (h.restL (n + 2)) l k a b c
theorem ShT.atL : AtOk (callN T (n + 1)) := fun s p => by rw [callN_fn h.at_]; exact at_run s p
end
theorem cnt_pos : ∀ c : Circ, 1 ≤ c.cnt
  | .yes => by rw [Circ.cnt]; omega
  | .no => by rw [Circ.cnt]; omega
  | .fact _ => by rw [Circ.cnt]; omega
  | .case _ a b => by rw [Circ.cnt]; omega
  | .any cs => by rw [Circ.cnt]; omega
  | .both cs => by rw [Circ.cnt]; omega
theorem len_cnts : ∀ cs : List Circ, cs.length ≤ Circ.cnts cs
  | [] => Nat.zero_le _
  | c :: cs => by
    have := len_cnts cs
    have := cnt_pos c
    rw [Circ.cnts, List.length_cons]; omega
theorem dep_pos : ∀ c : Circ, 1 ≤ c.dep
  | .yes => by rw [Circ.dep]; omega
  | .no => by rw [Circ.dep]; omega
  | .fact _ => by rw [Circ.dep]; omega
  | .case _ a b => by rw [Circ.dep]; omega
  | .any cs => by rw [Circ.dep]; omega
  | .both cs => by rw [Circ.dep]; omega
theorem num_all {T : Tab} (h : ShT T) {s : List Fact} (hs : ChS s) : ∀ (n : Nat) (c : Circ), c.dep ≤ n → c.cnt ≤ 2000 → NumAt (callN T (n + 4)) s c
  | 0, c, hd, _ => absurd (dep_pos c) (by omega)
  | n + 1, c, hd, hc => by
    unfold NumAt
    rw [callN_fn h.num]
    refine num_run (h.atL (n + 3)) (h.anyL n) (h.prodL (n + 1)) (h.timesL (n + 2)) (h.restL (n + 3)) (h.plusL (n + 2)) hs c hc (fun p a b e => ?_) fun cs e => ?_
    · subst e
      rw [Circ.dep] at hd
      rw [Circ.cnt] at hc
      exact ⟨num_all h hs n a (by omega) (by omega), num_all h hs n b (by omega) (by omega)⟩
    · rcases e with rfl | rfl
      · rw [Circ.dep] at hd
        rw [Circ.cnt] at hc
        have := len_cnts cs
        refine ⟨by omega, fun x hx => num_all h hs n x ?_ ?_⟩
        · have := dep_le hx; omega
        · have := cnt_le hx; omega
      · rw [Circ.dep] at hd
        rw [Circ.cnt] at hc
        have := len_cnts cs
        refine ⟨by omega, fun x hx => num_all h hs n x ?_ ?_⟩
        · have := dep_le hx; omega
        · have := cnt_le hx; omega
structure WoT (T : Tab) : Prop where
  share : T.lookup "_law_share" = some Lb.f__law_share
  plus : T.lookup "_law_plus" = some Lb.f__law_plus
  times : T.lookup "_law_times" = some Lb.f__law_times
  rest : T.lookup "_law_rest" = some Lb.f__law_rest
  any : T.lookup "_law_any" = some Lb.f__law_any
  at_ : T.lookup "_law_at" = some Lb.f__law_at
  worth : T.lookup "_law_worth" = some Lb.f__law_worth
theorem worth_all {T : Tab} (h : WoT T) {s : List Fact} (hs : ChS s) : ∀ (n : Nat) (c : Circ), c.dep ≤ n → c.cnt ≤ 2000 → WorthAt (callN T (n + 3)) s c
  | 0, c, hd, _ => absurd (dep_pos c) (by omega)
  | n + 1, c, hd, hc => by
    unfold WorthAt
    rw [callN_fn h.worth]
    refine worth_run (lat_L h.at_ (n + 2)) (lany_L h.share h.times h.rest h.any n) (ltimes_L h.share h.times (n + 1)) (lrest_L h.rest (n + 2)) (lplus_L h.share h.plus (n + 1)) hs c hc (fun p a b e => ?_) fun cs e => ?_
    · subst e
      rw [Circ.dep] at hd
      rw [Circ.cnt] at hc
      exact ⟨worth_all h hs n a (by omega) (by omega), worth_all h hs n b (by omega) (by omega)⟩
    · rcases e with rfl | rfl
      · rw [Circ.dep] at hd
        rw [Circ.cnt] at hc
        have := len_cnts cs
        refine ⟨by omega, fun x hx => worth_all h hs n x ?_ ?_⟩
        · have := dep_le hx; omega
        · have := cnt_le hx; omega
      · rw [Circ.dep] at hd
        rw [Circ.cnt] at hc
        have := len_cnts cs
        refine ⟨by omega, fun x hx => worth_all h hs n x ?_ ?_⟩
        · have := dep_le hx; omega
        · have := cnt_le hx; omega
end RC.P
end RP17
section RP18
set_option Elab.async false
set_option linter.all false
set_option maxRecDepth 100000
set_option autoImplicit false
set_option maxHeartbeats 4000000
/-! RP18: lots of the program -/
namespace RC.P
open PySem SrtO
variable {C : Cal}
/-! keys -/
def vkD : Val → D
  | .int i => .tuple [.int 0, .int i, .str (Str.ofString "")]
  | .str w => .tuple [.int 1, .int 0, wdD w]
def rkeyD (r : Row) : D := .tuple (r.map vkD)
def qkD (p : Place) : D := .tuple [wdD p.name, rkeyD p.row]
theorem kn_vk : Kn vkD 1 := ⟨fun a b => by cases a <;> cases b <;> simp [vkD, PyData.eqvAll], fun a => by
    cases a with
    | int i => simp [vkD, PyData.canLay0, PyData.canLayAll0]
    | str w => simp [vkD, PyData.canLay0, PyData.canLayAll0, wdD], fun a => by cases a <;> simp [vkD, PyData.depth, PyData.depthAll, wdD]⟩
theorem kn_qk : Kn qkD 3 := kn_wd.two kn_vk.tup (p := Place.name) (q := Place.row) (fun _ => rfl) fun a b h1 h2 => by cases a; cases b; simp_all
def VKeyOk (C : Cal) : Prop := ∀ v : Val, C "value_key" [im v.d] = some (.imm (vkD v), [im v.d])
theorem vkey_run (v : Val) : runF C Lb.f_value_key [im v.d] = some (.imm (vkD v), [im v.d]) := by
  refine eq_of_cSat ?_
  rw [runF_wp]
  cases v <;> simp [Lb.f_value_key, Lb.b_value_key, Val.d, vkD, line, wdD]
def RKeyOk (C : Cal) : Prop := ∀ r : Row, r.length ≤ 1000 → C "row_key" [im (rowD r)] = some (.imm (rkeyD r), [im (rowD r)])
theorem rkey_run (hK : VKeyOk C) (r : Row) (h : r.length ≤ 1000) : runF C Lb.f_row_key [im (rowD r)] = some (.imm (rkeyD r), [im (rowD r)]) := by
  refine eq_of_cSat ?_
  rw [runF_wp]
  simp [Lb.f_row_key, Lb.b_row_key]
  refine wp_compM vkD (by simp [line]; omega) (fun v hv => by simp [hK v]) ?_
  simp
  rfl
def QkOk (C : Cal) : Prop := ∀ (d : D) (p : Place), ixD d (.int 0) = some (wdD p.name) → ixD d (.int 1) = some (rowD p.row) → p.row.length ≤ 1000 → C "place_key" [im d] = some (.imm (qkD p), [im d])
theorem qk_run (hK : RKeyOk C) (d : D) (p : Place) (h0 : ixD d (.int 0) = some (wdD p.name)) (h1 : ixD d (.int 1) = some (rowD p.row)) (hl : p.row.length ≤ 1000) : runF C Lb.f_place_key [im d] = some (.imm (qkD p), [im d]) := by
  refine eq_of_cSat ?_
  rw [runF_wp]
  simp [Lb.f_place_key, Lb.b_place_key, h0, h1, hK _ hl, line, qkD]
/-- rows of at most a thousand values -/
def RowsOk (l : Lot) : Prop := ∀ p ∈ l, p.row.length ≤ 1000
def lqD (l : Lot) : D := .list (l.map qkD)
@[simp] theorem seqD_lot {l : Lot} : seqD (lotD l) = some (l.map Place.d) := (rfl)
def LqOk (C : Cal) : Prop := ∀ l : Lot, RowsOk l → l.length ≤ 1000 → C "lot_key" [im (lotD l)] = some (.fr (lqD l), [im (lotD l)])
theorem lq_run (hK : QkOk C) (l : Lot) (h : RowsOk l) (hl : l.length ≤ 1000) : runF C Lb.f_lot_key [im (lotD l)] = some (.fr (lqD l), [im (lotD l)]) := by
  refine eq_of_cSat ?_
  rw [runF_wp]
  simp [Lb.f_lot_key, Lb.b_lot_key]
  refine wp_compM qkD (by simp [line]; omega) (fun p hp => by simp [hK p.d p ix_pl0 ix_pl1 (h p hp)]) ?_
  simp
  rfl
theorem cmpb_vk (u v : Val) : cmpb (vkD u) (vkD v) = true := by
  cases u <;> cases v <;> simp [vkD, cmpb, cmpbs, wdD]
theorem cmpbs_vk : ∀ u v : List Val, cmpbs (u.map vkD) (v.map vkD) = true
  | [], _ => rfl
  | _ :: _, [] => rfl
  | x :: u, y :: v => by
    show (cmpb (vkD x) (vkD y) && (!PyData.eqv (vkD x) (vkD y) || cmpbs (u.map vkD) (v.map vkD))) = true
    rw [cmpb_vk, cmpbs_vk u v]; simp
theorem cmpb_qk (p q : Place) : cmpb (qkD p) (qkD q) = true := by
  show (true && (!PyData.eqv (wdD p.name) (wdD q.name) || (cmpbs (p.row.map vkD) (q.row.map vkD) && (!PyData.eqv (rkeyD p.row) (rkeyD q.row) || true)))) = true
  rw [cmpbs_vk]; simp
theorem cmpbs_qk : ∀ u v : List Place, cmpbs (u.map qkD) (v.map qkD) = true
  | [], _ => rfl
  | _ :: _, [] => rfl
  | x :: u, y :: v => by
    show (cmpb (qkD x) (qkD y) && (!PyData.eqv (qkD x) (qkD y) || cmpbs (u.map qkD) (v.map qkD))) = true
    rw [cmpb_qk, cmpbs_qk u v]; simp
theorem keysOk_qk {α : Type} (f : α → Place) (l : List α) : keysOk (l.map fun x => qkD (f x)) = true :=
  keysOk_tup (hd := fun x => wdD (f x).name) (tl := fun x => [rkeyD (f x).row]) (fun _ _ => rfl) (fun x _ => kn_qk.shp (by decide) _) (fun x _ y _ => cmpb_qk _ _) fun _ _ _ _ => rfl
theorem keysOk_lq (l : List Lot) : keysOk (l.map lqD) = true :=
  keysOk_of (fun x _ => kn_qk.lst.shp (by decide) x) (fun x _ y _ => cmpbs_qk x y) (fun _ _ _ _ => rfl) fun _ _ h => by cases h
/-- each once, in the order of the first ones -/
def dedupL {α : Type} [DecidableEq α] (l : List α) : List α := l.foldl (fun acc x => if x ∈ acc then acc else acc ++ [x]) []
section
variable {α : Type} [DecidableEq α]
theorem dedupL_snoc (ys : List α) (x : α) : dedupL (ys ++ [x]) = if x ∈ dedupL ys then dedupL ys else dedupL ys ++ [x] := by
  unfold dedupL
  rw [List.foldl_append]; rfl
structure DedI (ys zs : List α) : Prop where
  mem : ∀ f, f ∈ zs ↔ f ∈ ys
  nd : zs.Nodup
  sl : zs.Sublist ys
theorem dedupL_inv (ys : List α) : DedI ys (dedupL ys) := by
  have go : ∀ (zs ys : List α), DedI ys (dedupL ys) → DedI (ys ++ zs) (dedupL (ys ++ zs)) := by
    intro zs
    induction zs with
    | nil => intro ys h; rwa [List.append_nil]
    | cons z zs ih =>
      intro ys h
      have e : ys ++ z :: zs = (ys ++ [z]) ++ zs := by simp
      rw [e]
      refine ih _ ?_
      rw [dedupL_snoc]
      by_cases c : z ∈ dedupL ys
      · rw [if_pos c]
        refine ⟨fun f => ?_, h.nd, h.sl.trans (List.sublist_append_left _ _)⟩
        rw [List.mem_append, List.mem_singleton, h.mem]
        refine ⟨.inl, fun q => q.elim id fun q => ?_⟩
        rw [q]; exact (h.mem z).mp c
      · rw [if_neg c]
        refine ⟨fun f => by rw [List.mem_append, List.mem_append, h.mem], ?_, List.Sublist.append h.sl (List.Sublist.refl _)⟩
        rw [List.nodup_append]
        refine ⟨h.nd, by simp, fun a ha b hb e => ?_⟩
        rw [List.mem_singleton] at hb
        rw [e, hb] at ha
        exact c ha
  have := go ys [] ⟨fun _ => Iff.rfl, List.Pairwise.nil, List.Sublist.refl _⟩
  simpa using this
theorem dedupL_mem {ys : List α} {x : α} : x ∈ dedupL ys ↔ x ∈ ys := (dedupL_inv ys).mem x
theorem dedupL_nd (ys : List α) : (dedupL ys).Nodup := (dedupL_inv ys).nd
theorem dedupL_len (ys : List α) : (dedupL ys).length ≤ ys.length := (dedupL_inv ys).sl.length_le
/-- a list without doubles is no longer than one that has all of it -/
theorem nodup_le : ∀ {xs ys : List α}, xs.Nodup → (∀ x ∈ xs, x ∈ ys) → xs.length ≤ ys.length
  | [], _, _, _ => Nat.zero_le _
  | x :: xs, ys, h, g => by
    obtain ⟨h1, h2⟩ := List.nodup_cons.mp h
    have hx := g x (List.mem_cons_self ..)
    have := nodup_le (xs := xs) (ys := ys.erase x) h2 fun z hz => (List.mem_erase_of_ne fun e => h1 (by rw [← e]; exact hz)).mpr (g z (List.mem_cons_of_mem _ hz))
    rw [List.length_erase_of_mem hx] at this
    have hp := List.length_pos_of_mem hx
    rw [List.length_cons]; omega
theorem dedupL_of {ys : List α} (h : ys.Nodup) : dedupL ys = ys :=
  (dedupL_inv ys).sl.eq_of_length_le (nodup_le h fun x hx => dedupL_mem.mpr hx)
end
def ordP (ps : List Place) : Lot := dedupL (sortK qkD ps)
def OrdOk (C : Cal) : Prop := ∀ (k : Kd) (d : D) (ps : List Place), Rd k → (d = .list (ps.map Place.d) ∨ d = .tuple (ps.map Place.d)) → RowsOk ps → ps.length ≤ 100000 → C "ordered_places" [en k d] = some (.imm (lotD (ordP ps)), [en k d])
theorem ord_run (hK : QkOk C) (k : Kd) (d : D) (ps : List Place) (hk : Rd k) (hd : d = .list (ps.map Place.d) ∨ d = .tuple (ps.map Place.d)) (hf : RowsOk ps) (hl : ps.length ≤ 100000) : runF C Lb.f_ordered_places [en k d] = some (.imm (lotD (ordP ps)), [en k d]) := by
  refine eq_of_cSat ?_
  rw [runF_wp]
  have e1 : mapC C "place_key" (ps.map Place.d) = some (ps.map qkD) := mapC_map fun p hp => hK _ p ix_pl0 ix_pl1 (hf p hp)
  have e2 : srtkD (ps.map qkD) (ps.map Place.d) = some ((sortK qkD ps).map Place.d) := srtk_map (keysOk_qk id ps)
  rcases hk with rfl | rfl <;> rcases hd with rfl | rfl
  all_goals
    simp [Lb.f_ordered_places, Lb.b_ordered_places, e1, e2, line]
    refine wp_forS (σ := List Place × S1) (fun s => [some (en _ _), some ⟨.own, false, .list (s.1.map Place.d)⟩, s.2.1]) (fun ys s => s.1 = dedupL ys) ([], s1n) rfl ?_ ?_
    · rintro ys x zs ⟨acc, o, ho⟩ hs h1 Y hY
      simp only at h1
      have hlen : acc.length < 16777216 := by
        have h2 := dedupL_len ys
        have h3 := congrArg List.length hs
        rw [sortK_len] at h3
        simp at h3
        rw [h1]; omega
      have hd := dedupL_snoc ys x
      rw [← h1] at hd
      by_cases c : x ∈ acc
      · rw [if_pos c] at hd
        have := hY (acc, ⟨some (im x.d), rfl⟩) hd.symm
        simp [ho, c]
        exact this
      · rw [if_neg c] at hd
        have := hY (acc ++ [x], ⟨some (im x.d), rfl⟩) hd.symm
        simp at this
        simp [ho, c, line, hlen, this]
    · rintro ⟨acc, o, ho⟩ h1
      simp only at h1
      subst h1
      simp
      rfl
/-- the first has all of the other -/
def hasB (a b : Lot) : Bool := b.all fun p => decide (p ∈ a)
def HasOk (C : Cal) : Prop := ∀ (k j : Kd) (d e : D) (a b : Lot), Rd k → Rd j → (d = .list (a.map Place.d) ∨ d = .tuple (a.map Place.d)) → (e = .list (b.map Place.d) ∨ e = .tuple (b.map Place.d)) → b.length ≤ 100000 → C "has_all" [en k d, en j e] = some (.imm (.bool (hasB a b)), [en k d, en j e])
theorem has_run (k j : Kd) (d e : D) (a b : Lot) (hk : Rd k) (hj : Rd j) (hd : d = .list (a.map Place.d) ∨ d = .tuple (a.map Place.d)) (he : e = .list (b.map Place.d) ∨ e = .tuple (b.map Place.d)) (hl : b.length ≤ 100000) : runF C Lb.f_has_all [en k d, en j e] = some (.imm (.bool (hasB a b)), [en k d, en j e]) := by
  refine eq_of_cSat ?_
  rw [runF_wp]
  have e3 : (List.map (fun p => PyData.bool (decide (p ∈ a))) b) = b.map fun p => PyData.bool (decide (p ∈ a)) := rfl
  rcases hk with rfl | rfl <;> rcases hj with rfl | rfl <;> rcases hd with rfl | rfl <;> rcases he with rfl | rfl
  all_goals
    simp [Lb.f_has_all, Lb.b_has_all]
    refine wp_compM (fun p => .bool (decide (p ∈ a))) (by simp [line]; omega) (fun p hp => by simp) ?_
    simp [hasB]
theorem all_id {α : Type} (f : α → Bool) (l : List α) : (l.map f).all id = l.all f := by simp
def greedy (l : List Lot) : List Lot := l.foldl (fun acc x => if acc.any (fun o => hasB x o) then acc else acc ++ [x]) []
theorem greedy_snoc (ys : List Lot) (x : Lot) : greedy (ys ++ [x]) = if (greedy ys).any (fun o => hasB x o) then greedy ys else greedy ys ++ [x] := by
  unfold greedy
  rw [List.foldl_append]; rfl
theorem greedy_len (ys : List Lot) : (greedy ys).length ≤ ys.length ∧ ∀ x ∈ greedy ys, x ∈ ys := by
  have go : ∀ (zs ys : List Lot), ((greedy ys).length ≤ ys.length ∧ ∀ x ∈ greedy ys, x ∈ ys) → ((greedy (ys ++ zs)).length ≤ (ys ++ zs).length ∧ ∀ x ∈ greedy (ys ++ zs), x ∈ ys ++ zs) := by
    intro zs
    induction zs with
    | nil => intro ys h; rwa [List.append_nil]
    | cons z zs ih =>
      intro ys h
      have e : ys ++ z :: zs = (ys ++ [z]) ++ zs := by simp
      rw [e]
      refine ih _ ?_
      rw [greedy_snoc]
      by_cases c : (greedy ys).any (fun o => hasB z o) = true
      · rw [if_pos c]
        exact ⟨by simp; omega, fun x hx => List.mem_append_left _ (h.2 x hx)⟩
      · rw [if_neg c]
        refine ⟨by simp; exact h.1, fun x hx => ?_⟩
        rcases List.mem_append.mp hx with hx | hx
        · exact List.mem_append_left _ (h.2 x hx)
        · exact List.mem_append_right _ hx
  have := go ys [] ⟨Nat.le_refl _, fun _ h => h⟩
  simpa using this
def lenD (l : Lot) : D := .int (l.length : Nat)
def smallOf (L : List Lot) : List Lot := sortK lqD (greedy (sortK lenD L))
theorem lens_map (L : List Lot) : lensD (L.map lotD) = some (L.map lenD) := by
  induction L with
  | nil => rfl
  | cons l L ih =>
    show (seqD (lotD l)).bind (fun ds => (lensD (L.map lotD)).map (.int ds.length :: ·)) = _
    rw [ih]
    simp [lenD]
theorem keysOk_len (l : List Lot) : keysOk (l.map lenD) = true :=
  keysOk_of (fun x _ => shp_i) (fun _ _ _ _ => rfl) (fun _ _ _ _ => rfl) fun _ _ h => by cases h
def SmallOk (C : Cal) : Prop := ∀ (k : Kd) (L : List Lot), Rd k → (∀ l ∈ L, RowsOk l ∧ l.length ≤ 1000) → L.length ≤ 1000000 → C "smallest_of" [en k (.list (L.map lotD))] = some (.fr (.list ((smallOf L).map lotD)), [en k (.list (L.map lotD))])
theorem small_run (hH : HasOk C) (hK : LqOk C) (k : Kd) (L : List Lot) (hk : Rd k) (hL : ∀ l ∈ L, RowsOk l ∧ l.length ≤ 1000) (hl : L.length ≤ 1000000) : runF C Lb.f_smallest_of [en k (.list (L.map lotD))] = some (.fr (.list ((smallOf L).map lotD)), [en k (.list (L.map lotD))]) := by
  refine eq_of_cSat ?_
  rw [runF_wp]
  have e2 : srtkD (L.map lenD) (L.map lotD) = some ((sortK lenD L).map lotD) := srtk_map (keysOk_len L)
  rcases hk with rfl | rfl
  all_goals
    simp [Lb.f_smallest_of, Lb.b_smallest_of, lens_map, e2, line]
    refine wp_forS (σ := List Lot × S1) (fun s => [some (en _ (.list (L.map lotD))), some ⟨.own, false, .list (s.1.map lotD)⟩, s.2.1, none]) (fun ys s => s.1 = greedy ys) ([], s1n) rfl ?_ ?_
    · rintro ys x zs ⟨acc, o, ho⟩ hs h1 Y hY
      simp only at h1
      obtain ⟨g1, g2⟩ := greedy_len ys
      have hys : ys.length ≤ L.length := by
        have h3 := congrArg List.length hs
        rw [sortK_len] at h3
        simp at h3; omega
      have hmem : ∀ y ∈ acc, y ∈ L := fun y hy => by
        rw [h1] at hy
        have := g2 y hy
        have h2 : y ∈ sortK lenD L := by rw [hs]; exact List.mem_append_left _ this
        exact sortK_mem.mp h2
      rw [← h1] at g1
      have hlen : acc.length < 16777216 := by omega
      simp [ho]
      refine wp_compM (fun o => .bool (hasB x o)) (by simp [line]; omega) (fun y hy => ?_) ?_
      · have e := hH .imm .imm (lotD x) (lotD y) x y (.inl rfl) (.inl rfl) (.inr rfl) (.inr rfl) (by have := (hL y (hmem y hy)).2; omega)
        simp [e]
      · have hd := greedy_snoc ys x
        rw [← h1] at hd
        by_cases c : acc.any (fun o => hasB x o) = true
        · rw [if_pos c] at hd
          have := hY (acc, ⟨some (im (lotD x)), rfl⟩) hd.symm
          have c2 : ¬ ∀ y, y ∈ acc → hasB x y = false := by simpa using c
          simp
          rw [if_neg c2]
          exact this
        · rw [if_neg c] at hd
          have := hY (acc ++ [x], ⟨some (im (lotD x)), rfl⟩) hd.symm
          have c2 : ∀ y, y ∈ acc → hasB x y = false := by simpa using c
          simp at this
          simp [line, hlen]
          rw [if_pos c2]
          exact this
    · rintro ⟨acc, o, ho⟩ h1
      simp only at h1
      have gm := fun y hy => (greedy_len (sortK lenD L)).2 y hy
      rw [← h1] at gm
      have e3 : mapC C "lot_key" (acc.map lotD) = some (acc.map lqD) := mapC_mapf fun l hl => by
        have := hL l (sortK_mem.mp (gm l hl))
        exact hK l this.1 this.2
      have e4 : srtkD (acc.map lqD) (acc.map lotD) = some ((sortK lqD acc).map lotD) := srtk_map (keysOk_lq acc)
      simp [e3, e4, smallOf, ← h1]
end RC.P
end RP18
section RP19
set_option Elab.async false
set_option linter.all false
set_option maxRecDepth 100000
set_option autoImplicit false
set_option maxHeartbeats 4000000
/-! RP19: valuations and lots of a join -/
namespace RC.P
open PySem SrtO
variable {C : Cal}
/-- a mapping of variables -/
abbrev Mp := List (Wd × Val)
def getM (m : Mp) (x : Wd) : Option Val := match m with
  | [] => none
  | (y, v) :: r => if y = x then some v else getM r x
def mpD (m : Mp) : D := .dict (m.map fun p => (wdD p.1, p.2.d))
def bindT (m : Mp) : Term → Val → Option Mp
  | .var x, v => match getM m x with
    | some u => if u = v then some m else none
    | none => some (m ++ [(x, v)])
  | .val u, v => if u = v then some m else none
def bindZ (m : Mp) : List (Term × Val) → Option Mp
  | [] => some m
  | (t, v) :: r => (bindT m t v).bind fun m' => bindZ m' r
theorem bindZ_snoc (m : Mp) (ys : List (Term × Val)) (p : Term × Val) : bindZ m (ys ++ [p]) = (bindZ m ys).bind fun m' => bindT m' p.1 p.2 := by
  induction ys generalizing m with
  | nil =>
    obtain ⟨t, v⟩ := p
    show (bindT m t v).bind (fun m' => some m') = bindT m t v
    cases bindT m t v <;> rfl
  | cons y ys ih =>
    obtain ⟨t, v⟩ := y
    show (bindT m t v).bind (fun m' => bindZ m' (ys ++ [p])) = ((bindT m t v).bind fun m' => bindZ m' ys).bind _
    cases bindT m t v with
    | none => rfl
    | some m' => exact ih m'
theorem bindZ_app (m : Mp) (ys zs : List (Term × Val)) : bindZ m (ys ++ zs) = (bindZ m ys).bind fun m' => bindZ m' zs := by
  induction ys generalizing m with
  | nil => rfl
  | cons y ys ih =>
    obtain ⟨t, v⟩ := y
    show (bindT m t v).bind (fun m' => bindZ m' (ys ++ zs)) = ((bindT m t v).bind fun m' => bindZ m' ys).bind _
    cases bindT m t v with
    | none => rfl
    | some m' => exact ih m'
def bindR (m : Mp) (ts : List Term) (row : Row) : Option Mp := bindZ m (ts.zip row)
theorem bindT_len {m m' : Mp} {t : Term} {v : Val} (h : bindT m t v = some m') : m'.length ≤ m.length + 1 := by
  cases t with
  | var x =>
    simp only [bindT] at h
    cases hg : getM m x with
    | none =>
      rw [hg] at h
      have e := Option.some.inj h
      rw [← e]; simp
    | some u =>
      rw [hg] at h
      by_cases c : u = v
      · simp only [if_pos c] at h
        have e := Option.some.inj h
        rw [← e]; omega
      · simp only [if_neg c] at h
        cases h
  | val u =>
    simp only [bindT] at h
    by_cases c : u = v
    · rw [if_pos c] at h
      have e := Option.some.inj h
      rw [← e]; omega
    · rw [if_neg c] at h
      cases h
theorem bindZ_len {m m' : Mp} {l : List (Term × Val)} (h : bindZ m l = some m') : m'.length ≤ m.length + l.length := by
  induction l generalizing m with
  | nil => cases h; simp
  | cons y ys ih =>
    obtain ⟨t, v⟩ := y
    obtain ⟨m1, h1, h2⟩ := Option.bind_eq_some_iff.mp (show (bindT m t v).bind _ = some m' from h)
    have a := bindT_len h1
    have b := ih h2
    rw [List.length_cons]; omega
@[simp] theorem isDct_m {m : Mp} : isDct (mpD m) = true := (rfl)
@[simp] theorem isnD_m {m : Mp} : isnD (mpD m) = false := (rfl)
@[simp] theorem blt_dictm {m : Mp} : bltD .dict [mpD m] = some (.fr (mpD m)) := (rfl)
theorem dget_m (m : Mp) (x : Wd) : dget (m.map fun p => (wdD p.1, p.2.d)) x.s = (getM m x).map Val.d := by
  induction m with
  | nil => rfl
  | cons p m ih =>
    obtain ⟨y, v⟩ := p
    show (if y.s = x.s then some v.d else dget (m.map fun p => (wdD p.1, p.2.d)) x.s) = _
    by_cases e : y = x
    · subst e; simp [getM]
    · have : ¬ y.s = x.s := fun z => e (Wd.eq z)
      rw [if_neg this, ih, getM, if_neg e]
theorem sdef_m {m : Mp} {x : Wd} {v : Val} (h : m.length < line) : sdefD (wdD x) v.d (mpD m) = (match getM m x with
    | some u => some (mpD m, u.d)
    | none => some (mpD (m ++ [(x, v)]), v.d)) := by
  have e : sdefD (wdD x) v.d (mpD m) = (match dget (m.map fun p => (wdD p.1, p.2.d)) x.s with
      | some d => if (m.map fun p => (wdD p.1, p.2.d)).length < line then some (mpD m, d) else none
      | none => if (m.map fun p => (wdD p.1, p.2.d)).length < line then some (.dict ((m.map fun p => (wdD p.1, p.2.d)) ++ [(.str x.s, v.d)]), v.d) else none) := rfl
  rw [e, dget_m]
  cases getM m x with
  | none =>
    simp only [Option.map_none]
    rw [if_pos (by rw [List.length_map]; exact h)]
    unfold mpD
    rw [List.map_append]
    rfl
  | some u =>
    simp only [Option.map_some]
    rw [if_pos (by rw [List.length_map]; exact h)]
@[simp] theorem srcZ_tr {ts : List Term} {row : Row} : srcD .zip [.tuple (ts.map Term.d), rowD row] = some ((ts.zip row).map fun p => .tuple [p.1.d, p.2.d]) := by
  show some (((ts.map Term.d).zip (row.map Val.d)).map fun p => PyData.tuple [p.1, p.2]) = _
  rw [List.zip_map, List.map_map]
  rfl
def bndW (o : Option Mp) : W := match o with
  | some m => .fr (mpD m)
  | none => .imm .none
def BoundOk (C : Cal) : Prop := ∀ (ts : List Term) (row : Row) (m : Mp), m.length + ts.length ≤ 1000000 → C "bound" [im (.tuple (ts.map Term.d)), im (rowD row), im (mpD m)] = some (bndW (bindR m ts row), [im (.tuple (ts.map Term.d)), im (rowD row), im (mpD m)])
theorem bound_run (ts : List Term) (row : Row) (m : Mp) (hl : m.length + ts.length ≤ 1000000) : runF C Lb.f_bound [im (.tuple (ts.map Term.d)), im (rowD row), im (mpD m)] = some (bndW (bindR m ts row), [im (.tuple (ts.map Term.d)), im (rowD row), im (mpD m)]) := by
  refine eq_of_cSat ?_
  rw [runF_wp]
  simp [Lb.f_bound, Lb.b_bound]
  refine wp_forS (σ := Mp × S2) (fun s => [some (im (.tuple (ts.map Term.d))), some (im (rowD row)), some (im (mpD m)), some ⟨.own, false, mpD s.1⟩, s.2.1.1, s.2.1.2]) (fun ys s => bindZ m ys = some s.1) (m, s2n) rfl ?_ ?_
  · rintro ys ⟨t, v⟩ zs ⟨m1, ⟨⟨o4, o5⟩, h4, h5⟩⟩ hs h1 Y hY
    simp only at h1 h4 h5
    have h2 := bindZ_len h1
    have hzl : ys.length ≤ ts.length := by
      have := congrArg List.length hs
      simp at this; omega
    have hlen : m1.length < line := by simp [line]; omega
    have hsn := bindZ_snoc m ys (t, v)
    rw [h1] at hsn
    simp only [Option.bind_some] at hsn
    have bad : bindT m1 t v = none → bindR m ts row = none := fun e => by
      unfold bindR
      rw [hs, show ys ++ (t, v) :: zs = (ys ++ [(t, v)]) ++ zs by simp, bindZ_app, hsn, e]; rfl
    cases t with
    | var x =>
      cases hg : getM m1 x with
      | none =>
        have e : bindT m1 (.var x) v = some (m1 ++ [(x, v)]) := by simp [bindT, hg]
        rw [e] at hsn
        have := hY (m1 ++ [(x, v)], ⟨(some (im (Term.var x).d), some (im v.d)), rfl, rfl⟩) hsn
        simp at this
        simp [h4, h5, sdef_m hlen, hg, this]
      | some u =>
        by_cases c : u = v
        · subst c
          have e : bindT m1 (.var x) u = some m1 := by simp [bindT, hg]
          rw [e] at hsn
          have := hY (m1, ⟨(some (im (Term.var x).d), some (im u.d)), rfl, rfl⟩) hsn
          simp at this
          simp [h4, h5, sdef_m hlen, hg, this]
        · have e : bindT m1 (.var x) v = none := by simp [bindT, hg, c]
          simp [h4, h5, sdef_m hlen, hg, c, bad e, bndW]
    | val u =>
      by_cases c : u = v
      · subst c
        have e : bindT m1 (.val u) u = some m1 := by simp [bindT]
        rw [e] at hsn
        have := hY (m1, ⟨(some (im (Term.val u).d), some (im u.d)), rfl, rfl⟩) hsn
        simp at this
        simp [h4, h5, this]
      · have e : bindT m1 (.val u) v = none := by simp [bindT, c]
        simp [h4, h5, c, bad e, bndW]
  · rintro ⟨m1, ⟨⟨o4, o5⟩, h4, h5⟩⟩ h1
    simp only at h1
    have e : bindR m ts row = some m1 := h1
    simp [e, bndW]
/-! the places that the atoms of a join become, with the mapping -/
abbrev Ent := Mp × List Place
def entD (e : Ent) : D := .tuple [mpD e.1, .tuple (e.2.map Place.d)]
def tryP (a : Atom) (e : Ent) (p : Place) : Option Ent := if p.name = a.name then (bindR e.1 a.ts p.row).map fun m => (m, e.2 ++ [p]) else none
def stepP (ps : List Place) (found : List Ent) (a : Atom) : List Ent := found.flatMap fun e => ps.filterMap (tryP a e)
def matchP (ps : List Place) (body : List Atom) : List Ent := body.foldl (stepP ps) [([], [])]
theorem matchP_snoc (ps : List Place) (ys : List Atom) (a : Atom) : matchP ps (ys ++ [a]) = stepP ps (matchP ps ys) a := by
  unfold matchP
  rw [List.foldl_append]; rfl
/-- what is known of the entries: sizes -/
theorem match_sz {ps : List Place} {b : Nat} : ∀ {body : List Atom}, (∀ a ∈ body, a.ts.length ≤ b) → ∀ e ∈ matchP ps body, e.1.length ≤ b * body.length ∧ e.2.length = body.length ∧ ∀ p ∈ e.2, p ∈ ps := by
  intro body
  suffices h : ∀ (zs ys : List Atom), (∀ a ∈ zs, a.ts.length ≤ b) → (∀ e ∈ matchP ps ys, e.1.length ≤ b * ys.length ∧ e.2.length = ys.length ∧ ∀ p ∈ e.2, p ∈ ps) → ∀ e ∈ matchP ps (ys ++ zs), e.1.length ≤ b * (ys ++ zs).length ∧ e.2.length = (ys ++ zs).length ∧ ∀ p ∈ e.2, p ∈ ps by
    intro ha
    have := h body [] ha fun e he => by
      simp [matchP] at he
      subst he
      simp
    simpa using this
  intro zs
  induction zs with
  | nil => intro ys _ h; rwa [List.append_nil]
  | cons z zs ih =>
    intro ys ha h
    have e : ys ++ z :: zs = (ys ++ [z]) ++ zs := by simp
    rw [e]
    refine ih _ (fun a h => ha a (List.mem_cons_of_mem _ h)) fun e he => ?_
    rw [matchP_snoc] at he
    obtain ⟨e0, he0, he1⟩ := List.mem_flatMap.mp he
    obtain ⟨p, hp, he2⟩ := List.mem_filterMap.mp he1
    unfold tryP at he2
    split at he2
    · obtain ⟨m, hm, rfl⟩ := Option.map_eq_some_iff.mp he2
      obtain ⟨i1, i2, i3⟩ := h e0 he0
      have l1 := bindZ_len hm
      have l2 := ha z (List.mem_cons_self ..)
      have l3 : (z.ts.zip p.row).length ≤ z.ts.length := by simp; omega
      refine ⟨?_, by simp [i2], fun q hq => ?_⟩
      · simp only [List.length_append, List.length_singleton, Nat.mul_add, Nat.mul_one]; omega
      · rcases List.mem_append.mp hq with hq | hq
        · exact i3 q hq
        · rw [List.mem_singleton.mp hq]; exact hp
    · cases he2
def lotsJ (ps : List Place) (j : Join) : List Lot := (matchP ps j.body).map fun e => ordP e.2
def LotsJOk (C : Cal) : Prop := ∀ (s : List Fact) (j : Join), s.length ≤ 1000 → (∀ f ∈ s, f.pl.row.length ≤ 1000) → j.body.length ≤ 100 → (∀ a ∈ j.body, a.ts.length ≤ 100) → (∀ k, (matchP (s.map Fact.pl) (j.body.take k)).length ≤ 1000) → C "lots_of_join" [im (storeD s), im j.d] = some (.fr (.list ((lotsJ (s.map Fact.pl) j).map lotD)), [im (storeD s), im j.d])
/-- the inner loops: the facts for one entry -/
theorem lots_facts (hB : BoundOk C) (s : List Fact) (a : Atom) (e : Ent) (dj : D) (e2 : Option En) (acc : List Ent) (hs : s.length ≤ 1000) (hm : e.1.length + a.ts.length ≤ 1000000) (hp : e.2.length ≤ 1000) (x8 x9 : S1) (Q : Fl → Rho → Prop) (hacc : acc.length + (s.filterMap fun f => tryP a e f.pl).length ≤ 1000000)
    (hQ : ∀ x8 x9 : S1, Q .nx [some (im (storeD s)), some (im dj), e2, some (im (wdD a.name)), some (im (.tuple (a.ts.map Term.d))), some ⟨.own, false, .list ((acc ++ s.filterMap fun f => tryP a e f.pl).map entD)⟩, some (im (mpD e.1)), some (im (.tuple (e.2.map Place.d))), x8.1, x9.1]) :
    wp (loopL (bodyL C (Tg.n 8) (IS.ite (IE.cmp .eq (IE.ix (IE.v 8) (IE.int 0)) (IE.v 3)) (IS.seq (IS.set 9 (IE.call "bound" (IE.cons (IE.v 4) (IE.cons (IE.ix (IE.v 8) (IE.int 1)) (IE.cons (IE.v 6) IE.nil))))) (IS.ite (IE.isnn (IE.v 9)) (IS.ex (IE.app 5 (IE.tup (IE.cons (IE.v 9) (IE.cons (IE.bin .add (IE.v 7) (IE.tup (IE.cons (IE.sl (IE.v 8) IE.nil (IE.cons (IE.int 2) IE.nil)) IE.nil))) IE.nil))))) IS.skip)) IS.skip)) (s.map Fact.d) [some (im (storeD s)), some (im dj), e2, some (im (wdD a.name)), some (im (.tuple (a.ts.map Term.d))), some ⟨.own, false, .list (acc.map entD)⟩, some (im (mpD e.1)), some (im (.tuple (e.2.map Place.d))), x8.1, x9.1]) Q := by
  refine wp_forS (σ := List Ent × S1 × S1) (fun z => [some (im (storeD s)), some (im dj), e2, some (im (wdD a.name)), some (im (.tuple (a.ts.map Term.d))), some ⟨.own, false, .list (z.1.map entD)⟩, some (im (mpD e.1)), some (im (.tuple (e.2.map Place.d))), z.2.1.1, z.2.2.1]) (fun ys z => z.1 = acc ++ ys.filterMap fun f => tryP a e f.pl) (acc, x8, x9) (by simp) ?_ ?_
  · rintro ys f zs ⟨l, ⟨o8, h8⟩, ⟨o9, h9⟩⟩ hsz hl Y hY
    simp only at hl
    have hll : l.length + (if (tryP a e f.pl).isSome then 1 else 0) ≤ 1000000 := by
      rw [hsz, List.filterMap_append, List.filterMap_cons] at hacc
      rw [hl]
      cases ht : tryP a e f.pl with
      | none => rw [ht] at hacc; simp at hacc ⊢; omega
      | some x => rw [ht] at hacc; simp at hacc ⊢; omega
    by_cases c : f.pl.name = a.name
    · have eb := hB a.ts f.pl.row e.1 hm
      cases hb : bindR e.1 a.ts f.pl.row with
      | none =>
        rw [hb] at eb
        have ht : tryP a e f.pl = none := by simp [tryP, c, hb]
        have := hY (l, ⟨some (im f.d), rfl⟩, ⟨some (im .none), rfl⟩) (by rw [hl]; simp [List.filterMap_append, ht])
        simp at this
        simp [h8, h9, c, eb, bndW, this]
      | some m =>
        rw [hb] at eb
        have ht : tryP a e f.pl = some (m, e.2 ++ [f.pl]) := by simp [tryP, c, hb]
        have hll2 : l.length < 16777216 := by rw [ht] at hll; simp at hll; omega
        have := hY (l ++ [(m, e.2 ++ [f.pl])], ⟨some (im f.d), rfl⟩, ⟨some (im (mpD m)), rfl⟩) (by simp only; rw [hl]; simp [List.filterMap_append, ht])
        simp [entD] at this
        have hp2 : e.2.length + 1 ≤ 16777216 := by omega
        simp [h8, h9, c, eb, bndW, line, hll2, hp2, this]
    · have ht : tryP a e f.pl = none := by simp [tryP, c]
      have := hY (l, ⟨some (im f.d), rfl⟩, ⟨o9, h9⟩) (by rw [hl]; simp [List.filterMap_append, ht])
      simp at this
      simp [h8, h9, c, this]
  · rintro ⟨l, x8, x9⟩ hl
    simp only at hl
    subst hl
    exact hQ x8 x9
abbrev lotsB : IS := IS.ite (IE.cmp .eq (IE.ix (IE.v 8) (IE.int 0)) (IE.v 3)) (IS.seq (IS.set 9 (IE.call "bound" (IE.cons (IE.v 4) (IE.cons (IE.ix (IE.v 8) (IE.int 1)) (IE.cons (IE.v 6) IE.nil))))) (IS.ite (IE.isnn (IE.v 9)) (IS.ex (IE.app 5 (IE.tup (IE.cons (IE.v 9) (IE.cons (IE.bin .add (IE.v 7) (IE.tup (IE.cons (IE.sl (IE.v 8) IE.nil (IE.cons (IE.int 2) IE.nil)) IE.nil))) IE.nil))))) IS.skip)) IS.skip
theorem step_split (ps : List Place) (ys : List Ent) (e : Ent) (zs : List Ent) (a : Atom) : stepP ps (ys ++ e :: zs) a = stepP ps ys a ++ (ps.filterMap (tryP a e) ++ stepP ps zs a) := by
  unfold stepP
  rw [List.flatMap_append, List.flatMap_cons]
theorem step_one (ps : List Place) (ys : List Ent) (e : Ent) (a : Atom) : stepP ps (ys ++ [e]) a = stepP ps ys a ++ ps.filterMap (tryP a e) := by
  have := step_split ps ys e [] a
  simpa [stepP] using this
theorem lots_ents (hB : BoundOk C) (s : List Fact) (a : Atom) (dj : D) (e2 : Option En) (found : List Ent) (hs : s.length ≤ 1000) (ha : a.ts.length ≤ 100) (hf : ∀ e ∈ found, e.1.length ≤ 100000 ∧ e.2.length ≤ 1000) (hl : (stepP (s.map Fact.pl) found a).length ≤ 1000) (x6 x7 x8 x9 : S1) (Q : Fl → Rho → Prop)
    (hQ : ∀ x6 x7 : H1, ∀ x8 x9 : S1, Q .nx [some (im (storeD s)), some (im dj), e2, some (im (wdD a.name)), some (im (.tuple (a.ts.map Term.d))), some ⟨.own, false, .list ((stepP (s.map Fact.pl) found a).map entD)⟩, x6.1, x7.1, x8.1, x9.1]) (h6 : hidS x6.1 = true) (h7 : hidS x7.1 = true) :
    wp (loopL (bodyL C (Tg.tp (Tg.cs (Tg.n 6) (Tg.cs (Tg.n 7) Tg.nl))) (IS.loop .val (IE.cons (IE.v 0) IE.nil) IE.nil (Tg.n 8) lotsB)) (found.map entD) [some (im (storeD s)), some (im dj), e2, some (im (wdD a.name)), some (im (.tuple (a.ts.map Term.d))), some ⟨.own, false, .list []⟩, x6.1, x7.1, x8.1, x9.1]) Q := by
  refine wp_forS (σ := List Ent × H1 × H1 × S1 × S1) (fun z => [some (im (storeD s)), some (im dj), e2, some (im (wdD a.name)), some (im (.tuple (a.ts.map Term.d))), some ⟨.own, false, .list (z.1.map entD)⟩, z.2.1.1, z.2.2.1.1, z.2.2.2.1.1, z.2.2.2.2.1]) (fun ys z => z.1 = stepP (s.map Fact.pl) ys a) ([], ⟨x6.1, h6⟩, ⟨x7.1, h7⟩, x8, x9) rfl ?_ ?_
  · rintro ys e zs ⟨acc, ⟨o6, h6⟩, ⟨o7, h7⟩, x8, x9⟩ hsz hacc Y hY
    simp only at hacc
    have hem : e ∈ found := by rw [hsz]; simp
    obtain ⟨f1, f2⟩ := hf e hem
    have efm : (s.filterMap fun f => tryP a e f.pl) = (s.map Fact.pl).filterMap (tryP a e) := by
      rw [List.filterMap_map]; rfl
    simp [entD, ok_of_hid h6, ok_of_hid h7]
    refine lots_facts hB s a e dj e2 acc hs (by omega) f2 x8 x9 _ ?_ fun x8 x9 => ?_
    · rw [efm, hacc]
      rw [hsz, step_split] at hl
      simp at hl ⊢; omega
    · have := hY (acc ++ (s.map Fact.pl).filterMap (tryP a e), ⟨some (im (mpD e.1)), rfl⟩, ⟨some (im (.tuple (e.2.map Place.d))), rfl⟩, x8, x9) (by simp only; rw [hacc, step_one])
      rw [← efm] at this
      simp
      simpa using this
  · rintro ⟨acc, x6, x7, x8, x9⟩ hacc
    simp only at hacc
    subst hacc
    exact hQ x6 x7 x8 x9
theorem lotsJ_run (hB : BoundOk C) (hO : OrdOk C) (s : List Fact) (j : Join) (hs : s.length ≤ 1000) (hr : ∀ f ∈ s, f.pl.row.length ≤ 1000) (hb : j.body.length ≤ 100) (ha : ∀ a ∈ j.body, a.ts.length ≤ 100) (hk : ∀ k, (matchP (s.map Fact.pl) (j.body.take k)).length ≤ 1000) : runF C Lb.f_lots_of_join [im (storeD s), im j.d] = some (.fr (.list ((lotsJ (s.map Fact.pl) j).map lotD)), [im (storeD s), im j.d]) := by
  refine eq_of_cSat ?_
  rw [runF_wp]
  simp [Lb.f_lots_of_join, Lb.b_lots_of_join, line]
  have e0 : (PyData.tuple [.dict [], .tuple []]) = entD ([], []) := rfl
  rw [e0]
  have takeI : ∀ (ys : List Atom) (a : Atom) (zs : List Atom), j.body = ys ++ a :: zs → (matchP (s.map Fact.pl) ys).length ≤ 1000 ∧ (stepP (s.map Fact.pl) (matchP (s.map Fact.pl) ys) a).length ≤ 1000 := fun ys a zs e => by
    have k1 := hk ys.length
    have k2 := hk (ys.length + 1)
    rw [e] at k1 k2
    rw [List.take_left] at k1
    rw [show ys ++ a :: zs = (ys ++ [a]) ++ zs by simp, show ys.length + 1 = (ys ++ [a]).length by simp, List.take_left, matchP_snoc] at k2
    exact ⟨k1, k2⟩
  have szI : ∀ (ys zs : List Atom), j.body = ys ++ zs → ∀ e ∈ matchP (s.map Fact.pl) ys, e.1.length ≤ 100000 ∧ e.2.length ≤ 1000 ∧ ∀ p ∈ e.2, p ∈ s.map Fact.pl := fun ys zs e x hx => by
    have hyl : ys.length ≤ 100 := by
      have := congrArg List.length e
      simp at this; omega
    obtain ⟨q1, q2, q3⟩ := match_sz (b := 100) (body := ys) (fun a h => ha a (by rw [e]; exact List.mem_append_left _ h)) x hx
    exact ⟨by omega, by omega, q3⟩
  refine wp_forS (σ := { k : Kd // k = .own ∨ k = .imm } × List Ent × S3 × H1 × H1 × S1 × S1) (fun z => [some (im (storeD s)), some (im j.d), some ⟨z.1.1, false, .list (z.2.1.map entD)⟩, z.2.2.1.1.1, z.2.2.1.1.2.1, z.2.2.1.1.2.2, z.2.2.2.1.1, z.2.2.2.2.1.1, z.2.2.2.2.2.1.1, z.2.2.2.2.2.2.1]) (fun ys z => z.2.1 = matchP (s.map Fact.pl) ys) (⟨.own, .inl rfl⟩, [([], [])], ⟨(none, none, none), rfl, rfl, rfl⟩, h1n, h1n, s1n, s1n) rfl ?_ ?_
  · rintro ys a zs ⟨⟨k2, hk2⟩, found, ⟨⟨o3, o4, o5⟩, h3, h4, h5⟩, ⟨o6, h6⟩, ⟨o7, h7⟩, x8, x9⟩ hsz hfd Y hY
    simp only at hfd h3 h4 h5
    obtain ⟨t1, t2⟩ := takeI ys a zs hsz
    have t3 := szI ys (a :: zs) hsz
    rw [← hfd] at t1 t2 t3
    have ham : a ∈ j.body := by rw [hsz]; simp
    have hst : stepP (s.map Fact.pl) found a = matchP (s.map Fact.pl) (ys ++ [a]) := by rw [matchP_snoc, hfd]
    have ad : a.d = .tuple [wdD a.name, .tuple (a.ts.map Term.d)] := rfl
    rcases hk2 with rfl | rfl
    all_goals
      simp [-atom_d, ad, h3, h4, h5]
      refine lots_ents hB s a j.d _ found hs (ha a ham) (fun e he => ⟨(t3 e he).1, (t3 e he).2.1⟩) t2 ⟨o6, ok_of_hid h6⟩ ⟨o7, ok_of_hid h7⟩ x8 x9 _ (fun x6 x7 x8 x9 => ?_) h6 h7
      have := hY (⟨.imm, .inr rfl⟩, stepP (s.map Fact.pl) found a, ⟨(some (im (wdD a.name)), some (im (.tuple (a.ts.map Term.d))), some (im (.list ((stepP (s.map Fact.pl) found a).map entD)))), rfl, rfl, rfl⟩, x6, x7, x8, x9) hst
      simp
      exact this
  · rintro ⟨⟨k2, hk2⟩, found, ⟨⟨o3, o4, o5⟩, h3, h4, h5⟩, ⟨o6, h6⟩, ⟨o7, h7⟩, x8, x9⟩ hfd
    simp only at hfd h3 h4 h5
    have t3 := szI j.body [] (by simp)
    have t4 := hk j.body.length
    rw [List.take_of_length_le (Nat.le_refl _)] at t4
    rw [← hfd] at t3 t4
    have el : (lotsJ (s.map Fact.pl) j).map lotD = found.map fun e => lotD (ordP e.2) := by
      unfold lotsJ
      rw [List.map_map, hfd]; rfl
    have step : ∀ (e2 : En) (e : Ent), e ∈ found → wp (bodyC C (Tg.tp (Tg.cs (Tg.n 6) (Tg.cs (Tg.n 7) Tg.nl))) [6, 7] (IE.bl true) (IE.call "ordered_places" (IE.cons (IE.v 7) IE.nil)) (entD e) [some (im (storeD s)), some (im j.d), some e2, o3, o4, o5, none, none, x8.1, x9.1]) fun z ρ' => z = some (lotD (ordP e.2)) ∧ ρ' = [some (im (storeD s)), some (im j.d), some e2, o3, o4, o5, none, none, x8.1, x9.1] := fun e2 e he => by
      obtain ⟨q1, q2, q3⟩ := t3 e he
      have eo := hO .imm (.tuple (e.2.map Place.d)) e.2 (.inl rfl) (.inr rfl) (fun p hp => by
        obtain ⟨f, hf, rfl⟩ := List.mem_map.mp (q3 p hp)
        exact hr f hf) (by omega)
      simp [entD, eo]
    rcases hk2 with rfl | rfl
    all_goals
      simp [h6, h7]
      refine wp_compM (fun e : Ent => lotD (ordP e.2)) (by simp [line]; omega) (fun e he => step _ e he) ?_
      simp [el]
end RC.P
end RP19
section RP20
set_option Elab.async false
set_option linter.all false
set_option maxRecDepth 100000
set_option autoImplicit false
set_option maxHeartbeats 4000000
/-! RP20: smallest lots; the law's own valuations -/
namespace RC.P
open PySem SrtO
variable {C : Cal}
/-- sizes of a question over a store -/
structure QSz (s : List Fact) (js : List Join) : Prop where
  sl : s.length ≤ 1000
  rw_ : ∀ f ∈ s, f.pl.row.length ≤ 1000
  jl : js.length ≤ 100
  bl : ∀ j ∈ js, j.body.length ≤ 100
  tl : ∀ j ∈ js, ∀ a ∈ j.body, a.ts.length ≤ 100
  ml : ∀ j ∈ js, ∀ k, (matchP (s.map Fact.pl) (j.body.take k)).length ≤ 1000
  rl : ∀ j ∈ js, ∀ a ∈ j.body, ∀ f ∈ s, f.pl.name = a.name → a.ts.length = f.pl.row.length
theorem QSz.full {s : List Fact} {js : List Join} (h : QSz s js) {j : Join} (hj : j ∈ js) : (matchP (s.map Fact.pl) j.body).length ≤ 1000 := by
  have := h.ml j hj j.body.length
  rwa [List.take_of_length_le (Nat.le_refl _)] at this
def allLots (s : List Fact) (js : List Join) : List Lot := js.flatMap (lotsJ (s.map Fact.pl))
theorem ord_mem {ps : List Place} {p : Place} : p ∈ ordP ps ↔ p ∈ ps := by
  unfold ordP
  rw [dedupL_mem, sortK_mem]
theorem ord_len (ps : List Place) : (ordP ps).length ≤ ps.length := by
  have := dedupL_len (sortK qkD ps)
  rwa [sortK_len] at this
theorem lots_ok {s : List Fact} {js : List Join} (h : QSz s js) {l : Lot} (hl : l ∈ allLots s js) : RowsOk l ∧ l.length ≤ 1000 := by
  obtain ⟨j, hj, hl⟩ := List.mem_flatMap.mp hl
  obtain ⟨e, he, rfl⟩ := List.mem_map.mp hl
  obtain ⟨q1, q2, q3⟩ := match_sz (b := 100) (h.tl j hj) e he
  refine ⟨fun p hp => ?_, Nat.le_trans (ord_len _) (by have := h.bl j hj; omega)⟩
  obtain ⟨f, hf, rfl⟩ := List.mem_map.mp (q3 p (ord_mem.mp hp))
  exact h.rw_ f hf
def lotsD (L : List Lot) : D := .tuple (L.map lotD)
def SLotsOk (C : Cal) : Prop := ∀ (s : List Fact) (q : Quest), QSz s q.joins → C "smallest_lots" [im (storeD s), im q.d] = some (.imm (lotsD (smallOf (allLots s q.joins))), [im (storeD s), im q.d])
theorem allLots_len {s : List Fact} {js : List Join} (h : QSz s js) : ∀ {ys : List Join}, (∀ j ∈ ys, j ∈ js) → (ys.flatMap (lotsJ (s.map Fact.pl))).length ≤ 1000 * ys.length
  | [], _ => by simp
  | j :: ys, hy => by
    rw [List.flatMap_cons, List.length_append, List.length_cons]
    have h1 := allLots_len h fun x hx => hy x (List.mem_cons_of_mem _ hx)
    have h2 : (lotsJ (s.map Fact.pl) j).length ≤ 1000 := by
      unfold lotsJ
      rw [List.length_map]
      exact h.full (hy j (List.mem_cons_self ..))
    omega
theorem slots_run (hJ : LotsJOk C) (hS : SmallOk C) (s : List Fact) (q : Quest) (h : QSz s q.joins) : runF C Lb.f_smallest_lots [im (storeD s), im q.d] = some (.imm (lotsD (smallOf (allLots s q.joins))), [im (storeD s), im q.d]) := by
  refine eq_of_cSat ?_
  rw [runF_wp]
  simp [Lb.f_smallest_lots, Lb.b_smallest_lots, line]
  refine wp_forS (σ := List Lot × S1) (fun z => [some (im (storeD s)), some (im q.d), some ⟨.own, false, .list (z.1.map lotD)⟩, z.2.1]) (fun ys z => z.1 = ys.flatMap (lotsJ (s.map Fact.pl))) ([], s1n) rfl ?_ ?_
  · rintro ys j zs ⟨acc, o, ho⟩ hsz hacc Y hY
    simp only at hacc
    have hj : j ∈ q.joins := by rw [hsz]; simp
    have e := hJ s j h.sl h.rw_ (h.bl j hj) (h.tl j hj) (h.ml j hj)
    have l1 := allLots_len h (ys := ys) fun x hx => by rw [hsz]; exact List.mem_append_left _ hx
    have l2 : (lotsJ (s.map Fact.pl) j).length ≤ 1000 := by
      unfold lotsJ
      rw [List.length_map]
      exact h.full hj
    have hyl : ys.length ≤ 100 := by
      have := congrArg List.length hsz
      have := h.jl
      simp at *; omega
    rw [← hacc] at l1
    have hl : acc.length + (lotsJ (s.map Fact.pl) j).length ≤ 16777216 := by omega
    have := hY (acc ++ lotsJ (s.map Fact.pl) j, ⟨some (im j.d), rfl⟩) (by simp only; rw [hacc]; simp)
    simp [-List.map_flatMap] at this
    simp [-List.map_flatMap, ho, e, line, hl, this]
  · rintro ⟨acc, o, ho⟩ hacc
    simp only at hacc
    have hacc : acc = allLots s q.joins := hacc
    subst hacc
    have l1 := allLots_len h (ys := q.joins) fun x hx => hx
    have e := hS .bor (allLots s q.joins) (.inr rfl) (fun l hl => lots_ok h hl) (by have := h.jl; unfold allLots; omega)
    simp [e]
    rfl
/-! the law's own mapping -/
def lmD (m : Mp) : D := .list (m.map fun p => .tuple [wdD p.1, p.2.d])
def putT (m : Mp) : Term → Term
  | .var x => match getM m x with
    | some v => .val v
    | none => .var x
  | .val v => .val v
@[simp] theorem seqD_lm {m : Mp} : seqD (lmD m) = some (m.map fun p => .tuple [wdD p.1, p.2.d]) := (rfl)
@[simp] theorem isnD_lm {m : Mp} : isnD (lmD m) = false := (rfl)
theorem getM_app {ys zs : Mp} {x : Wd} (h : ∀ p ∈ ys, p.1 ≠ x) : getM (ys ++ zs) x = getM zs x := by
  induction ys with
  | nil => rfl
  | cons p ys ih =>
    obtain ⟨y, v⟩ := p
    rw [List.cons_append, getM, if_neg (h (y, v) (List.mem_cons_self ..))]
    exact ih fun q hq => h q (List.mem_cons_of_mem _ hq)
def LPutOk (C : Cal) : Prop := ∀ (k : Kd) (t : Term) (m : Mp), Rd k → C "_law_put" [im t.d, en k (lmD m)] = some (.imm (putT m t).d, [im t.d, en k (lmD m)])
theorem lput_run (k : Kd) (t : Term) (m : Mp) (hk : Rd k) : runF C Lb.f__law_put [im t.d, en k (lmD m)] = some (.imm (putT m t).d, [im t.d, en k (lmD m)]) := by
  refine eq_of_cSat ?_
  rw [runF_wp]
  cases t with
  | val v => rcases hk with rfl | rfl <;> simp [Lb.f__law_put, Lb.b__law_put, putT]
  | var x =>
    have go : ∀ (e1 : En), e1 = ⟨.imm, false, lmD m⟩ ∨ e1 = ⟨.bor, true, lmD m⟩ → ∀ Q : Fl → Rho → Prop, (∀ (o : S1) v, getM m x = some v → Q (.rt (.imm (Term.val v).d)) [some (im (Term.var x).d), some e1, o.1]) → (∀ o : S1, getM m x = none → Q .nx [some (im (Term.var x).d), some e1, o.1]) → wp (loopL (bodyL C (Tg.n 2) (IS.ite (IE.cmp .eq (IE.ix (IE.v 0) (IE.int 1)) (IE.ix (IE.v 2) (IE.int 0))) (IS.ret (IE.tup (IE.cons (IE.str "value") (IE.cons (IE.ix (IE.v 2) (IE.int 1)) IE.nil)))) IS.skip)) (m.map fun p => PyData.tuple [wdD p.1, p.2.d]) [some (im (Term.var x).d), some e1, none]) Q := by
      intro e1 he Q q1 q2
      refine wp_forS (σ := S1) (fun z => [some (im (Term.var x).d), some e1, z.1]) (fun ys z => ∀ p ∈ ys, p.1 ≠ x) s1n (fun _ h => by cases h) ?_ ?_
      · rintro ys ⟨y, v⟩ zs ⟨o, ho⟩ hsz hy Y hY
        by_cases c : y = x
        · subst c
          have e : getM m y = some v := by
            rw [hsz, getM_app hy]; simp [getM]
          have := q1 ⟨some (im (.tuple [wdD y, v.d])), rfl⟩ v e
          simp [ho, line]
          exact this
        · have := hY ⟨some (im (.tuple [wdD y, v.d])), rfl⟩ fun p hp => by
            rcases List.mem_append.mp hp with hp | hp
            · exact hy p hp
            · rw [List.mem_singleton.mp hp]; exact c
          have c' : ¬ x = y := fun e => c e.symm
          simp [ho, c', this]
      · rintro ⟨o, ho⟩ hy
        refine q2 ⟨o, ho⟩ ?_
        have := getM_app (zs := []) hy
        rw [List.append_nil] at this
        rw [this]; rfl
    rcases hk with rfl | rfl
    · simp [Lb.f__law_put, Lb.b__law_put]
      refine go _ (.inl rfl) _ (fun o v e => ?_) fun o e => ?_
      · simp [putT, e]
      · simp [putT, e]
    · simp [Lb.f__law_put, Lb.b__law_put]
      refine go _ (.inr rfl) _ (fun o v e => ?_) fun o e => ?_
      · simp [putT, e]
      · simp [putT, e]
/-- a list that is frozen or new -/
def FrI (w : W) (d : D) : Prop := w = .imm d ∨ w = .fr d
def LGrownOk (C : Cal) : Prop := ∀ (ts : List Term) (row : Row) (m : Mp), ts.length = row.length → m.length + ts.length ≤ 1000000 → ∃ w, (match bindR m ts row with
    | some m' => FrI w (lmD m')
    | none => w = .imm .none) ∧ C "_law_grown" [im (.tuple (ts.map Term.d)), im (rowD row), im (lmD m)] = some (w, [im (.tuple (ts.map Term.d)), im (rowD row), im (lmD m)])
@[simp] theorem len_row {r : Row} : bltD .len [rowD r] = some (.imm (.int r.length)) := by
  show some (W.imm (.int ((r.map Val.d).length : Nat))) = _
  rw [List.length_map]
@[simp] theorem ix_row {r : Row} {i : Nat} : ixD (rowD r) (.int (i : Nat)) = (r[i]?).map Val.d := by
  show L2.atI (r.map Val.d) (i : Int) = _
  rw [atI_nat, List.getElem?_map]
@[simp] theorem add_lm {m : Mp} {x : Wd} {v : Val} : binD .add (lmD m) (.list [.tuple [wdD x, v.d]]) = if m.length + 1 ≤ line then some (.fr (lmD (m ++ [(x, v)]))) else none := by
  show (if (m.map fun p => PyData.tuple [wdD p.1, p.2.d]).length + 1 ≤ line then _ else _) = _
  rw [List.length_map]
  unfold lmD
  rw [List.map_append]
  rfl
theorem bindT_put (m : Mp) (t : Term) (v : Val) : bindT m t v = (match putT m t with
    | .var x => some (m ++ [(x, v)])
    | .val u => if u = v then some m else none) := by
  cases t with
  | var x =>
    simp only [bindT, putT]
    cases getM m x <;> rfl
  | val u => rfl
theorem lgrown_run (hP : LPutOk C) (ts : List Term) (row : Row) (m : Mp) (hl : ts.length = row.length) (hm : m.length + ts.length ≤ 1000000) : ∃ w, (match bindR m ts row with
    | some m' => FrI w (lmD m')
    | none => w = .imm .none) ∧ runF C Lb.f__law_grown [im (.tuple (ts.map Term.d)), im (rowD row), im (lmD m)] = some (w, [im (.tuple (ts.map Term.d)), im (rowD row), im (lmD m)]) := by
  have := ret_of (r := runF C Lb.f__law_grown [im (.tuple (ts.map Term.d)), im (rowD row), im (lmD m)]) (wf := fun w : W => w) (of := fun _ => [im (.tuple (ts.map Term.d)), im (rowD row), im (lmD m)]) (p := fun w => (match bindR m ts row with
    | some m' => FrI w (lmD m')
    | none => w = .imm .none)) fun Z hZ => ?_
  · obtain ⟨w, h1, h2⟩ := this
    exact ⟨w, h1, h2⟩
  rw [runF_wp]
  have hr := small_rng (n := (row.length : Int)) (by omega) (by omega)
  simp [Lb.f__law_grown, Lb.b__law_grown, hr]
  have hzl : (ts.zip row).length = row.length := by simp; omega
  refine wp_loopS (σ := { k : Kd // k = .own ∨ k = .imm } × Mp × S1 × S1) (fun z => [some (im (.tuple (ts.map Term.d))), some (im (rowD row)), some ⟨z.1.1, false, lmD z.2.1⟩, z.2.2.1.1, z.2.2.2.1]) (fun i z => bindZ m ((ts.zip row).take i) = some z.2.1) (⟨.imm, .inr rfl⟩, m, s1n, s1n) (by simp [bindZ]) ?_ ?_
  · rintro i d ⟨⟨k2, hk2⟩, m1, ⟨o3, h3⟩, ⟨o4, h4⟩⟩ hd hb Y hY
    simp only at hb
    have hi : i < row.length ∧ d = .int (i : Nat) := by
      obtain ⟨z, e⟩ := List.getElem?_eq_some_iff.mp hd
      simp at z e
      exact ⟨by omega, e.symm⟩
    obtain ⟨hi, rfl⟩ := hi
    obtain ⟨t, ht⟩ : ∃ t, ts[i]? = some t := ⟨_, List.getElem?_eq_getElem (by omega)⟩
    obtain ⟨v, hv⟩ : ∃ v, row[i]? = some v := ⟨_, List.getElem?_eq_getElem hi⟩
    have hz : (ts.zip row)[i]? = some (t, v) := by rw [List.getElem?_zip_eq_some]; exact ⟨ht, hv⟩
    have htk : (ts.zip row).take (i + 1) = (ts.zip row).take i ++ [(t, v)] := by
      rw [List.take_succ, hz]; rfl
    have hsn := bindZ_snoc m ((ts.zip row).take i) (t, v)
    rw [← htk, hb] at hsn
    simp only [Option.bind_some] at hsn
    have hlen := bindZ_len hb
    have hlen2 : m1.length + 1 ≤ 16777216 := by
      have : ((ts.zip row).take i).length ≤ ts.length := by simp; omega
      omega
    have bad : bindT m1 t v = none → bindR m ts row = none := fun e => by
      unfold bindR
      rw [← List.take_append_drop (i + 1) (ts.zip row), bindZ_app, hsn, e]; rfl
    have hbp := bindT_put m1 t v
    have hk2' := hk2
    rcases hk2 with rfl | rfl
    · have ep := hP .bor t m1 (.inr rfl)
      cases hp : putT m1 t with
      | var x =>
        rw [hp] at hbp ep
        simp only at hbp
        rw [hbp] at hsn
        have := hY (⟨.own, .inl rfl⟩, m1 ++ [(x, v)], ⟨some (im (.int (i : Nat))), rfl⟩, ⟨some (im (Term.var x).d), rfl⟩) hsn
        simp at this
        simp [h3, h4, ht, hv, ep, line, hlen2, this]
      | val u =>
        rw [hp] at hbp ep
        simp only at hbp
        by_cases c : u = v
        · rw [if_pos c] at hbp
          rw [hbp] at hsn
          have := hY (⟨.own, .inl rfl⟩, m1, ⟨some (im (.int (i : Nat))), rfl⟩, ⟨some (im (Term.val u).d), rfl⟩) hsn
          simp at this
          simp [h3, h4, ht, hv, ep, line, c, this]
          rw [← c]; exact this
        · rw [if_neg c] at hbp
          have := hZ (.imm .none) (by rw [bad hbp])
          simp [h3, h4, ht, hv, ep, line, c, this]
    · have ep := hP .imm t m1 (.inl rfl)
      cases hp : putT m1 t with
      | var x =>
        rw [hp] at hbp ep
        simp only at hbp
        rw [hbp] at hsn
        have := hY (⟨.own, .inl rfl⟩, m1 ++ [(x, v)], ⟨some (im (.int (i : Nat))), rfl⟩, ⟨some (im (Term.var x).d), rfl⟩) hsn
        simp at this
        simp [h3, h4, ht, hv, ep, line, hlen2, this]
      | val u =>
        rw [hp] at hbp ep
        simp only at hbp
        by_cases c : u = v
        · rw [if_pos c] at hbp
          rw [hbp] at hsn
          have := hY (⟨.imm, .inr rfl⟩, m1, ⟨some (im (.int (i : Nat))), rfl⟩, ⟨some (im (Term.val u).d), rfl⟩) hsn
          simp at this
          simp [h3, h4, ht, hv, ep, line, c, this]
          rw [← c]; exact this
        · rw [if_neg c] at hbp
          have := hZ (.imm .none) (by rw [bad hbp])
          simp [h3, h4, ht, hv, ep, line, c, this]
  · rintro ⟨⟨k2, hk2⟩, m1, ⟨o3, h3⟩, ⟨o4, h4⟩⟩ hb
    simp only [List.length_map, List.length_range] at hb
    rw [List.take_of_length_le (by rw [hzl]; exact Nat.le_refl _)] at hb
    have hb : bindR m ts row = some m1 := hb
    rcases hk2 with rfl | rfl
    · have := hZ (.fr (lmD m1)) (by rw [hb]; exact .inr rfl)
      simp [this]
    · have := hZ (.imm (lmD m1)) (by rw [hb]; exact .inl rfl)
      simp [this]
end RC.P
end RP20
section RP21
set_option Elab.async false
set_option linter.all false
set_option maxRecDepth 100000
set_option autoImplicit false
set_option maxHeartbeats 4000000
/-! RP21: the law's own lots -/
namespace RC.P
open PySem SrtO
variable {C : Cal}
/-- the rows fit the atoms -/
def Fits (ps : List Place) (body : List Atom) : Prop := ∀ a ∈ body, ∀ p ∈ ps, p.name = a.name → a.ts.length = p.row.length
def LValsOk (C : Cal) : Prop := ∀ (k : Kd) (d : D) (ps : List Place) (j : Join), Rd k → (d = .list (ps.map Place.d) ∨ d = .tuple (ps.map Place.d)) → Fits ps j.body → j.body.length ≤ 100 → (∀ a ∈ j.body, a.ts.length ≤ 100) → (∀ k, (matchP ps (j.body.take k)).length ≤ 1000) → ∃ w, FrI w (.list ((matchP ps j.body).map fun e => lmD e.1)) ∧ C "_law_valuations" [en k d, im j.d] = some (w, [en k d, im j.d])
abbrev valB : IS := IS.ite (IE.cmp .eq (IE.ix (IE.v 6) (IE.int 0)) (IE.ix (IE.v 3) (IE.int 0))) (IS.seq (IS.set 7 (IE.call "_law_grown" (IE.cons (IE.ix (IE.v 3) (IE.int 1)) (IE.cons (IE.ix (IE.v 6) (IE.int 1)) (IE.cons (IE.v 5) IE.nil))))) (IS.ite (IE.isnn (IE.v 7)) (IS.ex (IE.app 4 (IE.v 7))) IS.skip)) IS.skip
theorem vals_places (hG : LGrownOk C) (ps : List Place) (a : Atom) (e : Ent) (dj : D) (e0 e2 : Option En) (acc : List Ent) (hm : e.1.length + a.ts.length ≤ 1000000) (hft : ∀ p ∈ ps, p.name = a.name → a.ts.length = p.row.length) (x6 x7 : S1) (Q : Fl → Rho → Prop) (hacc : acc.length + (ps.filterMap (tryP a e)).length ≤ 1000000)
    (hQ : ∀ x6 x7 : S1, Q .nx [e0, some (im dj), e2, some (im a.d), some ⟨.own, false, .list ((acc ++ ps.filterMap (tryP a e)).map fun e => lmD e.1)⟩, some (im (lmD e.1)), x6.1, x7.1]) :
    wp (loopL (bodyL C (Tg.n 6) valB) (ps.map Place.d) [e0, some (im dj), e2, some (im a.d), some ⟨.own, false, .list (acc.map fun e => lmD e.1)⟩, some (im (lmD e.1)), x6.1, x7.1]) Q := by
  refine wp_forS (σ := List Ent × S1 × S1) (fun z => [e0, some (im dj), e2, some (im a.d), some ⟨.own, false, .list (z.1.map fun e => lmD e.1)⟩, some (im (lmD e.1)), z.2.1.1, z.2.2.1]) (fun ys z => z.1 = acc ++ ys.filterMap (tryP a e)) (acc, x6, x7) (by simp) ?_ ?_
  · rintro ys p zs ⟨l, ⟨o6, h6⟩, ⟨o7, h7⟩⟩ hsz hl Y hY
    simp only at hl
    have hpm : p ∈ ps := by rw [hsz]; simp
    have hll : l.length + (if (tryP a e p).isSome then 1 else 0) ≤ 1000000 := by
      rw [hsz, List.filterMap_append, List.filterMap_cons] at hacc
      rw [hl]
      cases ht : tryP a e p with
      | none => rw [ht] at hacc; simp at hacc ⊢; omega
      | some x => rw [ht] at hacc; simp at hacc ⊢; omega
    by_cases c : p.name = a.name
    · obtain ⟨w, hw, eg⟩ := hG a.ts p.row e.1 (hft p hpm c) hm
      cases hb : bindR e.1 a.ts p.row with
      | none =>
        rw [hb] at hw
        simp only at hw
        subst hw
        have ht : tryP a e p = none := by simp [tryP, c, hb]
        have := hY (l, ⟨some (im p.d), rfl⟩, ⟨some (im .none), rfl⟩) (by rw [hl]; simp [List.filterMap_append, ht])
        simp at this
        simp [h6, h7, c, eg, this]
      | some m =>
        rw [hb] at hw
        simp only at hw
        have ht : tryP a e p = some (m, e.2 ++ [p]) := by simp [tryP, c, hb]
        have hll2 : l.length < 16777216 := by rw [ht] at hll; simp at hll; omega
        have := hY (l ++ [(m, e.2 ++ [p])], ⟨some (im p.d), rfl⟩, ⟨some (im (lmD m)), rfl⟩) (by simp only; rw [hl]; simp [List.filterMap_append, ht])
        simp at this
        rcases hw with rfl | rfl <;> simp [h6, h7, c, eg, line, hll2, this]
    · have ht : tryP a e p = none := by simp [tryP, c]
      have := hY (l, ⟨some (im p.d), rfl⟩, ⟨o7, h7⟩) (by rw [hl]; simp [List.filterMap_append, ht])
      simp at this
      simp [h6, h7, c, this]
  · rintro ⟨l, x6, x7⟩ hl
    simp only at hl
    subst hl
    exact hQ x6 x7
theorem vals_ents (hG : LGrownOk C) (d0 : D) (ps : List Place) (hd : d0 = .list (ps.map Place.d) ∨ d0 = .tuple (ps.map Place.d)) (a : Atom) (dj : D) (e0 : En) (he0 : e0 = ⟨.imm, false, d0⟩ ∨ e0 = ⟨.bor, false, d0⟩) (e2 : Option En) (found : List Ent) (ha : a.ts.length ≤ 100) (hft : ∀ p ∈ ps, p.name = a.name → a.ts.length = p.row.length) (hf : ∀ e ∈ found, e.1.length ≤ 100000) (hl : (stepP ps found a).length ≤ 1000) (x5 x6 x7 : S1) (Q : Fl → Rho → Prop)
    (hQ : ∀ x5 x6 x7 : S1, Q .nx [some e0, some (im dj), e2, some (im a.d), some ⟨.own, false, .list ((stepP ps found a).map fun e => lmD e.1)⟩, x5.1, x6.1, x7.1]) :
    wp (loopL (bodyL C (Tg.n 5) (IS.loop .val (IE.cons (IE.v 0) IE.nil) IE.nil (Tg.n 6) valB)) (found.map fun e => lmD e.1) [some e0, some (im dj), e2, some (im a.d), some ⟨.own, false, .list []⟩, x5.1, x6.1, x7.1]) Q := by
  refine wp_forS (σ := List Ent × S1 × S1 × S1) (fun z => [some e0, some (im dj), e2, some (im a.d), some ⟨.own, false, .list (z.1.map fun e => lmD e.1)⟩, z.2.1.1, z.2.2.1.1, z.2.2.2.1]) (fun ys z => z.1 = stepP ps ys a) ([], x5, x6, x7) rfl ?_ ?_
  · rintro ys e zs ⟨acc, ⟨o5, h5⟩, x6, x7⟩ hsz hacc Y hY
    simp only at hacc
    have hem : e ∈ found := by rw [hsz]; simp
    have f1 := hf e hem
    have hb : acc.length + (ps.filterMap (tryP a e)).length ≤ 1000000 := by
      rw [hacc]
      rw [hsz, step_split] at hl
      simp at hl ⊢; omega
    have fin := fun x6 x7 : S1 => hY (acc ++ ps.filterMap (tryP a e), ⟨some (im (lmD e.1)), rfl⟩, x6, x7) (by simp only; rw [hacc, step_one])
    rcases he0 with rfl | rfl <;> rcases hd with rfl | rfl
    all_goals
      simp [h5]
      refine vals_places hG ps a e dj _ e2 acc (by omega) hft x6 x7 _ hb fun x6 x7 => ?_
      have := fin x6 x7
      simp
      simpa using this
  · rintro ⟨acc, x5, x6, x7⟩ hacc
    simp only at hacc
    subst hacc
    exact hQ x5 x6 x7
theorem lvals_run (hG : LGrownOk C) (k : Kd) (d : D) (ps : List Place) (j : Join) (hk : Rd k) (hd : d = .list (ps.map Place.d) ∨ d = .tuple (ps.map Place.d)) (hft : Fits ps j.body) (hb : j.body.length ≤ 100) (ha : ∀ a ∈ j.body, a.ts.length ≤ 100) (hml : ∀ k, (matchP ps (j.body.take k)).length ≤ 1000) : ∃ w, FrI w (.list ((matchP ps j.body).map fun e => lmD e.1)) ∧ runF C Lb.f__law_valuations [en k d, im j.d] = some (w, [en k d, im j.d]) := by
  have := ret_of (r := runF C Lb.f__law_valuations [en k d, im j.d]) (wf := fun w : W => w) (of := fun _ => [en k d, im j.d]) (p := fun w => FrI w (.list ((matchP ps j.body).map fun e => lmD e.1))) fun Z hZ => ?_
  · obtain ⟨w, h1, h2⟩ := this
    exact ⟨w, h1, h2⟩
  rw [runF_wp]
  have takeI : ∀ (ys : List Atom) (a : Atom) (zs : List Atom), j.body = ys ++ a :: zs → (stepP ps (matchP ps ys) a).length ≤ 1000 := fun ys a zs e => by
    have k2 := hml (ys.length + 1)
    rw [e] at k2
    rw [show ys ++ a :: zs = (ys ++ [a]) ++ zs by simp, show ys.length + 1 = (ys ++ [a]).length by simp, List.take_left, matchP_snoc] at k2
    exact k2
  have szI : ∀ (ys zs : List Atom), j.body = ys ++ zs → ∀ e ∈ matchP ps ys, e.1.length ≤ 100000 := fun ys zs e x hx => by
    have hyl : ys.length ≤ 100 := by
      have := congrArg List.length e
      simp at this; omega
    obtain ⟨q1, q2, q3⟩ := match_sz (b := 100) (body := ys) (fun a h => ha a (by rw [e]; exact List.mem_append_left _ h)) x hx
    omega
  have zi := hZ (.imm (.list ((matchP ps j.body).map fun e => lmD e.1))) (.inl rfl)
  have zf := hZ (.fr (.list ((matchP ps j.body).map fun e => lmD e.1))) (.inr rfl)
  have main : ∀ e0 : En, (e0 = ⟨.imm, false, d⟩ ∨ e0 = ⟨.bor, false, d⟩) → ∀ Q : Fl → Rho → Prop, (∀ (k2 : { k : Kd // k = .own ∨ k = .imm }) x3 x4 x5 x6 x7, Q .nx [some e0, some (im j.d), some ⟨k2.1, false, .list ((matchP ps j.body).map fun e => lmD e.1)⟩, x3, x4, x5, x6, x7]) → wp (loopL (bodyL C (Tg.n 3) (IS.seq (IS.set 4 (IE.lst IE.nil)) (IS.seq (IS.loop .val (IE.cons (IE.v 2) IE.nil) IE.nil (Tg.n 5) (IS.loop .val (IE.cons (IE.v 0) IE.nil) IE.nil (Tg.n 6) valB)) (IS.set 2 (IE.v 4))))) (j.body.map Atom.d) [some e0, some (im j.d), some ⟨.own, false, .list [lmD []]⟩, none, none, none, none, none]) Q := by
    intro e0 he0 Q hQ
    refine wp_forS (σ := { k : Kd // k = .own ∨ k = .imm } × List Ent × S2 × S3) (fun z => [some e0, some (im j.d), some ⟨z.1.1, false, .list (z.2.1.map fun e => lmD e.1)⟩, z.2.2.1.1.1, z.2.2.1.1.2, z.2.2.2.1.1, z.2.2.2.1.2.1, z.2.2.2.1.2.2]) (fun ys z => z.2.1 = matchP ps ys) (⟨.own, .inl rfl⟩, [([], [])], s2n, ⟨(none, none, none), rfl, rfl, rfl⟩) rfl ?_ ?_
    · rintro ys a zs ⟨⟨k2, hk2⟩, found, ⟨⟨o3, o4⟩, h3, h4⟩, ⟨⟨o5, o6, o7⟩, h5, h6, h7⟩⟩ hsz hfd Y hY
      simp only at hfd h3 h4 h5 h6 h7
      have t2 := takeI ys a zs hsz
      have t3 := szI ys (a :: zs) hsz
      rw [← hfd] at t2 t3
      have ham : a ∈ j.body := by rw [hsz]; simp
      have hst : stepP ps found a = matchP ps (ys ++ [a]) := by rw [matchP_snoc, hfd]
      have fin := fun x5 x6 x7 : S1 => hY (⟨.imm, .inr rfl⟩, stepP ps found a, ⟨(some (im a.d), some (im (.list ((stepP ps found a).map fun e => lmD e.1)))), rfl, rfl⟩, ⟨(x5.1, x6.1, x7.1), x5.2, x6.2, x7.2⟩) hst
      rcases hk2 with rfl | rfl
      all_goals
        simp [h3, h4, line]
        refine vals_ents hG d ps hd a j.d e0 he0 _ found (ha a ham) (hft a ham) t3 t2 ⟨o5, h5⟩ ⟨o6, h6⟩ ⟨o7, h7⟩ _ fun x5 x6 x7 => ?_
        have := fin x5 x6 x7
        simp
        exact this
    · rintro ⟨k2, found, x34, x567⟩ hfd
      simp only at hfd
      subst hfd
      exact hQ k2 _ _ _ _ _
  have el : (PyData.list []) = lmD [] := rfl
  rcases hk with rfl | rfl
  · simp [Lb.f__law_valuations, Lb.b__law_valuations, line, el]
    refine main _ (.inl rfl) _ fun ⟨k2, hk2⟩ x3 x4 x5 x6 x7 => ?_
    rcases hk2 with rfl | rfl
    · simp [zf]
    · simp [zi]
  · simp [Lb.f__law_valuations, Lb.b__law_valuations, line, el]
    refine main _ (.inr rfl) _ fun ⟨k2, hk2⟩ x3 x4 x5 x6 x7 => ?_
    rcases hk2 with rfl | rfl
    · simp [zf]
    · simp [zi]
/-! comparing lots -/
def LWithinOk (C : Cal) : Prop := ∀ a b : Lot, a.length ≤ 100000 → C "_law_within" [im (lotD a), im (lotD b)] = some (.imm (.bool (hasB b a)), [im (lotD a), im (lotD b)])
theorem nin_bools {α : Type} (b : Bool) (f : α → Bool) (l : List α) : cmpD .nin (.bool b) (.list (l.map fun x => PyData.bool (f x))) = some (!l.any fun x => f x == b) := by
  have e : (l.map fun x => PyData.bool (f x)) = (l.map f).map PyData.bool := by rw [List.map_map]; rfl
  rw [e, cmp_nin]
  have h1 : shp (.list ((l.map f).map PyData.bool)) = true := kn_bool.lst.shp (by decide) _
  have h2 : (((l.map f).map PyData.bool).any fun z => PyData.eqv z (.bool b)) = l.any fun x => f x == b := by
    rw [kn_bool.any]
    induction l with
    | nil => rfl
    | cons x l ih => 
      simp only [List.map_cons, List.mem_cons, List.any_cons]
      have := ih (by rw [List.map_map]; rfl) (kn_bool.lst.shp (by decide) _)
      rw [← this]
      by_cases c : f x = b
      · simp [c]
      · have : ¬ b = f x := fun e => c e.symm
        have c2 : (f x == b) = false := by simpa using c
        simp [this, c2]
  simp only [seqD_l, Option.bind_some, shp_b, h1, h2, Bool.and_self, if_true]
theorem lwithin_run (a b : Lot) (hl : a.length ≤ 100000) : runF C Lb.f__law_within [im (lotD a), im (lotD b)] = some (.imm (.bool (hasB b a)), [im (lotD a), im (lotD b)]) := by
  refine eq_of_cSat ?_
  rw [runF_wp]
  simp [Lb.f__law_within, Lb.b__law_within]
  refine wp_compM (fun p => .bool (decide (p ∈ b))) (by simp [line]; omega) (fun p hp => by simp) ?_
  have e : (a.any fun x => !decide (x ∈ b)) = !hasB b a := by
    unfold hasB
    rw [List.any_eq_not_all_not]
    congr 2
    funext x
    cases decide (x ∈ b) <;> rfl
  simp [-cmp_nin, nin_bools, e]
def lpD (l : Lot) : D := .list (l.map pkD)
def LLotKeyOk (C : Cal) : Prop := ∀ l : Lot, RowsOk l → l.length ≤ 1000 → C "_law_lot_key" [im (lotD l)] = some (.fr (lpD l), [im (lotD l)])
theorem llotkey_run (hK : LPkOk C) (l : Lot) (h : RowsOk l) (hl : l.length ≤ 1000) : runF C Lb.f__law_lot_key [im (lotD l)] = some (.fr (lpD l), [im (lotD l)]) := by
  refine eq_of_cSat ?_
  rw [runF_wp]
  simp [Lb.f__law_lot_key, Lb.b__law_lot_key]
  refine wp_compM pkD (by simp [line]; omega) (fun p hp => by simp [hK p.d p ix_pl0 ix_pl1 (h p hp)]) ?_
  simp
  rfl
theorem cmpbs_pk : ∀ u v : List Place, cmpbs (u.map pkD) (v.map pkD) = true
  | [], _ => rfl
  | _ :: _, [] => rfl
  | x :: u, y :: v => by
    show (cmpb (pkD x) (pkD y) && (!PyData.eqv (pkD x) (pkD y) || cmpbs (u.map pkD) (v.map pkD))) = true
    rw [cmpb_pk, cmpbs_pk u v]; simp
theorem keysOk_lp (l : List Lot) : keysOk (l.map lpD) = true :=
  keysOk_of (fun x _ => kn_pk.lst.shp (by decide) x) (fun x _ y _ => cmpbs_pk x y) (fun _ _ _ _ => rfl) fun _ _ h => by cases h
/-- those of which no other one is a part -/
def minL (L : List Lot) : List Lot := L.filter fun x => !L.any fun o => hasB x o && !decide (o = x)
def leastOf (L : List Lot) : List Lot := sortK lpD (minL (dedupL L))
def LLeastOk (C : Cal) : Prop := ∀ (k : Kd) (L : List Lot), Rd k → (∀ l ∈ L, RowsOk l ∧ l.length ≤ 1000) → L.length ≤ 1000000 → C "_law_least" [en k (.list (L.map lotD))] = some (.fr (.list ((leastOf L).map lotD)), [en k (.list (L.map lotD))])
theorem lleast_run (hW : LWithinOk C) (hK : LLotKeyOk C) (k : Kd) (L : List Lot) (hk : Rd k) (hL : ∀ l ∈ L, RowsOk l ∧ l.length ≤ 1000) (hl : L.length ≤ 1000000) : runF C Lb.f__law_least [en k (.list (L.map lotD))] = some (.fr (.list ((leastOf L).map lotD)), [en k (.list (L.map lotD))]) := by
  refine eq_of_cSat ?_
  rw [runF_wp]
  have main : ∀ (e0 : En) (Q : Fl → Rho → Prop), (∀ x2 : S1, Q .nx [some e0, some ⟨.own, false, .list ((dedupL L).map lotD)⟩, x2.1, none, none]) → wp (loopL (bodyL C (Tg.n 2) (IS.ite (IE.cmp .nin (IE.v 2) (IE.v 1)) (IS.ex (IE.app 1 (IE.v 2))) IS.skip)) (L.map lotD) [some e0, some ⟨.own, false, .list []⟩, none, none, none]) Q := by
    intro e0 Q hQ
    refine wp_forS (σ := List Lot × S1) (fun z => [some e0, some ⟨.own, false, .list (z.1.map lotD)⟩, z.2.1, none, none]) (fun ys z => z.1 = dedupL ys) ([], s1n) rfl ?_ ?_
    · rintro ys x zs ⟨acc, o, ho⟩ hs h1 Y hY
      simp only at h1
      have hlen : acc.length < 16777216 := by
        have h2 := dedupL_len ys
        have h3 := congrArg List.length hs
        simp at h3
        rw [h1]; omega
      have hd := dedupL_snoc ys x
      rw [← h1] at hd
      by_cases c : x ∈ acc
      · rw [if_pos c] at hd
        have := hY (acc, ⟨some (im (lotD x)), rfl⟩) hd.symm
        simp [ho, c]
        exact this
      · rw [if_neg c] at hd
        have := hY (acc ++ [x], ⟨some (im (lotD x)), rfl⟩) hd.symm
        simp at this
        simp [ho, c, line, hlen, this]
    · rintro ⟨acc, x2⟩ h1
      simp only at h1
      subst h1
      exact hQ x2
  have hdm : ∀ x ∈ dedupL L, RowsOk x ∧ x.length ≤ 1000 := fun x hx => hL x (dedupL_mem.mp hx)
  have hdl := dedupL_len L
  have second : ∀ (e0 : En) (x2 : S1) (Q : Fl → Rho → Prop), (∀ x2 : S1, Q .nx [some e0, some ⟨.own, true, .list ((dedupL L).map lotD)⟩, x2.1, some ⟨.own, false, .list ((minL (dedupL L)).map lotD)⟩, none]) → wp (loopL (bodyL C (Tg.n 2) (IS.ite (IE.cmp .nin (IE.bl true) (IE.comp .val (IE.cons (IE.v 1) IE.nil) IE.nil (Tg.n 4) [4] (IE.bl true) (IE.and (IE.call "_law_within" (IE.cons (IE.v 4) (IE.cons (IE.v 2) IE.nil))) (IE.cmp .ne (IE.v 4) (IE.v 2))))) (IS.ex (IE.app 3 (IE.v 2))) IS.skip)) ((dedupL L).map lotD) [some e0, some ⟨.own, true, .list ((dedupL L).map lotD)⟩, x2.1, some ⟨.own, false, .list []⟩, none]) Q := by
    intro e0 x2 Q hQ
    refine wp_forS (σ := List Lot × S1) (fun z => [some e0, some ⟨.own, true, .list ((dedupL L).map lotD)⟩, z.2.1, some ⟨.own, false, .list (z.1.map lotD)⟩, none]) (fun ys z => z.1 = ys.filter fun x => !(dedupL L).any fun o => hasB x o && !decide (o = x)) ([], x2) rfl ?_ ?_
    · rintro ys x zs ⟨acc, o, ho⟩ hs h1 Y hY
      simp only at h1
      have hlen : acc.length < 16777216 := by
        have h2 := List.length_filter_le (fun x => !(dedupL L).any fun o => hasB x o && !decide (o = x)) ys
        have h3 := congrArg List.length hs
        simp at h3
        rw [h1]; omega
      simp [ho]
      refine wp_compM (fun o => .bool (hasB x o && !decide (o = x))) (by simp [line]; omega) (fun y hy => ?_) ?_
      · have e := hW y x (by have := (hdm y hy).2; omega)
        by_cases c : hasB x y = true
        · by_cases c2 : y = x
          · subst c2
            simp [e, c]
          · simp [e, c, c2]
        · have c : hasB x y = false := by simpa using c
          simp [e, c]
      · have e9 := nin_bools true (fun o => hasB x o && !decide (o = x)) (dedupL L)
        have e8 : (fun o => (hasB x o && !decide (o = x)) == true) = fun o => hasB x o && !decide (o = x) := by
          funext o
          cases (hasB x o && !decide (o = x)) <;> rfl
        rw [e8] at e9
        generalize hb : (!(dedupL L).any fun o => hasB x o && !decide (o = x)) = b at e9
        have hfs : ((ys ++ [x]).filter fun x => !(dedupL L).any fun o => hasB x o && !decide (o = x)) = acc ++ if b then [x] else [] := by
          rw [List.filter_append, ← h1]
          congr 1
          rw [List.filter_cons, hb]
          cases b <;> rfl
        cases b with
        | true =>
          have := hY (acc ++ [x], ⟨some (im (lotD x)), rfl⟩) (by simp only; rw [hfs]; rfl)
          simp at this
          simp [-cmp_nin, e9, line, hlen]
          exact this
        | false =>
          have := hY (acc, ⟨some (im (lotD x)), rfl⟩) (by simp only; rw [hfs]; simp)
          simp [-cmp_nin, e9]
          exact this
    · rintro ⟨acc, x2⟩ h1
      simp only at h1
      have h1 : acc = minL (dedupL L) := h1
      subst h1
      exact hQ x2
  have e3 : mapC C "_law_lot_key" ((minL (dedupL L)).map lotD) = some ((minL (dedupL L)).map lpD) := mapC_mapf fun l hl => by
    have := hdm l (List.mem_filter.mp hl).1
    exact hK l this.1 this.2
  have e4 : srtkD ((minL (dedupL L)).map lpD) ((minL (dedupL L)).map lotD) = some ((sortK lpD (minL (dedupL L))).map lotD) := srtk_map (keysOk_lp _)
  rcases hk with rfl | rfl
  all_goals
    simp [Lb.f__law_least, Lb.b__law_least, line]
    refine main _ _ fun x2 => ?_
    simp [line]
    refine second _ x2 _ fun x2 => ?_
    simp [e3, e4, leastOf]
end RC.P
end RP21
section RP22
set_option Elab.async false
set_option linter.all false
set_option maxRecDepth 100000
set_option autoImplicit false
set_option maxHeartbeats 4000000
/-! RP22: the plain law of the lots: both orders agree, greedy lots are the least ones -/
namespace RC.P
open PySem SrtO
variable {C : Cal}
/-! the orders of the two keys -/
/-- two keys order alike -/
structure Alike {α : Type} (f g : α → D) : Prop where
  same : ∀ x y, sameD (f x) (f y) = sameD (g x) (g y)
  lt : ∀ x y, ltD (f x) (f y) = ltD (g x) (g y)
theorem alike_list {α : Type} {f g : α → D} (h : Alike f g) : ∀ xs ys : List α, sameDs (xs.map f) (ys.map f) = sameDs (xs.map g) (ys.map g) ∧ ltDs (xs.map f) (ys.map f) = ltDs (xs.map g) (ys.map g)
  | [], [] => ⟨rfl, rfl⟩
  | [], _ :: _ => ⟨rfl, rfl⟩
  | _ :: _, [] => ⟨rfl, rfl⟩
  | x :: xs, y :: ys => by
    obtain ⟨h1, h2⟩ := alike_list h xs ys
    refine ⟨?_, ?_⟩
    · show (sameD (f x) (f y) && sameDs (xs.map f) (ys.map f)) = (sameD (g x) (g y) && sameDs (xs.map g) (ys.map g))
      rw [h.same, h1]
    · show (if sameD (f x) (f y) then ltDs (xs.map f) (ys.map f) else ltD (f x) (f y)) = (if sameD (g x) (g y) then ltDs (xs.map g) (ys.map g) else ltD (g x) (g y))
      rw [h.same, h2, h.lt]
theorem alike_v : Alike vkD keyD := ⟨fun x y => by
    cases x <;> cases y <;> simp [vkD, keyD, Val.rk, Val.d, sameD, sameDs, wdD], fun x y => by
    cases x <;> cases y <;> simp [vkD, keyD, Val.rk, Val.d, sameD, sameDs, ltD, ltDs, wdD, strLt]⟩
theorem alike_p : Alike qkD pkD := ⟨fun x y => by
    show (sameD (wdD x.name) (wdD y.name) && (sameDs (x.row.map vkD) (y.row.map vkD) && true)) = (sameD (wdD x.name) (wdD y.name) && (sameDs (x.row.map keyD) (y.row.map keyD) && true))
    rw [(alike_list alike_v _ _).1], fun x y => by
    show (if sameD (wdD x.name) (wdD y.name) then (if sameDs (x.row.map vkD) (y.row.map vkD) then false else ltDs (x.row.map vkD) (y.row.map vkD)) else ltD (wdD x.name) (wdD y.name)) = (if sameD (wdD x.name) (wdD y.name) then (if sameDs (x.row.map keyD) (y.row.map keyD) then false else ltDs (x.row.map keyD) (y.row.map keyD)) else ltD (wdD x.name) (wdD y.name))
    rw [(alike_list alike_v _ _).1, (alike_list alike_v _ _).2]⟩
theorem alike_l : Alike lqD lpD := ⟨fun x y => (alike_list alike_p x y).1, fun x y => (alike_list alike_p x y).2⟩
theorem sortK_alike {α : Type} {f g : α → D} (h : Alike f g) (l : List α) : sortK f l = sortK g l := by
  unfold sortK
  have : (fun a b => ltD (f a) (f b)) = fun a b => ltD (g a) (g b) := funext fun a => funext fun b => h.lt a b
  rw [this]
/-! no two things with one key -/
theorem app_lt : ∀ l : List Int, l ++ [0] < l ++ [1]
  | [] => by decide
  | x :: l => by
    rw [List.cons_append, List.cons_append, List.cons_lt_cons_iff]
    exact .inr ⟨rfl, app_lt l⟩
theorem tri {x y : D} (h1 : ltD x y = false) (h2 : ltD y x = false) : sameD x y = true := by
  have n1 := h1
  rw [ltD_enc, decide_eq_false_iff_not] at h1 h2
  have e : enc x = enc y := List.le_antisymm h2 h1
  have := (enc_lt x y [0] [1]).mp (by rw [e]; exact app_lt _)
  rcases this with h | h
  · rw [n1] at h; cases h
  · exact h.1
/-- a key that tells things apart -/
def Inj {α : Type} (kf : α → D) : Prop := ∀ x y, ltD (kf x) (kf y) = false → ltD (kf y) (kf x) = false → x = y
theorem inj_of {α : Type} {kf : α → D} {n : Nat} (k : Kn kf n) (hc : ∀ x y, cmpb (kf x) (kf y) = true) : Inj kf := fun x y h1 h2 => by
  have := tri h1 h2
  rw [cmpb_same _ _ (hc x y), k.eqv] at this
  exact this
theorem inj_p : Inj pkD := inj_of kn_pk cmpb_pk
theorem inj_l : Inj lpD := inj_of kn_pk.lst cmpbs_pk
section
variable {α : Type} {kf : α → D}
theorem srtd_eq (hi : Inj kf) {l m : List α} (sl : Srtd (fun a b => ltD (kf a) (kf b)) l) (sm : Srtd (fun a b => ltD (kf a) (kf b)) m) (hl : l.Nodup) (hm : m.Nodup) (h : ∀ x, x ∈ l ↔ x ∈ m) : l = m :=
  List.Perm.eq_of_pairwise (le := fun x y => ltD (kf y) (kf x) = false) (fun a b _ _ h1 h2 => hi a b h2 h1) sl sm ((List.perm_ext_iff_of_nodup hl hm).mpr h)
theorem sortK_nd {l : List α} (h : l.Nodup) : (sortK kf l).Nodup := (sortK_perm kf l).nodup_iff.mpr h
theorem sortK_eq (hi : Inj kf) {l m : List α} (hl : l.Nodup) (hm : m.Nodup) (h : ∀ x, x ∈ l ↔ x ∈ m) : sortK kf l = sortK kf m :=
  srtd_eq hi (sortK_srtd kf l) (sortK_srtd kf m) (sortK_nd hl) (sortK_nd hm) fun x => by rw [sortK_mem, sortK_mem]; exact h x
end
theorem ordP_srtd (ps : List Place) : Srtd (fun a b => ltD (pkD a) (pkD b)) (ordP ps) := by
  unfold ordP
  rw [sortK_alike alike_p]
  exact List.Pairwise.sublist (dedupL_inv _).sl (sortK_srtd pkD ps)
theorem ordP_nd (ps : List Place) : (ordP ps).Nodup := dedupL_nd _
/-- the law sorts what is there once -/
theorem ord_eq (ps : List Place) : sortK pkD (dedupL ps) = ordP ps :=
  srtd_eq inj_p (sortK_srtd _ _) (ordP_srtd ps) (sortK_nd (dedupL_nd ps)) (ordP_nd ps) fun x => by rw [sortK_mem, dedupL_mem, ord_mem]
def Can (l : Lot) : Prop := ∃ ps, l = ordP ps
theorem Can.nd {l : Lot} (h : Can l) : l.Nodup := by
  obtain ⟨ps, rfl⟩ := h; exact ordP_nd ps
theorem Can.eq {a b : Lot} (ha : Can a) (hb : Can b) (h : ∀ p, p ∈ a ↔ p ∈ b) : a = b := by
  have na := ha.nd
  have nb := hb.nd
  obtain ⟨ps, rfl⟩ := ha
  obtain ⟨qs, rfl⟩ := hb
  exact srtd_eq inj_p (ordP_srtd ps) (ordP_srtd qs) na nb h
theorem hasB_iff {a b : Lot} : hasB a b = true ↔ ∀ p ∈ b, p ∈ a := by
  unfold hasB
  simp
theorem sub_eq {α : Type} [DecidableEq α] {x h : List α} (hx : x.Nodup) (hs : ∀ p ∈ x, p ∈ h) (hl : h.length ≤ x.length) : ∀ p ∈ h, p ∈ x := fun p hp => by
  refine Classical.byContradiction fun n => ?_
  have := nodup_le (xs := p :: x) (ys := h) (List.nodup_cons.mpr ⟨n, hx⟩) fun q hq => by
    rcases List.mem_cons.mp hq with rfl | hq
    · exact hp
    · exact hs q hq
  rw [List.length_cons] at this
  omega
structure GrI (ys G : List Lot) : Prop where
  mem : ∀ g ∈ G, g ∈ ys
  low : ∀ y ∈ ys, ∃ g ∈ G, hasB y g = true
  nd : G.Nodup
  min : ∀ g ∈ G, ∀ h ∈ G, hasB g h = true → g = h
theorem greedy_inv : ∀ (zs ys : List Lot), (∀ l ∈ ys ++ zs, l.Nodup) → (ys ++ zs).Pairwise (fun a b => a.length ≤ b.length) → GrI ys (greedy ys) → GrI (ys ++ zs) (greedy (ys ++ zs))
  | [], ys, _, _, h => by rwa [List.append_nil]
  | x :: zs, ys, hn, hp, h => by
    have e : ys ++ x :: zs = (ys ++ [x]) ++ zs := by simp
    rw [e] at hn hp ⊢
    refine greedy_inv zs _ hn hp ?_
    have hle : ∀ y ∈ ys, y.length ≤ x.length := fun y hy => by
      have := (List.pairwise_append.mp (List.pairwise_append.mp hp).1).2.2
      exact this y hy x (by simp)
    have hxn : x.Nodup := hn x (by simp)
    rw [greedy_snoc]
    by_cases c : (greedy ys).any (fun o => hasB x o) = true
    · rw [if_pos c]
      obtain ⟨g, hg, hgx⟩ := List.any_eq_true.mp c
      refine ⟨fun g hg => List.mem_append_left _ (h.mem g hg), fun y hy => ?_, h.nd, h.min⟩
      rcases List.mem_append.mp hy with hy | hy
      · exact h.low y hy
      · rw [List.mem_singleton.mp hy]; exact ⟨g, hg, hgx⟩
    · rw [if_neg c]
      have c : ∀ g ∈ greedy ys, hasB x g = false := by simpa using c
      have hrefl : ∀ l : Lot, hasB l l = true := fun l => hasB_iff.mpr fun p hp => hp
      refine ⟨fun g hg => ?_, fun y hy => ?_, ?_, fun g hg k hk hgk => ?_⟩
      · rcases List.mem_append.mp hg with hg | hg
        · exact List.mem_append_left _ (h.mem g hg)
        · exact List.mem_append_right _ hg
      · rcases List.mem_append.mp hy with hy | hy
        · obtain ⟨g, hg, q⟩ := h.low y hy
          exact ⟨g, List.mem_append_left _ hg, q⟩
        · rw [List.mem_singleton.mp hy]
          exact ⟨x, List.mem_append_right _ (by simp), hrefl x⟩
      · rw [List.nodup_append]
        refine ⟨h.nd, by simp, fun a ha b hb e => ?_⟩
        rw [List.mem_singleton.mp hb] at e
        have := c a ha
        rw [e, hrefl] at this
        cases this
      · rcases List.mem_append.mp hg with hg | hg
        · rcases List.mem_append.mp hk with hk | hk
          · exact h.min g hg k hk hgk
          · rw [List.mem_singleton.mp hk] at hgk
            have l1 := hle g (h.mem g hg)
            have s1 := sub_eq hxn (hasB_iff.mp hgk) l1
            have := c g hg
            rw [hasB_iff.mpr s1] at this
            cases this
        · rw [List.mem_singleton.mp hg] at hgk ⊢
          rcases List.mem_append.mp hk with hk | hk
          · rw [c k hk] at hgk; cases hgk
          · rw [List.mem_singleton.mp hk]
theorem sortK_len_srt (L : List Lot) : (sortK lenD L).Pairwise (fun a b => a.length ≤ b.length) := by
  refine List.Pairwise.imp (fun {a b} h => ?_) (sortK_srtd lenD L)
  have h : decide (((b.length : Nat) : Int) < ((a.length : Nat) : Int)) = false := h
  simp at h
  exact h
theorem small_mem {L : List Lot} (hc : ∀ l ∈ L, Can l) {x : Lot} : x ∈ greedy (sortK lenD L) ↔ x ∈ L ∧ ∀ o ∈ L, hasB x o = true → o = x := by
  have hm : ∀ l, l ∈ sortK lenD L ↔ l ∈ L := fun l => sortK_mem
  have G := greedy_inv (sortK lenD L) [] (fun l hl => (hc l ((hm l).mp (by simpa using hl))).nd) (by simpa using sortK_len_srt L) ⟨(fun g hg => by cases hg), (fun y hy => by cases hy), List.Pairwise.nil, fun g hg => by cases hg⟩
  rw [List.nil_append] at G
  constructor
  · intro hx
    have hxL := (hm x).mp (G.mem x hx)
    refine ⟨hxL, fun o ho hox => ?_⟩
    obtain ⟨g, hg, hgo⟩ := G.low o ((hm o).mpr ho)
    have h1 : hasB x g = true := hasB_iff.mpr fun p hp => hasB_iff.mp hox p (hasB_iff.mp hgo p hp)
    have := G.min x hx g hg h1
    subst this
    exact (hc o ho).eq (hc x hxL) fun p => ⟨fun hp => hasB_iff.mp hox p hp, fun hp => hasB_iff.mp hgo p hp⟩
  · rintro ⟨hx, hmin⟩
    obtain ⟨g, hg, hgx⟩ := G.low x ((hm x).mpr hx)
    have := hmin g ((hm g).mp (G.mem g hg)) hgx
    rw [← this]; exact hg
theorem greedy_nd (L : List Lot) (hc : ∀ l ∈ L, Can l) : (greedy (sortK lenD L)).Nodup := by
  have hm : ∀ l, l ∈ sortK lenD L ↔ l ∈ L := fun l => sortK_mem
  have G := greedy_inv (sortK lenD L) [] (fun l hl => (hc l ((hm l).mp (by simpa using hl))).nd) (by simpa using sortK_len_srt L) ⟨(fun g hg => by cases hg), (fun y hy => by cases hy), List.Pairwise.nil, fun g hg => by cases hg⟩
  rw [List.nil_append] at G
  exact G.nd
/-- THE PLAIN LAW: the greedy lots are the least ones -/
theorem small_least {L : List Lot} (hc : ∀ l ∈ L, Can l) : smallOf L = leastOf L := by
  unfold smallOf leastOf
  rw [sortK_alike alike_l]
  refine sortK_eq inj_l (greedy_nd L hc) (List.Nodup.sublist List.filter_sublist (dedupL_nd L)) fun x => ?_
  rw [small_mem hc]
  unfold minL
  rw [List.mem_filter, dedupL_mem]
  refine and_congr_right fun hx => ?_
  simp only [Bool.not_eq_true', List.any_eq_false, Bool.and_eq_true, Bool.not_eq_true', decide_eq_false_iff_not, not_and, Decidable.not_not]
  exact ⟨fun h o ho q => h o (dedupL_mem.mp ho) q, fun h o ho q => h o (dedupL_mem.mpr ho) q⟩
theorem lots_can {s : List Fact} {js : List Join} {l : Lot} (h : l ∈ allLots s js) : Can l := by
  obtain ⟨j, hj, hl⟩ := List.mem_flatMap.mp h
  obtain ⟨e, he, rfl⟩ := List.mem_map.mp hl
  exact ⟨_, rfl⟩
/-! the law's lot of a mapping -/
def ExtM (m m' : Mp) : Prop := ∀ x v, getM m x = some v → getM m' x = some v
theorem put_ext {m m' : Mp} (h : ExtM m m') {t : Term} {v : Val} (e : putT m t = .val v) : putT m' t = .val v := by
  cases t with
  | val u => exact e
  | var x =>
    simp only [putT] at e ⊢
    cases hg : getM m x with
    | none => rw [hg] at e; cases e
    | some u =>
      rw [hg] at e
      rw [h x u hg]; exact e
theorem getM_snoc {m : Mp} {x y : Wd} {u : Val} : getM (m ++ [(x, u)]) y = (match getM m y with
    | some v => some v
    | none => if x = y then some u else none) := by
  induction m with
  | nil => rfl
  | cons p m ih =>
    obtain ⟨z, w⟩ := p
    rw [List.cons_append, getM, getM]
    by_cases c : z = y
    · rw [if_pos c, if_pos c]
    · rw [if_neg c, if_neg c, ih]
theorem bindT_ext {m m' : Mp} {t : Term} {v : Val} (h : bindT m t v = some m') : ExtM m m' ∧ putT m' t = .val v := by
  cases t with
  | var x =>
    simp only [bindT] at h
    cases hg : getM m x with
    | none =>
      rw [hg] at h
      have e := Option.some.inj h
      subst e
      refine ⟨fun y w hy => by rw [getM_snoc, hy], ?_⟩
      simp [putT, getM_snoc, hg]
    | some u =>
      rw [hg] at h
      by_cases c : u = v
      · simp only [if_pos c] at h
        have e := Option.some.inj h
        subst e
        exact ⟨fun y w hy => hy, by simp [putT, hg, c]⟩
      · simp only [if_neg c] at h
        cases h
  | val u =>
    simp only [bindT] at h
    by_cases c : u = v
    · rw [if_pos c] at h
      have e := Option.some.inj h
      subst e
      exact ⟨fun y w hy => hy, by simp [putT, c]⟩
    · rw [if_neg c] at h
      cases h
theorem bindZ_ext : ∀ {l : List (Term × Val)} {m m' : Mp}, bindZ m l = some m' → ExtM m m' ∧ ∀ p ∈ l, putT m' p.1 = .val p.2
  | [], m, m', h => by
    cases h
    exact ⟨fun _ _ h => h, fun _ h => by cases h⟩
  | (t, v) :: l, m, m', h => by
    obtain ⟨m1, h1, h2⟩ := Option.bind_eq_some_iff.mp (show (bindT m t v).bind _ = some m' from h)
    obtain ⟨a1, a2⟩ := bindT_ext h1
    obtain ⟨b1, b2⟩ := bindZ_ext h2
    refine ⟨fun x w hx => b1 x w (a1 x w hx), fun p hp => ?_⟩
    rcases List.mem_cons.mp hp with rfl | hp
    · exact put_ext b1 a2
    · exact b2 p hp
def valT (m : Mp) (t : Term) : Val := match putT m t with
  | .val v => v
  | .var _ => .int 0
def placeOf (m : Mp) (a : Atom) : Place := ⟨a.name, a.ts.map (valT m)⟩
theorem bindR_val {m m' : Mp} {ts : List Term} {row : Row} (hl : ts.length = row.length) (h : bindR m ts row = some m') : ExtM m m' ∧ ts.map (valT m') = row ∧ ∀ t ∈ ts, ∃ v, putT m' t = .val v := by
  obtain ⟨h1, h2⟩ := bindZ_ext h
  have key : ∀ (i : Nat) t, ts[i]? = some t → ∃ v, row[i]? = some v ∧ putT m' t = .val v := fun i t ht => by
    have hi : i < row.length := by
      have := (List.getElem?_eq_some_iff.mp ht).1; omega
    have hv : row[i]? = some row[i] := List.getElem?_eq_getElem hi
    refine ⟨row[i], hv, h2 (t, row[i]) (List.mem_of_getElem? (i := i) ?_)⟩
    rw [List.getElem?_zip_eq_some]
    exact ⟨ht, hv⟩
  refine ⟨h1, ?_, fun t ht => ?_⟩
  · refine List.ext_getElem? fun i => ?_
    rw [List.getElem?_map]
    cases ht : ts[i]? with
    | none =>
      have : ts.length ≤ i := List.getElem?_eq_none_iff.mp ht
      rw [List.getElem?_eq_none (by omega)]; rfl
    | some t =>
      obtain ⟨v, hv, hp⟩ := key i t ht
      rw [hv]
      simp [valT, hp]
  · obtain ⟨i, hi⟩ := List.getElem?_of_mem ht
    obtain ⟨v, _, hp⟩ := key i t hi
    exact ⟨v, hp⟩
theorem placeOf_ext {m m' : Mp} (h : ExtM m m') {a : Atom} (ha : ∀ t ∈ a.ts, ∃ v, putT m t = .val v) : placeOf m' a = placeOf m a := by
  unfold placeOf
  congr 1
  refine List.map_congr_left fun t ht => ?_
  obtain ⟨v, hv⟩ := ha t ht
  unfold valT
  rw [put_ext h hv, hv]
/-- each entry's places are the atoms under its mapping -/
theorem match_val {ps : List Place} {body : List Atom} (hf : Fits ps body) : ∀ e ∈ matchP ps body, body.map (placeOf e.1) = e.2 ∧ ∀ a ∈ body, ∀ t ∈ a.ts, ∃ v, putT e.1 t = .val v := by
  suffices h : ∀ (zs ys : List Atom), Fits ps zs → (∀ e ∈ matchP ps ys, ys.map (placeOf e.1) = e.2 ∧ ∀ a ∈ ys, ∀ t ∈ a.ts, ∃ v, putT e.1 t = .val v) → ∀ e ∈ matchP ps (ys ++ zs), (ys ++ zs).map (placeOf e.1) = e.2 ∧ ∀ a ∈ ys ++ zs, ∀ t ∈ a.ts, ∃ v, putT e.1 t = .val v by
    have := h body [] hf fun e he => by
      simp [matchP] at he
      subst he
      exact ⟨rfl, fun _ h => by cases h⟩
    simpa using this
  intro zs
  induction zs with
  | nil => intro ys _ h; rwa [List.append_nil]
  | cons z zs ih =>
    intro ys hz h
    have e : ys ++ z :: zs = (ys ++ [z]) ++ zs := by simp
    rw [e]
    refine ih _ (fun a ha => hz a (List.mem_cons_of_mem _ ha)) fun e he => ?_
    rw [matchP_snoc] at he
    obtain ⟨e0, he0, he1⟩ := List.mem_flatMap.mp he
    obtain ⟨p, hp, he2⟩ := List.mem_filterMap.mp he1
    unfold tryP at he2
    by_cases c : p.name = z.name
    · rw [if_pos c] at he2
      obtain ⟨m, hm, rfl⟩ := Option.map_eq_some_iff.mp he2
      obtain ⟨i1, i2⟩ := h e0 he0
      obtain ⟨b1, b2, b3⟩ := bindR_val (hz z (List.mem_cons_self ..) p hp c) hm
      refine ⟨?_, fun a ha t ht => ?_⟩
      · rw [List.map_append]
        simp only
        congr 1
        · rw [← i1]
          exact List.map_congr_left fun a ha => placeOf_ext b1 (i2 a ha)
        · show [placeOf m z] = [p]
          unfold placeOf
          rw [b2, ← c]
      · rcases List.mem_append.mp ha with ha | ha
        · obtain ⟨v, hv⟩ := i2 a ha t ht
          exact ⟨v, put_ext b1 hv⟩
        · rw [List.mem_singleton.mp ha] at ht
          exact b3 t ht
    · rw [if_neg c] at he2
      cases he2
end RC.P
end RP22
section RP23
set_option Elab.async false
set_option linter.all false
set_option maxRecDepth 100000
set_option autoImplicit false
set_option maxHeartbeats 4000000
/-! RP23: the law's lots of a question; large scenes -/
namespace RC.P
open PySem SrtO
variable {C : Cal}
def LLotsOk (C : Cal) : Prop := ∀ (s : List Fact) (q : Quest), QSz s q.joins → C "_law_lots" [im (storeD s), im q.d] = some (.fr (.list ((leastOf (dedupL (allLots s q.joins))).map lotD)), [im (storeD s), im q.d])
theorem QSz.fits {s : List Fact} {js : List Join} (h : QSz s js) {j : Join} (hj : j ∈ js) : Fits (s.map Fact.pl) j.body := fun a ha p hp e => by
  obtain ⟨f, hf, rfl⟩ := List.mem_map.mp hp
  exact h.rl j hj a ha f hf e
theorem place_td {x : Wd} {r : Row} : (PyData.tuple [wdD x, .tuple (r.map Val.d)]) = (Place.mk x r).d := (rfl)
/-- the places of one mapping -/
theorem llots_atoms (hP : LPutOk C) (j : Join) (m : Mp) (hv : ∀ a ∈ j.body, ∀ t ∈ a.ts, ∃ v, putT m t = .val v) (hb : j.body.length ≤ 100) (ha : ∀ a ∈ j.body, a.ts.length ≤ 100) (r0 r1 r2 r3 : Option En) (x7 x8 : S1) (Q : Fl → Rho → Prop)
    (hQ : ∀ x7 x8 : S1, Q .nx [r0, r1, r2, r3, some (im j.d), some (im (lmD m)), some ⟨.own, false, .list ((dedupL (j.body.map (placeOf m))).map Place.d)⟩, x7.1, x8.1, none, none]) :
    wp (loopL (bodyL C (Tg.n 7) (IS.seq (IS.set 8 (IE.tup (IE.cons (IE.ix (IE.v 7) (IE.int 0)) (IE.cons (IE.blt .tuple (IE.cons (IE.comp .val (IE.cons (IE.ix (IE.v 7) (IE.int 1)) IE.nil) IE.nil (Tg.n 10) [10] (IE.bl true) (IE.ix (IE.call "_law_put" (IE.cons (IE.v 10) (IE.cons (IE.v 5) IE.nil))) (IE.int 1))) IE.nil)) IE.nil)))) (IS.ite (IE.cmp .nin (IE.v 8) (IE.v 6)) (IS.ex (IE.app 6 (IE.v 8))) IS.skip))) (j.body.map Atom.d) [r0, r1, r2, r3, some (im j.d), some (im (lmD m)), some ⟨.own, false, .list []⟩, x7.1, x8.1, none, none]) Q := by
  refine wp_forS (σ := List Place × S1 × S1) (fun z => [r0, r1, r2, r3, some (im j.d), some (im (lmD m)), some ⟨.own, false, .list (z.1.map Place.d)⟩, z.2.1.1, z.2.2.1, none, none]) (fun ys z => z.1 = dedupL (ys.map (placeOf m))) ([], x7, x8) rfl ?_ ?_
  · rintro ys a zs ⟨acc, ⟨o7, h7⟩, ⟨o8, h8⟩⟩ hs h1 Y hY
    simp only at h1
    have ham : a ∈ j.body := by rw [hs]; simp
    have hlen : acc.length < 16777216 := by
      have h2 := dedupL_len (ys.map (placeOf m))
      have h3 := congrArg List.length hs
      simp at h2 h3
      rw [h1]; omega
    have hd := dedupL_snoc (ys.map (placeOf m)) (placeOf m a)
    rw [← h1] at hd
    simp [h7, h8]
    refine wp_compM (fun t => (valT m t).d) (by have := ha a ham; simp [line]; omega) (fun t ht => ?_) ?_
    · obtain ⟨v, hp⟩ := hv a ham t ht
      have ep := hP .imm t m (.inl rfl)
      rw [hp] at ep
      have e2 : valT m t = v := by simp [valT, hp]
      simp [ep, e2]
    · have ed : (PyData.tuple [wdD a.name, .tuple (a.ts.map fun t => (valT m t).d)]) = (placeOf m a).d := by
        show _ = PyData.tuple [_, .tuple ((a.ts.map (valT m)).map Val.d)]
        rw [List.map_map]; rfl
      by_cases c : placeOf m a ∈ acc
      · rw [if_pos c] at hd
        have := hY (acc, ⟨some (im a.d), rfl⟩, ⟨some (im (placeOf m a).d), rfl⟩) (by simp only; rw [List.map_append]; exact hd.symm)
        simp [h7, h8, line, ed, c]
        exact this
      · rw [if_neg c] at hd
        have := hY (acc ++ [placeOf m a], ⟨some (im a.d), rfl⟩, ⟨some (im (placeOf m a).d), rfl⟩) (by simp only; rw [List.map_append]; exact hd.symm)
        simp at this
        simp [h7, h8, line, ed, c, hlen, this]
  · rintro ⟨acc, x7, x8⟩ h1
    simp only at h1
    subst h1
    exact hQ x7 x8
theorem llots_run (hV : LValsOk C) (hP : LPutOk C) (hK : LPkOk C) (hL : LLeastOk C) (s : List Fact) (q : Quest) (h : QSz s q.joins) : runF C Lb.f__law_lots [im (storeD s), im q.d] = some (.fr (.list ((leastOf (dedupL (allLots s q.joins))).map lotD)), [im (storeD s), im q.d]) := by
  refine eq_of_cSat ?_
  rw [runF_wp]
  simp [Lb.f__law_lots, Lb.b__law_lots]
  refine wp_compM (fun f : Fact => f.pl.d) (by have := h.sl; simp [line]; omega) (fun f hf => by simp) ?_
  have e0 : (s.map fun f => f.pl.d) = (s.map Fact.pl).map Place.d := by rw [List.map_map]; rfl
  rw [e0]
  generalize hps : s.map Fact.pl = ps
  simp [line]
  refine wp_forS (σ := List Lot × S2 × S3) (fun z => [some (im (storeD s)), some (im q.d), some ⟨.own, false, .list (ps.map Place.d)⟩, some ⟨.own, false, .list (z.1.map lotD)⟩, z.2.1.1.1, z.2.1.1.2, z.2.2.1.1, z.2.2.1.2.1, z.2.2.1.2.2, none, none]) (fun ys z => z.1 = dedupL (ys.flatMap (lotsJ ps))) ([], s2n, ⟨(none, none, none), rfl, rfl, rfl⟩) rfl ?_ ?_
  · rintro ys j zs ⟨acc, ⟨⟨o4, o5⟩, h4, h5⟩, ⟨⟨o6, o7, o8⟩, h6, h7, h8⟩⟩ hsz h1 Y hY
    simp only at h1 h4 h5 h6 h7 h8
    have hj : j ∈ q.joins := by rw [hsz]; simp
    have hml := h.ml j hj
    have hfit := h.fits hj
    have hfull := h.full hj
    rw [hps] at hml hfit hfull
    obtain ⟨w, hw, ev⟩ := hV .bor (.list (ps.map Place.d)) ps j (.inr rfl) (.inl rfl) hfit (h.bl j hj) (h.tl j hj) hml
    have hfm := match_val hfit
    have hsz2 := match_sz (ps := ps) (b := 100) (h.tl j hj)
    have hacl : (ys.flatMap (lotsJ ps)).length ≤ 100000 := by
      have l1 := allLots_len h (ys := ys) fun x hx => by rw [hsz]; exact List.mem_append_left _ hx
      rw [hps] at l1
      have hyl : ys.length ≤ 100 := by
        have := congrArg List.length hsz
        have := h.jl
        simp at *; omega
      omega
    have inner : ∀ (e4 : Option En) (x5 : S1) (x6 x7 x8 : S1) (Q : Fl → Rho → Prop), e4 = some (im j.d) → (∀ x5 x6 x7 x8 : S1, Q .nx [some (im (storeD s)), some (im q.d), some ⟨.own, false, .list (ps.map Place.d)⟩, some ⟨.own, false, .list ((dedupL ((ys ++ [j]).flatMap (lotsJ ps))).map lotD)⟩, e4, x5.1, x6.1, x7.1, x8.1, none, none]) → wp (loopL (bodyL C (Tg.n 5) (IS.seq (IS.set 6 (IE.lst IE.nil)) (IS.seq (IS.loop .val (IE.cons (IE.ix (IE.v 4) (IE.int 1)) IE.nil) IE.nil (Tg.n 7) (IS.seq (IS.set 8 (IE.tup (IE.cons (IE.ix (IE.v 7) (IE.int 0)) (IE.cons (IE.blt .tuple (IE.cons (IE.comp .val (IE.cons (IE.ix (IE.v 7) (IE.int 1)) IE.nil) IE.nil (Tg.n 10) [10] (IE.bl true) (IE.ix (IE.call "_law_put" (IE.cons (IE.v 10) (IE.cons (IE.v 5) IE.nil))) (IE.int 1))) IE.nil)) IE.nil)))) (IS.ite (IE.cmp .nin (IE.v 8) (IE.v 6)) (IS.ex (IE.app 6 (IE.v 8))) IS.skip))) (IS.seq (IS.set 6 (IE.blt .tuple (IE.cons (IE.srtk "_law_place_key" (IE.v 6)) IE.nil))) (IS.ite (IE.cmp .nin (IE.v 6) (IE.v 3)) (IS.ex (IE.app 3 (IE.v 6))) IS.skip))))) ((matchP ps j.body).map fun e => lmD e.1) [some (im (storeD s)), some (im q.d), some ⟨.own, false, .list (ps.map Place.d)⟩, some ⟨.own, false, .list (acc.map lotD)⟩, e4, x5.1, x6.1, x7.1, x8.1, none, none]) Q := by
      rintro e4 x5 x6 x7 x8 Q rfl hQ
      refine wp_forS (σ := List Lot × S1 × S1 × S1 × S1) (fun z => [some (im (storeD s)), some (im q.d), some ⟨.own, false, .list (ps.map Place.d)⟩, some ⟨.own, false, .list (z.1.map lotD)⟩, some (im j.d), z.2.1.1, z.2.2.1.1, z.2.2.2.1.1, z.2.2.2.2.1, none, none]) (fun es z => z.1 = dedupL (ys.flatMap (lotsJ ps) ++ es.map fun e => ordP e.2)) (acc, x5, x6, x7, x8) (by simpa using h1) ?_ ?_
      · rintro es e zes ⟨acc, ⟨o5, h5⟩, ⟨o6, h6⟩, x7, x8⟩ hes hacc Y hY
        simp only at hacc
        have hem : e ∈ matchP ps j.body := by rw [hes]; simp
        obtain ⟨m1, m2⟩ := hfm e hem
        obtain ⟨z1, z2, z3⟩ := hsz2 e hem
        have hlen : acc.length < 16777216 := by
          have h2 := dedupL_len (ys.flatMap (lotsJ ps) ++ es.map fun e => ordP e.2)
          have h3 := congrArg List.length hes
          simp only [List.length_append, List.length_map, List.length_cons] at h2 h3
          rw [hacc]; omega
        simp [h5, h6, line]
        refine llots_atoms hP j e.1 m2 (h.bl j hj) (h.tl j hj) _ _ _ _ x7 x8 _ fun x7 x8 => ?_
        rw [m1]
        have hrows : ∀ p ∈ dedupL e.2, p.row.length ≤ 1000 := fun p hp => by
          have := z3 p (dedupL_mem.mp hp)
          rw [← hps] at this
          obtain ⟨f, hf, rfl⟩ := List.mem_map.mp this
          exact h.rw_ f hf
        have e1 : mapC C "_law_place_key" ((dedupL e.2).map Place.d) = some ((dedupL e.2).map pkD) := mapC_map fun p hp => hK _ p ix_pl0 ix_pl1 (hrows p hp)
        have e2 : srtkD ((dedupL e.2).map pkD) ((dedupL e.2).map Place.d) = some ((ordP e.2).map Place.d) := by
          rw [← ord_eq]
          exact srtk_map (keysOk_pk id (dedupL e.2))
        have e3 : (PyData.tuple ((ordP e.2).map Place.d)) = lotD (ordP e.2) := rfl
        have hd := dedupL_snoc (ys.flatMap (lotsJ ps) ++ es.map fun e => ordP e.2) (ordP e.2)
        rw [← hacc] at hd
        have e4 : ys.flatMap (lotsJ ps) ++ (es ++ [e]).map (fun e => ordP e.2) = ys.flatMap (lotsJ ps) ++ es.map (fun e => ordP e.2) ++ [ordP e.2] := by simp
        by_cases c : ordP e.2 ∈ acc
        · rw [if_pos c] at hd
          have := hY (acc, ⟨some (im (lmD e.1)), rfl⟩, ⟨some (im (lotD (ordP e.2))), rfl⟩, x7, x8) (by simp only; rw [e4]; exact hd.symm)
          simp [e1, e2, e3, c]
          exact this
        · rw [if_neg c] at hd
          have := hY (acc ++ [ordP e.2], ⟨some (im (lmD e.1)), rfl⟩, ⟨some (im (lotD (ordP e.2))), rfl⟩, x7, x8) (by simp only; rw [e4]; exact hd.symm)
          simp at this
          simp [e1, e2, e3, c, line, hlen, this]
      · rintro ⟨acc, x5, x6, x7, x8⟩ hacc
        simp only at hacc
        have e5 : ys.flatMap (lotsJ ps) ++ (matchP ps j.body).map (fun e => ordP e.2) = (ys ++ [j]).flatMap (lotsJ ps) := by
          rw [List.flatMap_append, List.flatMap_singleton]; rfl
        rw [e5] at hacc
        subst hacc
        exact hQ x5 x6 x7 x8
    have fin := fun x5 x6 x7 x8 : S1 => hY (dedupL ((ys ++ [j]).flatMap (lotsJ ps)), ⟨(some (im j.d), x5.1), rfl, x5.2⟩, ⟨(x6.1, x7.1, x8.1), x6.2, x7.2, x8.2⟩) rfl
    rcases hw with rfl | rfl
    all_goals
      simp [h4, ev]
      refine inner _ ⟨o5, h5⟩ ⟨o6, h6⟩ ⟨o7, h7⟩ ⟨o8, h8⟩ _ rfl fun x5 x6 x7 x8 => ?_
      have := fin x5 x6 x7 x8
      simp
      simpa using this
  · rintro ⟨acc, ⟨⟨o4, o5⟩, h4, h5⟩, ⟨⟨o6, o7, o8⟩, h6, h7, h8⟩⟩ h1
    simp only at h1
    have h1 : acc = dedupL (allLots s q.joins) := by rw [h1, ← hps]; rfl
    subst h1
    have l1 := allLots_len h (ys := q.joins) fun x hx => hx
    have l2 := dedupL_len (allLots s q.joins)
    have e := hL .bor (dedupL (allLots s q.joins)) (.inr rfl) (fun l hl => lots_ok h (dedupL_mem.mp hl)) (by have := h.jl; unfold allLots at *; omega)
    simp [e]
theorem least_dedup (L : List Lot) : leastOf (dedupL L) = leastOf L := by
  unfold leastOf
  rw [dedupL_of (dedupL_nd L)]
/-! sizes of drawn questions -/
theorem ground_len {ps : List Place} (hn : ps.Nodup) : ∀ {body : List Atom}, (∀ a ∈ body, ∃ p ∈ ps, a = atomOf p) → Fits ps body → (matchP ps body).length ≤ 1 := by
  intro body
  suffices h : ∀ (zs ys : List Atom), (∀ a ∈ zs, ∃ p ∈ ps, a = atomOf p) → Fits ps zs → (matchP ps ys).length ≤ 1 → (matchP ps (ys ++ zs)).length ≤ 1 by
    intro ha hf
    have := h body [] ha hf (Nat.le_refl _)
    simpa using this
  intro zs
  induction zs with
  | nil => intro ys _ _ h; rwa [List.append_nil]
  | cons z zs ih =>
    intro ys ha hf h
    have e : ys ++ z :: zs = (ys ++ [z]) ++ zs := by simp
    rw [e]
    refine ih _ (fun a h => ha a (List.mem_cons_of_mem _ h)) (fun a h => hf a (List.mem_cons_of_mem _ h)) ?_
    rw [matchP_snoc]
    obtain ⟨p, hp, rfl⟩ := ha z (List.mem_cons_self ..)
    have fz := hf (atomOf p) (List.mem_cons_self ..)
    have one : ∀ en : Ent, (ps.filterMap (tryP (atomOf p) en)).length ≤ 1 := fun en => by
      have : ∀ {l : List Place}, l.Nodup → (∀ q ∈ l, q ∈ ps) → (l.filterMap (tryP (atomOf p) en)).length ≤ (if p ∈ l then 1 else 0) := by
        intro l
        induction l with
        | nil => intro _ _; simp
        | cons q l ih =>
          intro hq hm
          obtain ⟨n1, n2⟩ := List.nodup_cons.mp hq
          have i := ih n2 fun x hx => hm x (List.mem_cons_of_mem _ hx)
          by_cases c : q = p
          · subst c
            rw [if_neg n1] at i
            rw [if_pos (List.mem_cons_self ..), List.filterMap_cons]
            cases tryP (atomOf q) en q with
            | none => simp only; omega
            | some b => simp only [List.length_cons]; omega
          · have ht : tryP (atomOf p) en q = none := by
              unfold tryP
              by_cases cn : q.name = (atomOf p).name
              · rw [if_pos cn]
                have hl := fz q (hm q (List.mem_cons_self ..)) cn
                cases hb : bindR en.1 (atomOf p).ts q.row with
                | none => rfl
                | some m =>
                  exfalso
                  apply c
                  obtain ⟨_, b2, _⟩ := bindR_val hl hb
                  have : (atomOf p).ts.map (valT m) = p.row := by
                    show (p.row.map Term.val).map (valT m) = p.row
                    rw [List.map_map]
                    have : (valT m ∘ Term.val) = id := funext fun v => rfl
                    rw [this, List.map_id]
                  rw [this] at b2
                  obtain ⟨qn, qr⟩ := q
                  obtain ⟨pn, pr⟩ := p
                  simp only at b2
                  have cn : qn = pn := cn
                  rw [cn, b2]
              · rw [if_neg cn]
            rw [List.filterMap_cons, ht]
            have : p ∈ q :: l ↔ p ∈ l := by
              rw [List.mem_cons]
              exact ⟨fun h => h.elim (fun e => absurd e.symm c) id, .inr⟩
            by_cases cl : p ∈ l
            · rw [if_pos cl] at i
              rw [if_pos (this.mpr cl)]; exact i
            · rw [if_neg cl] at i
              rw [if_neg fun z => cl (this.mp z)]; exact i
      have := this hn fun q hq => hq
      split at this <;> omega
    unfold stepP
    cases hm : matchP ps ys with
    | nil => simp
    | cons e l =>
      rw [hm] at h
      have : l = [] := by
        cases l with
        | nil => rfl
        | cons _ _ => simp at h
      subst this
      simpa using one e
theorem match_pow {ps : List Place} (n : Nat) (hn : ps.length ≤ n) : ∀ body : List Atom, (matchP ps body).length ≤ n ^ body.length := by
  intro body
  suffices h : ∀ (zs ys : List Atom), (matchP ps ys).length ≤ n ^ ys.length → (matchP ps (ys ++ zs)).length ≤ n ^ (ys ++ zs).length by
    have := h body [] (Nat.le_refl _)
    simpa using this
  intro zs
  induction zs with
  | nil => intro ys h; rwa [List.append_nil]
  | cons z zs ih =>
    intro ys h
    have e : ys ++ z :: zs = (ys ++ [z]) ++ zs := by simp
    rw [e]
    refine ih _ ?_
    rw [matchP_snoc, List.length_append, List.length_singleton, Nat.pow_succ]
    have : ∀ l : List Ent, (stepP ps l z).length ≤ l.length * n := fun l => by
      induction l with
      | nil => simp [stepP]
      | cons e l ih =>
        have h1 := List.length_filterMap_le (tryP z e) ps
        show ((e :: l).flatMap fun e => ps.filterMap (tryP z e)).length ≤ _
        rw [List.flatMap_cons, List.length_append, List.length_cons, Nat.succ_mul]
        have : (stepP ps l z).length = (l.flatMap fun e => ps.filterMap (tryP z e)).length := rfl
        omega
    exact Nat.le_trans (this _) (Nat.mul_le_mul_right _ h)
theorem SceneOk.sz {n : Nat} {s : List Fact} {q : Quest} {w : World} (h : SceneOk n s q w) (hn : n ≤ 100) : QSz s q.joins := by
  have hnd : (s.map Fact.pl).Nodup := by
    obtain ⟨fs, rfl⟩ := h.st
    exact store_nd fs
  have fit : ∀ j ∈ q.joins, ∀ a ∈ j.body, ∀ f ∈ s, f.pl.name = a.name → a.ts.length = f.pl.row.length := fun j hj a ha f hf e => by
    obtain ⟨t1, m1, n1, l1⟩ := ((h.qj j hj).at_ a ha).tab
    obtain ⟨t2, m2, n2, l2⟩ := (h.fs f hf).tab
    have := table_uniq h.wo.nd m1 m2 (by rw [← n1, ← e, n2])
    subst this
    omega
  refine ⟨by have := h.len; omega, fun f hf => by have := h.wo.rwl (h.fs f hf); omega, by have := h.ql; omega, fun j hj => ?_, fun j hj a ha => ?_, fun j hj k => ?_, fit⟩
  · rcases (h.qj j hj).len with ⟨h1, _⟩ | ⟨_, h2, _⟩ <;> omega
  · have := h.wo.tsl ((h.qj j hj).at_ a ha); omega
  · rcases (h.qj j hj).len with ⟨h1, h2⟩ | ⟨h1, _, _⟩
    · have h3 := match_pow (ps := s.map Fact.pl) 6 (by simpa using h2) (j.body.take k)
      have h4 : (j.body.take k).length ≤ 3 := by simp; omega
      have h5 : 6 ^ (j.body.take k).length ≤ 6 ^ 3 := Nat.pow_le_pow_right (by decide) h4
      omega
    · refine Nat.le_trans (ground_len hnd (fun a ha => ?_) fun a ha p hp e => ?_) (by decide)
      · obtain ⟨f, hf, rfl⟩ := h1.2 a (List.mem_of_mem_take ha)
        exact ⟨f.pl, List.mem_map.mpr ⟨f, hf, rfl⟩, rfl⟩
      · obtain ⟨f, hf, rfl⟩ := List.mem_map.mp hp
        exact fit j hj a (List.mem_of_mem_take ha) f hf e
/-! large scenes -/
def LargeSp (C : Cal) : Prop := ∀ (ns : List Int), ∃ i : (List Fact × Quest × World) × List Int, SceneOk 20 i.1.1 i.1.2.1 i.1.2.2 ∧ C "_law_large_scene" [dr ns] = some (.fr (sceneD i.1.1 i.1.2.1 i.1.2.2), [dr i.2])
theorem SceneOk.up {n m : Nat} {s : List Fact} {q : Quest} {w : World} (h : SceneOk n s q w) (g : n ≤ m) : SceneOk m s q w := ⟨h.wo, h.st, by have := h.len; omega, h.fs, h.qw, h.ql, h.qj⟩
theorem large_run (hT : TakeOk C) (hSc : SceneSp C) (hD : DenseSp C) (hS : LStoreOk C) (hG : GroundSp C) (ns : List Int) : ∃ i : (List Fact × Quest × World) × List Int, SceneOk 20 i.1.1 i.1.2.1 i.1.2.2 ∧ runF C Lb.f__law_large_scene [dr ns] = some (.fr (sceneD i.1.1 i.1.2.1 i.1.2.2), [dr i.2]) := by
  refine ret_of fun Z hZ => ?_
  rw [runF_wp]
  obtain ⟨⟨⟨s, q, w⟩, n1⟩, h, e1⟩ := hSc ns
  simp only at h e1
  have hT4 := hT n1 4 (by decide)
  have z0 := hZ ((s, q, w), n1.dropLast) (h.up (by decide))
  by_cases c : tk n1 4 = 1
  · obtain ⟨⟨fs, n2⟩, ⟨f1, f2⟩, e2⟩ := hD n1.dropLast .imm w q.joins 14 (.inl rfl) h.wo (fun j hj => (h.qj j hj).at_) (fun j hj => by rcases (h.qj j hj).len with ⟨h1, _⟩ | ⟨_, h2, _⟩ <;> omega) (by have := h.ql; omega) (by decide) (by decide)
    simp only at f1 f2 e2
    have hall : ∀ f ∈ fs ++ s, FactOk w f := fun f hf => by
      rcases List.mem_append.mp hf with hf | hf
      · exact f2 f hf
      · exact h.fs f hf
    have hl : (fs ++ s).length ≤ 20 := by have := h.len; simp; omega
    have e3 := hS (fs ++ s) (by omega) (fun f hf => by have := h.wo.rwl (hall f hf); omega)
    have hsl := store_len (fs ++ s)
    have hsf : ∀ f ∈ storeOf (fs ++ s), FactOk w f := fun f hf => hall f (store_sub hf)
    rw [List.map_append] at e3
    have hl2 : fs.length + s.length ≤ 16777216 := by simp at hl; omega
    by_cases c2 : 0 < (storeOf (fs ++ s)).length
    · obtain ⟨⟨g, n3⟩, ⟨g1, g2, g3⟩, e4⟩ := hG n2 (storeOf (fs ++ s)) (List.length_pos_iff.mp c2) (by omega) fun f hf => h.wo.rwl (hsf f hf)
      simp only at g1 g2 g3 e4
      have := hZ ((storeOf (fs ++ s), g, w), n3) ⟨h.wo, ⟨_, rfl⟩, by simp only; omega, hsf, g1, by simp only; omega, fun j hj => by
        obtain ⟨k1, k2, k3⟩ := g3 j hj
        exact ⟨k1.1, fun a ha => by
          obtain ⟨f, hf, rfl⟩ := k1.2 a ha
          exact ground_atom hsf hf, .inr ⟨k1, k2, k3⟩⟩⟩
      simp [Lb.f__law_large_scene, Lb.b__law_large_scene, e1, hT4, c, e2, e3, c2, e4, line, hl2]
      exact this
    · have := hZ ((s, q, w), n2) (h.up (by decide))
      simp [Lb.f__law_large_scene, Lb.b__law_large_scene, e1, hT4, c, e2, e3, c2, line, hl2]
      exact this
  · simp [Lb.f__law_large_scene, Lb.b__law_large_scene, e1, hT4, c]
    exact z0
end RC.P
end RP23
section RP24
set_option Elab.async false
set_option linter.all false
set_option maxRecDepth 100000
set_option autoImplicit false
set_option maxHeartbeats 4000000
/-! RP24: levels of the lots -/
namespace RC.P
open PySem SrtO
/-- lots of the program -/
structure LtT (T : Tab) : Prop where
  vkey : T.lookup "value_key" = some Lb.f_value_key
  rkey : T.lookup "row_key" = some Lb.f_row_key
  pkey : T.lookup "place_key" = some Lb.f_place_key
  lkey : T.lookup "lot_key" = some Lb.f_lot_key
  ord : T.lookup "ordered_places" = some Lb.f_ordered_places
  has : T.lookup "has_all" = some Lb.f_has_all
  small : T.lookup "smallest_of" = some Lb.f_smallest_of
  bound : T.lookup "bound" = some Lb.f_bound
  lotsj : T.lookup "lots_of_join" = some Lb.f_lots_of_join
  slots : T.lookup "smallest_lots" = some Lb.f_smallest_lots
section
variable {T : Tab} (h : LtT T) (n : Nat)
include h
theorem LtT.vkeyL : VKeyOk (callN T (n + 1)) := fun v => by rw [callN_fn h.vkey]; exact vkey_run v
theorem LtT.rkeyL : RKeyOk (callN T (n + 2)) := fun r a => by rw [callN_fn h.rkey]; exact rkey_run (h.vkeyL n) r a
theorem LtT.pkeyL : QkOk (callN T (n + 3)) := fun d p a b c => by rw [callN_fn h.pkey]; exact qk_run (h.rkeyL n) d p a b c
theorem LtT.lkeyL : LqOk (callN T (n + 4)) := fun l a b => by rw [callN_fn h.lkey]; exact lq_run (h.pkeyL n) l a b
theorem LtT.ordL : OrdOk (callN T (n + 4)) := fun k d ps a b c e => by rw [callN_fn h.ord]; exact ord_run (h.pkeyL n) k d ps a b c e
theorem LtT.hasL : HasOk (callN T (n + 1)) := fun k j d e a b x y z u v => by rw [callN_fn h.has]; exact has_run k j d e a b x y z u v
theorem LtT.smallL : SmallOk (callN T (n + 5)) := fun k L a b c => by rw [callN_fn h.small]; exact small_run (h.hasL (n + 3)) (h.lkeyL n) k L a b c
theorem LtT.boundL : BoundOk (callN T (n + 1)) := fun ts r m a => by rw [callN_fn h.bound]; exact bound_run ts r m a
theorem LtT.lotsjL : LotsJOk (callN T (n + 5)) := fun s j a b c d e => by rw [callN_fn h.lotsj]; exact lotsJ_run (h.boundL (n + 3)) (h.ordL n) s j a b c d e
theorem LtT.slotsL : SLotsOk (callN T (n + 6)) := fun s q a => by rw [callN_fn h.slots]; exact slots_run (h.lotsjL n) (h.smallL n) s q a
end
/-- the law's own lots -/
structure LlT (T : Tab) : Prop where
  put : T.lookup "_law_put" = some Lb.f__law_put
  grown : T.lookup "_law_grown" = some Lb.f__law_grown
  vals : T.lookup "_law_valuations" = some Lb.f__law_valuations
  within : T.lookup "_law_within" = some Lb.f__law_within
  lkey : T.lookup "_law_lot_key" = some Lb.f__law_lot_key
  least : T.lookup "_law_least" = some Lb.f__law_least
  lots : T.lookup "_law_lots" = some Lb.f__law_lots
section
variable {T : Tab} (h : LlT T) (dr : DrT T) (n : Nat)
include h
theorem LlT.putL : LPutOk (callN T (n + 1)) := fun k t m a => by rw [callN_fn h.put]; exact lput_run k t m a
theorem LlT.grownL : LGrownOk (callN T (n + 2)) := fun ts r m a b => by rw [callN_fn h.grown]; exact lgrown_run (h.putL n) ts r m a b
theorem LlT.valsL : LValsOk (callN T (n + 3)) := fun k d ps j a b c e f g => by rw [callN_fn h.vals]; exact lvals_run (h.grownL n) k d ps j a b c e f g
theorem LlT.withinL : LWithinOk (callN T (n + 1)) := fun a b c => by rw [callN_fn h.within]; exact lwithin_run a b c
include dr
theorem LlT.lkeyL : LLotKeyOk (callN T (n + 4)) := fun l a b => by rw [callN_fn h.lkey]; exact llotkey_run (dr.plkeyL n) l a b
theorem LlT.leastL : LLeastOk (callN T (n + 5)) := fun k L a b c => by rw [callN_fn h.least]; exact lleast_run (h.withinL (n + 3)) (h.lkeyL dr n) k L a b c
theorem LlT.lotsL : LLotsOk (callN T (n + 6)) := fun s q a => by rw [callN_fn h.lots]; exact llots_run (h.valsL (n + 2)) (h.putL (n + 4)) (dr.plkeyL (n + 2)) (h.leastL dr n) s q a
end
theorem DrT.largeL {T : Tab} (h : DrT T) (hf : T.lookup "_law_large_scene" = some Lb.f__law_large_scene) (n : Nat) : LargeSp (callN T (n + 8)) := fun ns => by rw [callN_fn hf]; exact large_run (h.takeL (n + 6)) (h.sceneL n) (h.denseL (n + 3)) (h.storeL (n + 3)) (h.groundL (n + 4)) ns
/-- data of the lots, for _law_same -/
theorem short_wd (w : Wd) : Short (wdD w) := .str _
theorem short_val (v : Val) : Short v.d := by
  cases v with
  | int i => exact .int i
  | str w => exact .str _
theorem short_map {α : Type} {f : α → D} {l : List α} (h : ∀ x ∈ l, Short (f x)) : ∀ d ∈ l.map f, Short d := fun d hd => by
  obtain ⟨x, hx, rfl⟩ := List.mem_map.mp hd
  exact h x hx
theorem short_place {p : Place} (h : p.row.length ≤ 1000) : Short p.d := .tup _ (by show (2 : Nat) ≤ _; decide) fun d hd => by
  simp at hd
  rcases hd with rfl | rfl
  · exact .str _
  · exact .tup _ (by rw [List.length_map]; omega) (short_map fun v _ => short_val v)
theorem short_lot {l : Lot} (h : RowsOk l) (hl : l.length ≤ 1000) : Short (lotD l) := .tup _ (by rw [List.length_map]; omega) (short_map fun p hp => short_place (h p hp))
theorem short_lots {L : List Lot} (h : ∀ l ∈ L, RowsOk l ∧ l.length ≤ 1000) (hl : L.length ≤ 1000000) : Short (lotsD L) := .tup _ (by rw [List.length_map]; omega) (short_map fun l hm => short_lot (h l hm).1 (h l hm).2)
theorem kn_lots : Kn lotsD 4 := kn_lot.tup
theorem small_ok {s : List Fact} {js : List Join} (h : QSz s js) : (∀ l ∈ smallOf (allLots s js), RowsOk l ∧ l.length ≤ 1000) ∧ (smallOf (allLots s js)).length ≤ 100000 := by
  have hm : ∀ l ∈ smallOf (allLots s js), l ∈ allLots s js := fun l hl => by
    have := sortK_mem.mp hl
    exact sortK_mem.mp ((greedy_len _).2 l this)
  refine ⟨fun l hl => lots_ok h (hm l hl), ?_⟩
  have l1 := allLots_len h (ys := js) fun x hx => hx
  have l2 := (greedy_len (sortK lenD (allLots s js))).1
  rw [sortK_len] at l2
  have l3 : (smallOf (allLots s js)).length = (greedy (sortK lenD (allLots s js))).length := by
    unfold smallOf
    rw [sortK_len]
  have := h.jl
  unfold allLots at l2
  unfold allLots at *
  omega
end RC.P
end RP24
section RK74
set_option Elab.async false
set_option linter.all false
set_option maxRecDepth 100000
set_option autoImplicit false
set_option maxHeartbeats 4000000
/-! RK74: the law k74 -/
namespace RC.P
open PySem SrtO
variable {C : Cal}
/-! without a place -/
abbrev noP (p : Place) (e : Ent) : Bool := decide (p ∉ e.2)
theorem step_without (ps : List Place) (p : Place) (a : Atom) : ∀ l : List Ent, stepP (ps.filter fun x => decide (x ≠ p)) (l.filter (noP p)) a = (stepP ps l a).filter (noP p)
  | [] => rfl
  | e :: l => by
    have ih := step_without ps p a l
    have one : ∀ (xs : List Place), p ∉ e.2 → (xs.filter fun x => decide (x ≠ p)).filterMap (tryP a e) = (xs.filterMap (tryP a e)).filter (noP p) := by
      intro xs hp
      induction xs with
      | nil => rfl
      | cons x xs ihx =>
        have hx : ∀ e', tryP a e x = some e' → e'.2 = e.2 ++ [x] := fun e' h => by
          unfold tryP at h
          split at h
          · obtain ⟨m, _, rfl⟩ := Option.map_eq_some_iff.mp h; rfl
          · cases h
        by_cases c : x = p
        · have : decide (x ≠ p) = false := by simpa using c
          rw [List.filter_cons_of_neg (by simpa using c), ihx, List.filterMap_cons]
          cases ht : tryP a e x with
          | none => rfl
          | some e' =>
            have : ¬ noP p e' = true := by
              unfold noP
              rw [hx e' ht, c]; simp
            show _ = (e' :: xs.filterMap (tryP a e)).filter (noP p)
            rw [List.filter_cons_of_neg this]
        · rw [List.filter_cons_of_pos (by simpa using c), List.filterMap_cons, List.filterMap_cons, ihx]
          cases ht : tryP a e x with
          | none => rfl
          | some e' =>
            have : noP p e' = true := by
              unfold noP
              rw [hx e' ht]
              simp only [decide_eq_true_eq, List.mem_append, List.mem_singleton, not_or]
              exact ⟨hp, fun z => c z.symm⟩
            show _ = (e' :: xs.filterMap (tryP a e)).filter (noP p)
            rw [List.filter_cons_of_pos this]
    have none : ∀ (xs : List Place), p ∈ e.2 → (xs.filterMap (tryP a e)).filter (noP p) = [] := by
      intro xs hp
      rw [List.filter_eq_nil_iff]
      intro e' he
      obtain ⟨x, _, h⟩ := List.mem_filterMap.mp he
      unfold tryP at h
      split at h
      · obtain ⟨m, _, rfl⟩ := Option.map_eq_some_iff.mp h
        simp [hp]
      · cases h
    have split1 : stepP ps (e :: l) a = ps.filterMap (tryP a e) ++ stepP ps l a := rfl
    rw [split1, List.filter_append, ← ih]
    by_cases hp : p ∈ e.2
    · rw [List.filter_cons_of_neg (by simpa using hp), none ps hp, List.nil_append]
    · rw [List.filter_cons_of_pos (by simpa using hp), ← one ps hp]
      rfl
theorem match_without (ps : List Place) (p : Place) : ∀ body : List Atom, matchP (ps.filter fun x => decide (x ≠ p)) body = (matchP ps body).filter (noP p) := by
  intro body
  suffices h : ∀ (zs ys : List Atom), matchP (ps.filter fun x => decide (x ≠ p)) ys = (matchP ps ys).filter (noP p) → matchP (ps.filter fun x => decide (x ≠ p)) (ys ++ zs) = (matchP ps (ys ++ zs)).filter (noP p) by
    have := h body [] rfl
    simpa using this
  intro zs
  induction zs with
  | nil => intro ys h; rwa [List.append_nil]
  | cons z zs ih =>
    intro ys h
    have e : ys ++ z :: zs = (ys ++ [z]) ++ zs := by simp
    rw [e]
    refine ih _ ?_
    rw [matchP_snoc, matchP_snoc, h, step_without]
abbrev offP (p : Place) (l : Lot) : Bool := decide (p ∉ l)
theorem lotsJ_without (ps : List Place) (p : Place) (j : Join) : lotsJ (ps.filter fun x => decide (x ≠ p)) j = (lotsJ ps j).filter (offP p) := by
  unfold lotsJ
  rw [match_without, List.filter_map]
  congr 1
  refine List.filter_congr fun e _ => ?_
  show decide (p ∉ e.2) = decide (p ∉ ordP e.2)
  rw [decide_eq_decide, ord_mem]
def offS (s : List Fact) (p : Place) : List Fact := s.filter fun f => decide (f.pl ≠ p)
theorem off_pl (s : List Fact) (p : Place) : (offS s p).map Fact.pl = (s.map Fact.pl).filter fun x => decide (x ≠ p) := by
  unfold offS
  rw [List.filter_map]; rfl
theorem allLots_without (s : List Fact) (p : Place) (js : List Join) : allLots (offS s p) js = (allLots s js).filter (offP p) := by
  unfold allLots
  rw [off_pl, List.filter_flatMap]
  congr 1
  funext j
  exact lotsJ_without _ p j
theorem QSz.off {s : List Fact} {js : List Join} (h : QSz s js) (p : Place) : QSz (offS s p) js := by
  have hs : ∀ f ∈ offS s p, f ∈ s := fun f hf => (List.mem_filter.mp hf).1
  refine ⟨Nat.le_trans (List.length_filter_le _ _) h.sl, fun f hf => h.rw_ f (hs f hf), h.jl, h.bl, h.tl, fun j hj k => ?_, fun j hj a ha f hf => h.rl j hj a ha f (hs f hf)⟩
  rw [off_pl, match_without]
  exact Nat.le_trans (List.length_filter_le _ _) (h.ml j hj k)
theorem QSz.same {s t : List Fact} {js : List Join} (h : QSz s js) (e : t.map Fact.pl = s.map Fact.pl) : QSz t js := by
  have hm : ∀ f ∈ t, ∃ g ∈ s, g.pl = f.pl := fun f hf => by
    have : f.pl ∈ s.map Fact.pl := by rw [← e]; exact List.mem_map.mpr ⟨f, hf, rfl⟩
    obtain ⟨g, hg, e⟩ := List.mem_map.mp this
    exact ⟨g, hg, e⟩
  have hl : t.length = s.length := by
    have := congrArg List.length e
    simpa using this
  refine ⟨by rw [hl]; exact h.sl, fun f hf => ?_, h.jl, h.bl, h.tl, fun j hj k => by rw [e]; exact h.ml j hj k, fun j hj a ha f hf hn => ?_⟩
  · obtain ⟨g, hg, e⟩ := hm f hf
    rw [← e]; exact h.rw_ g hg
  · obtain ⟨g, hg, e⟩ := hm f hf
    rw [← e] at hn ⊢
    exact h.rl j hj a ha g hg hn
theorem allLots_same {s t : List Fact} (js : List Join) (e : t.map Fact.pl = s.map Fact.pl) : allLots t js = allLots s js := by
  unfold allLots
  rw [e]
theorem small_mem' {L : List Lot} (hc : ∀ l ∈ L, Can l) {x : Lot} : x ∈ smallOf L ↔ x ∈ L ∧ ∀ o ∈ L, hasB x o = true → o = x := by
  unfold smallOf
  rw [sortK_mem, small_mem hc]
theorem small_nd {L : List Lot} (hc : ∀ l ∈ L, Can l) : (smallOf L).Nodup := sortK_nd (greedy_nd L hc)
theorem small_srtd (L : List Lot) : Srtd (fun a b => ltD (lpD a) (lpD b)) (smallOf L) := by
  unfold smallOf
  rw [sortK_alike alike_l]
  exact sortK_srtd _ _
/-- THE PLAIN LAW -/
theorem small_off {L : List Lot} (hc : ∀ l ∈ L, Can l) (p : Place) : smallOf (L.filter (offP p)) = (smallOf L).filter (offP p) := by
  have hc2 : ∀ l ∈ L.filter (offP p), Can l := fun l hl => hc l (List.mem_filter.mp hl).1
  refine srtd_eq inj_l (small_srtd _) (List.Pairwise.sublist List.filter_sublist (small_srtd L)) (small_nd hc2) (List.Nodup.sublist List.filter_sublist (small_nd hc)) fun x => ?_
  rw [small_mem' hc2, List.mem_filter, List.mem_filter, small_mem' hc]
  constructor
  · rintro ⟨⟨h1, h2⟩, h3⟩
    refine ⟨⟨h1, fun o ho hx => h3 o (List.mem_filter.mpr ⟨ho, ?_⟩) hx⟩, h2⟩
    have h2 : p ∉ x := by simpa using h2
    have : p ∉ o := fun z => h2 (hasB_iff.mp hx p z)
    simpa using this
  · rintro ⟨⟨h1, h2⟩, h3⟩
    exact ⟨⟨h1, h3⟩, fun o ho hx => h2 o (List.mem_filter.mp ho).1 hx⟩
def LMissOk (C : Cal) : Prop := ∀ (k : Kd) (L : List Lot) (p : Place), Rd k → L.length ≤ 1000000 → C "_law_missing" [en k (.list (L.map lotD)), im p.d] = some (.fr (.list ((L.filter (offP p)).map lotD)), [en k (.list (L.map lotD)), im p.d])
theorem lmiss_run (k : Kd) (L : List Lot) (p : Place) (hk : Rd k) (hl : L.length ≤ 1000000) : runF C Lb.f__law_missing [en k (.list (L.map lotD)), im p.d] = some (.fr (.list ((L.filter (offP p)).map lotD)), [en k (.list (L.map lotD)), im p.d]) := by
  refine eq_of_cSat ?_
  rw [runF_wp]
  rcases hk with rfl | rfl
  all_goals
    simp [Lb.f__law_missing, Lb.b__law_missing]
    refine wp_compF (offP p) lotD (by simp [line]; omega) (fun l hl => ?_) ?_
    · by_cases c : p ∈ l <;> simp [c]
    · simp
theorem lmiss_L {T : Tab} (hf : T.lookup "_law_missing" = some Lb.f__law_missing) (n : Nat) : LMissOk (callN T (n + 1)) := fun k L p a b => by rw [callN_fn hf]; exact lmiss_run k L p a b
theorem law74_run (hD : DrawsSp C) (hF : FullSp C) (hS : SLotsOk C) (hW : LLotsOk C) (hM : LMissOk C) (hWi : LWithoutOk C) (hT : TurnedSp C) (hE : ∀ (s : List Fact) (js : List Join), QSz s js → SameAt C (lotsD (smallOf (allLots s js)))) (xs : List Int) (hl : xs.length ≤ 63) : ∃ os, runF C Lb.f_law_k74 [im (.list (xs.map .int))] = some (.imm (.bool true), os) := by
  refine ⟨[im (.list (xs.map .int))], eq_of_cSat ?_⟩
  rw [runF_wp]
  obtain ⟨n0, e1⟩ := hD xs 220 (by omega) (by decide) (by decide)
  obtain ⟨⟨⟨s, q, w⟩, n1⟩, ⟨h1, _⟩, e2⟩ := hF n0
  simp only at h1 e2
  have z := h1.sz (by decide)
  have hsl := z.sl
  obtain ⟨⟨t, n2⟩, ⟨t1, t2⟩, e3⟩ := hT n1 s hsl
  simp only at t1 t2 e3
  have e4 := hW s q z
  rw [least_dedup, ← small_least fun l hl => lots_can hl] at e4
  have e5 := hS t q (z.same t1)
  rw [allLots_same q.joins t1] at e5
  have e6 : C "_law_same" [im (lotsD (smallOf (allLots s q.joins))), im (lotsD (smallOf (allLots s q.joins)))] = _ := hE s q.joins z
  have tl : ∀ L : List Lot, bltD .tuple [.list (L.map lotD)] = some (.imm (lotsD L)) := fun _ => rfl
  simp [-blt_tupl, tl, Lb.f_law_k74, Lb.b_law_k74, e1, e2, e3, e4, e5, e6]
  refine wp_forS (σ := S1 × S1) (fun y => [some (im (.list (xs.map .int))), some ⟨.own, false, drD n2⟩, some ⟨.own, false, sceneD s q w⟩, some ⟨.own, false, .list ((smallOf (allLots s q.joins)).map lotD)⟩, y.1.1, y.2.1]) (fun _ _ => True) (s1n, s1n) trivial ?_ ?_
  · rintro ys f zs ⟨⟨o4, h4⟩, ⟨o5, h5⟩⟩ hx _ Y hY
    have f1 := hM .bor (smallOf (allLots s q.joins)) f.pl (.inr rfl) (by have := (small_ok z).2; omega)
    have f2 : C "_law_without" [im (storeD s), im f.pl.d] = some (.imm (storeD (offS s f.pl)), [im (storeD s), im f.pl.d]) := hWi s f.pl hsl
    have f3 := hS (offS s f.pl) q (z.off f.pl)
    have f4 : C "_law_same" [im (lotsD (smallOf (allLots (offS s f.pl) q.joins))), im (lotsD (smallOf (allLots (offS s f.pl) q.joins)))] = _ := hE _ _ (z.off f.pl)
    rw [allLots_without, small_off fun l hl => lots_can hl] at f3 f4
    have fin := hY (⟨some (im f.d), rfl⟩, ⟨some (im (lotsD ((smallOf (allLots s q.joins)).filter (offP f.pl)))), rfl⟩) trivial
    generalize (smallOf (allLots s q.joins)).filter (offP f.pl) = M at *
    generalize smallOf (allLots s q.joins) = N at *
    simp [-blt_tupl, tl, h4, h5, f1, f2, f3, f4]
    exact fin
  · rintro ⟨⟨o4, h4⟩, ⟨o5, h5⟩⟩ _
    simp
end RC.P
end RK74
section T74
set_option Elab.async false
set_option linter.all false
set_option maxRecDepth 100000
set_option autoImplicit false
set_option maxHeartbeats 0
namespace RC.K74
open PySem PySem.Spec PyProof.Rows L2 RC
def top (i : Nat) : Stmt := PySem.Challenge.pw_rightchance_k74_lots_without_a_fact.main.body.getD i (.Pass ⟨0, 0, 0, 0⟩)
def e_value_key : DefE := ⟨"value_key", Lb.f_value_key, ["value"], defArgs (top 1), defBody (top 1), defScope (top 1)⟩
def e_row_key : DefE := ⟨"row_key", Lb.f_row_key, ["row", "value"], defArgs (top 2), defBody (top 2), defScope (top 2)⟩
def e_place_key : DefE := ⟨"place_key", Lb.f_place_key, ["place"], defArgs (top 4), defBody (top 4), defScope (top 4)⟩
def e_lot_key : DefE := ⟨"lot_key", Lb.f_lot_key, ["lot", "place"], defArgs (top 6), defBody (top 6), defScope (top 6)⟩
def e_ordered_places : DefE := ⟨"ordered_places", Lb.f_ordered_places, ["places", "found", "place"], defArgs (top 7), defBody (top 7), defScope (top 7)⟩
def e_has_all : DefE := ⟨"has_all", Lb.f_has_all, ["lot", "other", "place"], defArgs (top 8), defBody (top 8), defScope (top 8)⟩
def e_smallest_of : DefE := ⟨"smallest_of", Lb.f_smallest_of, ["lots", "found", "lot", "other"], defArgs (top 9), defBody (top 9), defScope (top 9)⟩
def e_bound : DefE := ⟨"bound", Lb.f_bound, ["terms", "row", "mapping", "grown", "term", "value"], defArgs (top 10), defBody (top 10), defScope (top 10)⟩
def e_lots_of_join : DefE := ⟨"lots_of_join", Lb.f_lots_of_join, ["store", "join", "found", "name", "terms", "grown", "mapping", "places", "fact", "more"], defArgs (top 11), defBody (top 11), defScope (top 11)⟩
def e_smallest_lots : DefE := ⟨"smallest_lots", Lb.f_smallest_lots, ["store", "question", "lots", "join"], defArgs (top 12), defBody (top 12), defScope (top 12)⟩
def e__law_draws : DefE := ⟨"_law_draws", Lb.f__law_draws, ["_law_script", "_law_many", "_law_cells", "_law_rest", "_law_draws_here", "_law_k", "_law_at", "_law_mixed", "_law_cell"], defArgs (top 14), defBody (top 14), defScope (top 14)⟩
def e__law_take : DefE := ⟨"_law_take", Lb.f__law_take, ["_law_draws_here", "_law_many"], defArgs (top 15), defBody (top 15), defScope (top 15)⟩
def e__law_pick : DefE := ⟨"_law_pick", Lb.f__law_pick, ["_law_draws_here", "_law_row"], defArgs (top 16), defBody (top 16), defScope (top 16)⟩
def e__law_same : DefE := ⟨"_law_same", Lb.f__law_same, ["_law_actual", "_law_due", "_law_k"], defArgs (top 17), defBody (top 17), defScope (top 17)⟩
def e__law_pool : DefE := ⟨"_law_pool", Lb.f__law_pool, ["_law_draws_here", "_law_many", "_law_pool_here", "_law_k", "_law_letters", "_law_word", "_law_j"], defArgs (top 18), defBody (top 18), defScope (top 18)⟩
def e__law_values : DefE := ⟨"_law_values", Lb.f__law_values, ["_law_draws_here", "_law_words", "_law_low", "_law_values_here"], defArgs (top 19), defBody (top 19), defScope (top 19)⟩
def e__law_value : DefE := ⟨"_law_value", Lb.f__law_value, ["_law_draws_here", "_law_values_here"], defArgs (top 20), defBody (top 20), defScope (top 20)⟩
def e__law_key : DefE := ⟨"_law_key", Lb.f__law_key, ["_law_value_here"], defArgs (top 21), defBody (top 21), defScope (top 21)⟩
def e__law_row_key : DefE := ⟨"_law_row_key", Lb.f__law_row_key, ["_law_row", "_law_value_here"], defArgs (top 22), defBody (top 22), defScope (top 22)⟩
def e__law_share : DefE := ⟨"_law_share", Lb.f__law_share, ["_law_n", "_law_d", "_law_a", "_law_b", "_law_k", "_law_rest"], defArgs (top 23), defBody (top 23), defScope (top 23)⟩
def e__law_chance : DefE := ⟨"_law_chance", Lb.f__law_chance, ["_law_draws_here", "_law_d"], defArgs (top 24), defBody (top 24), defScope (top 24)⟩
def e__law_world : DefE := ⟨"_law_world", Lb.f__law_world, ["_law_draws_here", "_law_pool_here", "_law_schema", "_law_name"], defArgs (top 25), defBody (top 25), defScope (top 25)⟩
def e__law_table : DefE := ⟨"_law_table", Lb.f__law_table, ["_law_schema", "_law_name", "_law_table_here"], defArgs (top 26), defBody (top 26), defScope (top 26)⟩
def e__law_term : DefE := ⟨"_law_term", Lb.f__law_term, ["_law_draws_here", "_law_world_here"], defArgs (top 27), defBody (top 27), defScope (top 27)⟩
def e__law_atom : DefE := ⟨"_law_atom", Lb.f__law_atom, ["_law_draws_here", "_law_world_here", "_law_table_here", "_law_k"], defArgs (top 28), defBody (top 28), defScope (top 28)⟩
def e__law_join : DefE := ⟨"_law_join", Lb.f__law_join, ["_law_draws_here", "_law_world_here", "_law_width", "_law_body", "_law_k", "_law_terms", "_law_atom_here", "_law_term_here"], defArgs (top 29), defBody (top 29), defScope (top 29)⟩
def e__law_question : DefE := ⟨"_law_question", Lb.f__law_question, ["_law_draws_here", "_law_world_here", "_law_width", "_law_many", "_law_k"], defArgs (top 30), defBody (top 30), defScope (top 30)⟩
def e__law_put : DefE := ⟨"_law_put", Lb.f__law_put, ["_law_term_here", "_law_mapping", "_law_pair"], defArgs (top 31), defBody (top 31), defScope (top 31)⟩
def e__law_place_key : DefE := ⟨"_law_place_key", Lb.f__law_place_key, ["_law_place"], defArgs (top 32), defBody (top 32), defScope (top 32)⟩
def e__law_store : DefE := ⟨"_law_store", Lb.f__law_store, ["_law_facts_here", "_law_found", "_law_places", "_law_fact"], defArgs (top 33), defBody (top 33), defScope (top 33)⟩
def e__law_facts : DefE := ⟨"_law_facts", Lb.f__law_facts, ["_law_draws_here", "_law_world_here", "_law_joins", "_law_many", "_law_atoms", "_law_join_here", "_law_facts_here", "_law_k", "_law_table_here", "_law_row", "_law_atom_here", "_law_j", "_law_term_here"], defArgs (top 34), defBody (top 34), defScope (top 34)⟩
def e__law_grown : DefE := ⟨"_law_grown", Lb.f__law_grown, ["_law_terms", "_law_row", "_law_mapping", "_law_k", "_law_term_here"], defArgs (top 35), defBody (top 35), defScope (top 35)⟩
def e__law_valuations : DefE := ⟨"_law_valuations", Lb.f__law_valuations, ["_law_places", "_law_join_here", "_law_found", "_law_atom_here", "_law_grown_here", "_law_mapping", "_law_place", "_law_more"], defArgs (top 36), defBody (top 36), defScope (top 36)⟩
def e__law_dense : DefE := ⟨"_law_dense", Lb.f__law_dense, ["_law_draws_here", "_law_world_here", "_law_joins", "_law_many", "_law_facts_here", "_law_k"], defArgs (top 37), defBody (top 37), defScope (top 37)⟩
def e__law_ground : DefE := ⟨"_law_ground", Lb.f__law_ground, ["_law_draws_here", "_law_store_here", "_law_large", "_law_joins", "_law_k", "_law_body", "_law_many", "_law_j", "_law_place", "_law_value_here"], defArgs (top 38), defBody (top 38), defScope (top 38)⟩
def e__law_varied_world : DefE := ⟨"_law_varied_world", Lb.f__law_varied_world, ["_law_draws_here", "_law_world_here"], defArgs (top 39), defBody (top 39), defScope (top 39)⟩
def e__law_scene : DefE := ⟨"_law_scene", Lb.f__law_scene, ["_law_draws_here", "_law_world_here", "_law_question_here", "_law_many", "_law_store_here", "_law_others"], defArgs (top 40), defBody (top 40), defScope (top 40)⟩
def e__law_full_scene : DefE := ⟨"_law_full_scene", Lb.f__law_full_scene, ["_law_draws_here", "_law_scene_here", "_law_table_here", "_law_row", "_law_k"], defArgs (top 41), defBody (top 41), defScope (top 41)⟩
def e__law_without : DefE := ⟨"_law_without", Lb.f__law_without, ["_law_store_here", "_law_place", "_law_fact"], defArgs (top 42), defBody (top 42), defScope (top 42)⟩
def e__law_turned : DefE := ⟨"_law_turned", Lb.f__law_turned, ["_law_draws_here", "_law_store_here", "_law_facts_here", "_law_k", "_law_n", "_law_fact"], defArgs (top 43), defBody (top 43), defScope (top 43)⟩
def e__law_within : DefE := ⟨"_law_within", Lb.f__law_within, ["_law_lot", "_law_other", "_law_place"], defArgs (top 44), defBody (top 44), defScope (top 44)⟩
def e__law_lot_key : DefE := ⟨"_law_lot_key", Lb.f__law_lot_key, ["_law_lot", "_law_place"], defArgs (top 45), defBody (top 45), defScope (top 45)⟩
def e__law_least : DefE := ⟨"_law_least", Lb.f__law_least, ["_law_lots_here", "_law_found", "_law_lot", "_law_least_here", "_law_other"], defArgs (top 46), defBody (top 46), defScope (top 46)⟩
def e__law_lots : DefE := ⟨"_law_lots", Lb.f__law_lots, ["_law_store_here", "_law_question_here", "_law_places", "_law_found", "_law_join_here", "_law_mapping", "_law_lot", "_law_atom_here", "_law_place", "_law_fact", "_law_term_here"], defArgs (top 47), defBody (top 47), defScope (top 47)⟩
def e__law_missing : DefE := ⟨"_law_missing", Lb.f__law_missing, ["_law_lots_here", "_law_place", "_law_lot"], defArgs (top 48), defBody (top 48), defScope (top 48)⟩
def e_law : DefE := ⟨"law", Lb.f_law_k74, ["_law_script", "_law_draws_here", "_law_scene_here", "_law_lots_here", "_law_fact", "_law_due"], defArgs (top 49), defBody (top 49), defScope (top 49)⟩
def defs : List DefE := ([e_value_key, e_row_key, e_place_key, e_lot_key, e_ordered_places, e_has_all, e_smallest_of, e_bound, e_lots_of_join, e_smallest_lots, e__law_draws, e__law_take, e__law_pick, e__law_same, e__law_pool, e__law_values, e__law_value, e__law_key, e__law_row_key, e__law_share, e__law_chance, e__law_world, e__law_table, e__law_term, e__law_atom, e__law_join, e__law_question, e__law_put, e__law_place_key, e__law_store] : List DefE) ++ ([e__law_facts, e__law_grown, e__law_valuations, e__law_dense, e__law_ground, e__law_varied_world, e__law_scene, e__law_full_scene, e__law_without, e__law_turned, e__law_within, e__law_lot_key, e__law_least, e__law_lots, e__law_missing, e_law] : List DefE)
def shd : Shd := ⟨defs.map (·.name), ["len", "range", "int", "tuple", "list", "sorted", "isinstance", "str", "bool", "abs", "any", "all", "zip", "set", "dict", "enumerate"], false⟩
end RC.K74
end T74
section H74
set_option Elab.async false
set_option linter.all false
set_option maxRecDepth 100000
set_option autoImplicit false
set_option maxHeartbeats 0
namespace RC.K74
open PySem PySem.Spec PyProof.Rows L2 RC
theorem bd_value_key : BindOk e_value_key := fun _ _ _ _ _ _ us hl => match us, hl with | [_], _ => rfl
theorem bd_row_key : BindOk e_row_key := fun _ _ _ _ _ _ us hl => match us, hl with | [_], _ => rfl
theorem bd_place_key : BindOk e_place_key := fun _ _ _ _ _ _ us hl => match us, hl with | [_], _ => rfl
theorem bd_lot_key : BindOk e_lot_key := fun _ _ _ _ _ _ us hl => match us, hl with | [_], _ => rfl
theorem bd_ordered_places : BindOk e_ordered_places := fun _ _ _ _ _ _ us hl => match us, hl with | [_], _ => rfl
theorem bd_has_all : BindOk e_has_all := fun _ _ _ _ _ _ us hl => match us, hl with | [_, _], _ => rfl
theorem bd_smallest_of : BindOk e_smallest_of := fun _ _ _ _ _ _ us hl => match us, hl with | [_], _ => rfl
theorem bd_bound : BindOk e_bound := fun _ _ _ _ _ _ us hl => match us, hl with | [_, _, _], _ => rfl
theorem bd_lots_of_join : BindOk e_lots_of_join := fun _ _ _ _ _ _ us hl => match us, hl with | [_, _], _ => rfl
theorem bd_smallest_lots : BindOk e_smallest_lots := fun _ _ _ _ _ _ us hl => match us, hl with | [_, _], _ => rfl
theorem bd__law_draws : BindOk e__law_draws := fun _ _ _ _ _ _ us hl => match us, hl with | [_, _], _ => rfl
theorem bd__law_take : BindOk e__law_take := fun _ _ _ _ _ _ us hl => match us, hl with | [_, _], _ => rfl
theorem bd__law_pick : BindOk e__law_pick := fun _ _ _ _ _ _ us hl => match us, hl with | [_, _], _ => rfl
theorem bd__law_same : BindOk e__law_same := fun _ _ _ _ _ _ us hl => match us, hl with | [_, _], _ => rfl
theorem bd__law_pool : BindOk e__law_pool := fun _ _ _ _ _ _ us hl => match us, hl with | [_, _], _ => rfl
theorem bd__law_values : BindOk e__law_values := fun _ _ _ _ _ _ us hl => match us, hl with | [_, _], _ => rfl
theorem bd__law_value : BindOk e__law_value := fun _ _ _ _ _ _ us hl => match us, hl with | [_, _], _ => rfl
theorem bd__law_key : BindOk e__law_key := fun _ _ _ _ _ _ us hl => match us, hl with | [_], _ => rfl
theorem bd__law_row_key : BindOk e__law_row_key := fun _ _ _ _ _ _ us hl => match us, hl with | [_], _ => rfl
theorem bd__law_share : BindOk e__law_share := fun _ _ _ _ _ _ us hl => match us, hl with | [_, _], _ => rfl
theorem bd__law_chance : BindOk e__law_chance := fun _ _ _ _ _ _ us hl => match us, hl with | [_], _ => rfl
theorem bd__law_world : BindOk e__law_world := fun _ _ _ _ _ _ us hl => match us, hl with | [_], _ => rfl
theorem bd__law_table : BindOk e__law_table := fun _ _ _ _ _ _ us hl => match us, hl with | [_, _], _ => rfl
theorem bd__law_term : BindOk e__law_term := fun _ _ _ _ _ _ us hl => match us, hl with | [_, _], _ => rfl
theorem bd__law_atom : BindOk e__law_atom := fun _ _ _ _ _ _ us hl => match us, hl with | [_, _, _], _ => rfl
theorem bd__law_join : BindOk e__law_join := fun _ _ _ _ _ _ us hl => match us, hl with | [_, _, _], _ => rfl
theorem bd__law_question : BindOk e__law_question := fun _ _ _ _ _ _ us hl => match us, hl with | [_, _, _], _ => rfl
theorem bd__law_put : BindOk e__law_put := fun _ _ _ _ _ _ us hl => match us, hl with | [_, _], _ => rfl
theorem bd__law_place_key : BindOk e__law_place_key := fun _ _ _ _ _ _ us hl => match us, hl with | [_], _ => rfl
theorem bd__law_store : BindOk e__law_store := fun _ _ _ _ _ _ us hl => match us, hl with | [_], _ => rfl
theorem bd__law_facts : BindOk e__law_facts := fun _ _ _ _ _ _ us hl => match us, hl with | [_, _, _, _], _ => rfl
theorem bd__law_grown : BindOk e__law_grown := fun _ _ _ _ _ _ us hl => match us, hl with | [_, _, _], _ => rfl
theorem bd__law_valuations : BindOk e__law_valuations := fun _ _ _ _ _ _ us hl => match us, hl with | [_, _], _ => rfl
theorem bd__law_dense : BindOk e__law_dense := fun _ _ _ _ _ _ us hl => match us, hl with | [_, _, _, _], _ => rfl
theorem bd__law_ground : BindOk e__law_ground := fun _ _ _ _ _ _ us hl => match us, hl with | [_, _], _ => rfl
theorem bd__law_varied_world : BindOk e__law_varied_world := fun _ _ _ _ _ _ us hl => match us, hl with | [_], _ => rfl
theorem bd__law_scene : BindOk e__law_scene := fun _ _ _ _ _ _ us hl => match us, hl with | [_], _ => rfl
theorem bd__law_full_scene : BindOk e__law_full_scene := fun _ _ _ _ _ _ us hl => match us, hl with | [_], _ => rfl
theorem bd__law_without : BindOk e__law_without := fun _ _ _ _ _ _ us hl => match us, hl with | [_, _], _ => rfl
theorem bd__law_turned : BindOk e__law_turned := fun _ _ _ _ _ _ us hl => match us, hl with | [_, _], _ => rfl
theorem bd__law_within : BindOk e__law_within := fun _ _ _ _ _ _ us hl => match us, hl with | [_, _], _ => rfl
theorem bd__law_lot_key : BindOk e__law_lot_key := fun _ _ _ _ _ _ us hl => match us, hl with | [_], _ => rfl
theorem bd__law_least : BindOk e__law_least := fun _ _ _ _ _ _ us hl => match us, hl with | [_], _ => rfl
theorem bd__law_lots : BindOk e__law_lots := fun _ _ _ _ _ _ us hl => match us, hl with | [_, _], _ => rfl
theorem bd__law_missing : BindOk e__law_missing := fun _ _ _ _ _ _ us hl => match us, hl with | [_, _], _ => rfl
theorem bd_law : BindOk e_law := fun _ _ _ _ _ _ us hl => match us, hl with | [_], _ => rfl
theorem bd : ∀ d, d ∈ defs → BindOk d := bind_mem (bind_app (show BindAll [e_value_key, e_row_key, e_place_key, e_lot_key, e_ordered_places, e_has_all, e_smallest_of, e_bound, e_lots_of_join, e_smallest_lots, e__law_draws, e__law_take, e__law_pick, e__law_same, e__law_pool, e__law_values, e__law_value, e__law_key, e__law_row_key, e__law_share, e__law_chance, e__law_world, e__law_table, e__law_term, e__law_atom, e__law_join, e__law_question, e__law_put, e__law_place_key, e__law_store] from ⟨bd_value_key, bd_row_key, bd_place_key, bd_lot_key, bd_ordered_places, bd_has_all, bd_smallest_of, bd_bound, bd_lots_of_join, bd_smallest_lots, bd__law_draws, bd__law_take, bd__law_pick, bd__law_same, bd__law_pool, bd__law_values, bd__law_value, bd__law_key, bd__law_row_key, bd__law_share, bd__law_chance, bd__law_world, bd__law_table, bd__law_term, bd__law_atom, bd__law_join, bd__law_question, bd__law_put, bd__law_place_key, bd__law_store, trivial⟩) (show BindAll [e__law_facts, e__law_grown, e__law_valuations, e__law_dense, e__law_ground, e__law_varied_world, e__law_scene, e__law_full_scene, e__law_without, e__law_turned, e__law_within, e__law_lot_key, e__law_least, e__law_lots, e__law_missing, e_law] from ⟨bd__law_facts, bd__law_grown, bd__law_valuations, bd__law_dense, bd__law_ground, bd__law_varied_world, bd__law_scene, bd__law_full_scene, bd__law_without, bd__law_turned, bd__law_within, bd__law_lot_key, bd__law_least, bd__law_lots, bd__law_missing, bd_law, trivial⟩))
theorem chk_ok : defs.all (chkD shd) = true := by decide +kernel
theorem nd_ok : (defs.map (·.name)).Nodup := by decide +kernel
abbrev R : PySem.W.OpenRow := PySem.W.OpenLaw.row PySem.Challenge.rw_rightchance_k74_lots_without_a_fact
abbrev hk : PySem.W.Hook := hookG 4 shd defs
def loose : List Str := (["value_key", "row_key", "place_key", "lot_key", "ordered_places", "has_all", "smallest_of", "bound", "lots_of_join", "smallest_lots", "_law_draws", "_law_take", "_law_pick", "_law_same", "_law_pool", "_law_values", "_law_value", "_law_key", "_law_row_key", "_law_share", "_law_chance", "_law_world", "_law_table", "_law_term", "_law_atom", "_law_join", "_law_question", "_law_put", "_law_place_key", "_law_store"] : List Str) ++ (["_law_facts", "_law_grown", "_law_valuations", "_law_dense", "_law_ground", "_law_varied_world", "_law_scene", "_law_full_scene", "_law_without", "_law_turned", "_law_within", "_law_lot_key", "_law_least", "_law_lots", "_law_missing"] : List Str)
theorem run (w : World) : HandSHeadRun.RunEqI R (PySem.W.view R.prog [49]) hk (obG 4 shd defs) 4000 loose w := by
  unfold HandSHeadRun.RunEqI
  kernel_rfl
theorem holds_of (most : Nat) (n : Nat) (hm : (PySem.Challenge.rw_rightchance_k74_lots_without_a_fact).most = some most) (hz : most ≤ sizeLine) (hr : Room (3 * (n + 1)) callerA) (plain : ∀ ns : List Int, ns.length ≤ most → ∃ os, callN (tabOf defs) (n + 1) "law" [⟨.imm, false, .list (ns.map .int)⟩] = some (.imm (.bool true), os)) : PySem.Challenge.rw_rightchance_k74_lots_without_a_fact.Holds := by
  w_on; o_law
  refine HandSHeadRun.head_imp (r := PySem.W.OpenLaw.row PySem.Challenge.rw_rightchance_k74_lots_without_a_fact) (q := PySem.W.view (PySem.W.OpenLaw.row PySem.Challenge.rw_rightchance_k74_lots_without_a_fact).prog [49]) (H := hk) (ob := obG 4 shd defs) (M := 4000) (loose := loose) (d := HandSHeadRun.topDef (PySem.W.OpenLaw.row PySem.Challenge.rw_rightchance_k74_lots_without_a_fact).prog 49) (kwd := []) (obG_eq 4 shd defs)
    run (by kernel_rfl) (by kernel_rfl) (by kernel_rfl) (by rfl) (by first | assumption | decide +kernel) (by decide +kernel) ⟨rfl, rfl, rfl, rfl, rfl, by decide +kernel⟩ ?hw ?hc
  case hw => w_witness2
  case hc =>
    refine L2.walk_ofE (l := PySem.Challenge.rw_rightchance_k74_lots_without_a_fact) (n := most) (k := 3 * (n + 1)) (x := (Str.ofString "_law_script")) (CX := C8.CX0) hm hz (by kernel_rfl) hr ?F (fun _ _ _ _ z => z)
    intro w mg fa h Y G hmg0
    obtain ⟨K, KX, c, ex⟩ := Y
    have hmg : mg (Str.ofString e_law.name) = some (.ref fa) := by
      have e : (HandSHeadRun.topDef (PySem.W.OpenLaw.row PySem.Challenge.rw_rightchance_k74_lots_without_a_fact).prog 49).name = Str.ofString e_law.name := by kernel_rfl
      rw [← e]
      exact hmg0
    obtain ⟨fd, hb, hF⟩ := law_facts (P := (PySem.Challenge.rw_rightchance_k74_lots_without_a_fact).prog) (w := w) KX G c ex bd rfl chk_ok nd_ok n (d := e_law) (by simp [defs]) (Str.ofString "_law_script") rfl hmg
    exact ⟨K, fd, _, KX, hb, fun H a ns hl _ hS => (plain ns hl).elim fun os h => law_sp hS h, hF⟩
end RC.K74
end H74
section F74
set_option Elab.async false
set_option linter.all false
set_option maxRecDepth 100000
set_option autoImplicit false
set_option maxHeartbeats 4000000
namespace RC.K74
open PySem PySem.Spec PyProof.Rows L2 RC RC.P
theorem lk {d : DefE} (h : d ∈ defs) : (tabOf defs).lookup d.name = some d.fn := lookup_tab nd_ok h
theorem DrT_ : DrT (tabOf defs) := ⟨lk (d := e__law_take) (by simp [defs]), lk (d := e__law_pick) (by simp [defs]), lk (d := e__law_value) (by simp [defs]), lk (d := e__law_values) (by simp [defs]), lk (d := e__law_share) (by simp [defs]), lk (d := e__law_chance) (by simp [defs]), lk (d := e__law_pool) (by simp [defs]), lk (d := e__law_world) (by simp [defs]), lk (d := e__law_varied_world) (by simp [defs]), lk (d := e__law_table) (by simp [defs]), lk (d := e__law_term) (by simp [defs]), lk (d := e__law_atom) (by simp [defs]), lk (d := e__law_join) (by simp [defs]), lk (d := e__law_question) (by simp [defs]), lk (d := e__law_key) (by simp [defs]), lk (d := e__law_row_key) (by simp [defs]), lk (d := e__law_place_key) (by simp [defs]), lk (d := e__law_store) (by simp [defs]), lk (d := e__law_facts) (by simp [defs]), lk (d := e__law_dense) (by simp [defs]), lk (d := e__law_ground) (by simp [defs]), lk (d := e__law_scene) (by simp [defs]), lk (d := e__law_draws) (by simp [defs])⟩
theorem LtT_ : LtT (tabOf defs) := ⟨lk (d := e_value_key) (by simp [defs]), lk (d := e_row_key) (by simp [defs]), lk (d := e_place_key) (by simp [defs]), lk (d := e_lot_key) (by simp [defs]), lk (d := e_ordered_places) (by simp [defs]), lk (d := e_has_all) (by simp [defs]), lk (d := e_smallest_of) (by simp [defs]), lk (d := e_bound) (by simp [defs]), lk (d := e_lots_of_join) (by simp [defs]), lk (d := e_smallest_lots) (by simp [defs])⟩
theorem LlT_ : LlT (tabOf defs) := ⟨lk (d := e__law_put) (by simp [defs]), lk (d := e__law_grown) (by simp [defs]), lk (d := e__law_valuations) (by simp [defs]), lk (d := e__law_within) (by simp [defs]), lk (d := e__law_lot_key) (by simp [defs]), lk (d := e__law_least) (by simp [defs]), lk (d := e__law_lots) (by simp [defs])⟩
theorem plain (ns : List Int) (hl : ns.length ≤ 63) : ∃ os, callN (tabOf defs) (8 + 1) "law" [⟨.imm, false, .list (ns.map .int)⟩] = some (.imm (.bool true), os) := by
  have e : (tabOf defs).lookup "law" = some Lb.f_law_k74 := lk (d := e_law) (by simp [defs])
  rw [callN_fn e]
  exact law74_run (DrT_.drawsL 7) (DrT_.fullL 0 (lk (d := e__law_full_scene) (by simp [defs]))) (LtT_.slotsL 2) (LlT_.lotsL DrT_ 2) (lmiss_L (lk (d := e__law_missing) (by simp [defs])) 7) (without_L (lk (d := e__law_without) (by simp [defs])) 7) (DrT_.turnedL 5 (lk (d := e__law_turned) (by simp [defs]))) (fun s js z => same_all (lk (d := e__law_same) (by simp [defs])) 8 _ (kn_lots.lay _) (Nat.lt_of_le_of_lt (kn_lots.dep _) (by decide)) (Nat.le_trans (kn_lots.dep _) (by decide)) (short_lots (small_ok z).1 (by have := (small_ok z).2; omega))) ns hl
end RC.K74
end F74
theorem PySem.Challenge.cw_rightchance_k74_lots_without_a_fact_holds : PySem.Challenge.rw_rightchance_k74_lots_without_a_fact.Holds := by
  exact RC.K74.holds_of 63 8 (by rfl) (by decide) ⟨by decide, by decide, by decide⟩ RC.K74.plain
