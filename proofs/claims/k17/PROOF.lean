import PyProof.Rows.All
import Wide.All
import OpenK.AllK
import Wide.FinOn
import HandS.ForMost
import HandS.Wide
import HandS.WideBits
import HandS.Lambda
import HandS.EndBits
import HandS.IsInst
import HandS.Conv
import HandS.Style
import HandS.More
import HandS.Defaults
import HandS.SortInts
import HandS.SortKw
import HandS.Iter
import HandS.Dict
import HandS.TupLe
import PyProof.Rows.SeqMore
import HandS.SetFor
import HandS.Strs
import HandS.Zip
import HandS.Exc
import HandS.ExcOwn
import HandS.ExcIs
import HandS.ExcCtx
import HandS.HotCalls
import HandS.CallSlots
import HandS.WordsExc
import KE.SortKeyHeap
import HandS.EndTab
import HandS.Deep
import KE.SortData
import KE.DataCmp
import KE.DataEq
import KE.KIntText
import PyProof.Rows.StrOr
import HandS.Text
import KE.OsArith
import PySem.Challenge.RW_groupcost_k17_whole_lines_free
set_option Elab.async false
set_option linter.all false
set_option maxRecDepth 100000
set_option maxHeartbeats 4000000
namespace Gc
open PySem L2
/-- the name of the lambdas that the law comes to -/
class Tn where
  q : Str
instance (priority := low) tn0 : Tn := ⟨""⟩
variable [Tn]

/-! ## 1. heaps: the stable part S of the heap H -/
/-- no table of code objects -/
def NT (o : HO) : Prop := ∀ ps, o ≠ .tbl ps
theorem NT.or (o : HO) : NT o ∨ ∃ ps, o = .tbl ps := by
  cases o with
  | tbl ps => exact .inr ⟨ps, rfl⟩
  | _ => exact .inl fun _ e => nomatch e
/-- what was tracked is as it was, but the tables, which stay tables -/
structure Keep (H H' : Hp) : Prop where
  kp : ∀ b o, H b = some o → NT o → H' b = some o
  tab : ∀ b ps, H b = some (.tbl ps) → ∃ qs, H' b = some (.tbl qs)
theorem Keep.go {H H' : Hp} (s : Keep H H') {b : Addr} {o : HO} (h : H b = some o) (n : NT o := by first | exact fun _ e => nomatch e | assumption) : H' b = some o := s.kp b o h n
theorem _root_.L2.Same.k {H H' : Hp} (h : Same H H') : Keep H H' := ⟨fun b o e _ => h b o e, fun b ps e => ⟨ps, h b _ e⟩⟩
instance {H H' : Hp} : Coe (Same H H') (Keep H H') := ⟨L2.Same.k⟩
theorem Keep.of {H H' : Hp} (h : ∀ b o, H b = some o → H' b = some o) : Keep H H' := L2.Same.k h
theorem Keep.refl (H : Hp) : Keep H H := (Same.refl H).k
theorem Keep.trans {H H1 H2 : Hp} (a : Keep H H1) (b : Keep H1 H2) : Keep H H2 :=
  ⟨fun c o h n => b.kp c o (a.kp c o h n) n, fun c ps h => let ⟨qs, e⟩ := a.tab c ps h; b.tab c qs e⟩
theorem Keep.ne {H H' : Hp} {a : Addr} (h : Keep H H') (n : H a ≠ none) : H' a ≠ none := by
  cases q : H a with
  | none => exact absurd q n
  | some o =>
    rcases NT.or o with c | ⟨ps, rfl⟩
    · rw [h.kp a o q c]; simp
    · obtain ⟨qs, e⟩ := h.tab a ps q
      rw [e]; simp
theorem Keep.free {H H' : Hp} (e : Keep H H') {l : Addr} (h : H' l = none) : H l = none := by
  cases q : H l with
  | none => rfl
  | some o => exact absurd h (e.ne (by rw [q]; simp))
theorem Keep.seq {K : PySem.W.Frag} {H H' : Hp} {a : Addr} {xs : List V} (e : Keep H H') (h : SqL K H a xs) : SqL K H' a xs := by
  rcases h with (h | ⟨o, h⟩) | h
  · exact .inl (.inl (e.go h))
  · exact .inl (.inr ⟨o, e.go h⟩)
  · exact .inr h
/-- the table at P tells code objects of the name q only; these stay -/
def Tb (S H : Hp) (P : Addr) : Prop := ∃ ps : Array Value, H P = some (.tbl ps) ∧ TriplesOk ps.toList ∧ ∀ (pos : Pos) (cv : Value), codeAmong pos ps.toList = some cv → ∃ c, cv = .ref c ∧ S c = some (LamX.CodeO c Tn.q)
theorem Tb.ext {S H S' H' : Hp} {P : Addr} (t : Tb S H P) (h1 : Same S S') (h2 : ∀ ps, H P = some (.tbl ps) → H' P = some (.tbl ps)) : Tb S' H' P := by
  obtain ⟨ps, e1, e2, e3⟩ := t
  refine ⟨ps, h2 ps e1, e2, fun pos cv hc => ?_⟩
  obtain ⟨c, e4, e5⟩ := e3 pos cv hc
  exact ⟨c, e4, h1 _ _ e5⟩
theorem Tb.at_ {S H : Hp} {P : Addr} (t : Tb S H P) : H P ≠ none := by
  obtain ⟨ps, e1, _⟩ := t
  rw [e1]; simp
structure Ext (S H S' H' : Hp) : Prop where
  st : Same S S'
  hp : Keep H H'
  nw : ∀ a, S a = none → H a ≠ none → S' a = none
  sb : Same S' H'
  tb : ∀ P, Tb S H P → Tb S' H' P
theorem Ext.refl {S H : Hp} (sb : Same S H) : Ext S H S H := ⟨Same.refl S, Keep.refl H, fun _ h _ => h, sb, fun _ t => t⟩
theorem ne_keep {H H' : Hp} {a : Addr} (h : Keep H H') (n : H a ≠ none) : H' a ≠ none := h.ne n
theorem Ext.trans {S H S1 H1 S2 H2 : Hp} (a : Ext S H S1 H1) (b : Ext S1 H1 S2 H2) : Ext S H S2 H2 :=
  ⟨a.st.trans b.st, a.hp.trans b.hp, fun p h n => b.nw p (a.nw p h n) (ne_keep a.hp n), b.sb, fun P t => b.tb P (a.tb P t)⟩
theorem Same.new {H : Hp} {p : Addr} {o : HO} (h : H p = none) : Same H (upd H p o) := fun a u e => by
  rw [upd_ne (ne_of_none e h)]; exact e
/-- a new object outside the stable part -/
theorem Ext.own {S H : Hp} {p : Addr} {o : HO} (sb : Same S H) (h : H p = none) : Ext S H S (upd H p o) :=
  ⟨Same.refl S, (Same.new h).k, fun _ h _ => h, sb.trans (Same.new h), fun P t => t.ext (Same.refl S) fun ps e => Same.new h _ _ e⟩
theorem Same.both {S H : Hp} {p : Addr} {o : HO} (sb : Same S H) : Same (upd S p o) (upd H p o) := fun a u e => by
  by_cases q : a = p
  · subst q; rw [upd_same] at e ⊢; exact e
  · rw [upd_ne q] at e ⊢; exact sb a u e
/-- a new object within the stable part -/
theorem Ext.val {S H : Hp} {p : Addr} {o : HO} (sb : Same S H) (h : H p = none) : Ext S H (upd S p o) (upd H p o) :=
  ⟨Same.new (sb.free h), (Same.new h).k, fun a h1 h2 => by rw [upd_ne (fun e => h2 (by rw [e]; exact h))]; exact h1, Same.both sb, fun P t => t.ext (Same.new (sb.free h)) fun ps e => Same.new h _ _ e⟩

/-- what is at D, new since then, is changed -/
theorem Ext.poke {S H S' H' : Hp} {D : Addr} {o : HO} (X : Ext S H S' H') (hD : H D = none) (sD : S' D = none) : Ext S H S' (upd H' D o) := by
  have ne : ∀ p, H p ≠ none → p ≠ D := fun p h e => h (by rw [e]; exact hD)
  refine ⟨X.st, ⟨fun p o e n => ?_, fun p ps e => ?_⟩, X.nw, fun p o e => ?_, fun P t => ?_⟩
  · rw [upd_ne (ne p (by rw [e]; simp))]; exact X.hp.kp p o e n
  · rw [upd_ne (ne p (by rw [e]; simp))]; exact X.hp.tab p ps e
  · rw [upd_ne (ne_of_none e sD)]; exact X.sb p o e
  · exact (X.tb P t).ext (Same.refl _) fun ps e => by rw [upd_ne (ne P t.at_)]; exact e

/-! ## 2. what stands for what -/
structure Rp (α : Type) where
  r : Hp → V → α → Prop
  mono : ∀ {S S' : Hp} {v : V} {x : α}, Keep S S' → r S v x → r S' v x
/-- what is at p is kept -/
structure Kp (H H' : Hp) (p : Addr) : Prop where
  kp : ∀ o, H p = some o → NT o → H' p = some o
theorem Kp.go {H H' : Hp} {p : Addr} (s : Kp H H' p) {o : HO} (h : H p = some o) (n : NT o := by first | exact fun _ e => nomatch e | assumption) : H' p = some o := s.kp o h n
theorem Kp.eq {H H' : Hp} {p : Addr} (e : H' p = H p) : Kp H H' p := ⟨fun o h _ => e.trans h⟩
/-- owned things: ps are the addresses that nobody else has -/
structure Orp (α : Type) where
  r : Hp → Hp → V → α → List Addr → Prop
  mono : ∀ {S H S' H' : Hp} {v : V} {x : α} {ps : List Addr}, Same S S' → (∀ p ∈ ps, Kp H H' p) → r S H v x ps → r S' H' v x ps
  fz : Rp α
  frz : ∀ {S H S' : Hp} {v : V} {x : α} {ps : List Addr}, r S H v x ps → Same S S' → (∀ p ∈ ps, Kp H S' p) → fz.r S' v x
structure Rps (α : Type) where
  r : Hp → List V → α → Prop
  mono : ∀ {S S' : Hp} {v : List V} {x : α}, Keep S S' → r S v x → r S' v x
structure Orps (α : Type) where
  r : Hp → Hp → List V → α → List Addr → Prop
  mono : ∀ {S H S' H' : Hp} {v : List V} {x : α} {ps : List Addr}, Same S S' → (∀ p ∈ ps, Kp H H' p) → r S H v x ps → r S' H' v x ps
  fz : Rps α
  frz : ∀ {S H S' : Hp} {v : List V} {x : α} {ps : List Addr}, r S H v x ps → Same S S' → (∀ p ∈ ps, Kp H S' p) → fz.r S' v x

theorem Paired.map_r {α β : Type} {F G : α → β → Prop} (h : ∀ a b, F a b → G a b) : ∀ {l : List α} {m : List β}, Paired F l m → Paired G l m
  | _, _, .nil => .nil
  | _, _, .cons r t => .cons (h _ _ r) (Paired.map_r h t)
theorem paired_len {α β : Type} {F : α → β → Prop} : ∀ {l : List α} {m : List β}, Paired F l m → l.length = m.length
  | _, _, .nil => rfl
  | _, _, .cons _ t => by simp [paired_len t]
theorem paired_at {α β : Type} {F : α → β → Prop} : ∀ {l : List α} {m : List β} {i : Nat} {y : β}, Paired F l m → m[i]? = some y → ∃ x, l[i]? = some x ∧ F x y
  | _, _, _, _, .nil, e => by simp at e
  | _, _, 0, _, .cons r _, e => by simp at e; subst e; exact ⟨_, rfl, r⟩
  | _, _, i + 1, y, .cons _ t, e => by
    obtain ⟨x, h1, h2⟩ := paired_at (i := i) (y := y) t (by simpa using e)
    exact ⟨x, by simpa using h1, h2⟩
theorem paired_app {α β : Type} {F : α → β → Prop} : ∀ {l l' : List α} {m m' : List β}, Paired F l m → Paired F l' m' → Paired F (l ++ l') (m ++ m')
  | _, _, _, _, .nil, s => s
  | _, _, _, _, .cons r t, s => .cons r (paired_app t s)
theorem paired_set {α β : Type} {F : α → β → Prop} {x : α} {y : β} (r : F x y) : ∀ {l : List α} {m : List β} (i : Nat), Paired F l m → Paired F (l.set i x) (m.set i y)
  | _, _, _, .nil => .nil
  | _, _, 0, .cons _ t => .cons r t
  | _, _, i + 1, .cons q t => .cons q (paired_set r i t)
theorem paired_drop {α β : Type} {F : α → β → Prop} : ∀ {l : List α} {m : List β} (n : Nat), Paired F l m → Paired F (l.drop n) (m.drop n)
  | _, _, 0, r => r
  | _, _, _ + 1, .nil => .nil
  | _, _, n + 1, .cons _ t => paired_drop n t
theorem paired_take {α β : Type} {F : α → β → Prop} : ∀ {l : List α} {m : List β} (n : Nat), Paired F l m → Paired F (l.take n) (m.take n)
  | _, _, 0, _ => .nil
  | _, _, _ + 1, .nil => .nil
  | _, _, n + 1, .cons r t => .cons r (paired_take n t)
theorem paired_rev {α β : Type} {F : α → β → Prop} : ∀ {l : List α} {m : List β}, Paired F l m → Paired F l.reverse m.reverse
  | _, _, .nil => .nil
  | _, _, .cons r t => by
    rw [List.reverse_cons, List.reverse_cons]
    exact paired_app (paired_rev t) (.cons r .nil)

def rInt : Rp Int := ⟨fun _ v x => v = .int x, fun _ h => h⟩
def rBool : Rp Bool := ⟨fun _ v x => v = .bl x, fun _ h => h⟩
def rStr : Rp Str := ⟨fun _ v x => v = .str x ∧ PyData.strOk x = true, fun _ h => h⟩
def rUnit : Rp Unit := ⟨fun _ v _ => v = .non, fun _ h => h⟩
def rL {α : Type} (R : Rp α) : Rp (List α) :=
  ⟨fun S v xs => ∃ a vs, v = .ref a ∧ S a = some (.lst vs) ∧ Paired (R.r S) vs xs ∧ xs.length ≤ sizeLine,
   fun h ⟨a, vs, e, q, p, l⟩ => ⟨a, vs, e, h.go q, Paired.map_r (fun _ _ => R.mono h) p, l⟩⟩
/-- a list that is read only (the script) -/
def rSq {α : Type} (K : PySem.W.Frag) (R : Rp α) : Rp (List α) :=
  ⟨fun S v xs => ∃ a vs, v = .ref a ∧ SqL K S a vs ∧ Paired (R.r S) vs xs ∧ xs.length ≤ sizeLine,
   fun h ⟨a, vs, e, q, p, l⟩ => ⟨a, vs, e, h.seq q, Paired.map_r (fun _ _ => R.mono h) p, l⟩⟩
def rT {α : Type} (R : Rps α) : Rp α :=
  ⟨fun S v x => ∃ a vs, v = .ref a ∧ S a = some (.tup vs) ∧ R.r S vs x, fun h ⟨a, vs, e, q, p⟩ => ⟨a, vs, e, h.go q, R.mono h p⟩⟩
def rOpt {α : Type} (R : Rp α) : Rp (Option α) :=
  ⟨fun S v x => match x with | none => v = .non | some y => R.r S v y ∧ v ≠ .non, fun {S S' v x} h q => by
    cases x with
    | none => exact q
    | some y => exact ⟨R.mono h q.1, q.2⟩⟩
def rsNil : Rps Unit := ⟨fun _ vs _ => vs = [], fun _ h => h⟩
def rsOne {α : Type} (R : Rp α) : Rps α := ⟨fun S vs x => ∃ v, vs = [v] ∧ R.r S v x, fun h ⟨v, e, q⟩ => ⟨v, e, R.mono h q⟩⟩
def rsCons {α β : Type} (R : Rp α) (Rs : Rps β) : Rps (α × β) :=
  ⟨fun S vs x => ∃ v ws, vs = v :: ws ∧ R.r S v x.1 ∧ Rs.r S ws x.2, fun h ⟨v, ws, e, q, t⟩ => ⟨v, ws, e, R.mono h q, Rs.mono h t⟩⟩

def oV {α : Type} (R : Rp α) : Orp α :=
  ⟨fun S _ v x ps => R.r S v x ∧ ps = [], fun h _ q => ⟨R.mono h q.1, q.2⟩, R, fun q h _ => R.mono h q.1⟩
inductive Els {α : Type} (O : Orp α) (S H : Hp) : List V → List α → List Addr → Prop
  | nil : Els O S H [] [] []
  | cons {v : V} {x : α} {ps : List Addr} {vs : List V} {xs : List α} {qs : List Addr} : O.r S H v x ps → Els O S H vs xs qs → Els O S H (v :: vs) (x :: xs) (ps ++ qs)
theorem Els.mono {α : Type} {O : Orp α} {S H S' H' : Hp} {vs : List V} {xs : List α} {qs : List Addr} (e : Els O S H vs xs qs) (h : Same S S') : (∀ p ∈ qs, Kp H H' p) → Els O S' H' vs xs qs := by
  induction e with
  | nil => exact fun _ => .nil
  | cons r _ ih => exact fun k => .cons (O.mono h (fun p hp => k p (List.mem_append_left _ hp)) r) (ih fun p hp => k p (List.mem_append_right _ hp))
theorem Els.frz {α : Type} {O : Orp α} {S H S' : Hp} {vs : List V} {xs : List α} {qs : List Addr} (e : Els O S H vs xs qs) (h : Same S S') : (∀ p ∈ qs, Kp H S' p) → Paired (O.fz.r S') vs xs := by
  induction e with
  | nil => exact fun _ => .nil
  | cons r _ ih => exact fun k => .cons (O.frz r h fun p hp => k p (List.mem_append_left _ hp)) (ih fun p hp => k p (List.mem_append_right _ hp))
theorem Els.of {α : Type} {R : Rp α} {S H : Hp} : ∀ {vs : List V} {xs : List α}, Paired (R.r S) vs xs → Els (oV R) S H vs xs []
  | _, _, .nil => .nil
  | _, _, .cons r t => Els.cons (ps := []) ⟨r, rfl⟩ (Els.of t)
theorem Els.to {α : Type} {R : Rp α} {S H : Hp} {vs : List V} {xs : List α} {qs : List Addr} (e : Els (oV R) S H vs xs qs) : Paired (R.r S) vs xs ∧ qs = [] := by
  induction e with
  | nil => exact ⟨.nil, rfl⟩
  | cons r _ ih => exact ⟨.cons r.1 ih.1, by rw [r.2, ih.2]; rfl⟩
theorem Els.snoc {α : Type} {O : Orp α} {S H : Hp} {vs : List V} {xs : List α} {qs : List Addr} {v : V} {x : α} {ps : List Addr} (e : Els O S H vs xs qs) (r : O.r S H v x ps) : Els O S H (vs ++ [v]) (xs ++ [x]) (qs ++ ps) := by
  induction e with
  | nil => simpa using Els.cons r .nil
  | cons q _ ih => rw [List.append_assoc]; exact .cons q ih
theorem Els.len {α : Type} {O : Orp α} {S H : Hp} {vs : List V} {xs : List α} {qs : List Addr} (e : Els O S H vs xs qs) : vs.length = xs.length := by
  induction e with
  | nil => rfl
  | cons _ _ ih => simp [ih]
/-- an owned list -/
def oL {α : Type} (O : Orp α) : Orp (List α) where
  r := fun S H v xs ps => ∃ p vs qs, v = .ref p ∧ H p = some (.lst vs) ∧ ps = p :: qs ∧ Els O S H vs xs qs ∧ xs.length ≤ sizeLine
  mono := fun h k ⟨p, vs, qs, e, q, ep, t, l⟩ => ⟨p, vs, qs, e, (k p (by rw [ep]; exact List.mem_cons_self)).go q, ep, t.mono h fun p' hp => k p' (by rw [ep]; exact List.mem_cons_of_mem _ hp), l⟩
  fz := rL O.fz
  frz := fun ⟨p, vs, qs, e, q, ep, t, l⟩ h k => ⟨p, vs, e, (k p (by rw [ep]; exact List.mem_cons_self)).go q, t.frz h fun p' hp => k p' (by rw [ep]; exact List.mem_cons_of_mem _ hp), l⟩
def osNil : Orps Unit := ⟨fun _ _ vs _ ps => vs = [] ∧ ps = [], fun _ _ h => h, rsNil, fun h _ _ => h.1⟩
def osOne {α : Type} (O : Orp α) : Orps α :=
  ⟨fun S H vs x ps => ∃ v, vs = [v] ∧ O.r S H v x ps, fun h k ⟨v, e, q⟩ => ⟨v, e, O.mono h k q⟩, rsOne O.fz, fun ⟨v, e, q⟩ h k => ⟨v, e, O.frz q h k⟩⟩
def osCons {α β : Type} (O : Orp α) (Os : Orps β) : Orps (α × β) :=
  ⟨fun S H vs x ps => ∃ v ws p1 p2, vs = v :: ws ∧ O.r S H v x.1 p1 ∧ Os.r S H ws x.2 p2 ∧ ps = p1 ++ p2,
   fun h k ⟨v, ws, p1, p2, e, q, t, ep⟩ => ⟨v, ws, p1, p2, e, O.mono h (fun p hp => k p (by rw [ep]; exact List.mem_append_left _ hp)) q, Os.mono h (fun p hp => k p (by rw [ep]; exact List.mem_append_right _ hp)) t, ep⟩,
   rsCons O.fz Os.fz,
   fun ⟨v, ws, p1, p2, e, q, t, ep⟩ h k => ⟨v, ws, e, O.frz q h (fun p hp => k p (by rw [ep]; exact List.mem_append_left _ hp)), Os.frz t h (fun p hp => k p (by rw [ep]; exact List.mem_append_right _ hp))⟩⟩
/-- a tuple; its parts may be owned -/
def oT {α : Type} (Os : Orps α) : Orp α where
  r := fun S H v x ps => ∃ a vs, v = .ref a ∧ S a = some (.tup vs) ∧ Os.r S H vs x ps
  mono := fun h k ⟨a, vs, e, q, t⟩ => ⟨a, vs, e, h a _ q, Os.mono h k t⟩
  fz := rT Os.fz
  frz := fun ⟨a, vs, e, q, t⟩ h k => ⟨a, vs, e, h a _ q, Os.frz t h k⟩

/-! ## 3. slots and environments -/
inductive Slot where
  | any
  | ow {α : Type} (O : Orp α) (x : α)
  /-- lent: it stands in the heap of the def's entry -/
  | bw {α : Type} (R : Rp α) (x : α)
  /-- it stays -/
  | val {α : Type} (R : Rp α) (x : α)
abbrev Cxt := List Slot
def SlotOk (H0 S H : Hp) : Slot → Option V → List Addr → Prop
  | .any, _, ps => ps = []
  | .ow O x, o, ps => ∃ v, o = some v ∧ O.r S H v x ps
  | .bw R x, o, ps => ∃ v, o = some v ∧ R.r H0 v x ∧ ps = []
  | .val R x, o, ps => ∃ v, o = some v ∧ R.r S v x ∧ ps = []
theorem SlotOk.mono {H0 S H S' H' : Hp} {s : Slot} {o : Option V} {ps : List Addr} (h : Same S S') (k : ∀ p ∈ ps, Kp H H' p) (q : SlotOk H0 S H s o ps) : SlotOk H0 S' H' s o ps := by
  cases s with
  | any => exact q
  | ow O x => obtain ⟨v, e, t⟩ := q; exact ⟨v, e, O.mono h k t⟩
  | bw R x => exact q
  | val R x => obtain ⟨v, e, t, z⟩ := q; exact ⟨v, e, R.mono h t, z⟩
structure Fps (H0 S H : Hp) (n : Nat) (fp : Nat → List Addr) : Prop where
  at_ : ∀ i p, p ∈ fp i → S p = none ∧ H p ≠ none ∧ H0 p = none ∧ i < n
  nd : ∀ i, (fp i).Nodup
  sep : ∀ i j p, p ∈ fp i → p ∈ fp j → i = j
structure EnvOk (S0 H0 S H : Hp) (G : Cxt) (σ : St) : Prop where
  base : Ext S0 H0 S H
  len : σ.length = G.length
  ex : ∃ fp : Nat → List Addr, (∀ i s, G[i]? = some s → ∃ o, σ[i]? = some o ∧ SlotOk H0 S H s o (fp i)) ∧ Fps H0 S H G.length fp
section
variable {S0 H0 S H S' H' : Hp} {G : Cxt} {σ : St}
theorem Same.at_ne {a : Addr} (h : Keep H H') (n : H a ≠ none) : Kp H H' a := ⟨fun o e nt => h.kp a o e nt⟩
theorem EnvOk.mono (E : EnvOk S0 H0 S H G σ) (x : Ext S H S' H') : EnvOk S0 H0 S' H' G σ := by
  obtain ⟨fp, ok, F⟩ := E.ex
  refine ⟨E.base.trans x, E.len, fp, fun i s e => ?_, ⟨fun i p hp => ?_, F.nd, F.sep⟩⟩
  · obtain ⟨o, e1, q⟩ := ok i s e
    exact ⟨o, e1, q.mono x.st fun p hp => Same.at_ne x.hp (F.at_ i p hp).2.1⟩
  · obtain ⟨h1, h2, h3, h4⟩ := F.at_ i p hp
    exact ⟨x.nw p h1 h2, ne_keep x.hp h2, h3, h4⟩
def Fresh (H S' H' : Hp) (ps : List Addr) : Prop := ps.Nodup ∧ ∀ p ∈ ps, H p = none ∧ S' p = none ∧ H' p ≠ none
theorem Fresh.nil : Fresh H S' H' [] := ⟨.nil, fun _ h => nomatch h⟩
theorem set_get {α : Type _} {l : List α} {i j : Nat} {a b : α} (h : (l.set i a)[j]? = some b) : (i = j ∧ b = a ∧ i < l.length) ∨ (i ≠ j ∧ l[j]? = some b) := by
  by_cases e : i = j
  · subst e
    by_cases hl : i < l.length
    · rw [List.getElem?_set_self hl] at h; exact .inl ⟨rfl, (Option.some.inj h).symm, hl⟩
    · rw [List.getElem?_eq_none (by simpa using hl)] at h; cases h
  · rw [List.getElem?_set_ne e] at h; exact .inr ⟨e, h⟩
/-- a name is stored -/
theorem EnvOk.set {α : Type} {O : Orp α} {v : V} {x : α} {ps : List Addr} (i : Nat) (E : EnvOk S0 H0 S H G σ) (X : Ext S H S' H') (r : O.r S' H' v x ps) (f : Fresh H S' H' ps) : EnvOk S0 H0 S' H' (G.set i (.ow O x)) (σ.set i (some v)) := by
  have E' := E.mono X
  obtain ⟨fp, ok, F⟩ := E'.ex
  obtain ⟨fp0, ok0, F0⟩ := E.ex
  -- the footprints of S' are those of S: choose fp0
  have ok' : ∀ i s, G[i]? = some s → ∃ o, σ[i]? = some o ∧ SlotOk H0 S' H' s o (fp0 i) := fun i s e => by
    obtain ⟨o, e1, q⟩ := ok0 i s e
    exact ⟨o, e1, q.mono X.st fun p hp => Same.at_ne X.hp (F0.at_ i p hp).2.1⟩
  by_cases hi : i < G.length
  · refine ⟨E'.base, by simp [E.len], fun j => if j = i then ps else fp0 j, fun j s e => ?_, ⟨fun j p hp => ?_, fun j => ?_, fun j k p h1 h2 => ?_⟩⟩
    · rcases set_get e with ⟨rfl, rfl, _⟩ | ⟨ne, e⟩
      · exact ⟨some v, by rw [List.getElem?_set_self (by rw [E.len]; exact hi)], v, rfl, by simpa using r⟩
      · obtain ⟨o, e1, q⟩ := ok' j s e
        exact ⟨o, by rw [List.getElem?_set_ne ne]; exact e1, by show SlotOk H0 S' H' s o (if j = i then ps else fp0 j); rw [if_neg (fun z => ne z.symm)]; exact q⟩
    · replace hp : p ∈ (if j = i then ps else fp0 j) := hp
      rw [List.length_set]
      by_cases ej : j = i
      · rw [if_pos ej] at hp
        subst ej
        obtain ⟨h1, h2, h3⟩ := f.2 p hp
        refine ⟨h2, h3, ?_, hi⟩
        cases q : H0 p with
        | none => rfl
        | some o => exact absurd h1 (E.base.hp.ne (by rw [q]; simp))
      · rw [if_neg ej] at hp
        obtain ⟨h1, h2, h3, h4⟩ := F0.at_ j p hp
        exact ⟨X.nw p h1 h2, ne_keep X.hp h2, h3, h4⟩
    · show (if j = i then ps else fp0 j).Nodup
      split
      · exact f.1
      · exact F0.nd j
    · replace h1 : p ∈ (if j = i then ps else fp0 j) := h1
      replace h2 : p ∈ (if k = i then ps else fp0 k) := h2
      by_cases e1 : j = i
      · rw [if_pos e1] at h1
        by_cases e2 : k = i
        · omega
        · rw [if_neg e2] at h2
          exact absurd (f.2 p h1).1 (F0.at_ k p h2).2.1
      · rw [if_neg e1] at h1
        by_cases e2 : k = i
        · rw [if_pos e2] at h2
          exact absurd (f.2 p h2).1 (F0.at_ j p h1).2.1
        · rw [if_neg e2] at h2
          exact F0.sep j k p h1 h2
  · rw [List.set_eq_of_length_le (by omega), List.set_eq_of_length_le (by rw [E.len]; omega)]
    exact E'
theorem EnvOk.get {s : Slot} {i : Nat} (E : EnvOk S0 H0 S H G σ) (e : G[i]? = some s) : ∃ o ps, σ[i]? = some o ∧ SlotOk H0 S H s o ps ∧ ps.Nodup ∧ ∀ p ∈ ps, S p = none ∧ H p ≠ none ∧ H0 p = none := by
  obtain ⟨fp, ok, F⟩ := E.ex
  obtain ⟨o, e1, q⟩ := ok i s e
  exact ⟨o, fp i, e1, q, F.nd i, fun p hp => let ⟨a, b, c, _⟩ := F.at_ i p hp; ⟨a, b, c⟩⟩
/-- what is owned is changed: at the addresses ps of slot i the heap may change; the new footprint qs, old or fresh -/
theorem EnvOk.mut {α β : Type} {O : Orp α} {O' : Orp β} {x : α} {y : β} {i : Nat} {H1 S1 : Hp} (E : EnvOk S0 H0 S H G σ) (e : G[i]? = some (.ow O x))
    (k : ∀ v ps, σ[i]? = some (some v) → O.r S H v x ps → ps.Nodup → (∀ p ∈ ps, S p = none ∧ H p ≠ none ∧ H0 p = none) →
      ∃ qs, O'.r S1 H1 v y qs ∧ qs.Nodup ∧ (∀ p ∈ qs, (p ∈ ps ∨ H p = none) ∧ S1 p = none ∧ H1 p ≠ none) ∧ (∀ a o, a ∉ ps → H a = some o → H1 a = some o))
    (s1 : Same S S1) (s2 : ∀ a, S a = none → H a ≠ none → S1 a = none) (sb : Same S1 H1) : EnvOk S0 H0 S1 H1 (G.set i (.ow O' y)) σ := by
  obtain ⟨fp, ok, F⟩ := E.ex
  obtain ⟨o, e1, v, eo, q⟩ := ok i _ e
  subst eo
  obtain ⟨qs, r', nd, fr, hk⟩ := k v (fp i) e1 q (F.nd i) fun p hp => let ⟨a, b, c, _⟩ := F.at_ i p hp; ⟨a, b, c⟩
  have hi : i < G.length := (List.getElem?_eq_some_iff.mp e).1
  have other : ∀ j p, j ≠ i → p ∈ fp j → H1 p = H p := fun j p ne hp => by
    have h2 := (F.at_ j p hp).2.1
    cases q : H p with
    | none => exact absurd q h2
    | some o => exact hk p o (fun z => ne (F.sep j i p hp z)) q
  have n0 : ∀ a, H0 a ≠ none → a ∉ fp i := fun a h m => h (F.at_ i a m).2.2.1
  have h0 : Keep H0 H1 := ⟨fun a o z nt => hk a o (n0 a (by rw [z]; simp)) (E.base.hp.kp a o z nt), fun a ps z => let ⟨qs, e⟩ := E.base.hp.tab a ps z; ⟨qs, hk a _ (n0 a (by rw [z]; simp)) e⟩⟩
  have tb0 : ∀ P, Tb S0 H0 P → Tb S1 H1 P := fun P t => (E.base.tb P t).ext s1 fun ps e => hk P _ (n0 P t.at_) e
  refine ⟨⟨E.base.st.trans s1, h0, fun a z1 z2 => s2 a (E.base.nw a z1 z2) (ne_keep E.base.hp z2), sb, tb0⟩, by simp [E.len], fun j => if j = i then qs else fp j, fun j s es => ?_, ⟨fun j p hp => ?_, fun j => ?_, fun j l p h1 h2 => ?_⟩⟩
  · rcases set_get es with ⟨rfl, rfl, _⟩ | ⟨ne, es⟩
    · exact ⟨some v, e1, v, rfl, by simpa using r'⟩
    · obtain ⟨o, e1, q⟩ := ok j s es
      refine ⟨o, e1, ?_⟩
      simp only [if_neg (fun z => ne z.symm : ¬ j = i)]
      exact q.mono s1 fun p hp => Kp.eq (other j p (fun z => ne z.symm) hp)
  · replace hp : p ∈ (if j = i then qs else fp j) := hp
    rw [List.length_set]
    by_cases ej : j = i
    · rw [if_pos ej] at hp
      subst ej
      obtain ⟨h1, h2, h3⟩ := fr p hp
      refine ⟨h2, h3, ?_, hi⟩
      rcases h1 with h1 | h1
      · exact (F.at_ j p h1).2.2.1
      · exact E.base.hp.free h1
    · have ne := ej
      rw [if_neg ne] at hp
      obtain ⟨h1, h2, h3, h4⟩ := F.at_ j p hp
      exact ⟨s2 p h1 h2, by rw [other j p ne hp]; exact h2, h3, h4⟩
  · show (if j = i then qs else fp j).Nodup
    split
    · exact nd
    · exact F.nd j
  · replace h1 : p ∈ (if j = i then qs else fp j) := h1
    replace h2 : p ∈ (if l = i then qs else fp l) := h2
    by_cases e1 : j = i
    · rw [if_pos e1] at h1
      by_cases e2 : l = i
      · omega
      · rw [if_neg e2] at h2
        rcases (fr p h1).1 with z | z
        · exact absurd (F.sep i l p z h2) (fun z => e2 z.symm)
        · exact absurd z (F.at_ l p h2).2.1
    · rw [if_neg e1] at h1
      by_cases e2 : l = i
      · rw [if_pos e2] at h2
        rcases (fr p h2).1 with z | z
        · exact absurd (F.sep j i p h1 z) e1
        · exact absurd z (F.at_ j p h1).2.1
      · rw [if_neg e2] at h2
        exact F.sep j l p h1 h2
def putAll (S H : Hp) (ps : List Addr) : Hp := fun a => if a ∈ ps then H a else S a
theorem putAll_same {ps : List Addr} (h : ∀ p ∈ ps, S p = none) : Same S (putAll S H ps) := fun a o e => by
  unfold putAll; rw [if_neg (fun z => by rw [h a z] at e; cases e)]; exact e
/-- what is owned becomes stable -/
theorem EnvOk.freeze {α : Type} {O : Orp α} {x : α} {i : Nat} (E : EnvOk S0 H0 S H G σ) (e : G[i]? = some (.ow O x)) : ∃ S', EnvOk S0 H0 S' H (G.set i (.val O.fz x)) σ ∧ Same S S' := by
  obtain ⟨fp, ok, F⟩ := E.ex
  obtain ⟨o, e1, v, eo, q⟩ := ok i _ e
  have hs : Same S (putAll S H (fp i)) := putAll_same fun p hp => (F.at_ i p hp).1
  have hi : i < G.length := (List.getElem?_eq_some_iff.mp e).1
  have off : ∀ j p, j ≠ i → p ∈ fp j → putAll S H (fp i) p = none := fun j p ne hp => by
    unfold putAll; rw [if_neg (fun z => ne (F.sep j i p hp z))]; exact (F.at_ j p hp).1
  refine ⟨putAll S H (fp i), ⟨⟨E.base.st.trans hs, E.base.hp, fun a z1 z2 => ?_, fun a o z => ?_, fun P t => (E.base.tb P t).ext hs fun ps e => e⟩, by simp [E.len], fun j => if j = i then [] else fp j, fun j s es => ?_, ⟨fun j p hp => ?_, fun j => ?_, fun j l p h1 h2 => ?_⟩⟩, hs⟩
  · unfold putAll; rw [if_neg (fun m => z2 (F.at_ i a m).2.2.1)]; exact E.base.nw a z1 z2
  · unfold putAll at z
    split at z
    · exact z
    · exact E.base.sb a o z
  · rcases set_get es with ⟨rfl, rfl, _⟩ | ⟨ne, es⟩
    · refine ⟨o, e1, v, eo, ?_⟩
      show O.fz.r _ v x ∧ _ = []
      exact ⟨O.frz q hs fun p hp => Kp.eq (by unfold putAll; rw [if_pos hp]), by simp⟩
    · obtain ⟨o, e1, q⟩ := ok j s es
      refine ⟨o, e1, ?_⟩
      simp only [if_neg (fun z => ne z.symm : ¬ j = i)]
      exact q.mono hs fun p hp => Kp.eq rfl
  · replace hp : p ∈ (if j = i then [] else fp j) := hp
    rw [List.length_set]
    by_cases ne : j = i
    · rw [if_pos ne] at hp; cases hp
    · rw [if_neg ne] at hp
      obtain ⟨h1, h2, h3, h4⟩ := F.at_ j p hp
      exact ⟨off j p ne hp, h2, h3, h4⟩
  · show (if j = i then [] else fp j).Nodup
    split
    · exact .nil
    · exact F.nd j
  · replace h1 : p ∈ (if j = i then [] else fp j) := h1
    replace h2 : p ∈ (if l = i then [] else fp l) := h2
    by_cases e1 : j = i
    · rw [if_pos e1] at h1; cases h1
    · rw [if_neg e1] at h1
      by_cases e2 : l = i
      · rw [if_pos e2] at h2; cases h2
      · rw [if_neg e2] at h2
        exact F.sep j l p h1 h2
theorem EnvOk.forget {i : Nat} (E : EnvOk S0 H0 S H G σ) : EnvOk S0 H0 S H (G.set i .any) σ := by
  obtain ⟨fp, ok, F⟩ := E.ex
  refine ⟨E.base, by simp [E.len], fun j => if j = i then [] else fp j, fun j s es => ?_, ⟨fun j p hp => ?_, fun j => ?_, fun j l p h1 h2 => ?_⟩⟩
  · rcases set_get es with ⟨rfl, rfl, hi⟩ | ⟨ne, es⟩
    · have hi' : i < σ.length := by rw [E.len]; exact hi
      exact ⟨σ[i], List.getElem?_eq_getElem hi', by simp [SlotOk]⟩
    · obtain ⟨o, e1, q⟩ := ok j s es
      refine ⟨o, e1, ?_⟩
      simp only [if_neg (fun z => ne z.symm : ¬ j = i)]
      exact q
  · replace hp : p ∈ (if j = i then [] else fp j) := hp
    rw [List.length_set]
    by_cases ne : j = i
    · rw [if_pos ne] at hp; cases hp
    · rw [if_neg ne] at hp
      exact F.at_ j p hp
  · show (if j = i then [] else fp j).Nodup
    split
    · exact .nil
    · exact F.nd j
  · replace h1 : p ∈ (if j = i then [] else fp j) := h1
    replace h2 : p ∈ (if l = i then [] else fp l) := h2
    by_cases e1 : j = i
    · rw [if_pos e1] at h1; cases h1
    · rw [if_neg e1] at h1
      by_cases e2 : l = i
      · rw [if_pos e2] at h2; cases h2
      · rw [if_neg e2] at h2
        exact F.sep j l p h1 h2
def rAny0 : Rp Unit := ⟨fun _ _ _ => True, fun _ h => h⟩
theorem EnvOk.conv2 {s s' : Slot} {i : Nat} (E : EnvOk S0 H0 S H G σ) (e : G[i]? = some s) (k : ∀ o ps, σ[i]? = some o → SlotOk H0 S H s o ps → SlotOk H0 S H s' o ps) : EnvOk S0 H0 S H (G.set i s') σ := by
  obtain ⟨fp, ok, F⟩ := E.ex
  refine ⟨E.base, by simp [E.len], fp, fun j t es => ?_, ⟨fun j p hp => by rw [List.length_set]; exact F.at_ j p hp, F.nd, F.sep⟩⟩
  rcases set_get es with ⟨rfl, rfl, hi⟩ | ⟨ne, es⟩
  · obtain ⟨o, e1, q⟩ := ok i s e
    exact ⟨o, e1, k o _ e1 q⟩
  · exact ok j t es
/-- a slot is seen otherwise -/
theorem EnvOk.conv {s s' : Slot} {i : Nat} (E : EnvOk S0 H0 S H G σ) (e : G[i]? = some s) (k : ∀ o ps, SlotOk H0 S H s o ps → SlotOk H0 S H s' o ps) : EnvOk S0 H0 S H (G.set i s') σ := by
  obtain ⟨fp, ok, F⟩ := E.ex
  refine ⟨E.base, by simp [E.len], fp, fun j t es => ?_, ⟨fun j p hp => by rw [List.length_set]; exact F.at_ j p hp, F.nd, F.sep⟩⟩
  rcases set_get es with ⟨rfl, rfl, hi⟩ | ⟨ne, es⟩
  · obtain ⟨o, e1, q⟩ := ok i s e
    exact ⟨o, e1, k o _ q⟩
  · exact ok j t es
theorem EnvOk.setV {α : Type} {R : Rp α} {v : V} {x : α} (i : Nat) (E : EnvOk S0 H0 S H G σ) (X : Ext S H S' H') (r : R.r S' v x) : EnvOk S0 H0 S' H' (G.set i (.val R x)) (σ.set i (some v)) := by
  have E1 : EnvOk S0 H0 S' H' (G.set i (.ow (oV R) x)) (σ.set i (some v)) := E.set i X (O := oV R) (ps := []) ⟨r, rfl⟩ Fresh.nil
  by_cases hi : i < G.length
  · have E2 := E1.conv (i := i) (s' := .val R x) (List.getElem?_set_self hi) fun o ps q => q
    rw [List.set_set] at E2
    exact E2
  · rw [List.set_eq_of_length_le (by omega)] at E1 ⊢
    exact E1
theorem EnvOk.setB {α : Type} {R : Rp α} {v : V} {x : α} (i : Nat) (E : EnvOk S0 H0 S H G σ) (X : Ext S H S' H') (r : R.r H0 v x) : EnvOk S0 H0 S' H' (G.set i (.bw R x)) (σ.set i (some v)) := by
  have E1 : EnvOk S0 H0 S' H' (G.set i (.ow (oV rAny0) ())) (σ.set i (some v)) := E.set i X (O := oV rAny0) (ps := []) ⟨trivial, rfl⟩ Fresh.nil
  by_cases hi : i < G.length
  · have ev : (σ.set i (some v))[i]? = some (some v) := List.getElem?_set_self (by rw [E.len]; exact hi)
    have E2 := E1.conv2 (i := i) (s' := .bw R x) (List.getElem?_set_self hi) fun o ps eo q => by
      rw [ev] at eo
      cases eo
      obtain ⟨_, _, q⟩ := q
      exact ⟨v, rfl, r, q.2⟩
    rw [List.set_set] at E2
    exact E2
  · rw [List.set_eq_of_length_le (by omega)] at E1 ⊢
    exact E1
/-- within a comprehension all that is one's own is lent -/
def lnd : Slot → Slot
  | .ow O x => .bw O.fz x
  | s => s
theorem EnvOk.lend (E : EnvOk S0 H0 S H G σ) : EnvOk S H S H (G.map lnd) σ := by
  obtain ⟨fp, ok, F⟩ := E.ex
  refine ⟨Ext.refl E.base.sb, by simp [E.len], fun _ => [], fun j t es => ?_, ⟨fun j p hp => absurd hp (by simp), fun _ => .nil, fun _ _ _ h => absurd h (by simp)⟩⟩
  rw [List.getElem?_map] at es
  cases e : G[j]? with
  | none => rw [e] at es; cases es
  | some s =>
    rw [e] at es
    cases es
    obtain ⟨o, e1, q⟩ := ok j s e
    refine ⟨o, e1, ?_⟩
    cases s with
    | any => rfl
    | ow O x => obtain ⟨v, eo, r⟩ := q; exact ⟨v, eo, O.frz r E.base.sb fun _ _ => Kp.eq rfl, rfl⟩
    | bw R x => obtain ⟨v, eo, r, _⟩ := q; exact ⟨v, eo, R.mono E.base.hp r, rfl⟩
    | val R x => obtain ⟨v, eo, r, _⟩ := q; exact ⟨v, eo, r, rfl⟩
/-- a slot's value is wiped -/
theorem EnvOk.wipe1 {i : Nat} {o : Option V} (E : EnvOk S0 H0 S H G σ) : EnvOk S0 H0 S H (G.set i .any) (σ.set i o) := by
  have E1 := E.forget (i := i)
  obtain ⟨fp, ok, F⟩ := E1.ex
  refine ⟨E1.base, by rw [List.length_set]; exact E1.len, fp, fun j t es => ?_, F⟩
  rcases set_get es with ⟨rfl, rfl, hi⟩ | ⟨ne, es'⟩
  · obtain ⟨o', e1, q⟩ := ok i _ es
    exact ⟨o, List.getElem?_set_self (by rw [E.len]; exact hi), q⟩
  · obtain ⟨o', e1, q⟩ := ok j t es
    exact ⟨o', by rw [List.getElem?_set_ne ne]; exact e1, q⟩
def wipeG (G : Cxt) : List Nat → Cxt
  | [] => G
  | v :: vs => (wipeG G vs).set v .any
theorem EnvOk.wipe (E : EnvOk S0 H0 S H G σ) : ∀ vs : List Nat, EnvOk S0 H0 S H (wipeG G vs) (L2.wipe σ vs)
  | [] => E
  | v :: vs => (EnvOk.wipe E vs).wipe1
end
end Gc

namespace Gc
open PySem L2
variable [Tn]

/-! ## 4. the widest readings -/
section
variable (X : Cx)
def wE (e : Expr) : TE := fun σ H Q => ∀ pins s, Inv X pins σ H s → wpAny (model X.prog X.w) X.A (eval e X.env) (EP X pins σ Q) X.xe s
def wT (e : Expr) : TT := fun σ H Q => ∀ pins s, Inv X pins σ H s → wpAny (model X.prog X.w) X.A (isTrue e X.env (eval e X.env)) (TP X pins σ Q) X.xe s
def wW (e : Expr) : TT := fun σ H Q => ∀ whole pins s, Inv X pins σ H s → wpAny (model X.prog X.w) X.A (isTrue e X.env whole) (TP X pins σ Q) X.xe s
def wA (es : List Expr) : TA := fun σ H Q => ∀ pos pins s, Inv X pins σ H s → wpAny (model X.prog X.w) X.A (spliced (backTo pos (starEach es X.env))) (AP X pins σ Q) X.xe s
def wS (st : List Stmt) : TS := fun D σ H => ∀ pins s, Inv X pins σ H s → wpAny (model X.prog X.w) X.A (execs st X.env) (SP X pins D) X.xe s
def wI (tg iter : Expr) : TI := fun σ H R => ∀ pins s, Inv X pins σ H s →
  wpAny (model X.prog X.w) X.A (eval iter X.env) (fun v s1 => wpAny (model X.prog X.w) X.A (pyIter v) (PIE X pins σ tg R) X.xe s1) X.xe s
end
section
variable {X : Cx} {σ : St} {H : Hp}
theorem wE_ok (e : Expr) : PE X e (wE X e) := ⟨fun pins s _ _ _ I h => h pins s I⟩
theorem wT_ok (e : Expr) : PT X e (wT X e) := ⟨fun pins s _ _ _ I h => h pins s I⟩
theorem wW_ok (e : Expr) : PW X e (wW X e) := ⟨fun whole pins s _ _ _ I h => h whole pins s I⟩
theorem wA_ok (es : List Expr) : PA X es (wA X es) := ⟨fun pos pins s _ _ _ I h => h pos pins s I⟩
theorem wS_ok (st : List Stmt) : PSs X st (wS X st) := ⟨fun pins s _ _ _ I h => h pins s I⟩
theorem wI_ok (tg iter : Expr) : PI X tg iter (wI X tg iter) := ⟨fun pins s _ _ _ I h => h pins s I⟩
theorem wE_of {e : Expr} {t : TE} {Q : VK} (h : PE X e t) (q : t σ H Q) : wE X e σ H Q := fun pins s I => h.run pins s σ H Q I q
theorem wT_of {e : Expr} {t : TT} {Q : Bool → Hp → Prop} (h : PT X e t) (q : t σ H Q) : wT X e σ H Q := fun pins s I => h.run pins s σ H Q I q
theorem wW_of {e : Expr} {t : TT} {Q : Bool → Hp → Prop} (h : PW X e t) (q : t σ H Q) : wW X e σ H Q := fun wh pins s I => h.run wh pins s σ H Q I q
theorem wA_of {es : List Expr} {t : TA} {Q : List V → Hp → Prop} (h : PA X es t) (q : t σ H Q) : wA X es σ H Q := fun pos pins s I => h.run pos pins s σ H Q I q
theorem wS_of {st : List Stmt} {t : TS} {D : Ends} (h : PSs X st t) (q : t D σ H) : wS X st D σ H := fun pins s I => h.run pins s σ H D I q
theorem wI_of {tg iter : Expr} {t : TI} {R : It → Hp → Prop} (h : PI X tg iter t) (q : t σ H R) : wI X tg iter σ H R := fun pins s I => h.run pins s σ H R I q
end

/-! ## 5. the judgements of expressions; in a box, so that nobody looks through them -/
structure Box (p : Prop) : Prop where
  get : p
instance {p : Prop} : CoeFun (Box p) fun _ => p := ⟨Box.get⟩
section
variable (X : Cx) (S0 H0 : Hp)
/-- e gives a value that may be read in the heap behind it -/
abbrev EvB {α : Type} (G : Cxt) (e : Expr) (R : Rp α) (m : Option α) : Prop := Box (
  ∀ S H σ Q x, EnvOk S0 H0 S H G σ → m = some x → (∀ v S' H', Ext S H S' H' → R.r H' v x → Q v H') → wE X e σ H Q)
/-- e gives a thing of one's own -/
abbrev EvO {α : Type} (G : Cxt) (e : Expr) (O : Orp α) (m : Option α) : Prop := Box (
  ∀ S H σ Q x, EnvOk S0 H0 S H G σ → m = some x → (∀ v S' H' ps, Ext S H S' H' → O.r S' H' v x ps → Fresh H S' H' ps → Q v H') → wE X e σ H Q)
/-- e gives what stays -/
abbrev EvV {α : Type} (G : Cxt) (e : Expr) (R : Rp α) (m : Option α) : Prop := EvO X S0 H0 G e (oV R) m
abbrev Tst (G : Cxt) (e : Expr) (m : Option Bool) : Prop := Box (
  ∀ S H σ Q x, EnvOk S0 H0 S H G σ → m = some x → (∀ S' H', Ext S H S' H' → Q x H') → wT X e σ H Q)
abbrev TsW (G : Cxt) (e : Expr) (m : Option Bool) : Prop := Box (
  ∀ S H σ Q x, EnvOk S0 H0 S H G σ → m = some x → (∀ S' H', Ext S H S' H' → Q x H') → wW X e σ H Q)
end
def SlotV (H0 S : Hp) (v : V) : Slot → Prop
  | .any => True
  | .ow _ _ => False
  | .bw R x => R.r H0 v x
  | .val R x => R.r S v x
def SlotVs (H0 S : Hp) : List V → List Slot → Prop
  | [], [] => True
  | v :: vs, s :: ss => SlotV H0 S v s ∧ SlotVs H0 S vs ss
  | _, _ => False
/-- arguments: each lent (r by H) or staying (by S) -/
structure Arp (α : Type) where
  r : Hp → Hp → List V → α → Prop
  mono : ∀ {S S' H H' : Hp} {vs : List V} {x : α}, Ext S H S' H' → r S H vs x → r S' H' vs x
  sl : α → List Slot
  ok : ∀ {S H : Hp} {vs : List V} {x : α}, r S H vs x → SlotVs H S vs (sl x)
def aNil : Arp Unit := ⟨fun _ _ vs _ => vs = [], fun _ h => h, fun _ => [], fun h => by subst h; trivial⟩
def aV {α β : Type} (R : Rp α) (A : Arp β) : Arp (α × β) :=
  ⟨fun S H vs x => ∃ v ws, vs = v :: ws ∧ R.r S v x.1 ∧ A.r S H ws x.2, fun h ⟨v, ws, e, q, t⟩ => ⟨v, ws, e, R.mono h.st.k q, A.mono h t⟩, fun x => .val R x.1 :: A.sl x.2, fun ⟨v, ws, e, q, t⟩ => by subst e; exact ⟨q, A.ok t⟩⟩
def aB {α β : Type} (R : Rp α) (A : Arp β) : Arp (α × β) :=
  ⟨fun S H vs x => ∃ v ws, vs = v :: ws ∧ R.r H v x.1 ∧ A.r S H ws x.2, fun h ⟨v, ws, e, q, t⟩ => ⟨v, ws, e, R.mono h.hp q, A.mono h t⟩, fun x => .bw R x.1 :: A.sl x.2, fun ⟨v, ws, e, q, t⟩ => by subst e; exact ⟨q, A.ok t⟩⟩
abbrev EvA (X : Cx) (S0 H0 : Hp) {α : Type} (G : Cxt) (es : List Expr) (A : Arp α) (m : Option α) : Prop := Box (
  ∀ S H σ Q x, EnvOk S0 H0 S H G σ → m = some x → (∀ vs S' H', Ext S H S' H' → A.r S' H' vs x → Q vs H') → wA X es σ H Q)

section
variable {X : Cx} {S0 H0 S H S' H' : Hp} {G : Cxt} {σ : St} {α β γ : Type} {a b e : Expr} {pos pos' : Pos}
theorem EvO.lend {O : Orp α} {m : Option α} (h : EvO X S0 H0 G e O m) : EvB X S0 H0 G e O.fz m := .mk fun S H σ Q x E hm k =>
  h S H σ Q x E hm fun v S' H' ps X' r f => k v S' H' X' (O.frz r X'.sb fun _ _ => Kp.eq rfl)
/-- a thing of one's own becomes one that stays -/
theorem EvO.stay {O : Orp α} {m : Option α} (h : EvO X S0 H0 G e O m) : EvV X S0 H0 G e O.fz m := .mk fun S H σ Q x E hm k =>
  h S H σ Q x E hm fun v S' H' ps X' r f => by
    have hs : Same S' (putAll S' H' ps) := putAll_same fun p hp => (f.2 p hp).2.1
    refine k v (putAll S' H' ps) H' [] ⟨X'.st.trans hs, X'.hp, fun a n1 n2 => ?_, fun a o z => ?_, fun P t => (X'.tb P t).ext hs fun ps e => e⟩ ⟨O.frz r hs fun p hp => Kp.eq (by unfold putAll; rw [if_pos hp]), rfl⟩ Fresh.nil
    · unfold putAll; rw [if_neg (fun m => n2 (f.2 a m).1)]; exact X'.nw a n1 n2
    · unfold putAll at z
      split at z
      · exact z
      · exact X'.sb a o z
/-- a value that no heap touches -/
class Flat (R : Rp α) : Prop where
  fl : ∀ {H H' : Hp} {v : V} {x : α}, R.r H v x → R.r H' v x
instance : Flat rInt := ⟨fun h => h⟩
instance : Flat rBool := ⟨fun h => h⟩
instance : Flat rStr := ⟨fun h => h⟩
instance : Flat rUnit := ⟨fun h => h⟩
instance {R : Rp α} [Flat R] : Flat (rOpt R) := ⟨fun {H H' v x} h => by
  cases x with
  | none => exact h
  | some y => exact ⟨Flat.fl h.1, h.2⟩⟩
theorem EvB.val {R : Rp α} [Flat R] {m : Option α} (h : EvB X S0 H0 G e R m) : EvV X S0 H0 G e R m := .mk fun S H σ Q x E hm k =>
  h S H σ Q x E hm fun v S' H' X' r => k v S' H' [] X' ⟨Flat.fl r, rfl⟩ Fresh.nil
theorem EvB.to {R : Rp α} {m m' : Option α} (h : EvB X S0 H0 G e R m) (hm : ∀ x, m' = some x → m = some x) : EvB X S0 H0 G e R m' := .mk fun S H σ Q x E e' k => h S H σ Q x E (hm x e') k
theorem EvO.to {O : Orp α} {m m' : Option α} (h : EvO X S0 H0 G e O m) (hm : ∀ x, m' = some x → m = some x) : EvO X S0 H0 G e O m' := .mk fun S H σ Q x E e' k => h S H σ Q x E (hm x e') k
theorem Tst.to {m m' : Option Bool} (h : Tst X S0 H0 G e m) (hm : ∀ x, m' = some x → m = some x) : Tst X S0 H0 G e m' := .mk fun S H σ Q x E e' k => h S H σ Q x E (hm x e') k

/-! ### names, constants -/
theorem EvB.var {O : Orp α} {y : α} (i : Nat) {x : Str} (hN : X.N[i]? = some x) (hv : Vis X.env.scope x) (hG : G[i]? = some (.ow O y)) (hd : (x == ("__debug__" : Str)) = false := by decide) (hcd : (x == ("__classdict__" : Str)) = false := by decide) :
    EvB X S0 H0 G (.Name x pos) O.fz (some y) := .mk fun S H σ Q z E hm k => by
  cases hm
  obtain ⟨o, ps, e1, ⟨v, e2, r⟩, nd, fr⟩ := E.get hG
  subst e2
  exact wE_of (pe_var hN hv hd hcd) ⟨v, e1, k v S H (Ext.refl E.base.sb) (O.frz r E.base.sb fun _ _ => Kp.eq rfl)⟩
theorem EvB.vvar {R : Rp α} {y : α} (i : Nat) {x : Str} (hN : X.N[i]? = some x) (hv : Vis X.env.scope x) (hG : G[i]? = some (.val R y)) (hd : (x == ("__debug__" : Str)) = false := by decide) (hcd : (x == ("__classdict__" : Str)) = false := by decide) :
    EvB X S0 H0 G (.Name x pos) R (some y) := .mk fun S H σ Q z E hm k => by
  cases hm
  obtain ⟨o, ps, e1, ⟨v, e2, r, _⟩, nd, fr⟩ := E.get hG
  subst e2
  exact wE_of (pe_var hN hv hd hcd) ⟨v, e1, k v S H (Ext.refl E.base.sb) (R.mono E.base.sb r)⟩
theorem EvB.bvar {R : Rp α} {y : α} (i : Nat) {x : Str} (hN : X.N[i]? = some x) (hv : Vis X.env.scope x) (hG : G[i]? = some (.bw R y)) (hd : (x == ("__debug__" : Str)) = false := by decide) (hcd : (x == ("__classdict__" : Str)) = false := by decide) :
    EvB X S0 H0 G (.Name x pos) R (some y) := .mk fun S H σ Q z E hm k => by
  cases hm
  obtain ⟨o, ps, e1, ⟨v, e2, r, _⟩, nd, fr⟩ := E.get hG
  subst e2
  exact wE_of (pe_var hN hv hd hcd) ⟨v, e1, k v S H (Ext.refl E.base.sb) (R.mono E.base.hp r)⟩
theorem EvV.var {R : Rp α} {y : α} (i : Nat) {x : Str} (hN : X.N[i]? = some x) (hv : Vis X.env.scope x) (hG : G[i]? = some (.val R y)) (hd : (x == ("__debug__" : Str)) = false := by decide) (hcd : (x == ("__classdict__" : Str)) = false := by decide) :
    EvV X S0 H0 G (.Name x pos) R (some y) := .mk fun S H σ Q z E hm k => by
  cases hm
  obtain ⟨o, ps, e1, ⟨v, e2, r⟩, nd, fr⟩ := E.get hG
  subst e2
  exact wE_of (pe_var hN hv hd hcd) ⟨v, e1, k v S H [] (Ext.refl E.base.sb) ⟨r.1, rfl⟩ Fresh.nil⟩
theorem EvB.int {i : Int} {j} : EvB X S0 H0 G (.Constant (.int i) j pos) rInt (some i) := .mk fun S H σ Q z E hm k => by
  cases hm; exact wE_of pe_int (k _ S H (Ext.refl E.base.sb) rfl)
theorem EvB.bl {i : Bool} {j} : EvB X S0 H0 G (.Constant (.bool i) j pos) rBool (some i) := .mk fun S H σ Q z E hm k => by
  cases hm; exact wE_of pe_bl (k _ S H (Ext.refl E.base.sb) rfl)
theorem EvB.str {i : Str} {j} (hok : PyData.strOk i = true := by decide +kernel) : EvB X S0 H0 G (.Constant (.str i) j pos) rStr (some i) := .mk fun S H σ Q z E hm k => by
  cases hm; exact wE_of pe_str (k _ S H (Ext.refl E.base.sb) ⟨rfl, hok⟩)
theorem EvB.non {R : Rp α} {j} : EvB X S0 H0 G (.Constant .none j pos) (rOpt R) (some none) := .mk fun S H σ Q z E hm k => by
  cases hm; exact wE_of pe_non (k _ S H (Ext.refl E.base.sb) rfl)

/-! ### operators of ints -/
theorem bind_some_iff {m : Option α} {f : α → Option β} {y : β} (h : m.bind f = some y) : ∃ x, m = some x ∧ f x = some y := by
  cases m with
  | none => cases h
  | some x => exact ⟨x, rfl, h⟩
theorem EvB.two {R1 : Rp α} {R2 : Rp β} {R3 : Rp γ} {m1 : Option α} {m2 : Option β} {F : α → β → Option γ} {ev : Expr} {r : L2.R2} (ha : EvB X S0 H0 G a R1 m1) (hb : EvB X S0 H0 G b R2 m2)
    (hp : PE X ev (tOp r (wE X a) (wE X b))) (hr : ∀ S H Q v w x y z, Same S H → R1.r H v x → R2.r H w y → F x y = some z → (∀ u S' H', Ext S H S' H' → R3.r H' u z → Q u H') → r v w H Q) :
    EvB X S0 H0 G ev R3 (m1.bind fun x => m2.bind fun y => F x y) := .mk fun S H σ Q z E hm k => by
  obtain ⟨x, e1, hm⟩ := bind_some_iff hm
  obtain ⟨y, e2, hm⟩ := bind_some_iff hm
  refine wE_of hp (ha S H σ _ x E e1 fun v S1 H1 X1 r1 => ?_)
  refine hb S1 H1 σ _ y (E.mono X1) e2 fun w S2 H2 X2 r2 => ?_
  exact hr S2 H2 Q v w x y z X2.sb (R1.mono X2.hp r1) r2 hm fun u S' H' X' r' => k u S' H' ((X1.trans X2).trans X') r'
theorem EvB.opI {op : Operator} {C : Int → Int → Prop} {f : Int → Int → Int} {m1 m2 : Option Int} (F : Int → Int → Option Int) (ho : OpR X (binaryOp op) (rI C fun i j => .int (f i j))) (hF : ∀ i j k, F i j = some k → C i j ∧ k = f i j)
    (ha : EvB X S0 H0 G a rInt m1) (hb : EvB X S0 H0 G b rInt m2) : EvB X S0 H0 G (.BinOp a op b pos) rInt (m1.bind fun x => m2.bind fun y => F x y) :=
  EvB.two ha hb (pe_op ho (wE_ok a) (wE_ok b)) fun S H Q v w x y z sb r1 r2 hz k => by
    obtain ⟨c, rfl⟩ := hF x y z hz
    exact ⟨x, y, r1, r2, c, k _ S H (Ext.refl sb) rfl⟩
theorem EvB.opI0 {op : Operator} {f : Int → Int → Int} {m1 m2 : Option Int} (ho : OpR X (binaryOp op) (rI0 fun i j => .int (f i j)))
    (ha : EvB X S0 H0 G a rInt m1) (hb : EvB X S0 H0 G b rInt m2) : EvB X S0 H0 G (.BinOp a op b pos) rInt (m1.bind fun x => m2.bind fun y => some (f x y)) :=
  EvB.two ha hb (pe_op ho (wE_ok a) (wE_ok b)) fun S H Q v w x y z sb r1 r2 hz k => by
    cases hz
    exact ⟨x, y, r1, r2, k _ S H (Ext.refl sb) rfl⟩
theorem EvB.add {m1 m2 : Option Int} (ha : EvB X S0 H0 G a rInt m1) (hb : EvB X S0 H0 G b rInt m2) : EvB X S0 H0 G (.BinOp a .Add b pos) rInt (m1.bind fun x => m2.bind fun y => some (x + y)) := EvB.opI0 op_add ha hb
theorem EvB.sub {m1 m2 : Option Int} (ha : EvB X S0 H0 G a rInt m1) (hb : EvB X S0 H0 G b rInt m2) : EvB X S0 H0 G (.BinOp a .Sub b pos) rInt (m1.bind fun x => m2.bind fun y => some (x - y)) := EvB.opI0 op_sub ha hb
theorem EvB.band {m1 m2 : Option Int} (ha : EvB X S0 H0 G a rInt m1) (hb : EvB X S0 H0 G b rInt m2) : EvB X S0 H0 G (.BinOp a .BitAnd b pos) rInt (m1.bind fun x => m2.bind fun y => some (Builtin.bitAnd x y)) := EvB.opI0 op_and ha hb
theorem EvB.bor {m1 m2 : Option Int} (ha : EvB X S0 H0 G a rInt m1) (hb : EvB X S0 H0 G b rInt m2) : EvB X S0 H0 G (.BinOp a .BitOr b pos) rInt (m1.bind fun x => m2.bind fun y => some (Builtin.bitOr x y)) := EvB.opI0 op_or ha hb
theorem EvB.bxor {m1 m2 : Option Int} (ha : EvB X S0 H0 G a rInt m1) (hb : EvB X S0 H0 G b rInt m2) : EvB X S0 H0 G (.BinOp a .BitXor b pos) rInt (m1.bind fun x => m2.bind fun y => some (Builtin.bitXor x y)) := EvB.opI0 op_xor ha hb
end
/-- products within the model's line -/
def MulOk (x y : Int) : Prop := x.natAbs.log2 + y.natAbs.log2 < 1000000 ∨ (-(2 ^ 64) < x ∧ x < 2 ^ 64) ∨ (-(2 ^ 64) < y ∧ y < 2 ^ 64)
noncomputable def mulO (x y : Int) : Option Int := open Classical in if MulOk x y then some (x * y) else none
def DivOk (y : Int) : Prop := y ≠ 0 ∧ y.natAbs.log2 < 9000
noncomputable def fdivO (x y : Int) : Option Int := open Classical in if DivOk y then some (x.fdiv y) else none
def modO (x y : Int) : Option Int := if y ≠ 0 then some (x.fmod y) else none
theorem modO_pos {x y : Int} (h : 0 < y) : modO x y = some (x % y) := by
  unfold modO; rw [if_pos (by omega), Int.fmod_eq_emod_of_nonneg x (by omega)]
noncomputable def powO (x y : Int) : Option Int := open Classical in if 0 ≤ y ∧ (Builtin.Int.intBits x : Int) * y ≤ 2 ^ 27 then some (x ^ y.toNat) else none
def shlO (x y : Int) : Option Int := if 0 ≤ y ∧ y ≤ 1000000 ∧ x.natAbs < 2 ^ 64 then some (x * 2 ^ y.toNat) else none
def shrO (x y : Int) : Option Int := if 0 ≤ y then some (x / 2 ^ y.toNat) else none
section
variable {X : Cx} {S0 H0 S H S' H' : Hp} {G : Cxt} {σ : St} {α β γ : Type} {a b e : Expr} {pos pos' : Pos}
theorem op_mulG : OpR X (binaryOp .Mult) (rI MulOk fun i j => .int (i * j)) := opI fun _ _ _ _ _ _ _ hc q => by
  rcases hc with hc | hc
  · exact PyProof.Rows.mul_int q (CMulW.ok hc)
  · exact PyProof.Rows.mul_int q (CMul.ok hc)
theorem op_powG : OpR X (binaryOp .Pow) (rI (fun i j => 0 ≤ j ∧ (Builtin.Int.intBits i : Int) * j ≤ 2 ^ 27) fun i j => .int (i ^ j.toNat)) := opI fun _ _ _ _ _ _ _ hc q => PyProof.Rows.pow_int hc.1 hc.2 q
theorem EvB.mul {m1 m2 : Option Int} (ha : EvB X S0 H0 G a rInt m1) (hb : EvB X S0 H0 G b rInt m2) : EvB X S0 H0 G (.BinOp a .Mult b pos) rInt (m1.bind fun x => m2.bind fun y => mulO x y) :=
  EvB.opI mulO op_mulG (fun i j k h => by unfold mulO at h; split at h <;> simp_all) ha hb
theorem op_fdivG : OpR X (binaryOp .FloorDiv) (rI (fun _ j => DivOk j) fun i j => .int (i.fdiv j)) := opI fun i j _ _ _ _ _ hc q => PyProof.Rows.floordiv_int hc.1 q (.inl (PyProof.noPylong_of_log2 hc.2))
theorem op_modG : OpR X (binaryOp .Mod) (rI (fun _ j => j ≠ 0) fun i j => .int (i.fmod j)) := opI fun i j _ _ _ _ _ hc q => PyProof.Rows.mod_int hc q
theorem EvB.fdiv {m1 m2 : Option Int} (ha : EvB X S0 H0 G a rInt m1) (hb : EvB X S0 H0 G b rInt m2) : EvB X S0 H0 G (.BinOp a .FloorDiv b pos) rInt (m1.bind fun x => m2.bind fun y => fdivO x y) :=
  EvB.opI fdivO op_fdivG (fun i j k h => by
    unfold fdivO at h
    split at h
    · next c => exact ⟨c, (Option.some.inj h).symm⟩
    · cases h) ha hb
theorem EvB.mod {m1 m2 : Option Int} (ha : EvB X S0 H0 G a rInt m1) (hb : EvB X S0 H0 G b rInt m2) : EvB X S0 H0 G (.BinOp a .Mod b pos) rInt (m1.bind fun x => m2.bind fun y => modO x y) :=
  EvB.opI modO op_modG (fun i j k h => by
    unfold modO at h
    split at h
    · next c => exact ⟨c, (Option.some.inj h).symm⟩
    · cases h) ha hb
theorem EvB.pow {m1 m2 : Option Int} (ha : EvB X S0 H0 G a rInt m1) (hb : EvB X S0 H0 G b rInt m2) : EvB X S0 H0 G (.BinOp a .Pow b pos) rInt (m1.bind fun x => m2.bind fun y => powO x y) :=
  EvB.opI powO op_powG (fun i j k h => by unfold powO at h; split at h <;> simp_all) ha hb
theorem EvB.shl {m1 m2 : Option Int} (ha : EvB X S0 H0 G a rInt m1) (hb : EvB X S0 H0 G b rInt m2) : EvB X S0 H0 G (.BinOp a .LShift b pos) rInt (m1.bind fun x => m2.bind fun y => shlO x y) :=
  EvB.opI shlO op_shl (fun i j k h => by
    unfold shlO at h
    split at h
    · next c => exact ⟨c, (Option.some.inj h).symm⟩
    · cases h) ha hb
theorem EvB.shr {m1 m2 : Option Int} (ha : EvB X S0 H0 G a rInt m1) (hb : EvB X S0 H0 G b rInt m2) : EvB X S0 H0 G (.BinOp a .RShift b pos) rInt (m1.bind fun x => m2.bind fun y => shrO x y) :=
  EvB.opI shrO op_shr (fun i j k h => by
    unfold shrO at h
    split at h
    · next c => exact ⟨c, (Option.some.inj h).symm⟩
    · cases h) ha hb
/-- a written divisor, factor -/
theorem EvB.fdivC {m1 : Option Int} {c : Int} {j} (ha : EvB X S0 H0 G a rInt m1) (hc : (decide (0 < c) && decide (c < 1073741824)) = true := by decide) : EvB X S0 H0 G (.BinOp a .FloorDiv (.Constant (.int c) j pos') pos) rInt (m1.bind fun x => some (x / c)) :=
  (EvB.opI (fun x y => if 0 < y ∧ y < 1073741824 then some (x / y) else none) (op_fdivN) (fun i j k h => by
    split at h
    · next c => exact ⟨⟨by omega, by omega⟩, by rw [Int.fdiv_eq_ediv_of_nonneg i (by omega)]; exact (Option.some.inj h).symm⟩
    · cases h) ha EvB.int).to fun x h => by
      have h1 : 0 < c ∧ c < 1073741824 := by simpa using hc
      simpa [h1] using h
theorem EvB.modC {m1 : Option Int} {c : Int} {j} (ha : EvB X S0 H0 G a rInt m1) (hc : decide (0 < c) = true := by decide) : EvB X S0 H0 G (.BinOp a .Mod (.Constant (.int c) j pos') pos) rInt (m1.bind fun x => some (x % c)) :=
  (EvB.mod ha EvB.int).to fun x h => by
      have h1 : 0 < c := by simpa using hc
      simpa [modO_pos h1] using h
theorem MulOk.left {c y : Int} (h : (decide (-(2 ^ 64) < c) && decide (c < 2 ^ 64)) = true) : MulOk c y := .inr (.inl (by simpa using h))
theorem MulOk.right {c y : Int} (h : (decide (-(2 ^ 64) < c) && decide (c < 2 ^ 64)) = true) : MulOk y c := .inr (.inr (by simpa using h))
theorem mulO_left {c y : Int} (h : (decide (-(2 ^ 64) < c) && decide (c < 2 ^ 64)) = true) : mulO c y = some (c * y) := by unfold mulO; rw [if_pos (MulOk.left h)]
theorem mulO_right {c y : Int} (h : (decide (-(2 ^ 64) < c) && decide (c < 2 ^ 64)) = true) : mulO y c = some (y * c) := by unfold mulO; rw [if_pos (MulOk.right h)]
theorem EvB.mulL {m1 : Option Int} {c : Int} {j} (ha : EvB X S0 H0 G a rInt m1) (hc : (decide (-(2 ^ 64) < c) && decide (c < 2 ^ 64)) = true := by decide) : EvB X S0 H0 G (.BinOp (.Constant (.int c) j pos') .Mult a pos) rInt (m1.bind fun x => some (c * x)) :=
  (EvB.mul EvB.int ha).to fun x h => by
    show m1.bind (fun y => mulO c y) = _
    simpa only [mulO_left hc] using h
theorem EvB.mulR {m1 : Option Int} {c : Int} {j} (ha : EvB X S0 H0 G a rInt m1) (hc : (decide (-(2 ^ 64) < c) && decide (c < 2 ^ 64)) = true := by decide) : EvB X S0 H0 G (.BinOp a .Mult (.Constant (.int c) j pos') pos) rInt (m1.bind fun x => some (x * c)) :=
  (EvB.mul ha EvB.int).to fun x h => by
    show m1.bind (fun y => mulO y c) = _
    simpa only [mulO_right hc] using h
theorem EvB.neg {m1 : Option Int} (ha : EvB X S0 H0 G a rInt m1) : EvB X S0 H0 G (.UnaryOp .USub a pos) rInt (m1.bind fun x => some (-x)) := .mk fun S H σ Q z E hm k => by
  obtain ⟨x, e1, hm⟩ := bind_some_iff hm
  cases hm
  exact wE_of (pe_un un_neg (wE_ok a)) (ha S H σ _ x E e1 fun v S1 H1 X1 r1 => ⟨x, r1, k _ S1 H1 X1 rfl⟩)

/-! ### comparisons, truth -/
theorem EvB.cmp {op : CmpOp} {f : Int → Int → Bool} {m1 m2 : Option Int} (ho : OpR X (compareOp op) (rI0 fun i j => .bl (f i j))) (ha : EvB X S0 H0 G a rInt m1) (hb : EvB X S0 H0 G b rInt m2) (hm : behindInMarks op b = false) :
    EvB X S0 H0 G (.Compare a [op] [b] pos) rBool (m1.bind fun x => m2.bind fun y => some (f x y)) :=
  EvB.two ha hb (pe_cmpR ho (wE_ok a) (wE_ok b) hm) fun S H Q v w x y z sb r1 r2 hz k => by
    cases hz
    exact ⟨x, y, r1, r2, k _ S H (Ext.refl sb) rfl⟩
theorem EvB.lt {m1 m2 : Option Int} (ha : EvB X S0 H0 G a rInt m1) (hb : EvB X S0 H0 G b rInt m2) : EvB X S0 H0 G (.Compare a [.Lt] [b] pos) rBool (m1.bind fun x => m2.bind fun y => some (decide (x < y))) := EvB.cmp op_lt ha hb (nomark _)
theorem EvB.le {m1 m2 : Option Int} (ha : EvB X S0 H0 G a rInt m1) (hb : EvB X S0 H0 G b rInt m2) : EvB X S0 H0 G (.Compare a [.LtE] [b] pos) rBool (m1.bind fun x => m2.bind fun y => some (decide (x ≤ y))) := EvB.cmp op_le ha hb (nomark _)
theorem EvB.gt {m1 m2 : Option Int} (ha : EvB X S0 H0 G a rInt m1) (hb : EvB X S0 H0 G b rInt m2) : EvB X S0 H0 G (.Compare a [.Gt] [b] pos) rBool (m1.bind fun x => m2.bind fun y => some (decide (y < x))) := EvB.cmp op_gt ha hb (nomark _)
theorem EvB.ge {m1 m2 : Option Int} (ha : EvB X S0 H0 G a rInt m1) (hb : EvB X S0 H0 G b rInt m2) : EvB X S0 H0 G (.Compare a [.GtE] [b] pos) rBool (m1.bind fun x => m2.bind fun y => some (decide (y ≤ x))) := EvB.cmp op_ge ha hb (nomark _)
/-- values that == tells apart by sight: ints, bools, texts -/
class Scal (R : Rp α) : Prop where
  ok : ∀ {H : Hp} {v w : V} {x y : α}, R.r H v x → R.r H w y → scal v w = true ∧ (v = w ↔ x = y)
instance : Scal rInt := ⟨fun h k => by cases h; cases k; exact ⟨rfl, by simp⟩⟩
instance : Scal rBool := ⟨fun h k => by cases h; cases k; exact ⟨rfl, by simp⟩⟩
instance : Scal rStr := ⟨fun h k => by cases h.1; cases k.1; exact ⟨rfl, by simp⟩⟩
theorem EvB.eq {R : Rp α} [Scal R] [DecidableEq α] {m1 m2 : Option α} (ha : EvB X S0 H0 G a R m1) (hb : EvB X S0 H0 G b R m2) : EvB X S0 H0 G (.Compare a [.Eq] [b] pos) rBool (m1.bind fun x => m2.bind fun y => some (decide (x = y))) :=
  EvB.two ha hb (pe_cmpR op_eq (wE_ok a) (wE_ok b) (nomark _)) fun S H Q v w x y z sb r1 r2 hz k => by
    cases hz
    obtain ⟨c1, c2⟩ := Scal.ok r1 r2
    refine ⟨c1, k _ S H (Ext.refl sb) ?_⟩
    show V.bl _ = V.bl _
    congr 1
    exact decide_eq_decide.mpr c2
theorem EvB.ne {R : Rp α} [Scal R] [DecidableEq α] {m1 m2 : Option α} (ha : EvB X S0 H0 G a R m1) (hb : EvB X S0 H0 G b R m2) : EvB X S0 H0 G (.Compare a [.NotEq] [b] pos) rBool (m1.bind fun x => m2.bind fun y => some (!decide (x = y))) :=
  EvB.two ha hb (pe_cmpR op_ne (wE_ok a) (wE_ok b) (nomark _)) fun S H Q v w x y z sb r1 r2 hz k => by
    cases hz
    obtain ⟨c1, c2⟩ := Scal.ok r1 r2
    refine ⟨c1, k _ S H (Ext.refl sb) ?_⟩
    show V.bl _ = V.bl _
    congr 2
    exact decide_eq_decide.mpr c2
theorem EvB.isN {R : Rp α} {m1 : Option (Option α)} {j} (ha : EvB X S0 H0 G a (rOpt R) m1) : EvB X S0 H0 G (.Compare a [.Is] [.Constant .none j pos'] pos) rBool (m1.bind fun x => some x.isNone) := .mk fun S H σ Q z E hm k => by
  obtain ⟨x, e1, hm⟩ := bind_some_iff hm
  cases hm
  refine wE_of (pe_cmpR op_isN (wE_ok a) pe_non (nomark _)) (ha S H σ _ x E e1 fun v S1 H1 X1 r1 => ⟨rfl, k _ S1 H1 X1 ?_⟩)
  cases x with
  | none => have : v = .non := r1; subst this; rfl
  | some y => show V.bl (decide _) = .bl false; rw [decide_eq_false r1.2]
theorem EvB.notN {R : Rp α} {m1 : Option (Option α)} {j} (ha : EvB X S0 H0 G a (rOpt R) m1) : EvB X S0 H0 G (.Compare a [.IsNot] [.Constant .none j pos'] pos) rBool (m1.bind fun x => some x.isSome) := .mk fun S H σ Q z E hm k => by
  obtain ⟨x, e1, hm⟩ := bind_some_iff hm
  cases hm
  refine wE_of (pe_cmpR op_notN (wE_ok a) pe_non (nomark _)) (ha S H σ _ x E e1 fun v S1 H1 X1 r1 => ⟨rfl, k _ S1 H1 X1 ?_⟩)
  cases x with
  | none => have : v = .non := r1; subst this; rfl
  | some y => show V.bl (!decide _) = .bl true; rw [decide_eq_false r1.2]; rfl
theorem EvB.tst {m : Option Bool} (h : EvB X S0 H0 G e rBool m) (he : ∀ whole, isTrue e X.env whole = (do let v ← whole; standAt e.pos; PySem.holding [v] (truthy v)) := by intro _; rfl) : Tst X S0 H0 G e m := .mk fun S H σ Q z E hm k =>
  wT_of (pt_val (wE_ok e) he) (h S H σ _ z E hm fun v S1 H1 X1 r1 => ⟨z, r1, k S1 H1 X1⟩)
theorem Tst.not {m : Option Bool} (h : Tst X S0 H0 G a m) : Tst X S0 H0 G (.UnaryOp .Not a pos) (m.bind fun x => some !x) := .mk fun S H σ Q z E hm k => by
  obtain ⟨x, e1, hm⟩ := bind_some_iff hm
  cases hm
  exact wT_of (pt_not (wT_ok a)) (h S H σ _ x E e1 fun S1 H1 X1 => k S1 H1 X1)
theorem TsW.t {m : Option Bool} (h : TsW X S0 H0 G e m) : Tst X S0 H0 G e m := .mk fun S H σ Q z E hm k pins s I => h S H σ Q z E hm k _ pins s I
theorem TsW.and1 {m : Option Bool} (h : Tst X S0 H0 G a m) : TsW X S0 H0 G (.BoolOp .And [a] pos) m := .mk fun S H σ Q z E hm k =>
  wW_of (pw_and1 (wT_ok a)) (h S H σ Q z E hm k)
theorem TsW.or1 {m : Option Bool} (h : Tst X S0 H0 G a m) : TsW X S0 H0 G (.BoolOp .Or [a] pos) m := .mk fun S H σ Q z E hm k =>
  wW_of (pw_or1 (wT_ok a)) (h S H σ Q z E hm k)
theorem TsW.and {rest : List Expr} {m1 m2 : Option Bool} (h : Tst X S0 H0 G a m1) (h2 : TsW X S0 H0 G (.BoolOp .And (b :: rest) pos) m2) : TsW X S0 H0 G (.BoolOp .And (a :: b :: rest) pos) (m1.bind fun x => if x = true then m2 else some false) := .mk fun S H σ Q z E hm k => by
  obtain ⟨x, e1, hm⟩ := bind_some_iff hm
  refine wW_of (pw_and (wT_ok a) (wW_ok _)) (h S H σ _ x E e1 fun S1 H1 X1 => ?_)
  cases x with
  | true => exact h2 S1 H1 σ Q z (E.mono X1) hm fun S2 H2 X2 => k S2 H2 (X1.trans X2)
  | false => cases hm; exact k S1 H1 X1
theorem TsW.or {rest : List Expr} {m1 m2 : Option Bool} (h : Tst X S0 H0 G a m1) (h2 : TsW X S0 H0 G (.BoolOp .Or (b :: rest) pos) m2) : TsW X S0 H0 G (.BoolOp .Or (a :: b :: rest) pos) (m1.bind fun x => if x = true then some true else m2) := .mk fun S H σ Q z E hm k => by
  obtain ⟨x, e1, hm⟩ := bind_some_iff hm
  refine wW_of (pw_or (wT_ok a) (wW_ok _)) (h S H σ _ x E e1 fun S1 H1 X1 => ?_)
  cases x with
  | false => exact h2 S1 H1 σ Q z (E.mono X1) hm fun S2 H2 X2 => k S2 H2 (X1.trans X2)
  | true => cases hm; exact k S1 H1 X1
/-- and, or, not as values -/
theorem EvB.and1 {op} {m : Option Bool} (h : EvB X S0 H0 G a rBool m) : EvB X S0 H0 G (.BoolOp op [a] pos) rBool m := .mk fun S H σ Q z E hm k =>
  wE_of (pe_one (wE_ok a)) (h S H σ Q z E hm k)
theorem EvB.and {rest : List Expr} {m1 m2 : Option Bool} (h : EvB X S0 H0 G a rBool m1) (h2 : EvB X S0 H0 G (.BoolOp .And (b :: rest) pos) rBool m2) : EvB X S0 H0 G (.BoolOp .And (a :: b :: rest) pos) rBool (m1.bind fun x => if x = true then m2 else some false) := .mk fun S H σ Q z E hm k => by
  obtain ⟨x, e1, hm⟩ := bind_some_iff hm
  refine wE_of (pe_and (wE_ok a) (wE_ok _)) (h S H σ _ x E e1 fun v S1 H1 X1 r1 => ⟨x, r1, ?_⟩)
  cases x with
  | true => exact h2 S1 H1 σ Q z (E.mono X1) hm fun v S2 H2 X2 => k v S2 H2 (X1.trans X2)
  | false => cases hm; exact k _ S1 H1 X1 rfl
theorem EvB.or {rest : List Expr} {m1 m2 : Option Bool} (h : EvB X S0 H0 G a rBool m1) (h2 : EvB X S0 H0 G (.BoolOp .Or (b :: rest) pos) rBool m2) : EvB X S0 H0 G (.BoolOp .Or (a :: b :: rest) pos) rBool (m1.bind fun x => if x = true then some true else m2) := .mk fun S H σ Q z E hm k => by
  obtain ⟨x, e1, hm⟩ := bind_some_iff hm
  refine wE_of (pe_or (wE_ok a) (wE_ok _)) (h S H σ _ x E e1 fun v S1 H1 X1 r1 => ⟨x, r1, ?_⟩)
  cases x with
  | false => exact h2 S1 H1 σ Q z (E.mono X1) hm fun v S2 H2 X2 => k v S2 H2 (X1.trans X2)
  | true => cases hm; exact k _ S1 H1 X1 rfl
theorem EvB.not {m : Option Bool} (h : EvB X S0 H0 G a rBool m) : EvB X S0 H0 G (.UnaryOp .Not a pos) rBool (m.bind fun x => some !x) := .mk fun S H σ Q z E hm k => by
  obtain ⟨x, e1, hm⟩ := bind_some_iff hm
  cases hm
  exact wE_of (pe_not (wE_ok a)) (h S H σ _ x E e1 fun v S1 H1 X1 r1 => ⟨x, r1, k _ S1 H1 X1 rfl⟩)
/-- a test by its value -/
theorem EvB.ifE {c : Expr} {R : Rp α} {mc : Option Bool} {m1 m2 : Option α} (hc : Tst X S0 H0 G c mc) (ha : EvB X S0 H0 G a R m1) (hb : EvB X S0 H0 G b R m2) : EvB X S0 H0 G (.IfExp c a b pos) R (mc.bind fun x => if x = true then m1 else m2) := .mk fun S H σ Q z E hm k => by
  obtain ⟨x, e1, hm⟩ := bind_some_iff hm
  refine wE_of (pe_ifExp (wT_ok c) (wE_ok a) (wE_ok b)) (hc S H σ _ x E e1 fun S1 H1 X1 => ?_)
  cases x with
  | true => exact ha S1 H1 σ Q z (E.mono X1) hm fun v S2 H2 X2 => k v S2 H2 (X1.trans X2)
  | false => exact hb S1 H1 σ Q z (E.mono X1) hm fun v S2 H2 X2 => k v S2 H2 (X1.trans X2)
end
end Gc

namespace Gc
open PySem L2
variable [Tn]

/-! ## 6. lists and tuples -/
/-- a list's standing, read -/
class SqRp (K : PySem.W.Frag) {α : Type} (RL : Rp (List α)) (R : outParam (Rp α)) : Prop where
  sq : ∀ {H : Hp} {v : V} {xs : List α}, RL.r H v xs → ∃ a vs, v = .ref a ∧ SqL K H a vs ∧ Paired (R.r H) vs xs ∧ xs.length ≤ sizeLine
instance (priority := 3000) sqL {K : PySem.W.Frag} {α : Type} {R : Rp α} : SqRp K (rL R) R := ⟨fun ⟨a, vs, e, q, p, l⟩ => ⟨a, vs, e, .inl (.inl q), p, l⟩⟩
instance (priority := 2000) sqS {K : PySem.W.Frag} {α : Type} {R : Rp α} : SqRp K (rSq K R) R := ⟨fun ⟨a, vs, e, q, p, l⟩ => ⟨a, vs, e, q, p, l⟩⟩

instance (priority := 100) sqBlk {X : Cx} {α : Type} {RL : Rp (List α)} {R : Rp α} {s : Shared} {H : Hp} {sc : Scope} {env : Env} {fp : List Addr} [L : SqRp X.K RL R] : SqRp (X.blk s H sc env fp).K RL R := ⟨fun h => L.sq h⟩
theorem ints_of {H : Hp} : ∀ {vs : List V} {xs : List Int}, Paired (rInt.r H) vs xs → vs = xs.map V.int
  | _, _, .nil => rfl
  | _, _, .cons r t => by rw [List.map_cons, ← ints_of t]; exact congrArg (· :: _) r
theorem bls_of {H : Hp} : ∀ {vs : List V} {xs : List Bool}, Paired (rBool.r H) vs xs → vs = xs.map V.bl
  | _, _, .nil => rfl
  | _, _, .cons r t => by rw [List.map_cons, ← bls_of t]; exact congrArg (· :: _) r
theorem paired_of_ints {H : Hp} : ∀ xs : List Int, Paired (rInt.r H) (xs.map V.int) xs
  | [] => .nil
  | x :: xs => .cons rfl (paired_of_ints xs)
theorem atI_paired {α β : Type} {F : α → β → Prop} {l : List α} {m : List β} {i : Int} {y : β} (p : Paired F l m) (h : atI m i = some y) : ∃ x, atI l i = some x ∧ F x y := by
  unfold atI at h ⊢
  rw [paired_len p]
  obtain ⟨j, e1, e2⟩ := bind_some_iff h
  obtain ⟨x, e3, r⟩ := paired_at p e2
  exact ⟨x, by rw [e1]; exact e3, r⟩
theorem Fresh.app {H H1 S1 S2 H2 : Hp} {ps qs : List Addr} (hh : Keep H H1) (x : Ext S1 H1 S2 H2) (f : Fresh H S1 H1 ps) (g : Fresh H1 S2 H2 qs) : Fresh H S2 H2 (ps ++ qs) := by
  refine ⟨List.nodup_append.mpr ⟨f.1, g.1, fun a ha b hb e => ?_⟩, fun p hp => ?_⟩
  · subst e; exact (f.2 a ha).2.2 (g.2 a hb).1
  · rcases List.mem_append.mp hp with h | h
    · obtain ⟨a, b, c⟩ := f.2 p h
      exact ⟨a, x.nw p b c, ne_keep x.hp c⟩
    · obtain ⟨a, b, c⟩ := g.2 p h
      exact ⟨hh.free a, b, c⟩
theorem Fresh.grow {H H0 S' H' : Hp} {ps : List Addr} (hh : Keep H0 H) (f : Fresh H S' H' ps) : Fresh H0 S' H' ps :=
  ⟨f.1, fun p hp => let ⟨a, b, c⟩ := f.2 p hp; ⟨hh.free a, b, c⟩⟩
section
variable {X : Cx} {S0 H0 S H S' H' : Hp} {G : Cxt} {σ : St} {α β γ : Type} {a b e : Expr} {pos pos' : Pos}
/-! ### places, lengths -/
theorem EvB.ix {RL : Rp (List α)} {R : Rp α} {m1 : Option (List α)} {m2 : Option Int} [L : SqRp X.K RL R] (ha : EvB X S0 H0 G a RL m1) (hb : EvB X S0 H0 G b rInt m2) (hs : PlainIx b := by exact fun _ _ => rfl) :
    EvB X S0 H0 G (.Subscript a b pos) R (m1.bind fun xs => m2.bind fun i => atI xs i) :=
  EvB.two ha hb (pe_ix ix_list (wE_ok a) (wE_ok b) hs) fun S H Q v w xs i z sb r1 r2 hz k => by
    obtain ⟨p, vs, rfl, q, pr, _⟩ := L.sq r1
    obtain ⟨u, hu, ru⟩ := atI_paired pr hz
    exact ⟨p, vs, i, u, rfl, r2, q, hu, k u S H (Ext.refl sb) ru⟩
/-- the place of a list that stays: what is there stays -/
theorem EvV.ix {RL : Rp (List α)} {R : Rp α} {m1 : Option (List α)} {m2 : Option Int} [L : SqRp X.K RL R] (ha : EvV X S0 H0 G a RL m1) (hb : EvB X S0 H0 G b rInt m2) (hs : PlainIx b := by exact fun _ _ => rfl) :
    EvV X S0 H0 G (.Subscript a b pos) R (m1.bind fun xs => m2.bind fun i => atI xs i) := .mk fun S H σ Q z E hm k => by
  obtain ⟨xs, e1, hm⟩ := bind_some_iff hm
  obtain ⟨i, e2, hm⟩ := bind_some_iff hm
  refine wE_of (pe_ix ix_list (wE_ok a) (wE_ok b) hs) (ha S H σ _ xs E e1 fun v S1 H1 ps X1 r1 f1 => ?_)
  refine hb S1 H1 σ _ i (E.mono X1) e2 fun w S2 H2 X2 r2 => ?_
  obtain ⟨p, vs, rfl, q, pr, _⟩ := L.sq (RL.mono X2.st.k r1.1)
  obtain ⟨u, hu, ru⟩ := atI_paired pr hm
  exact ⟨p, vs, i, u, rfl, r2, Same.seq X2.sb q, hu, k u S2 H2 [] (X1.trans X2) ⟨ru, rfl⟩ Fresh.nil⟩
/-- a part of a tuple -/
structure Proj {α β : Type} (Rs : Rps α) (k : Nat) (R : Rp β) (f : α → β) : Prop where
  pj : ∀ {S : Hp} {vs : List V} {x : α}, Rs.r S vs x → ∃ v, vs[k]? = some v ∧ R.r S v (f x)
theorem pj1 {R : Rp α} : Proj (rsOne R) 0 R (fun x => x) := ⟨fun ⟨v, e, q⟩ => ⟨v, by rw [e]; rfl, q⟩⟩
theorem pj0 {R : Rp α} {Rs : Rps β} : Proj (rsCons R Rs) 0 R (fun x => x.1) := ⟨fun ⟨v, ws, e, q, t⟩ => ⟨v, by rw [e]; rfl, q⟩⟩
theorem pjS {R : Rp α} {Rs : Rps β} {k : Nat} {R' : Rp γ} {f : β → γ} (h : Proj Rs k R' f) : Proj (rsCons R Rs) (k + 1) R' (fun x => f x.2) := ⟨fun ⟨v, ws, e, q, t⟩ => by
  obtain ⟨u, e1, r⟩ := h.pj t
  exact ⟨u, by rw [e]; exact e1, r⟩⟩
theorem EvB.tix {Rs : Rps α} {R : Rp β} {k : Nat} {f : α → β} {m1 : Option α} {j} (ha : EvB X S0 H0 G a (rT Rs) m1) (p : Proj Rs k R f) :
    EvB X S0 H0 G (.Subscript a (.Constant (.int (k : Int)) j pos') pos) R (m1.bind fun x => some (f x)) := .mk fun S H σ Q z E hm kk => by
  obtain ⟨x, e1, hm⟩ := bind_some_iff hm
  cases hm
  refine wE_of (pe_ix ix_tup (wE_ok a) pe_int (fun _ _ => rfl)) (ha S H σ _ x E e1 fun v S1 H1 X1 r1 => ?_)
  obtain ⟨t, vs, rfl, q, r⟩ := r1
  obtain ⟨u, e2, ru⟩ := p.pj r
  exact ⟨t, vs, k, u, rfl, rfl, .inl (.inl q), atI_nat e2, kk u S1 H1 X1 ru⟩
theorem EvV.tix {Rs : Rps α} {R : Rp β} {k : Nat} {f : α → β} {m1 : Option α} {j} (ha : EvV X S0 H0 G a (rT Rs) m1) (p : Proj Rs k R f) :
    EvV X S0 H0 G (.Subscript a (.Constant (.int (k : Int)) j pos') pos) R (m1.bind fun x => some (f x)) := .mk fun S H σ Q z E hm kk => by
  obtain ⟨x, e1, hm⟩ := bind_some_iff hm
  cases hm
  refine wE_of (pe_ix ix_tup (wE_ok a) pe_int (fun _ _ => rfl)) (ha S H σ _ x E e1 fun v S1 H1 ps X1 r1 f1 => ?_)
  obtain ⟨t, vs, rfl, q, r⟩ := r1.1
  obtain ⟨u, e2, ru⟩ := p.pj r
  exact ⟨t, vs, k, u, rfl, rfl, .inl (.inl (X1.sb _ _ q)), atI_nat e2, kk u S1 H1 [] X1 ⟨ru, rfl⟩ Fresh.nil⟩
theorem EvB.len {x : Str} {p : Pos} {RL : Rp (List α)} {R : Rp α} {m1 : Option (List α)} [L : SqRp X.K RL R] (ha : EvB X S0 H0 G a RL m1) (hg : Gl X x) (hm : X.mg x = none) (hv : bootBuiltins x = some (.builtin "len")) (hn : x ≠ "__name__" := by decide) (hdb : (x == ("__debug__" : Str)) = false := by decide)
    (he : starEach [a] X.env = (false, eval a X.env) :: starEach [] X.env := by rfl) :
    EvB X S0 H0 G (.Call (.Name x p) [a] [] pos) rInt (m1.bind fun xs => some (xs.length : Int)) := .mk fun S H σ Q z E hm' k => by
  obtain ⟨xs, e1, hm'⟩ := bind_some_iff hm'
  cases hm'
  refine wE_of (pe_callB call_len_seq hg hm hv (pa_cons (wE_ok a) pa_nil he) hn hdb he) (ha S H σ _ xs E e1 fun v S1 H1 X1 r1 => ?_)
  obtain ⟨t, vs, rfl, q, pr, _⟩ := L.sq r1
  exact ⟨t, vs, rfl, .inl q, by rw [paired_len pr]; exact k _ S1 H1 X1 rfl⟩
end
/-! ### built-ins of one list -/
def minL : List Int → Option Int
  | [] => none
  | x :: xs => some (xs.foldl min x)
def maxL : List Int → Option Int
  | [] => none
  | x :: xs => some (xs.foldl max x)
theorem foldl_min_le : ∀ (xs : List Int) (x : Int), xs.foldl min x ≤ x ∧ (∀ y ∈ xs, xs.foldl min x ≤ y) ∧ (xs.foldl min x = x ∨ xs.foldl min x ∈ xs)
  | [], x => ⟨by simp, by simp, by simp⟩
  | y :: ys, x => by
    obtain ⟨h1, h2, h3⟩ := foldl_min_le ys (min x y)
    rw [List.foldl_cons]
    refine ⟨by omega, fun z hz => ?_, ?_⟩
    · rcases List.mem_cons.mp hz with rfl | hz
      · omega
      · exact h2 z hz
    · rcases h3 with h3 | h3
      · rw [h3]
        by_cases c : x ≤ y
        · left; omega
        · right; rw [show min x y = y by omega]; exact List.mem_cons_self
      · right; exact List.mem_cons_of_mem _ h3
theorem foldl_max_le : ∀ (xs : List Int) (x : Int), x ≤ xs.foldl max x ∧ (∀ y ∈ xs, y ≤ xs.foldl max x) ∧ (xs.foldl max x = x ∨ xs.foldl max x ∈ xs)
  | [], x => ⟨by simp, by simp, by simp⟩
  | y :: ys, x => by
    obtain ⟨h1, h2, h3⟩ := foldl_max_le ys (max x y)
    rw [List.foldl_cons]
    refine ⟨by omega, fun z hz => ?_, ?_⟩
    · rcases List.mem_cons.mp hz with rfl | hz
      · omega
      · exact h2 z hz
    · rcases h3 with h3 | h3
      · rw [h3]
        by_cases c : y ≤ x
        · left; omega
        · right; rw [show max x y = y by omega]; exact List.mem_cons_self
      · right; exact List.mem_cons_of_mem _ h3
theorem minL_spec {xs : List Int} {m : Int} (h : minL xs = some m) : m ∈ xs ∧ ∀ y ∈ xs, m ≤ y := by
  cases xs with
  | nil => cases h
  | cons x r =>
    cases h
    obtain ⟨h1, h2, h3⟩ := foldl_min_le r x
    refine ⟨?_, fun y hy => ?_⟩
    · rcases h3 with h3 | h3
      · rw [h3]; exact List.mem_cons_self
      · exact List.mem_cons_of_mem _ h3
    · rcases List.mem_cons.mp hy with rfl | hy
      · exact h1
      · exact h2 y hy
theorem maxL_spec {xs : List Int} {m : Int} (h : maxL xs = some m) : m ∈ xs ∧ ∀ y ∈ xs, y ≤ m := by
  cases xs with
  | nil => cases h
  | cons x r =>
    cases h
    obtain ⟨h1, h2, h3⟩ := foldl_max_le r x
    refine ⟨?_, fun y hy => ?_⟩
    · rcases h3 with h3 | h3
      · rw [h3]; exact List.mem_cons_self
      · exact List.mem_cons_of_mem _ h3
    · rcases List.mem_cons.mp hy with rfl | hy
      · exact h1
      · exact h2 y hy
section
variable {X : Cx} {S0 H0 S H S' H' : Hp} {G : Cxt} {σ : St} {α β γ : Type} {a b e : Expr} {pos pos' : Pos}
theorem EvB.sum {x : Str} {p : Pos} {RL : Rp (List Int)} {m1 : Option (List Int)} [L : SqRp X.K RL rInt] (ha : EvB X S0 H0 G a RL m1) (hg : Gl X x) (hm : X.mg x = none) (hv : bootBuiltins x = some (.builtin "sum")) (hc : X.calm = true := by rfl) (hn : x ≠ "__name__" := by decide) (hdb : (x == ("__debug__" : Str)) = false := by decide)
    (he : starEach [a] X.env = (false, eval a X.env) :: starEach [] X.env := by rfl) :
    EvB X S0 H0 G (.Call (.Name x p) [a] [] pos) rInt (m1.bind fun xs => some xs.sum) := .mk fun S H σ Q z E hm' k => by
  obtain ⟨xs, e1, hm'⟩ := bind_some_iff hm'
  cases hm'
  refine wE_of (pe_callB (cr_sum hc) hg hm hv (pa_cons (wE_ok a) pa_nil he) hn hdb he) (ha S H σ _ xs E e1 fun v S1 H1 X1 r1 => ?_)
  obtain ⟨t, vs, rfl, q, pr, _⟩ := L.sq r1
  exact ⟨t, xs, rfl, by rw [← ints_of pr]; exact q, k _ S1 H1 X1 rfl⟩
theorem EvB.minl {x : Str} {p : Pos} {RL : Rp (List Int)} {m1 : Option (List Int)} [L : SqRp X.K RL rInt] (ha : EvB X S0 H0 G a RL m1) (hg : Gl X x) (hm : X.mg x = none) (hv : bootBuiltins x = some (.builtin "min")) (hc : X.calm = true := by rfl) (hn : x ≠ "__name__" := by decide) (hdb : (x == ("__debug__" : Str)) = false := by decide)
    (he : starEach [a] X.env = (false, eval a X.env) :: starEach [] X.env := by rfl) :
    EvB X S0 H0 G (.Call (.Name x p) [a] [] pos) rInt (m1.bind minL) := .mk fun S H σ Q z E hm' k => by
  obtain ⟨xs, e1, hm'⟩ := bind_some_iff hm'
  obtain ⟨h1, h2⟩ := minL_spec hm'
  refine wE_of (pe_callB (cr_min hc) hg hm hv (pa_cons (wE_ok a) pa_nil he) hn hdb he) (ha S H σ _ xs E e1 fun v S1 H1 X1 r1 => ?_)
  obtain ⟨t, vs, rfl, q, pr, _⟩ := L.sq r1
  refine ⟨t, xs, rfl, by rw [← ints_of pr]; exact q, List.length_pos_of_mem h1, fun m' q1 q2 => k _ S1 H1 X1 ?_⟩
  show V.int m' = V.int z
  rw [show m' = z from Int.le_antisymm (q2 z h1) (h2 m' q1)]
theorem EvB.maxl {x : Str} {p : Pos} {RL : Rp (List Int)} {m1 : Option (List Int)} [L : SqRp X.K RL rInt] (ha : EvB X S0 H0 G a RL m1) (hg : Gl X x) (hm : X.mg x = none) (hv : bootBuiltins x = some (.builtin "max")) (hc : X.calm = true := by rfl) (hn : x ≠ "__name__" := by decide) (hdb : (x == ("__debug__" : Str)) = false := by decide)
    (he : starEach [a] X.env = (false, eval a X.env) :: starEach [] X.env := by rfl) :
    EvB X S0 H0 G (.Call (.Name x p) [a] [] pos) rInt (m1.bind maxL) := .mk fun S H σ Q z E hm' k => by
  obtain ⟨xs, e1, hm'⟩ := bind_some_iff hm'
  obtain ⟨h1, h2⟩ := maxL_spec hm'
  refine wE_of (pe_callB (cr_max hc) hg hm hv (pa_cons (wE_ok a) pa_nil he) hn hdb he) (ha S H σ _ xs E e1 fun v S1 H1 X1 r1 => ?_)
  obtain ⟨t, vs, rfl, q, pr, _⟩ := L.sq r1
  refine ⟨t, xs, rfl, by rw [← ints_of pr]; exact q, List.length_pos_of_mem h1, fun m' q1 q2 => k _ S1 H1 X1 ?_⟩
  show V.int m' = V.int z
  rw [show m' = z from Int.le_antisymm (h2 m' q1) (q2 z h1)]
theorem EvB.all {x : Str} {p : Pos} {RL : Rp (List Bool)} {m1 : Option (List Bool)} [L : SqRp X.K RL rBool] (ha : EvB X S0 H0 G a RL m1) (hg : Gl X x) (hm : X.mg x = none) (hv : bootBuiltins x = some (.builtin "all")) (hc : X.calm = true := by rfl) (hn : x ≠ "__name__" := by decide) (hdb : (x == ("__debug__" : Str)) = false := by decide)
    (he : starEach [a] X.env = (false, eval a X.env) :: starEach [] X.env := by rfl) :
    EvB X S0 H0 G (.Call (.Name x p) [a] [] pos) rBool (m1.bind fun xs => some (xs.all id)) := .mk fun S H σ Q z E hm' k => by
  obtain ⟨xs, e1, hm'⟩ := bind_some_iff hm'
  cases hm'
  refine wE_of (pe_callB (cr_all hc) hg hm hv (pa_cons (wE_ok a) pa_nil he) hn hdb he) (ha S H σ _ xs E e1 fun v S1 H1 X1 r1 => ?_)
  obtain ⟨t, vs, rfl, q, pr, _⟩ := L.sq r1
  exact ⟨t, xs, rfl, by rw [← bls_of pr]; exact q, k _ S1 H1 X1 rfl⟩
theorem EvB.abs {x : Str} {p : Pos} {m1 : Option Int} (ha : EvB X S0 H0 G a rInt m1) (hg : Gl X x) (hm : X.mg x = none) (hv : bootBuiltins x = some (.builtin "abs")) (hn : x ≠ "__name__" := by decide) (hdb : (x == ("__debug__" : Str)) = false := by decide)
    (he : starEach [a] X.env = (false, eval a X.env) :: starEach [] X.env := by rfl) :
    EvB X S0 H0 G (.Call (.Name x p) [a] [] pos) rInt (m1.bind fun x => some (if x < 0 then -x else x)) := .mk fun S H σ Q z E hm' k => by
  obtain ⟨xs, e1, hm'⟩ := bind_some_iff hm'
  cases hm'
  exact wE_of (pe_callB call_abs hg hm hv (pa_cons (wE_ok a) pa_nil he) hn hdb he) (ha S H σ _ xs E e1 fun v S1 H1 X1 r1 => ⟨xs, congrArg (· :: []) r1, k _ S1 H1 X1 rfl⟩)
theorem EvB.min2 {x : Str} {p : Pos} {m1 m2 : Option Int} (ha : EvB X S0 H0 G a rInt m1) (hb : EvB X S0 H0 G b rInt m2) (hg : Gl X x) (hm : X.mg x = none) (hv : bootBuiltins x = some (.builtin "min")) (hc : X.calm = true := by rfl) (hn : x ≠ "__name__" := by decide) (hdb : (x == ("__debug__" : Str)) = false := by decide)
    (he : starEach [a, b] X.env = (false, eval a X.env) :: starEach [b] X.env := by rfl) (he2 : starEach [b] X.env = (false, eval b X.env) :: starEach [] X.env := by rfl) (hpl : (backTo pos (starEach [b] X.env)).any (·.1) = false := by rfl) :
    EvB X S0 H0 G (.Call (.Name x p) [a, b] [] pos) rInt (m1.bind fun x => m2.bind fun y => some (min x y)) := .mk fun S H σ Q z E hm' k => by
  obtain ⟨i, e1, hm'⟩ := bind_some_iff hm'
  obtain ⟨j, e2, hm'⟩ := bind_some_iff hm'
  cases hm'
  refine wE_of (pe_callB (call_min2 hc) hg hm hv (pa_cons (wE_ok a) (pa_cons (wE_ok b) pa_nil he2) he) hn hdb he hpl) (ha S H σ _ i E e1 fun v S1 H1 X1 r1 => ?_)
  refine hb S1 H1 σ _ j (E.mono X1) e2 fun w S2 H2 X2 r2 => ?_
  have r1 : v = .int i := r1
  have r2 : w = .int j := r2
  subst r1 r2
  refine ⟨i, j, rfl, k _ S2 H2 (X1.trans X2) ?_⟩
  show V.int _ = V.int _
  congr 1
  split <;> omega
theorem EvB.max2 {x : Str} {p : Pos} {m1 m2 : Option Int} (ha : EvB X S0 H0 G a rInt m1) (hb : EvB X S0 H0 G b rInt m2) (hg : Gl X x) (hm : X.mg x = none) (hv : bootBuiltins x = some (.builtin "max")) (hc : X.calm = true := by rfl) (hn : x ≠ "__name__" := by decide) (hdb : (x == ("__debug__" : Str)) = false := by decide)
    (he : starEach [a, b] X.env = (false, eval a X.env) :: starEach [b] X.env := by rfl) (he2 : starEach [b] X.env = (false, eval b X.env) :: starEach [] X.env := by rfl) (hpl : (backTo pos (starEach [b] X.env)).any (·.1) = false := by rfl) :
    EvB X S0 H0 G (.Call (.Name x p) [a, b] [] pos) rInt (m1.bind fun x => m2.bind fun y => some (max x y)) := .mk fun S H σ Q z E hm' k => by
  obtain ⟨i, e1, hm'⟩ := bind_some_iff hm'
  obtain ⟨j, e2, hm'⟩ := bind_some_iff hm'
  cases hm'
  refine wE_of (pe_callB (call_max2 hc) hg hm hv (pa_cons (wE_ok a) (pa_cons (wE_ok b) pa_nil he2) he) hn hdb he hpl) (ha S H σ _ i E e1 fun v S1 H1 X1 r1 => ?_)
  refine hb S1 H1 σ _ j (E.mono X1) e2 fun w S2 H2 X2 r2 => ?_
  have r1 : v = .int i := r1
  have r2 : w = .int j := r2
  subst r1 r2
  refine ⟨i, j, rfl, k _ S2 H2 (X1.trans X2) ?_⟩
  show V.int _ = V.int _
  congr 1
  split <;> omega
theorem EvB.intb {x : Str} {p : Pos} {m1 : Option Bool} (ha : EvB X S0 H0 G a rBool m1) (hg : Gl X x) (hm : X.mg x = none) (hv : bootBuiltins x = some (.type "int")) (hn : x ≠ "__name__" := by decide) (hdb : (x == ("__debug__" : Str)) = false := by decide)
    (he : starEach [a] X.env = (false, eval a X.env) :: starEach [] X.env := by rfl) :
    EvB X S0 H0 G (.Call (.Name x p) [a] [] pos) rInt (m1.bind fun x => some (if x then 1 else 0)) := .mk fun S H σ Q z E hm' k => by
  obtain ⟨xs, e1, hm'⟩ := bind_some_iff hm'
  cases hm'
  exact wE_of (pe_callTy call_int1 hg hm hv (pa_cons (wE_ok a) pa_nil he) hn hdb he) (ha S H σ _ xs E e1 fun v S1 H1 X1 r1 => .inr ⟨xs, congrArg (· :: []) r1, k _ S1 H1 X1 rfl⟩)
theorem EvB.bits {apos : Pos} {m1 : Option Int} (ha : EvB X S0 H0 G a rInt m1) (hbase : attributeBase a "bit_length" X.env (eval a X.env) = eval a X.env := by rfl) (hline : (apos.endLine == pos.line) = true := by rfl) :
    EvB X S0 H0 G (.Call (.Attribute a "bit_length" apos) [] [] pos) rInt (m1.bind fun x => some ((Builtin.Int.intBits x : Nat) : Int)) := .mk fun S H σ Q z E hm' k => by
  obtain ⟨xs, e1, hm'⟩ := bind_some_iff hm'
  cases hm'
  exact wE_of (pe_bits (wE_ok a) hbase hline) (ha S H σ _ xs E e1 fun v S1 H1 X1 r1 => ⟨xs, r1, k _ S1 H1 X1 rfl⟩)

/-! ### new lists and tuples -/
/-- the items of a display, all of one kind -/
abbrev EvIt (X : Cx) (S0 H0 : Hp) {α : Type} (G : Cxt) (es : List Expr) (O : Orp α) (m : Option (List α)) : Prop := Box (
  ∀ S H σ Q xs, EnvOk S0 H0 S H G σ → m = some xs → (∀ vs S' H' ps, Ext S H S' H' → Els O S' H' vs xs ps → Fresh H S' H' ps → vs.length = es.length → Q vs H') → wA X es σ H Q)
theorem EvIt.nil {O : Orp α} : EvIt X S0 H0 G [] O (some []) := .mk fun S H σ Q xs E hm k => by
  cases hm
  exact wA_of pa_nil (k [] S H [] (Ext.refl E.base.sb) .nil Fresh.nil rfl)
theorem EvIt.cons {O : Orp α} {es : List Expr} {m1 : Option α} {m2 : Option (List α)} (h : EvO X S0 H0 G e O m1) (h2 : EvIt X S0 H0 G es O m2) (he : starEach (e :: es) X.env = (false, eval e X.env) :: starEach es X.env := by rfl) :
    EvIt X S0 H0 G (e :: es) O (m1.bind fun x => m2.bind fun xs => some (x :: xs)) := .mk fun S H σ Q xs E hm k => by
  obtain ⟨x, e1, hm⟩ := bind_some_iff hm
  obtain ⟨xs', e2, hm⟩ := bind_some_iff hm
  cases hm
  refine wA_of (pa_cons (wE_ok e) (wA_ok es) he) (h S H σ _ x E e1 fun v S1 H1 ps X1 r1 f1 => ?_)
  refine h2 S1 H1 σ _ xs' (E.mono X1) e2 fun vs S2 H2 qs X2 r2 f2 hl => ?_
  exact k _ S2 H2 (ps ++ qs) (X1.trans X2) (.cons (O.mono X2.st (fun p hp => Same.at_ne X2.hp (f1.2 p hp).2.2) r1) r2) (f1.app X1.hp X2 f2) (by rw [List.length_cons, List.length_cons, hl])
theorem EvO.lst {O : Orp α} {es : List Expr} {m : Option (List α)} (h : EvIt X S0 H0 G es O m) (hl : decide (es.length ≤ 1000) = true := by rfl) : EvO X S0 H0 G (.List es pos) (oL O) m := .mk fun S H σ Q xs E hm k =>
  wE_of (pe_lst (wA_ok es)) (h S H σ _ xs E hm fun vs S1 H1 ps X1 r1 f1 hlen => by
    have hl := of_decide_eq_true hl
    have hsz : vs.length ≤ sizeLine := by rw [hlen]; exact Nat.le_trans hl (by decide)
    refine ⟨hsz, fun p hp => ?_⟩
    have X2 : Ext S1 H1 S1 (upd H1 p (.lst vs)) := Ext.own X1.sb hp
    have hps : ∀ q ∈ ps, upd H1 p (.lst vs) q = H1 q := fun q hq => upd_ne fun z => (f1.2 q hq).2.2 (by rw [z]; exact hp)
    have fp : Fresh H1 S1 (upd H1 p (.lst vs)) [p] := ⟨by simp, fun q hq => by
      have : q = p := by simpa using hq
      subst this
      exact ⟨hp, X1.sb.free hp, by rw [upd_same]; simp⟩⟩
    refine k (.ref p) S1 _ (p :: ps) (X1.trans X2) ⟨p, vs, ps, rfl, upd_same, rfl, r1.mono (Same.refl S1) fun q hq => Kp.eq (hps q hq), by rw [← r1.len]; exact hsz⟩ ?_
    have f2 := f1.app X1.hp X2 fp
    exact ⟨by
      have := List.nodup_append.mp f2.1
      exact List.nodup_cons.mpr ⟨fun hm => this.2.2 p hm p (by simp) rfl, this.1⟩, fun q hq => f2.2 q (by
        rcases List.mem_cons.mp hq with rfl | hq
        · exact List.mem_append_right _ (by simp)
        · exact List.mem_append_left _ hq)⟩)
/-- the items of a tuple -/
abbrev EvTs (X : Cx) (S0 H0 : Hp) {α : Type} (G : Cxt) (es : List Expr) (Os : Orps α) (m : Option α) : Prop := Box (
  ∀ S H σ Q x, EnvOk S0 H0 S H G σ → m = some x → (∀ vs S' H' ps, Ext S H S' H' → Os.r S' H' vs x ps → Fresh H S' H' ps → vs.length = es.length → Q vs H') → wA X es σ H Q)
theorem EvTs.one {O : Orp α} {m1 : Option α} (h : EvO X S0 H0 G e O m1) (he : starEach [e] X.env = (false, eval e X.env) :: starEach [] X.env := by rfl) : EvTs X S0 H0 G [e] (osOne O) m1 := .mk fun S H σ Q x E hm k =>
  wA_of (pa_cons (wE_ok e) pa_nil he) (h S H σ _ x E hm fun v S1 H1 ps X1 r1 f1 => k [v] S1 H1 ps X1 ⟨v, rfl, r1⟩ f1 rfl)
theorem EvTs.cons {O : Orp α} {Os : Orps β} {es : List Expr} {m1 : Option α} {m2 : Option β} (h : EvO X S0 H0 G e O m1) (h2 : EvTs X S0 H0 G es Os m2) (he : starEach (e :: es) X.env = (false, eval e X.env) :: starEach es X.env := by rfl) :
    EvTs X S0 H0 G (e :: es) (osCons O Os) (m1.bind fun x => m2.bind fun y => some (x, y)) := .mk fun S H σ Q xs E hm k => by
  obtain ⟨x, e1, hm⟩ := bind_some_iff hm
  obtain ⟨y, e2, hm⟩ := bind_some_iff hm
  cases hm
  refine wA_of (pa_cons (wE_ok e) (wA_ok es) he) (h S H σ _ x E e1 fun v S1 H1 ps X1 r1 f1 => ?_)
  refine h2 S1 H1 σ _ y (E.mono X1) e2 fun vs S2 H2 qs X2 r2 f2 hl => ?_
  exact k _ S2 H2 (ps ++ qs) (X1.trans X2) ⟨v, vs, ps, qs, rfl, O.mono X2.st (fun p hp => Same.at_ne X2.hp (f1.2 p hp).2.2) r1, r2, rfl⟩ (f1.app X1.hp X2 f2) (by rw [List.length_cons, List.length_cons, hl])
theorem EvO.tup {Os : Orps α} {es : List Expr} {m : Option α} {x1} (h : EvTs X S0 H0 G es Os m) (hl : decide (es.length ≤ 1000) = true := by rfl) : EvO X S0 H0 G (.Tuple es x1 pos) (oT Os) m := .mk fun S H σ Q x E hm k =>
  wE_of (pe_tup (wA_ok es)) (h S H σ _ x E hm fun vs S1 H1 ps X1 r1 f1 hlen => by
    have hl := of_decide_eq_true hl
    have hsz : vs.length ≤ sizeLine := by rw [hlen]; exact Nat.le_trans hl (by decide)
    refine ⟨hsz, fun p hp => ?_⟩
    have X2 : Ext S1 H1 (upd S1 p (.tup vs)) (upd H1 p (.tup vs)) := Ext.val X1.sb hp
    have hps : ∀ q ∈ ps, upd H1 p (.tup vs) q = H1 q := fun q hq => upd_ne fun z => (f1.2 q hq).2.2 (by rw [z]; exact hp)
    refine k (.ref p) _ _ ps (X1.trans X2) ⟨p, vs, rfl, upd_same, Os.mono X2.st (fun q hq => Kp.eq (hps q hq)) r1⟩ ⟨f1.1, fun q hq => ?_⟩
    obtain ⟨a, b, c⟩ := f1.2 q hq
    exact ⟨a, X2.nw q b c, ne_keep X2.hp c⟩)
/-- list(xs): a new list -/
theorem EvO.listV {x : Str} {p : Pos} {RL : Rp (List α)} {R : Rp α} {m1 : Option (List α)} [L : SqRp X.K RL R] (ha : EvV X S0 H0 G a RL m1) (hg : Gl X x) (hm : X.mg x = none) (hv : bootBuiltins x = some (.type "list")) (hn : x ≠ "__name__" := by decide) (hdb : (x == ("__debug__" : Str)) = false := by decide)
    (he : starEach [a] X.env = (false, eval a X.env) :: starEach [] X.env := by rfl) :
    EvO X S0 H0 G (.Call (.Name x p) [a] [] pos) (oL (oV R)) m1 := .mk fun S H σ Q xs E e1 k => by
  refine wE_of (pe_callTy call_list_of hg hm hv (pa_cons (wE_ok a) pa_nil he) hn hdb he) (ha S H σ _ xs E e1 fun v S1 H1 ps X1 r1 f1 => ?_)
  obtain ⟨t, vs, rfl, q, pr, hl⟩ := L.sq r1.1
  refine ⟨t, vs, rfl, .inl (Same.seq X1.sb q), fun l hn => ?_⟩
  refine k (.ref l) S1 _ [l] (X1.trans (Ext.own X1.sb hn)) ⟨l, vs, [], rfl, upd_same, rfl, Els.of pr, hl⟩ ⟨by simp, fun q hq => ?_⟩
  have : q = l := by simpa using hq
  subst this
  exact ⟨X1.hp.free hn, X1.sb.free hn, by rw [upd_same]; simp⟩
theorem EvO.listB {x : Str} {p : Pos} {RL : Rp (List α)} {R : Rp α} [Flat R] {m1 : Option (List α)} [L : SqRp X.K RL R] (ha : EvB X S0 H0 G a RL m1) (hg : Gl X x) (hm : X.mg x = none) (hv : bootBuiltins x = some (.type "list")) (hn : x ≠ "__name__" := by decide) (hdb : (x == ("__debug__" : Str)) = false := by decide)
    (he : starEach [a] X.env = (false, eval a X.env) :: starEach [] X.env := by rfl) :
    EvO X S0 H0 G (.Call (.Name x p) [a] [] pos) (oL (oV R)) m1 := .mk fun S H σ Q xs E e1 k => by
  refine wE_of (pe_callTy call_list_of hg hm hv (pa_cons (wE_ok a) pa_nil he) hn hdb he) (ha S H σ _ xs E e1 fun v S1 H1 X1 r1 => ?_)
  obtain ⟨t, vs, rfl, q, pr, hl⟩ := L.sq r1
  refine ⟨t, vs, rfl, .inl q, fun l hn => ?_⟩
  refine k (.ref l) S1 _ [l] (X1.trans (Ext.own X1.sb hn)) ⟨l, vs, [], rfl, upd_same, rfl, Els.of (Paired.map_r (fun _ _ h => Flat.fl h) pr), hl⟩ ⟨by simp, fun q hq => ?_⟩
  have : q = l := by simpa using hq
  subst this
  exact ⟨X1.hp.free hn, X1.sb.free hn, by rw [upd_same]; simp⟩

/-! ### arguments, calls -/
theorem EvA.nil : EvA X S0 H0 G [] aNil (some ()) := .mk fun S H σ Q x E hm k => wA_of pa_nil (k [] S H (Ext.refl E.base.sb) rfl)
theorem EvA.consV {R : Rp α} {A : Arp β} {es : List Expr} {m1 : Option α} {m2 : Option β} (h : EvV X S0 H0 G e R m1) (h2 : EvA X S0 H0 G es A m2) (he : starEach (e :: es) X.env = (false, eval e X.env) :: starEach es X.env := by rfl) :
    EvA X S0 H0 G (e :: es) (aV R A) (m1.bind fun x => m2.bind fun y => some (x, y)) := .mk fun S H σ Q z E hm k => by
  obtain ⟨x, e1, hm⟩ := bind_some_iff hm
  obtain ⟨y, e2, hm⟩ := bind_some_iff hm
  cases hm
  refine wA_of (pa_cons (wE_ok e) (wA_ok es) he) (h S H σ _ x E e1 fun v S1 H1 ps X1 r1 f1 => ?_)
  refine h2 S1 H1 σ _ y (E.mono X1) e2 fun vs S2 H2 X2 r2 => ?_
  exact k _ S2 H2 (X1.trans X2) ⟨v, vs, rfl, R.mono X2.st.k r1.1, r2⟩
theorem EvA.consB {R : Rp α} {A : Arp β} {es : List Expr} {m1 : Option α} {m2 : Option β} (h : EvB X S0 H0 G e R m1) (h2 : EvA X S0 H0 G es A m2) (he : starEach (e :: es) X.env = (false, eval e X.env) :: starEach es X.env := by rfl) :
    EvA X S0 H0 G (e :: es) (aB R A) (m1.bind fun x => m2.bind fun y => some (x, y)) := .mk fun S H σ Q z E hm k => by
  obtain ⟨x, e1, hm⟩ := bind_some_iff hm
  obtain ⟨y, e2, hm⟩ := bind_some_iff hm
  cases hm
  refine wA_of (pa_cons (wE_ok e) (wA_ok es) he) (h S H σ _ x E e1 fun v S1 H1 X1 r1 => ?_)
  refine h2 S1 H1 σ _ y (E.mono X1) e2 fun vs S2 H2 X2 r2 => ?_
  exact k _ S2 H2 (X1.trans X2) ⟨v, vs, rfl, R.mono X2.hp r1, r2⟩
end
/-- what a def does: called with what A says of x, it hands back what O says of f x -/
def spOf {α β : Type} (A : Arp α) (O : Orp β) (f : α → Option β) : Sp := fun vs H Q _ => ∃ S x y, Same S H ∧ A.r S H vs x ∧ f x = some y ∧ ∀ v S' H' ps, Ext S H S' H' → O.r S' H' v y ps → Fresh H S' H' ps → Q v H'
def NoE : XK := fun _ _ _ => False
def Fn (P : Program) (w : World) (K : PySem.W.Frag) (mg : Str → Option Value) (base : Heap) (k : Nat) (name : Str) {α β : Type} (A : Arp α) (O : Orp β) (f : α → Option β) (dvs : List V) : Prop :=
  ∃ CX a fd ps ds, FnOk P w K mg base CX k a fd ps (spOf A O f) ∧ (∀ X, X.prog = P → X.w = w → Passes CX X NoE) ∧ mg name = some (.ref a) ∧ PySem.W.keepIn K (.ref a) = true ∧ Binds K fd ps ds ∧ Vals dvs ds
theorem Fn.mono {P : Program} {w : World} {K : PySem.W.Frag} {mg : Str → Option Value} {base : Heap} {j k : Nat} {name : Str} {α β : Type} {A : Arp α} {O : Orp β} {f : α → Option β} {dvs : List V} (F : Fn P w K mg base j name A O f dvs) (h : j ≤ k) : Fn P w K mg base k name A O f dvs :=
  let ⟨CX, a, fd, ps, ds, h1, h2⟩ := F
  ⟨CX, a, fd, ps, ds, h1.mono h, h2⟩
section
variable {X : Cx} {S0 H0 S H S' H' : Hp} {G : Cxt} {σ : St} {α β γ : Type} {a b e : Expr} {pos pos' : Pos}
theorem EvO.call {x : Str} {p : Pos} {k : Nat} {es : List Expr} {A : Arp α} {O : Orp β} {f : α → Option β} {m : Option α} (F : Fn X.prog X.w X.K X.mg X.base k x A O f []) (hr : Room k X.A) (hg : Gl X x) (ha : EvA X S0 H0 G (e :: es) A m) (hdb : (x == ("__debug__" : Str)) = false := by decide)
    (he : starEach (e :: es) X.env = (false, eval e X.env) :: starEach es X.env := by rfl) (hpl : (backTo pos (starEach es X.env)).any (·.1) = false := by rfl) : EvO X S0 H0 G (.Call (.Name x p) (e :: es) [] pos) O (m.bind f) := .mk fun S H σ Q y E hm kk => by
  obtain ⟨z, e1, hm⟩ := bind_some_iff hm
  obtain ⟨CX, fa, fd, ps, ds, h1, h2, h3, h4, h5, h6⟩ := F
  cases h6
  refine wE_of (pe_call h1 hr hg h3 h4 h5 .nil (h2 X rfl rfl) (wA_ok _) hdb he hpl) (ha S H σ _ z E e1 fun vs S1 H1 X1 r1 => ?_)
  rw [List.append_nil]
  exact ⟨S1, z, y, X1.sb, r1, hm, fun v S' H' ps X2 r f => kk v S' H' ps (X1.trans X2) r (f.grow X1.hp)⟩
end
end Gc

namespace Gc
open PySem L2
variable [Tn]

/-! ## 7. what is walked -/
inductive Item where
  | one (s : Slot)
  | tup (ss : List Slot)
def ItemV (K : PySem.W.Frag) (H0 S H : Hp) (v : V) : Item → Prop
  | .one s => SlotV H0 S v s
  | .tup ss => ∃ a vs, v = .ref a ∧ SqT K H a vs ∧ SlotVs H0 S vs ss
theorem EnvOk.setS {S0 H0 S H : Hp} {G : Cxt} {σ : St} {v : V} {s : Slot} (i : Nat) (E : EnvOk S0 H0 S H G σ) (r : SlotV H0 S v s) : EnvOk S0 H0 S H (G.set i s) (σ.set i (some v)) := by
  cases s with
  | any => exact E.wipe1
  | ow O x => exact r.elim
  | bw R x => exact E.setB i (Ext.refl E.base.sb) r
  | val R x => exact E.setV i (Ext.refl E.base.sb) r
theorem wipe_comm {σ : St} {i : Nat} {o : Option V} : ∀ {ws : List Nat}, wipe (σ.set i o) ws = (if i ∈ ws then wipe σ ws else (wipe σ ws).set i o)
  | [] => by simp [wipe]
  | w :: ws => by
    unfold wipe
    rw [wipe_comm (ws := ws)]
    by_cases h : i ∈ ws
    · rw [if_pos h, if_pos (List.mem_cons_of_mem _ h)]
    · rw [if_neg h]
      by_cases e : i = w
      · subst e; rw [if_pos List.mem_cons_self, List.set_set]
      · rw [if_neg (by simp [h, e]), List.set_comm _ _ e]
theorem wipe_set {σ : St} {i : Nat} {o : Option V} {ws : List Nat} (h : i ∈ ws) : wipe (σ.set i o) ws = wipe σ ws := by rw [wipe_comm, if_pos h]
theorem wipe_wipe {σ : St} {ws : List Nat} : ∀ {vs : List Nat}, (∀ v ∈ vs, v ∈ ws) → wipe (wipe σ vs) ws = wipe σ ws
  | [], _ => rfl
  | v :: vs, h => by
    show wipe ((wipe σ vs).set v none) ws = _
    rw [wipe_set (h v List.mem_cons_self), wipe_wipe fun u hu => h u (List.mem_cons_of_mem _ hu)]
/-- how a target takes an item -/
def TgK (K : PySem.W.Frag) {α : Type} (g : TG) (mk : α → Item) (set : α → Cxt → Cxt) (is : List Nat) : Prop :=
  ∀ S0 H0 S H G σ v x Q, EnvOk S0 H0 S H G σ → ItemV K H0 S H v (mk x) → (∀ σ', EnvOk S0 H0 S H (set x G) σ' → (∀ ws, (∀ i ∈ is, i ∈ ws) → wipe σ' ws = wipe σ ws) → Q σ' H) → g v σ H Q
theorem tg1 {K : PySem.W.Frag} {α : Type} (i : Nat) (s : α → Slot) : TgK K (gName i) (fun x => .one (s x)) (fun x G => G.set i (s x)) [i] := fun S0 H0 S H G σ v x Q E r k =>
  k _ (E.setS i r) fun ws h => wipe_set (h i (by simp))
theorem tg2 {K : PySem.W.Frag} {α : Type} (i j : Nat) (s t : α → Slot) : TgK K (gTup K 2 (gCons (gName i) (gCons (gName j) gNil))) (fun x => .tup [s x, t x]) (fun x G => (G.set i (s x)).set j (t x)) [i, j] := fun S0 H0 S H G σ v x Q E r k => by
  obtain ⟨a, vs, rfl, q, r⟩ := r
  match vs, r with
  | [_, _], ⟨r1, r2, _⟩ =>
  exact ⟨a, _, rfl, q, rfl, _, _, rfl, _, _, rfl, rfl, k _ ((E.setS i r1).setS j r2) fun ws h => by rw [wipe_set (h j (by simp)), wipe_set (h i (by simp))]⟩
theorem tg3 {K : PySem.W.Frag} {α : Type} (i j l : Nat) (s t u : α → Slot) : TgK K (gTup K 3 (gCons (gName i) (gCons (gName j) (gCons (gName l) gNil)))) (fun x => .tup [s x, t x, u x]) (fun x G => ((G.set i (s x)).set j (t x)).set l (u x)) [i, j, l] := fun S0 H0 S H G σ v x Q E r k => by
  obtain ⟨a, vs, rfl, q, r⟩ := r
  match vs, r with
  | [_, _, _], ⟨r1, r2, r3, _⟩ =>
  exact ⟨a, _, rfl, q, rfl, _, _, rfl, _, _, rfl, _, _, rfl, rfl, k _ (((E.setS i r1).setS j r2).setS l r3) fun ws h => by rw [wipe_set (h l (by simp)), wipe_set (h j (by simp)), wipe_set (h i (by simp))]⟩
/-- an iterator over xs, as long as what is at B and what stays in S1 is there -/
structure ItOk (K : PySem.W.Frag) (B : Hp) (J : It) (S1 : Hp) {α : Type} (mk : α → Item) (xs : List α) : Prop where
  len : xs.length ≤ sizeLine
  go : ∀ S' H', Same S1 S' → Same S' H' → Keep B H' → ∀ i x, xs[i]? = some x → J.go i H' ∧ ∀ v H'', J.yld i H' v H'' → ∃ S'', Ext S' H' S'' H'' ∧ ItemV K B S'' H'' v (mk x)
  stop : ∀ S' H', Same S1 S' → Same S' H' → Keep B H' → ∀ i, xs.length ≤ i → J.stop i H'
abbrev ItS (X : Cx) (S0 H0 : Hp) {α : Type} (G : Cxt) (tg iter : Expr) (mk : α → Item) (m : Option (List α)) : Prop := Box (
  ∀ S H σ R xs, EnvOk S0 H0 S H G σ → m = some xs → (∀ J S1 H1, Ext S H S1 H1 → ItOk X.K H0 J S1 mk xs → R J H1) → wI X tg iter σ H R)
abbrev ItC (X : Cx) (S0 H0 : Hp) {α : Type} (G : Cxt) (tg iter : Expr) (mk : α → Item) (m : Option (List α)) : Prop := Box (
  ∀ S H σ R xs, EnvOk S0 H0 S H G σ → m = some xs → (∀ J S1 H1, Ext S H S1 H1 → ItOk X.K H1 J S1 mk xs → R J H1) → wI X tg iter σ H R)
def rangeL (lo hi : Int) : List Int := (List.range (hi - lo).toNat).map fun (k : Nat) => lo + (k : Int)
def rngO (lo hi : Int) : Option (List Int) := if -(2 ^ 62) ≤ lo ∧ lo < 2 ^ 62 ∧ -(2 ^ 62) ≤ hi ∧ hi < 2 ^ 62 ∧ hi - lo ≤ 2 ^ 24 then some (rangeL lo hi) else none
theorem itl_ok {K : PySem.W.Frag} {B S1 : Hp} {a : Addr} {vs : List V} {α : Type} {mk : α → Item} {xs : List α} (hlen : xs.length ≤ sizeLine) (hl : vs.length = xs.length) (hq : ∀ S' H', Same S1 S' → Same S' H' → Keep B H' → SqL K H' a vs)
    (hi : ∀ (i : Nat) x v S' H', Same S1 S' → Same S' H' → Keep B H' → xs[i]? = some x → vs[i]? = some v → ItemV K B S' H' v (mk x)) : ItOk K B (Itl K a) S1 mk xs where
  len := hlen
  go := fun S' H' h1 h2 h3 i x e => by
    have hlt : i < vs.length := by rw [hl]; exact (List.getElem?_eq_some_iff.mp e).1
    refine ⟨⟨vs, vs[i], hq S' H' h1 h2 h3, List.getElem?_eq_getElem hlt⟩, fun v H'' y => ?_⟩
    obtain ⟨rfl, f⟩ := y
    exact ⟨S', Ext.refl h2, hi i x v S' H'' h1 h2 h3 e (f _ (hq S' H'' h1 h2 h3))⟩
  stop := fun S' H' h1 h2 h3 i e => ⟨vs, hq S' H' h1 h2 h3, by rw [hl]; exact e⟩
section
variable {X : Cx} {S0 H0 S H S' H' : Hp} {G : Cxt} {σ : St} {α β γ : Type} {tg a b e : Expr} {pos pos' : Pos}
theorem paired_get2 {F : α → β → Prop} : ∀ {l : List α} {m : List β} {i : Nat} {x : α} {y : β}, Paired F l m → l[i]? = some x → m[i]? = some y → F x y
  | _, _, _, _, _, .nil, e, _ => by simp at e
  | _, _, 0, _, _, .cons r _, e, e' => by simp at e e'; subst e e'; exact r
  | _, _, i + 1, _, _, .cons _ t, e, e' => paired_get2 (i := i) t (by simpa using e) (by simpa using e')
/-- over a list that is lent -/
theorem ItC.lst {RL : Rp (List α)} {R : Rp α} {m : Option (List α)} [L : SqRp X.K RL R] (h : EvB X S0 H0 G e RL m) : ItC X S0 H0 G tg e (fun x => .one (.bw R x)) m := .mk fun S H σ Rk xs E hm k => by
  refine wI_of (pi_list (wE_ok e)) (h S H σ _ xs E hm fun v S1 H1 X1 r1 => ?_)
  obtain ⟨t, vs, rfl, q, pr, hl⟩ := L.sq r1
  exact ⟨t, rfl, ⟨vs, q⟩, k _ S1 H1 X1 (itl_ok hl (paired_len pr) (fun S' H' _ _ h3 => Keep.seq h3 q) fun i x v S' H' _ _ _ e1 e2 => paired_get2 pr e2 e1)⟩
/-- .. of values that no heap touches -/
theorem ItC.lstF {RL : Rp (List α)} {R : Rp α} [Flat R] {m : Option (List α)} [L : SqRp X.K RL R] (h : EvB X S0 H0 G e RL m) : ItC X S0 H0 G tg e (fun x => .one (.val R x)) m := .mk fun S H σ Rk xs E hm k => by
  refine wI_of (pi_list (wE_ok e)) (h S H σ _ xs E hm fun v S1 H1 X1 r1 => ?_)
  obtain ⟨t, vs, rfl, q, pr, hl⟩ := L.sq r1
  exact ⟨t, rfl, ⟨vs, q⟩, k _ S1 H1 X1 (itl_ok hl (paired_len pr) (fun S' H' _ _ h3 => Keep.seq h3 q) fun i x v S' H' _ _ _ e1 e2 => Flat.fl (R := R) (paired_get2 pr e2 e1))⟩
theorem ItS.lstV {RL : Rp (List α)} {R : Rp α} {m : Option (List α)} [L : SqRp X.K RL R] (h : EvV X S0 H0 G e RL m) : ItS X S0 H0 G tg e (fun x => .one (.val R x)) m := .mk fun S H σ Rk xs E hm k => by
  refine wI_of (pi_list (wE_ok e)) (h S H σ _ xs E hm fun v S1 H1 ps X1 r1 f1 => ?_)
  obtain ⟨t, vs, rfl, q, pr, hl⟩ := L.sq r1.1
  exact ⟨t, rfl, ⟨vs, Same.seq X1.sb q⟩, k _ S1 H1 X1 (itl_ok hl (paired_len pr) (fun S' H' h1 h2 _ => Same.seq (h1.trans h2) q) fun i x v S' H' h1 _ _ e1 e2 => R.mono h1.k (paired_get2 pr e2 e1))⟩
theorem ItC.lstV {RL : Rp (List α)} {R : Rp α} {m : Option (List α)} [L : SqRp X.K RL R] (h : EvV X S0 H0 G e RL m) : ItC X S0 H0 G tg e (fun x => .one (.val R x)) m := .mk fun S H σ Rk xs E hm k => by
  refine wI_of (pi_list (wE_ok e)) (h S H σ _ xs E hm fun v S1 H1 ps X1 r1 f1 => ?_)
  obtain ⟨t, vs, rfl, q, pr, hl⟩ := L.sq r1.1
  exact ⟨t, rfl, ⟨vs, Same.seq X1.sb q⟩, k _ S1 H1 X1 (itl_ok hl (paired_len pr) (fun S' H' h1 h2 _ => Same.seq (h1.trans h2) q) fun i x v S' H' h1 _ _ e1 e2 => R.mono h1.k (paired_get2 pr e2 e1))⟩
/-- over a name that is lent -/
theorem ItS.bvar {RL : Rp (List α)} {R : Rp α} {y : List α} [L : SqRp X.K RL R] (i : Nat) {x : Str} (hN : X.N[i]? = some x) (hv : Vis X.env.scope x) (hG : G[i]? = some (.bw RL y)) (hd : (x == ("__debug__" : Str)) = false := by decide) (hcd : (x == ("__classdict__" : Str)) = false := by decide) :
    ItS X S0 H0 G tg (.Name x pos) (fun x => .one (.bw R x)) (some y) := .mk fun S H σ Rk xs E hm k => by
  cases hm
  obtain ⟨o, ps, e1, ⟨v, e2, r, _⟩, nd, fr⟩ := E.get hG
  subst e2
  obtain ⟨t, vs, rfl, q, pr, hl⟩ := L.sq r
  exact wI_of (pi_list (pe_var hN hv hd hcd)) ⟨_, e1, t, rfl, ⟨vs, Keep.seq E.base.hp q⟩, k _ S H (Ext.refl E.base.sb) (itl_ok hl (paired_len pr) (fun S' H' _ _ h3 => Keep.seq h3 q) fun i x v S' H' _ _ _ e1 e2 => paired_get2 pr e2 e1)⟩
theorem ItS.bvarF {RL : Rp (List α)} {R : Rp α} [Flat R] {y : List α} [L : SqRp X.K RL R] (i : Nat) {x : Str} (hN : X.N[i]? = some x) (hv : Vis X.env.scope x) (hG : G[i]? = some (.bw RL y)) (hd : (x == ("__debug__" : Str)) = false := by decide) (hcd : (x == ("__classdict__" : Str)) = false := by decide) :
    ItS X S0 H0 G tg (.Name x pos) (fun x => .one (.val R x)) (some y) := .mk fun S H σ Rk xs E hm k => by
  cases hm
  obtain ⟨o, ps, e1, ⟨v, e2, r, _⟩, nd, fr⟩ := E.get hG
  subst e2
  obtain ⟨t, vs, rfl, q, pr, hl⟩ := L.sq r
  exact wI_of (pi_list (pe_var hN hv hd hcd)) ⟨_, e1, t, rfl, ⟨vs, Keep.seq E.base.hp q⟩, k _ S H (Ext.refl E.base.sb) (itl_ok hl (paired_len pr) (fun S' H' _ _ h3 => Keep.seq h3 q) fun i x v S' H' _ _ _ e1 e2 => Flat.fl (R := R) (paired_get2 pr e2 e1))⟩
theorem rangeL_get {lo hi : Int} {i : Nat} {x : Int} (h : (rangeL lo hi)[i]? = some x) : i < (hi - lo).toNat ∧ x = lo + i := by
  unfold rangeL at h
  rw [List.getElem?_map] at h
  cases e : (List.range (hi - lo).toNat)[i]? with
  | none => rw [e] at h; cases h
  | some j =>
    rw [e] at h
    cases h
    have h1 := (List.getElem?_eq_some_iff.mp e)
    obtain ⟨h2, h3⟩ := h1
    rw [List.getElem_range] at h3
    rw [List.length_range] at h2
    exact ⟨h2, by rw [h3]⟩
theorem rangeL_length (lo hi : Int) : (rangeL lo hi).length = (hi - lo).toNat := by simp [rangeL]
theorem itr_ok {K : PySem.W.Frag} {B S1 : Hp} {lo hi : Int} (h : hi - lo ≤ 2 ^ 24) : ItOk K B (Itr lo (hi - lo).toNat) S1 (fun x => .one (.val rInt x)) (rangeL lo hi) where
  len := by rw [rangeL_length, sizeLine_eq]; omega
  go := fun S' H' _ h2 _ i x e => by
    obtain ⟨h4, rfl⟩ := rangeL_get e
    exact ⟨h4, fun v H'' ⟨e1, e2⟩ => ⟨S', by subst e1; exact Ext.refl h2, e2⟩⟩
  stop := fun S' H' _ _ _ i e => by rw [rangeL_length] at e; exact e
theorem ItS.rng1 {p : Pos} {m : Option Int} (h : EvB X S0 H0 G e rInt m) (hg : Gl X "range") (hm : X.mg "range" = none) (hs : starEach [e] X.env = [(false, eval e X.env)] := by rfl) : ItS X S0 H0 G tg (.Call (.Name "range" p) [e] [] pos) (fun x => .one (.val rInt x)) (m.bind fun n => rngO 0 n) := .mk fun S H σ Rk xs E hm' k => by
  obtain ⟨n, e1, hm'⟩ := bind_some_iff hm'
  unfold rngO at hm'
  split at hm'
  · next c =>
    cases hm'
    refine wI_of (pi_range1 hg hm (pa_cons (wE_ok e) pa_nil hs) hs) (h S H σ _ n E e1 fun v S1 H1 X1 r1 => ?_)
    have r1 : v = .int n := r1
    subst r1
    refine ⟨n, rfl, c.2.2.1, c.2.2.2.1, k _ S1 H1 X1 ?_⟩
    have := itr_ok (K := X.K) (B := H0) (S1 := S1) (lo := 0) (hi := n) c.2.2.2.2
    rwa [Int.sub_zero] at this
  · cases hm'
theorem ItC.rng1 {p : Pos} {m : Option Int} (h : EvB X S0 H0 G e rInt m) (hg : Gl X "range") (hm : X.mg "range" = none) (hs : starEach [e] X.env = [(false, eval e X.env)] := by rfl) : ItC X S0 H0 G tg (.Call (.Name "range" p) [e] [] pos) (fun x => .one (.val rInt x)) (m.bind fun n => rngO 0 n) := .mk fun S H σ Rk xs E hm' k => by
  obtain ⟨n, e1, hm'⟩ := bind_some_iff hm'
  unfold rngO at hm'
  split at hm'
  · next c =>
    cases hm'
    refine wI_of (pi_range1 hg hm (pa_cons (wE_ok e) pa_nil hs) hs) (h S H σ _ n E e1 fun v S1 H1 X1 r1 => ?_)
    have r1 : v = .int n := r1
    subst r1
    refine ⟨n, rfl, c.2.2.1, c.2.2.2.1, k _ S1 H1 X1 ?_⟩
    have := itr_ok (K := X.K) (B := H1) (S1 := S1) (lo := 0) (hi := n) c.2.2.2.2
    rwa [Int.sub_zero] at this
  · cases hm'
theorem ItS.rng2 {p : Pos} {m1 m2 : Option Int} (h : EvB X S0 H0 G a rInt m1) (h2 : EvB X S0 H0 G b rInt m2) (hg : Gl X "range") (hm : X.mg "range" = none) (hs : starEach [a, b] X.env = [(false, eval a X.env), (false, eval b X.env)] := by rfl) (hs2 : starEach [b] X.env = [(false, eval b X.env)] := by rfl) :
    ItS X S0 H0 G tg (.Call (.Name "range" p) [a, b] [] pos) (fun x => .one (.val rInt x)) (m1.bind fun l => m2.bind fun n => rngO l n) := .mk fun S H σ Rk xs E hm' k => by
  obtain ⟨l, e1, hm'⟩ := bind_some_iff hm'
  obtain ⟨n, e2, hm'⟩ := bind_some_iff hm'
  unfold rngO at hm'
  split at hm'
  · next c =>
    cases hm'
    refine wI_of (pi_range2 hg hm (pa_cons (wE_ok a) (pa_cons (wE_ok b) pa_nil hs2) (by rw [hs, hs2])) hs hs2) (h S H σ _ l E e1 fun v S1 H1 X1 r1 => h2 S1 H1 σ _ n (E.mono X1) e2 fun w S2 H2 X2 r2 => ?_)
    have r1 : v = .int l := r1
    have r2 : w = .int n := r2
    subst r1 r2
    exact ⟨l, n, rfl, ⟨c.1, c.2.1, c.2.2.1, c.2.2.2.1⟩, k _ S2 H2 (X1.trans X2) (itr_ok c.2.2.2.2)⟩
  · cases hm'
theorem ItC.rng2 {p : Pos} {m1 m2 : Option Int} (h : EvB X S0 H0 G a rInt m1) (h2 : EvB X S0 H0 G b rInt m2) (hg : Gl X "range") (hm : X.mg "range" = none) (hs : starEach [a, b] X.env = [(false, eval a X.env), (false, eval b X.env)] := by rfl) (hs2 : starEach [b] X.env = [(false, eval b X.env)] := by rfl) :
    ItC X S0 H0 G tg (.Call (.Name "range" p) [a, b] [] pos) (fun x => .one (.val rInt x)) (m1.bind fun l => m2.bind fun n => rngO l n) := .mk fun S H σ Rk xs E hm' k => by
  obtain ⟨l, e1, hm'⟩ := bind_some_iff hm'
  obtain ⟨n, e2, hm'⟩ := bind_some_iff hm'
  unfold rngO at hm'
  split at hm'
  · next c =>
    cases hm'
    refine wI_of (pi_range2 hg hm (pa_cons (wE_ok a) (pa_cons (wE_ok b) pa_nil hs2) (by rw [hs, hs2])) hs hs2) (h S H σ _ l E e1 fun v S1 H1 X1 r1 => h2 S1 H1 σ _ n (E.mono X1) e2 fun w S2 H2 X2 r2 => ?_)
    have r1 : v = .int l := r1
    have r2 : w = .int n := r2
    subst r1 r2
    exact ⟨l, n, rfl, ⟨c.1, c.2.1, c.2.2.1, c.2.2.2.1⟩, k _ S2 H2 (X1.trans X2) (itr_ok c.2.2.2.2)⟩
  · cases hm'
end
/-! ## 8. list comprehensions -/
def mapO {α β : Type} (f : α → Option β) : List α → Option (List β)
  | [] => some []
  | x :: xs => (f x).bind fun y => (mapO f xs).bind fun ys => some (y :: ys)
def filO {α β : Type} (c : α → Option Bool) (f : α → Option β) : List α → Option (List β)
  | [] => some []
  | x :: xs => (c x).bind fun b => if b = true then (f x).bind fun y => (filO c f xs).bind fun ys => some (y :: ys) else filO c f xs
theorem mapO_filO {α β : Type} (f : α → Option β) : ∀ xs : List α, mapO f xs = filO (fun _ => some true) f xs
  | [] => rfl
  | x :: xs => by
    show (f x).bind _ = (f x).bind _
    rw [mapO_filO f xs]
theorem filO_length {α β : Type} {c : α → Option Bool} {f : α → Option β} : ∀ {xs : List α} {ys : List β}, filO c f xs = some ys → ys.length ≤ xs.length
  | [], ys, h => by cases h; exact Nat.le_refl _
  | x :: xs, ys, h => by
    obtain ⟨b, _, h⟩ := bind_some_iff h
    cases b with
    | true =>
      obtain ⟨y, _, h⟩ := bind_some_iff h
      obtain ⟨zs, h1, h⟩ := bind_some_iff h
      cases h
      have := filO_length h1
      simpa using this
    | false =>
      have := filO_length (show filO c f xs = some ys from h)
      rw [List.length_cons]; omega
section
variable {X : Cx} {S0 H0 S H S' H' : Hp} {G : Cxt} {σ : St} {α β γ : Type} {tg elt iter a b e : Expr} {pos pos' : Pos}
theorem lc_main {K : PySem.W.Frag} {mk : α → Item} {set : α → Cxt → Cxt} {g : TG} {is vs : List Nat} {tt : TT} {te : TE} {O : Orp β} {c : α → Option Bool} {f : α → Option β} {J : It} {S1 H1 : Hp} {xs : List α} {ys : List β} {Q : VK} {D : Addr}
    (tk : TgK K g mk set is) (hsub : ∀ i ∈ is, i ∈ vs) (E : EnvOk S0 H0 S1 H1 G σ) (iok : ItOk K H1 J S1 mk xs) (hD : H1 D = none)
    (ht : ∀ x S' H' σ' (Q : Bool → Hp → Prop) z, EnvOk S1 H1 S' H' (set x (wipeG (G.map lnd) vs)) σ' → c x = some z → (∀ S'' H'', Ext S' H' S'' H'' → Q z H'') → tt σ' H' Q)
    (he : ∀ x S' H' σ' (Q : VK) z, EnvOk S1 H1 S' H' (set x (wipeG (G.map lnd) vs)) σ' → f x = some z → (∀ v S'' H'' ps, Ext S' H' S'' H'' → O.r S'' H'' v z ps → Fresh H' S'' H'' ps → Q v H'') → te σ' H' Q)
    (hm : filO c f xs = some ys) (hQ : ∀ S' H' ps, Ext S1 H1 S' H' → (oL O).r S' H' (.ref D) ys ps → Fresh H1 S' H' ps → Q (.ref D) H') :
    ∃ W : Nat → Nat → Hp → Prop, (∃ m, W 0 m (upd H1 D (.lst []))) ∧ ∀ i m H, W i m H →
      (J.stop i H ∧ Q (.ref D) H) ∨ (J.go i H ∧ ∃ Nx : Hp → Prop, (∀ H', Nx H' → ∃ m', m' < m ∧ W (i + 1) m' H') ∧ ∀ x H', J.yld i H x H' → g x (wipe σ vs) H' fun σ2 H2 => wipe σ2 vs = wipe σ vs ∧ tt σ2 H2 fun b H3 =>
        if b = true then te σ2 H3 fun y H4 => ∃ acc, H4 D = some (.lst acc) ∧ acc.length < sizeLine ∧ Nx (upd H4 D (.lst (acc ++ [y]))) else Nx H3) := by
  have E1 : EnvOk S1 H1 S1 H1 (wipeG (G.map lnd) vs) (wipe σ vs) := E.lend.wipe vs
  refine ⟨fun i m H => m = xs.length - i ∧ i ≤ xs.length ∧ ∃ S' us zs ws ps, Ext S1 H1 S' H ∧ S' D = none ∧ H D = some (.lst us) ∧ Els O S' H us zs ps ∧ Fresh H1 S' H ps ∧ D ∉ ps ∧ zs.length ≤ i ∧ filO c f (xs.drop i) = some ws ∧ zs ++ ws = ys,
    ⟨xs.length, by simp, Nat.zero_le _, S1, [], [], ys, [], Ext.own E.base.sb hD, E.base.sb.free hD, upd_same, .nil, Fresh.nil, by simp, by simp, by simpa using hm, rfl⟩, ?_⟩
  rintro i m H ⟨rfl, hi, S', us, zs, ws, ps, X1, sD, hHD, els, fr, nD, hzl, hw, ez⟩
  have sB : Keep H1 H := X1.hp
  by_cases hlt : i < xs.length
  · obtain ⟨hgo, hy⟩ := iok.go S' H X1.st X1.sb sB i xs[i] (List.getElem?_eq_getElem hlt)
    rw [List.drop_eq_getElem_cons hlt] at hw
    obtain ⟨b, ec, hw⟩ := bind_some_iff hw
    refine .inr ⟨hgo, fun H' => i + 1 ≤ xs.length ∧ ∃ S' us zs ws ps, Ext S1 H1 S' H' ∧ S' D = none ∧ H' D = some (.lst us) ∧ Els O S' H' us zs ps ∧ Fresh H1 S' H' ps ∧ D ∉ ps ∧ zs.length ≤ i + 1 ∧ filO c f (xs.drop (i + 1)) = some ws ∧ zs ++ ws = ys,
      fun H' h => ⟨xs.length - (i + 1), by omega, rfl, h⟩, fun v H2 hyl => ?_⟩
    obtain ⟨S2, X2, iv⟩ := hy v H2 hyl
    have X12 := X1.trans X2
    refine tk S1 H1 S2 H2 _ _ v xs[i] _ (E1.mono X12) iv fun σ' E2 hwipe => ?_
    refine ⟨by rw [hwipe vs hsub, wipe_wipe fun _ h => h], ?_⟩
    refine ht _ S2 H2 σ' _ b E2 ec fun S3 H3 X3 => ?_
    have X123 := X12.trans X3
    have hDne : H D ≠ none := by rw [hHD]; simp
    have h3D : H3 D = some (.lst us) := X3.hp.go (X2.hp.go hHD)
    have s2D : S2 D = none := X2.nw D sD hDne
    have s3D : S3 D = none := X3.nw D s2D (ne_keep X2.hp hDne)
    have els3 : Els O S3 H3 us zs ps := els.mono (X2.st.trans X3.st) fun p hp => Same.at_ne (X2.hp.trans X3.hp) (fr.2 p hp).2.2
    have fr3 : Fresh H1 S3 H3 ps := ⟨fr.1, fun p hp => let ⟨a, b, c⟩ := fr.2 p hp; ⟨a, X3.nw p (X2.nw p b c) (ne_keep X2.hp c), ne_keep (X2.hp.trans X3.hp) c⟩⟩
    cases b with
    | false =>
      rw [if_neg Bool.false_ne_true]
      exact ⟨hlt, S3, us, zs, ws, ps, X123, s3D, h3D, els3, fr3, nD, by omega, hw, ez⟩
    | true =>
      rw [if_pos rfl]
      obtain ⟨y, ef, hw⟩ := bind_some_iff hw
      obtain ⟨ws', ew, hw⟩ := bind_some_iff hw
      cases hw
      refine he _ S3 H3 σ' _ y (E2.mono X3) ef fun u S4 H4 qs X4 r4 f4 => ?_
      have h3ne : H3 D ≠ none := by rw [h3D]; simp
      have h4D : H4 D = some (.lst us) := X4.hp.go h3D
      have s4D : S4 D = none := X4.nw D s3D h3ne
      have els4 : Els O S4 H4 (us ++ [u]) (zs ++ [y]) (ps ++ qs) := (els3.mono X4.st fun p hp => Same.at_ne X4.hp (fr3.2 p hp).2.2).snoc r4
      have fr4 : Fresh H1 S4 H4 (ps ++ qs) := fr3.app X123.hp X4 f4
      have nD4 : D ∉ ps ++ qs := fun h => (List.mem_append.mp h).elim nD fun h => h3ne (f4.2 D h).1
      have hlu : us.length = zs.length := els.len
      refine ⟨us, h4D, by rw [hlu]; exact Nat.lt_of_le_of_lt hzl (Nat.lt_of_lt_of_le hlt iok.len), hlt, S4, us ++ [u], zs ++ [y], ws', ps ++ qs, ?_, s4D, upd_same, els4.mono (Same.refl _) fun p hp => Kp.eq (upd_ne (fun z => nD4 (by rw [← z]; exact hp))), ⟨fr4.1, fun p hp => ?_⟩, nD4, by simpa using hzl, ew, by simpa using ez⟩
      · exact (X123.trans X4).poke hD s4D
      · obtain ⟨a, b, c⟩ := fr4.2 p hp
        exact ⟨a, b, by rw [upd_ne (fun z => nD4 (by rw [← z]; exact hp))]; exact c⟩
  · have e : i = xs.length := by omega
    have hw' : ws = [] := by
      rw [List.drop_eq_nil_of_le (by omega)] at hw
      cases hw; rfl
    subst hw'
    rw [List.append_nil] at ez
    subst ez
    have hlz : zs.length ≤ sizeLine := by have := iok.len; omega
    refine .inl ⟨iok.stop S' H X1.st X1.sb sB i (by omega), hQ S' H (D :: ps) X1 ⟨D, us, ps, rfl, hHD, rfl, els, hlz⟩ ⟨List.nodup_cons.mpr ⟨nD, fr.1⟩, fun p hp => ?_⟩⟩
    rcases List.mem_cons.mp hp with rfl | hp
    · exact ⟨hD, sD, by rw [hHD]; simp⟩
    · exact fr.2 p hp
/-- a list comprehension, by parts -/
def LcOk (X : Cx) (S0 H0 : Hp) {β : Type} (G : Cxt) (elt tg iter : Expr) (ifs : List Expr) (scope : Scope) (O : Orp β) (m : Option (List β)) : Prop :=
  ∃ (own : List (Str × Nat)) (g : TG) (tt : TT) (te : TE), BlkOk X.N X.env.scope scope own ∧
    (∀ (s : Shared) (H : Hp) (C : Addr) (cl : List (Str × Addr)) (fp : List Addr), PG (X.blk s H scope (compEnvC scope cl C X.env) fp) tg g) ∧
    (∀ (s : Shared) (H : Hp) (C : Addr) (cl : List (Str × Addr)) (fp : List Addr), PTs (X.blk s H scope (compEnvC scope cl C X.env) fp) ifs tt) ∧
    (∀ (s : Shared) (H : Hp) (C : Addr) (cl : List (Str × Addr)) (fp : List Addr), PE (X.blk s H scope (compEnvC scope cl C X.env) fp) elt te) ∧
    ∀ S H σ Q ys, EnvOk S0 H0 S H G σ → m = some ys → (∀ v S' H' ps, Ext S H S' H' → (oL O).r S' H' v ys ps → Fresh H S' H' ps → Q v H') → tLc (wI X tg iter) g tt te (own.map (·.2)) σ H Q
/-- [elt for tg in iter if t] -/
theorem LcOk.if {t : Expr} {mk : α → Item} {set : α → Cxt → Cxt} {g : TG} {is : List Nat} {scope : Scope} (own : List (Str × Nat)) {O : Orp β} {c : α → Option Bool} {f : α → Option β} {m1 : Option (List α)}
    (hi : ItC X S0 H0 G tg iter mk m1) (ok : BlkOk X.N X.env.scope scope own)
    (hg : ∀ (s : Shared) (H : Hp) (C : Addr) (cl : List (Str × Addr)) (fp : List Addr), PG (X.blk s H scope (compEnvC scope cl C X.env) fp) tg g) (tk : TgK X.K g mk set is)
    (ht : ∀ x (s : Shared) (H : Hp) (C : Addr) (cl : List (Str × Addr)) (fp : List Addr) (S0' H0' : Hp), Tst (X.blk s H scope (compEnvC scope cl C X.env) fp) S0' H0' (set x (wipeG (G.map lnd) (own.map (·.2)))) t (c x))
    (he : ∀ x (s : Shared) (H : Hp) (C : Addr) (cl : List (Str × Addr)) (fp : List Addr) (S0' H0' : Hp), EvO (X.blk s H scope (compEnvC scope cl C X.env) fp) S0' H0' (set x (wipeG (G.map lnd) (own.map (·.2)))) elt O (f x))
    (hsub : ∀ i ∈ is, i ∈ own.map (·.2) := by decide) : LcOk X S0 H0 G elt tg iter [t] scope O (m1.bind fun xs => filO c f xs) :=
  ⟨own, g, fun σ H Q => ∀ (s : Shared) (H' : Hp) (C : Addr) (cl : List (Str × Addr)) (fp : List Addr), wT (X.blk s H' scope (compEnvC scope cl C X.env) fp) t σ H Q,
    fun σ H Q => ∀ (s : Shared) (H' : Hp) (C : Addr) (cl : List (Str × Addr)) (fp : List Addr), wE (X.blk s H' scope (compEnvC scope cl C X.env) fp) elt σ H Q, ok, hg,
    fun s H C cl fp => pts_one ⟨fun pins s' σ' H' Q' I h => h s H C cl fp pins s' I⟩, fun s H C cl fp => ⟨fun pins s' σ' H' Q' I h => h s H C cl fp pins s' I⟩, fun S H σ Q ys E hm k => by
    obtain ⟨xs, e1, hm⟩ := bind_some_iff hm
    refine hi S H σ _ xs E e1 fun J S1 H1 X1 iok => fun D hD => ?_
    refine lc_main tk hsub (E.mono X1) iok hD (fun x S' H' σ' Q z E' hz k s H C cl fp => ht x s H C cl fp S1 H1 S' H' σ' Q z E' hz k) (fun x S' H' σ' Q z E' hz k s H C cl fp => he x s H C cl fp S1 H1 S' H' σ' Q z E' hz k) hm fun S' H' ps X2 r f => ?_
    exact k _ S' H' ps (X1.trans X2) r (f.grow X1.hp)⟩
/-- [elt for tg in iter] -/
theorem LcOk.all {mk : α → Item} {set : α → Cxt → Cxt} {g : TG} {is : List Nat} {scope : Scope} (own : List (Str × Nat)) {O : Orp β} {f : α → Option β} {m1 : Option (List α)}
    (hi : ItC X S0 H0 G tg iter mk m1) (ok : BlkOk X.N X.env.scope scope own)
    (hg : ∀ (s : Shared) (H : Hp) (C : Addr) (cl : List (Str × Addr)) (fp : List Addr), PG (X.blk s H scope (compEnvC scope cl C X.env) fp) tg g) (tk : TgK X.K g mk set is)
    (he : ∀ x (s : Shared) (H : Hp) (C : Addr) (cl : List (Str × Addr)) (fp : List Addr) (S0' H0' : Hp), EvO (X.blk s H scope (compEnvC scope cl C X.env) fp) S0' H0' (set x (wipeG (G.map lnd) (own.map (·.2)))) elt O (f x))
    (hsub : ∀ i ∈ is, i ∈ own.map (·.2) := by decide) : LcOk X S0 H0 G elt tg iter [] scope O (m1.bind fun xs => mapO f xs) :=
  ⟨own, g, tYes, fun σ H Q => ∀ (s : Shared) (H' : Hp) (C : Addr) (cl : List (Str × Addr)) (fp : List Addr), wE (X.blk s H' scope (compEnvC scope cl C X.env) fp) elt σ H Q, ok, hg,
    fun s H C cl fp => pts_nil, fun s H C cl fp => ⟨fun pins s' σ' H' Q' I h => h s H C cl fp pins s' I⟩, fun S H σ Q ys E hm k => by
    obtain ⟨xs, e1, hm⟩ := bind_some_iff hm
    rw [mapO_filO] at hm
    refine hi S H σ _ xs E e1 fun J S1 H1 X1 iok => fun D hD => ?_
    refine lc_main tk hsub (E.mono X1) iok hD (fun x S' H' σ' Q z E' hz k => by cases hz; exact k S' H' (Ext.refl E'.base.sb)) (fun x S' H' σ' Q z E' hz k s H C cl fp => he x s H C cl fp S1 H1 S' H' σ' Q z E' hz k) hm fun S' H' ps X2 r f => ?_
    exact k _ S' H' ps (X1.trans X2) r (f.grow X1.hp)⟩
theorem EvO.lc {ifs : List Expr} {scope : Scope} {O : Orp β} {m : Option (List β)} (h : LcOk X S0 H0 G elt tg iter ifs scope O m) (hN : X.N.Nodup) (hc : X.calm = true := by rfl) (hs : ∀ x, foldedSetIterable iter X.env x = pure x := by intro _; rfl) :
    EvO X S0 H0 G (.ListComp elt [⟨tg, iter, ifs, 0⟩] scope pos) (oL O) m := .mk fun S H σ Q ys E hm k => by
  obtain ⟨own, g, tt, te, ok, hg, ht, he, q⟩ := h
  exact wE_of (pe_lc hc hN (wI_ok tg iter) ok hg ht he hs) (q S H σ Q ys E hm k)
end
end Gc

namespace Gc
open PySem L2
variable [Tn]

/-! ## 9. statements -/
inductive Out (ν μ ρ : Type) where
  | nx (s : ν)
  | rt (x : ρ)
  | bk (l : μ)
  | ct (l : μ)
def bnd {ν ν' μ ρ : Type} (k : ν → Option (Out ν' μ ρ)) : Out ν μ ρ → Option (Out ν' μ ρ)
  | .nx s => k s
  | .rt x => some (.rt x)
  | .bk l => some (.bk l)
  | .ct l => some (.ct l)
def exitO {ν' μ ρ : Type} : Out Empty μ ρ → Option (Out ν' μ ρ)
  | .rt x => some (.rt x)
  | .bk l => some (.bk l)
  | .ct l => some (.ct l)
def forO {α ν μ ρ : Type} (b : α → ν → Option (Out ν ν ρ)) : List α → ν → Option (Out ν μ ρ)
  | [], s => some (.nx s)
  | x :: xs, s => (b x s).bind fun o => match o with
    | .nx s' => forO b xs s'
    | .ct s' => forO b xs s'
    | .bk s' => some (.nx s')
    | .rt r => some (.rt r)
def whileF {ν μ ρ : Type} (c : ν → Option Bool) (b : ν → Option (Out ν ν ρ)) : Nat → ν → Option (Out ν μ ρ)
  | 0, _ => none
  | n + 1, s => (c s).bind fun t => if t = true then (b s).bind fun o => match o with
      | .nx s' => whileF c b n s'
      | .ct s' => whileF c b n s'
      | .bk s' => some (.nx s')
      | .rt r => some (.rt r)
    else some (.nx s)
theorem whileF_mono {ν μ ρ : Type} {c : ν → Option Bool} {b : ν → Option (Out ν ν ρ)} : ∀ {n : Nat} {s : ν} {r : Out ν μ ρ}, whileF c b n s = some r → whileF c b (n + 1) s = some r
  | 0, _, _, h => by cases h
  | n + 1, s, r, h => by
    unfold whileF at h ⊢
    obtain ⟨t, e1, h⟩ := bind_some_iff h
    rw [e1]
    show (if t = true then _ else _) = some r
    cases t with
    | false => exact h
    | true =>
      rw [if_pos rfl] at h ⊢
      obtain ⟨o, e2, h⟩ := bind_some_iff h
      rw [e2]
      cases o with
      | nx s' => exact whileF_mono (n := n) h
      | ct s' => exact whileF_mono (n := n) h
      | bk s' => exact h
      | rt x => exact h
theorem whileF_le {ν μ ρ : Type} {c : ν → Option Bool} {b : ν → Option (Out ν ν ρ)} {n m : Nat} {s : ν} {r : Out ν μ ρ} (h : whileF c b n s = some r) (hm : n ≤ m) : whileF c b m s = some r := by
  induction hm with
  | refl => exact h
  | step _ ih => exact whileF_mono ih
noncomputable def whileO {ν μ ρ : Type} (c : ν → Option Bool) (b : ν → Option (Out ν ν ρ)) (s : ν) : Option (Out ν μ ρ) :=
  open Classical in if h : ∃ r : Out ν μ ρ, ∃ n, whileF c b n s = some r then some (Classical.choose h) else none
theorem whileO_of {ν μ ρ : Type} {c : ν → Option Bool} {b : ν → Option (Out ν ν ρ)} {n : Nat} {s : ν} {r : Out ν μ ρ} (h : whileF c b n s = some r) : whileO c b s = some r := by
  have hx : ∃ r : Out ν μ ρ, ∃ n, whileF c b n s = some r := ⟨r, n, h⟩
  unfold whileO
  rw [dif_pos hx]
  obtain ⟨k, hk⟩ := Classical.choose_spec hx
  have h1 := whileF_le h (Nat.le_max_left n k)
  have h2 := whileF_le hk (Nat.le_max_right n k)
  rw [h1] at h2
  exact h2.symm
theorem whileO_some {ν μ ρ : Type} {c : ν → Option Bool} {b : ν → Option (Out ν ν ρ)} {s : ν} {r : Out ν μ ρ} (h : whileO c b s = some r) : ∃ n, whileF c b n s = some r := by
  unfold whileO at h
  split at h
  · next hx =>
    have := Classical.choose_spec hx
    rw [Option.some.inj h] at this
    exact this
  · cases h
section
variable (X : Cx) (S0 H0 : Hp) {ν μ ρ : Type}
def Good (S : Hp) (Γ : ν → Cxt) (Λ : μ → Cxt) (O : Orp ρ) (D : Ends) : Out ν μ ρ → Prop
  | .nx s => ∀ S' H' σ', EnvOk S0 H0 S' H' (Γ s) σ' → Same S S' → D.nx σ' H'
  | .bk l => ∀ S' H' σ', EnvOk S0 H0 S' H' (Λ l) σ' → Same S S' → D.bk σ' H'
  | .ct l => ∀ S' H' σ', EnvOk S0 H0 S' H' (Λ l) σ' → Same S S' → D.ct σ' H'
  | .rt x => ∀ v S' H' ps, Ext S0 H0 S' H' → O.r S' H' v x ps → Fresh H0 S' H' ps → D.rt v H'
abbrev Run (G : Cxt) (ss : List Stmt) (Γ : ν → Cxt) (Λ : μ → Cxt) (O : Orp ρ) (m : Option (Out ν μ ρ)) : Prop := Box (
  ∀ S H σ D o, EnvOk S0 H0 S H G σ → m = some o → Good S0 H0 S Γ Λ O D o → wS X ss D σ H)
end
section
variable {X : Cx} {S0 H0 S H S' H' : Hp} {G : Cxt} {σ : St} {α β γ ν μ ρ : Type} {tg elt iter a b e : Expr} {pos pos' : Pos} {Γ : ν → Cxt} {Λ : μ → Cxt} {O : Orp ρ} {ss : List Stmt}
theorem Good.mono {D : Ends} {o : Out ν μ ρ} (g : Good S0 H0 S Γ Λ O D o) (h : Same S S') : Good S0 H0 S' Γ Λ O D o := by
  cases o with
  | nx s => exact fun S1 H1 σ1 E q => g S1 H1 σ1 E (h.trans q)
  | bk s => exact fun S1 H1 σ1 E q => g S1 H1 σ1 E (h.trans q)
  | ct s => exact fun S1 H1 σ1 E q => g S1 H1 σ1 E (h.trans q)
  | rt s => exact g
theorem EnvOk.forgets (E : EnvOk S0 H0 S H G σ) : ∀ is : List Nat, EnvOk S0 H0 S H (wipeG G is) σ
  | [] => E
  | i :: is => (EnvOk.forgets E is).forget
/-- names are forgotten, in one pass -/
def maskG : Cxt → List Bool → Cxt
  | s :: G, true :: bs => .any :: maskG G bs
  | s :: G, false :: bs => s :: maskG G bs
  | G, [] => G
  | [], _ :: _ => []
theorem mask_ok : ∀ {G : Cxt} {bs : List Bool}, (maskG G bs).length = G.length ∧ ∀ (i : Nat) (s : Slot), (maskG G bs)[i]? = some s → G[i]? = some s ∨ (s = .any ∧ i < G.length)
  | s :: G, true :: bs => by
    obtain ⟨h1, h2⟩ := mask_ok (G := G) (bs := bs)
    refine ⟨by simp [maskG, h1], fun i t e => ?_⟩
    cases i with
    | zero => simp [maskG] at e; exact .inr ⟨e.symm, by simp⟩
    | succ i =>
      rcases h2 i t (by simpa [maskG] using e) with q | q
      · exact .inl (by simpa using q)
      · exact .inr ⟨q.1, by simpa using q.2⟩
  | s :: G, false :: bs => by
    obtain ⟨h1, h2⟩ := mask_ok (G := G) (bs := bs)
    refine ⟨by simp [maskG, h1], fun i t e => ?_⟩
    cases i with
    | zero => simp [maskG] at e; exact .inl (by simp [e])
    | succ i =>
      rcases h2 i t (by simpa [maskG] using e) with q | q
      · exact .inl (by simpa using q)
      · exact .inr ⟨q.1, by simpa using q.2⟩
  | [], [] => ⟨rfl, fun i t e => .inl e⟩
  | _ :: _, [] => ⟨rfl, fun i t e => .inl e⟩
  | [], _ :: _ => ⟨rfl, fun i t e => .inl e⟩
theorem EnvOk.mask (E : EnvOk S0 H0 S H G σ) (bs : List Bool) : EnvOk S0 H0 S H (maskG G bs) σ := by
  obtain ⟨fp, ok, F⟩ := E.ex
  obtain ⟨ml, mi⟩ := mask_ok (G := G) (bs := bs)
  letI dec : ∀ j : Nat, Decidable (G[j]? = (maskG G bs)[j]?) := fun j => Classical.propDecidable _
  refine ⟨E.base, by rw [ml]; exact E.len, fun (j : Nat) => if G[j]? = (maskG G bs)[j]? then fp j else [], fun j s es => ?_, ⟨fun j p hp => ?_, fun j => ?_, fun j l p h1 h2 => ?_⟩⟩
  · by_cases c : G[j]? = (maskG G bs)[j]?
    · obtain ⟨o, e1, q⟩ := ok j s (c.trans es)
      exact ⟨o, e1, by simp only [if_pos c]; exact q⟩
    · simp only [if_neg c]
      rcases mi j s es with q | ⟨rfl, hj⟩
      · exact absurd (q.trans es.symm) c
      · have hj' : j < σ.length := by rw [E.len]; exact hj
        exact ⟨σ[j], List.getElem?_eq_getElem hj', rfl⟩
  · by_cases c : G[j]? = (maskG G bs)[j]?
    · simp only [if_pos c] at hp; rw [ml]; exact F.at_ j p hp
    · simp only [if_neg c] at hp; cases hp
  · split
    · exact F.nd j
    · exact .nil
  · by_cases c : G[j]? = (maskG G bs)[j]?
    · simp only [if_pos c] at h1
      by_cases c2 : G[l]? = (maskG G bs)[l]?
      · simp only [if_pos c2] at h2; exact F.sep j l p h1 h2
      · simp only [if_neg c2] at h2; cases h2
    · simp only [if_neg c] at h1; cases h1
def Sub (G G' : Cxt) : Prop := Box (∀ {S0 H0 S H : Hp} {σ : St}, EnvOk S0 H0 S H G σ → EnvOk S0 H0 S H G' σ)
theorem Sub.m {G G' : Cxt} (bs : List Bool) (h : maskG G bs = G') : Sub G G' := .mk fun E => h ▸ E.mask bs
theorem Run.stuck : Run X S0 H0 G ss Γ Λ O none := .mk fun _ _ _ _ _ _ h => nomatch h
theorem Run.to {m m' : Option (Out ν μ ρ)} (h : Run X S0 H0 G ss Γ Λ O m) (hm : ∀ x, m' = some x → m = some x) : Run X S0 H0 G ss Γ Λ O m' := .mk fun S H σ D o E e' g => h S H σ D o E (hm o e') g
theorem Run.nil {s : ν} (h : Sub G (Γ s)) : Run X S0 H0 G [] Γ Λ O (some (.nx s)) := .mk fun S H σ D o E e' g => by
  cases e'
  refine wS_of pss_nil (g S H σ ?_ (Same.refl S))
  exact h.get E
theorem Run.brk {l : μ} (h : Sub G (Λ l)) : Run X S0 H0 G (.Break pos :: ss) Γ Λ O (some (.bk l)) := .mk fun S H σ D o E e' g => by
  cases e'
  refine wS_of (pss_cons ps_break (wS_ok ss)) (g S H σ ?_ (Same.refl S))
  exact h.get E
theorem Run.cont {l : μ} (h : Sub G (Λ l)) : Run X S0 H0 G (.Continue pos :: ss) Γ Λ O (some (.ct l)) := .mk fun S H σ D o E e' g => by
  cases e'
  refine wS_of (pss_cons ps_continue (wS_ok ss)) (g S H σ ?_ (Same.refl S))
  exact h.get E
theorem Run.pass {m : Option (Out ν μ ρ)} (h : Run X S0 H0 G ss Γ Λ O m) : Run X S0 H0 G (.Pass pos :: ss) Γ Λ O m := .mk fun S H σ D o E e' g =>
  wS_of (pss_cons ps_pass (wS_ok ss)) (h S H σ D o E e' g)
theorem Run.drop {m : Option (Out ν μ ρ)} (is : List Nat) (h : Run X S0 H0 (wipeG G is) ss Γ Λ O m) : Run X S0 H0 G ss Γ Λ O m := .mk fun S H σ D o E e' g =>
  h S H σ D o (E.forgets is) e' g
/-- a thing of one's own becomes one that stays -/
theorem Run.freeze {m : Option (Out ν μ ρ)} {O' : Orp α} {y : α} (i : Nat) (hG : G[i]? = some (.ow O' y)) (h : Run X S0 H0 (G.set i (.val O'.fz y)) ss Γ Λ O m) : Run X S0 H0 G ss Γ Λ O m := .mk fun S H σ D o E e' g => by
  obtain ⟨S', E', hs⟩ := E.freeze hG
  have hi : i < G.length := (List.getElem?_eq_some_iff.mp hG).1
  have E2 := E'.conv (s' := .val O'.fz y) (List.getElem?_set_self hi) fun o ps q => q
  rw [List.set_set] at E2
  exact h S' H σ D o E2 e' (g.mono hs)
/-- x = e -/
theorem Run.asg {O' : Orp α} {mx : Option α} {k : α → Option (Out ν μ ρ)} (i : Nat) {x : Str} (hN : X.N.Nodup) (hi : X.N[i]? = some x) (hx : Loc X.env.scope x) (he : EvO X S0 H0 G e O' mx) (hk : ∀ x, mx = some x → Run X S0 H0 (G.set i (.ow O' x)) ss Γ Λ O (k x))
    (hs : swapsWith e (some (.Name x pos')) pos.line X.env = pure false := by rfl) (hf : X.fn x = true ∨ X.env.scope.names.lookup x = some .local := by first | exact .inl rfl | exact .inr rfl | assumption) :
    Run X S0 H0 G (.Assign [.Name x pos'] e pos :: ss) Γ Λ O (mx.bind k) := .mk fun S H σ D o E e' g => by
  obtain ⟨y, e1, e'⟩ := bind_some_iff e'
  refine wS_of (pss_cons (ps_set (i := i) hN hi hx (wE_ok e) hs hf) (wS_ok ss)) (he S H σ _ y E e1 fun v S1 H1 ps X1 r1 f1 => ?_)
  exact hk y e1 S1 H1 _ D o (E.set i X1 r1 f1) e' (g.mono X1.st)
theorem Run.asgV {R : Rp α} {mx : Option α} {k : α → Option (Out ν μ ρ)} (i : Nat) {x : Str} (hN : X.N.Nodup) (hi : X.N[i]? = some x) (hx : Loc X.env.scope x) (he : EvV X S0 H0 G e R mx) (hk : ∀ x, mx = some x → Run X S0 H0 (G.set i (.val R x)) ss Γ Λ O (k x))
    (hs : swapsWith e (some (.Name x pos')) pos.line X.env = pure false := by rfl) (hf : X.fn x = true ∨ X.env.scope.names.lookup x = some .local := by first | exact .inl rfl | exact .inr rfl | assumption) :
    Run X S0 H0 G (.Assign [.Name x pos'] e pos :: ss) Γ Λ O (mx.bind k) := .mk fun S H σ D o E e' g => by
  obtain ⟨y, e1, e'⟩ := bind_some_iff e'
  refine wS_of (pss_cons (ps_set (i := i) hN hi hx (wE_ok e) hs hf) (wS_ok ss)) (he S H σ _ y E e1 fun v S1 H1 ps X1 r1 f1 => ?_)
  exact hk y e1 S1 H1 _ D o (E.setV i X1 r1.1) e' (g.mono X1.st)
/-- x = [.. for ..] on one line -/
theorem Run.asgLc {ifs : List Expr} {scope : Scope} {lpos : Pos} {O' : Orp β} {mx : Option (List β)} {k : List β → Option (Out ν μ ρ)} (i : Nat) {x : Str} (hN : X.N.Nodup) (hi : X.N[i]? = some x) (hx : X.env.scope.names.lookup x = some .local) (h : LcOk X S0 H0 G elt tg iter ifs scope O' mx)
    (hk : ∀ x, mx = some x → Run X S0 H0 (G.set i (.ow (oL O') x)) ss Γ Λ O (k x)) (hsw : swapsWith (.ListComp elt [⟨tg, iter, ifs, 0⟩] scope lpos) (some (.Name x pos')) pos.line X.env = pure true) (hc : X.calm = true := by rfl) (hs : ∀ x, foldedSetIterable iter X.env x = pure x := by intro _; rfl) :
    Run X S0 H0 G (.Assign [.Name x pos'] (.ListComp elt [⟨tg, iter, ifs, 0⟩] scope lpos) pos :: ss) Γ Λ O (mx.bind k) := .mk fun S H σ D o E e' g => by
  obtain ⟨y, e1, e'⟩ := bind_some_iff e'
  obtain ⟨own, gg, tt, te, ok, hg, ht, he, q⟩ := h
  refine wS_of (pss_cons (ps_setLc hc hN hi hx hsw (wI_ok tg iter) ok hg ht he hs) (wS_ok ss)) (show tLc _ _ _ _ _ σ H (fun v H1 => wS X ss D (σ.set i (some v)) H1) from q S H σ _ y E e1 fun v S1 H1 ps X1 r1 f1 => ?_)
  exact hk y e1 S1 H1 _ D o (E.set i X1 r1 f1) e' (g.mono X1.st)
/-- return e -/
theorem Run.ret {mx : Option ρ} (he : EvO X S0 H0 G e O mx) : Run X S0 H0 G (.Return (some e) pos :: ss) Γ Λ O (mx.bind fun x => some (.rt x)) := .mk fun S H σ D o E e' g => by
  obtain ⟨y, e1, e'⟩ := bind_some_iff e'
  cases e'
  exact wS_of (pss_cons (ps_ret (wE_ok e)) (wS_ok ss)) (he S H σ _ y E e1 fun v S1 H1 ps X1 r1 f1 => g v S1 H1 ps (E.base.trans X1) r1 (f1.grow E.base.hp))
/-- return x, x a name of one's own -/
theorem Run.retOwn {y : ρ} (i : Nat) {x : Str} (hN : X.N[i]? = some x) (hv : Vis X.env.scope x) (hG : G[i]? = some (.ow O y)) (hd : (x == ("__debug__" : Str)) = false := by decide) (hcd : (x == ("__classdict__" : Str)) = false := by decide) :
    Run X S0 H0 G (.Return (some (.Name x pos')) pos :: ss) Γ Λ O (some (.rt y)) := .mk fun S H σ D o E e' g => by
  cases e'
  obtain ⟨o, ps, e1, ⟨v, e2, r⟩, nd, fr⟩ := E.get hG
  subst e2
  exact wS_of (pss_cons (ps_ret (pe_var hN hv hd hcd)) (wS_ok ss)) ⟨v, e1, g v S H ps E.base r ⟨nd, fun p hp => let ⟨a, b, c⟩ := fr p hp; ⟨c, a, b⟩⟩⟩
/-- e alone -/
theorem Run.expr {O' : Orp α} {mx : Option α} {m : Option (Out ν μ ρ)} (he : EvO X S0 H0 G e O' mx) (hk : Run X S0 H0 G ss Γ Λ O m) (hs : swapsWith e none pos.line X.env = pure false := by rfl) :
    Run X S0 H0 G (.Expr e pos :: ss) Γ Λ O (mx.bind fun _ => m) := .mk fun S H σ D o E e' g => by
  obtain ⟨y, e1, e'⟩ := bind_some_iff e'
  exact wS_of (pss_cons (ps_expr (wE_ok e) hs) (wS_ok ss)) (he S H σ _ y E e1 fun v S1 H1 ps X1 r1 f1 => hk S1 H1 σ D o (E.mono X1) e' (g.mono X1.st))
/-- if: both ways go on -/
theorem Run.ite {νj : Type} {c : Expr} {A B : List Stmt} {mc : Option Bool} {mA mB : Option (Out νj μ ρ)} {k : νj → Option (Out ν μ ρ)} (Γj : νj → Cxt) (hc : Tst X S0 H0 G c mc) (hA : Run X S0 H0 G A Γj Λ O mA) (hB : Run X S0 H0 G B Γj Λ O mB) (hk : ∀ s, Run X S0 H0 (Γj s) ss Γ Λ O (k s)) :
    Run X S0 H0 G (.If c A B pos :: ss) Γ Λ O (mc.bind fun t => if t = true then mA.bind (bnd k) else mB.bind (bnd k)) := .mk fun S H σ D o E e' g => by
  obtain ⟨t, e1, e'⟩ := bind_some_iff e'
  have hgo : ∀ {oj : Out νj μ ρ} {S1 : Hp}, Same S S1 → bnd k oj = some o → Good S0 H0 S1 Γj Λ O { D with nx := wS X ss D } oj := fun {oj S1} hs hb => by
    cases oj with
    | nx s => exact fun S2 H2 σ2 E2 q2 => hk s S2 H2 σ2 D o E2 hb (g.mono (hs.trans q2))
    | rt x => cases hb; exact g
    | bk l => cases hb; exact fun S2 H2 σ2 E2 q2 => g S2 H2 σ2 E2 (hs.trans q2)
    | ct l => cases hb; exact fun S2 H2 σ2 E2 q2 => g S2 H2 σ2 E2 (hs.trans q2)
  refine wS_of (pss_cons (ps_if (wT_ok c) (wS_ok A) (wS_ok B)) (wS_ok ss)) (hc S H σ _ t E e1 fun S1 H1 X1 => ?_)
  cases t with
  | true =>
    obtain ⟨oj, e2, e'⟩ := bind_some_iff e'
    exact hA S1 H1 σ _ oj (E.mono X1) e2 (hgo X1.st e')
  | false =>
    obtain ⟨oj, e2, e'⟩ := bind_some_iff e'
    exact hB S1 H1 σ _ oj (E.mono X1) e2 (hgo X1.st e')
/-- if: the first way leaves -/
theorem Run.ifx {c : Expr} {A : List Stmt} {mc : Option Bool} {mA : Option (Out Empty μ ρ)} {m : Option (Out ν μ ρ)} (hc : Tst X S0 H0 G c mc) (hA : Run X S0 H0 G A (fun e : Empty => nomatch e) Λ O mA) (hk : Run X S0 H0 G ss Γ Λ O m) :
    Run X S0 H0 G (.If c A [] pos :: ss) Γ Λ O (mc.bind fun t => if t = true then mA.bind exitO else m) := .mk fun S H σ D o E e' g => by
  obtain ⟨t, e1, e'⟩ := bind_some_iff e'
  refine wS_of (pss_cons (ps_if (wT_ok c) (wS_ok A) pss_nil) (wS_ok ss)) (hc S H σ _ t E e1 fun S1 H1 X1 => ?_)
  cases t with
  | true =>
    obtain ⟨oj, e2, e'⟩ := bind_some_iff e'
    refine hA S1 H1 σ _ oj (E.mono X1) e2 ?_
    cases oj with
    | nx s => exact nomatch s
    | rt x => cases e'; exact g
    | bk l => cases e'; exact fun S2 H2 σ2 E2 q2 => g S2 H2 σ2 E2 (X1.st.trans q2)
    | ct l => cases e'; exact fun S2 H2 σ2 E2 q2 => g S2 H2 σ2 E2 (X1.st.trans q2)
  | false => exact hk S1 H1 σ D o (E.mono X1) e' (g.mono X1.st)
/-- for -/
theorem Run.for {νl : Type} {mk : α → Item} {set : α → Cxt → Cxt} {g : TG} {is : List Nat} {body : List Stmt} {mx : Option (List α)} {bm : α → νl → Option (Out νl νl ρ)} {k : νl → Option (Out ν μ ρ)} (Γl : νl → Cxt) (s0 : νl) (hsub : Sub G (Γl s0))
    (hi : ItS X S0 H0 G tg iter mk mx) (hg : PG X tg g) (tk : TgK X.K g mk set is) (hb : ∀ a s, Run X S0 H0 (set a (Γl s)) body Γl Γl O (bm a s)) (hk : ∀ s, Run X S0 H0 (Γl s) ss Γ Λ O (k s))
    (hp : PassesOwn (model X.prog X.w) X.A X.env X.xe) (hc : X.calm = true := by rfl) (hs : ∀ x, foldedSetIterable iter X.env x = pure x := by intro _; rfl) :
    Run X S0 H0 G (.For tg iter body [] pos :: ss) Γ Λ O (mx.bind fun xs => (forO (μ := μ) bm xs s0).bind (bnd k)) := .mk fun S H σ D o E e' gd => by
  obtain ⟨xs, e1, e'⟩ := bind_some_iff e'
  refine wS_of (pss_cons (ps_for hp hc (wI_ok tg iter) hg (wS_ok body) hs) (wS_ok ss)) (hi S H σ _ xs E e1 fun J S1 H1 X1 iok => ?_)
  have E1 : EnvOk S0 H0 S1 H1 (Γl s0) σ := hsub.get (E.mono X1)
  refine ⟨fun i m σ H => m = xs.length - i ∧ i ≤ xs.length ∧ ∃ S' s, EnvOk S0 H0 S' H (Γl s) σ ∧ Same S1 S' ∧ (forO (μ := μ) bm (xs.drop i) s).bind (bnd k) = some o, ⟨xs.length, by simp, Nat.zero_le _, S1, s0, E1, Same.refl _, e'⟩, ?_⟩
  rintro i m σ2 H2 ⟨rfl, hi, S2, s, E2, hs2, hm⟩
  by_cases hlt : i < xs.length
  · obtain ⟨hgo, hy⟩ := iok.go S2 H2 hs2 E2.base.sb E2.base.hp i xs[i] (List.getElem?_eq_getElem hlt)
    rw [List.drop_eq_getElem_cons hlt] at hm
    obtain ⟨r, er, hm⟩ := bind_some_iff hm
    obtain ⟨ob, eb, er⟩ := bind_some_iff er
    refine .inr ⟨hgo, fun σ' H' => i + 1 ≤ xs.length ∧ ∃ S' s, EnvOk S0 H0 S' H' (Γl s) σ' ∧ Same S1 S' ∧ (forO (μ := μ) bm (xs.drop (i + 1)) s).bind (bnd k) = some o, fun σ' H' h => ⟨xs.length - (i + 1), by omega, rfl, h⟩, fun v H3 hyl => ?_⟩
    obtain ⟨S3, X3, iv⟩ := hy v H3 hyl
    refine tk S0 H0 S3 H3 _ _ v xs[i] _ (E2.mono X3) iv fun σ' E4 _ => ?_
    refine hb _ s S3 H3 σ' _ ob E4 eb ?_
    cases ob with
    | nx s' => exact fun S5 H5 σ5 E5 q5 => ⟨hlt, S5, s', E5, (hs2.trans X3.st).trans q5, by rw [show forO (μ := μ) bm (xs.drop (i + 1)) s' = some r from er]; exact hm⟩
    | ct s' => exact fun S5 H5 σ5 E5 q5 => ⟨hlt, S5, s', E5, (hs2.trans X3.st).trans q5, by rw [show forO (μ := μ) bm (xs.drop (i + 1)) s' = some r from er]; exact hm⟩
    | bk s' => cases er; exact fun S5 H5 σ5 E5 q5 => hk s' S5 H5 σ5 D o E5 hm (gd.mono (((X1.st.trans hs2).trans X3.st).trans q5))
    | rt x => cases er; cases hm; exact gd
  · have ei : xs.drop i = [] := List.drop_eq_nil_of_le (by omega)
    rw [ei] at hm
    exact .inl ⟨iok.stop S2 H2 hs2 E2.base.sb E2.base.hp i (by omega), hk s S2 H2 σ2 D o E2 hm (gd.mono (X1.st.trans hs2))⟩
/-- while -/
theorem Run.while {νl : Type} {c : Expr} {body : List Stmt} {cm : νl → Option Bool} {bm : νl → Option (Out νl νl ρ)} {k : νl → Option (Out ν μ ρ)} (Γl : νl → Cxt) (s0 : νl) (hsub : Sub G (Γl s0))
    (hc : ∀ s, Tst X S0 H0 (Γl s) c (cm s)) (hb : ∀ s, Run X S0 H0 (Γl s) body Γl Γl O (bm s)) (hk : ∀ s, Run X S0 H0 (Γl s) ss Γ Λ O (k s)) (hp : PassesOwn (model X.prog X.w) X.A X.env X.xe) :
    Run X S0 H0 G (.While c body [] pos :: ss) Γ Λ O ((whileO (μ := μ) cm bm s0).bind (bnd k)) := .mk fun S H σ D o E e' gd => by
  obtain ⟨r0, e1, e'⟩ := bind_some_iff e'
  obtain ⟨n, e1⟩ := whileO_some e1
  refine wS_of (pss_cons (ps_while hp (wT_ok c) (wS_ok body)) (wS_ok ss)) ?_
  have E1 : EnvOk S0 H0 S H (Γl s0) σ := hsub.get E
  refine ⟨fun m σ H => ∃ S' s, EnvOk S0 H0 S' H (Γl s) σ ∧ Same S S' ∧ (whileF (μ := μ) cm bm m s).bind (bnd k) = some o, ⟨n, S, s0, E1, Same.refl _, by rw [e1]; exact e'⟩, ?_⟩
  rintro m σ2 H2 ⟨S2, s, E2, hs2, hm⟩
  cases m with
  | zero => cases hm
  | succ m =>
    obtain ⟨r, er, hm⟩ := bind_some_iff hm
    obtain ⟨t, et, er⟩ := bind_some_iff er
    refine hc s S2 H2 σ2 _ t E2 et fun S3 H3 X3 => ?_
    cases t with
    | false =>
      cases er
      rw [if_neg Bool.false_ne_true]
      exact hk s S3 H3 σ2 D o (E2.mono X3) hm (gd.mono (hs2.trans X3.st))
    | true =>
      rw [if_pos rfl]
      obtain ⟨ob, eb, er⟩ := bind_some_iff er
      refine ⟨fun σ' H' => ∃ S' s, EnvOk S0 H0 S' H' (Γl s) σ' ∧ Same S S' ∧ (whileF (μ := μ) cm bm m s).bind (bnd k) = some o, fun σ' H' h => ⟨m, Nat.lt_succ_self m, h⟩, ?_⟩
      refine hb s S3 H3 σ2 _ ob (E2.mono X3) eb ?_
      cases ob with
      | nx s' => exact fun S5 H5 σ5 E5 q5 => ⟨S5, s', E5, (hs2.trans X3.st).trans q5, by rw [show whileF (μ := μ) cm bm m s' = some r from er]; exact hm⟩
      | ct s' => exact fun S5 H5 σ5 E5 q5 => ⟨S5, s', E5, (hs2.trans X3.st).trans q5, by rw [show whileF (μ := μ) cm bm m s' = some r from er]; exact hm⟩
      | bk s' => cases er; exact fun S5 H5 σ5 E5 q5 => hk s' S5 H5 σ5 D o E5 hm (gd.mono ((hs2.trans X3.st).trans q5))
      | rt x => cases er; cases hm; exact gd
/-- x += e, whole numbers -/
theorem Run.augAdd {y : Int} {mx : Option Int} {k : Int → Option (Out ν μ ρ)} (i : Nat) {x : Str} (hN : X.N.Nodup) (hi : X.N[i]? = some x) (hx : Loc X.env.scope x) (hG : G[i]? = some (.val rInt y)) (he : EvB X S0 H0 G e rInt mx) (hk : ∀ z, mx = some z → Run X S0 H0 (G.set i (.val rInt (y + z))) ss Γ Λ O (k z))
    (hf : X.fn x = true ∨ X.env.scope.names.lookup x = some .local := by first | exact .inl rfl | exact .inr rfl | assumption) :
    Run X S0 H0 G (.AugAssign (.Name x pos') .Add e pos :: ss) Γ Λ O (mx.bind k) := .mk fun S H σ D o E e' g => by
  obtain ⟨z, e1, e'⟩ := bind_some_iff e'
  obtain ⟨o', ps, e2, ⟨v, e3, r, _⟩, nd, fr⟩ := E.get hG
  subst e3
  refine wS_of (pss_cons (ps_aug (i := i) hN hi hx (wE_ok e) ip_add hf) (wS_ok ss)) ⟨v, e2, he S H σ _ z E e1 fun w S1 H1 X1 r1 => ?_⟩
  exact ⟨y, z, r, r1, hk z e1 S1 H1 _ D o (E.setV i X1 (R := rInt) rfl) e' (g.mono X1.st)⟩
end
def appO {α : Type} (xs : List α) (x : α) : Option (List α) := if xs.length < sizeLine then some (xs ++ [x]) else none
def setO {α : Type} (xs : List α) (i : Int) (x : α) : Option (List α) := (ixN xs.length i).bind fun j => some (xs.set j x)
section
variable {X : Cx} {S0 H0 S H S' H' : Hp} {G : Cxt} {σ : St} {α β γ ν μ ρ : Type} {tg elt iter a b e : Expr} {pos pos' : Pos} {Γ : ν → Cxt} {Λ : μ → Cxt} {O : Orp ρ} {ss : List Stmt}
theorem EnvOk.mutX {O : Orp α} {O' : Orp β} {x : α} {y : β} {i : Nat} {H1 S1 H2 S2 : Hp} (E : EnvOk S0 H0 S H G σ) (X : Ext S H S1 H1) (e : G[i]? = some (.ow O x))
    (k : ∀ v ps, σ[i]? = some (some v) → O.r S1 H1 v x ps → ps.Nodup → (∀ p ∈ ps, S p = none ∧ H p ≠ none ∧ H0 p = none ∧ S1 p = none ∧ H1 p ≠ none) →
      ∃ qs, O'.r S2 H2 v y qs ∧ qs.Nodup ∧ (∀ p ∈ qs, (p ∈ ps ∨ H p = none) ∧ S2 p = none ∧ H2 p ≠ none) ∧ (∀ a o, a ∉ ps → H1 a = some o → H2 a = some o))
    (s1 : Same S1 S2) (s2 : ∀ a, S1 a = none → H1 a ≠ none → S2 a = none) (sb : Same S2 H2) : EnvOk S0 H0 S2 H2 (G.set i (.ow O' y)) σ := by
  obtain ⟨fp, ok, F⟩ := E.ex
  obtain ⟨o, e1, v, eo, q⟩ := ok i _ e
  subst eo
  have back : ∀ j p, p ∈ fp j → S p = none ∧ H p ≠ none ∧ H0 p = none ∧ S1 p = none ∧ H1 p ≠ none := fun j p hp =>
    let ⟨a, b, c, _⟩ := F.at_ j p hp; ⟨a, b, c, X.nw p a b, ne_keep X.hp b⟩
  obtain ⟨qs, r', nd, fr, hk⟩ := k v (fp i) e1 (O.mono X.st (fun p hp => Same.at_ne X.hp (back i p hp).2.1) q) (F.nd i) (back i)
  have hi : i < G.length := (List.getElem?_eq_some_iff.mp e).1
  have otherN : ∀ j p, j ≠ i → p ∈ fp j → H2 p ≠ none := fun j p ne hp => by
    have h1 := X.hp.ne (F.at_ j p hp).2.1
    cases q : H1 p with
    | none => exact absurd q h1
    | some o => rw [hk p o (fun z => ne (F.sep j i p hp z)) q]; simp
  have other : ∀ j p, j ≠ i → p ∈ fp j → Kp H H2 p := fun j p ne hp => ⟨fun o q nt => hk p o (fun z => ne (F.sep j i p hp z)) (X.hp.kp p o q nt)⟩
  have n0 : ∀ a, H0 a ≠ none → a ∉ fp i := fun a h m => h (F.at_ i a m).2.2.1
  have bx0 := (E.base.trans X).hp
  have h0 : Keep H0 H2 := ⟨fun a o z nt => hk a o (n0 a (by rw [z]; simp)) (bx0.kp a o z nt), fun a ps z => let ⟨qs, e⟩ := bx0.tab a ps z; ⟨qs, hk a _ (n0 a (by rw [z]; simp)) e⟩⟩
  have tb0 : ∀ P, Tb S0 H0 P → Tb S2 H2 P := fun P t => ((E.base.trans X).tb P t).ext s1 fun ps e => hk P _ (n0 P t.at_) e
  have bx := E.base.trans X
  refine ⟨⟨bx.st.trans s1, h0, fun a z1 z2 => s2 a (bx.nw a z1 z2) (ne_keep bx.hp z2), sb, tb0⟩, by simp [E.len], fun j => if j = i then qs else fp j, fun j s es => ?_, ⟨fun j p hp => ?_, fun j => ?_, fun j l p h1 h2 => ?_⟩⟩
  · rcases set_get es with ⟨rfl, rfl, _⟩ | ⟨ne, es⟩
    · exact ⟨some v, e1, v, rfl, by simpa using r'⟩
    · obtain ⟨o, e1, q⟩ := ok j s es
      refine ⟨o, e1, ?_⟩
      simp only [if_neg (fun z => ne z.symm : ¬ j = i)]
      exact q.mono (X.st.trans s1) fun p hp => other j p (fun z => ne z.symm) hp
  · replace hp : p ∈ (if j = i then qs else fp j) := hp
    rw [List.length_set]
    by_cases ej : j = i
    · rw [if_pos ej] at hp
      subst ej
      obtain ⟨h1, h2, h3⟩ := fr p hp
      refine ⟨h2, h3, ?_, hi⟩
      rcases h1 with h1 | h1
      · exact (F.at_ j p h1).2.2.1
      · exact E.base.hp.free h1
    · have ne := ej
      rw [if_neg ne] at hp
      obtain ⟨h1, h2, h3, h4⟩ := F.at_ j p hp
      exact ⟨s2 p (back j p hp).2.2.2.1 (back j p hp).2.2.2.2, otherN j p ne hp, h3, h4⟩
  · show (if j = i then qs else fp j).Nodup
    split
    · exact nd
    · exact F.nd j
  · replace h1 : p ∈ (if j = i then qs else fp j) := h1
    replace h2 : p ∈ (if l = i then qs else fp l) := h2
    by_cases e1 : j = i
    · rw [if_pos e1] at h1
      by_cases e2 : l = i
      · omega
      · rw [if_neg e2] at h2
        rcases (fr p h1).1 with z | z
        · exact absurd (F.sep i l p z h2) (fun z => e2 z.symm)
        · exact absurd z (F.at_ l p h2).2.1
    · rw [if_neg e1] at h1
      by_cases e2 : l = i
      · rw [if_pos e2] at h2
        rcases (fr p h2).1 with z | z
        · exact absurd (F.sep j i p h1 z) e1
        · exact absurd z (F.at_ j p h1).2.1
      · rw [if_neg e2] at h2
        exact F.sep j l p h1 h2
/-- xs.append(e), xs one's own -/
theorem Run.append {O' : Orp α} {xs : List α} {mx : Option α} {k : List α → Option (Out ν μ ρ)} {apos cpos : Pos} (i : Nat) {x : Str} (hN : X.N[i]? = some x) (hv : Vis X.env.scope x) (hG : G[i]? = some (.ow (oL O') xs)) (he : EvO X S0 H0 G e O' mx) (hk : ∀ z zs, mx = some z → appO xs z = some zs → Run X S0 H0 (G.set i (.ow (oL O') zs)) ss Γ Λ O (k zs))
    (hs : swapsWith (.Call (.Attribute (.Name x pos') "append" apos) [e] [] cpos) none pos.line X.env = pure false := by rfl)
    (hbase : attributeBase (.Name x pos') "append" X.env (eval (.Name x pos') X.env) = eval (.Name x pos') X.env := by rfl)
    (hfew : ((backTo cpos (starEach [e] X.env)).all (fun x => !x.1) && (backToKw cpos (keywordEach [] X.env)).all (fun x => x.1.isSome)
      && decide (([e] : List Expr).length + ([] : List Keyword).length + (if ([] : List Keyword).isEmpty then 0 else 1) < 30)) = true := by rfl)
    (hline : (apos.endLine == cpos.line) = true := by rfl) (hst : starEach [e] X.env = (false, eval e X.env) :: starEach [] X.env := by rfl) (hplain : (backTo cpos (starEach [] X.env)).any (·.1) = false := by rfl)
    (hd : (x == ("__debug__" : Str)) = false := by decide) (hcd : (x == ("__classdict__" : Str)) = false := by decide) :
    Run X S0 H0 G (.Expr (.Call (.Attribute (.Name x pos') "append" apos) [e] [] cpos) pos :: ss) Γ Λ O (mx.bind fun z => (appO xs z).bind k) := .mk fun S H σ D o E e' g => by
  obtain ⟨z, e1, e'⟩ := bind_some_iff e'
  obtain ⟨zs, e2, e'⟩ := bind_some_iff e'
  have e20 := e2
  unfold appO at e2
  split at e2
  · next hlen =>
    cases e2
    obtain ⟨o', ps, e3, ⟨v, e4, r⟩, nd, fr⟩ := E.get hG
    subst e4
    have hr0 := r
    obtain ⟨l, us, qs, rfl, hl, rfl, els, hz⟩ := r
    refine wS_of (pss_cons (ps_expr (pe_bm PySem.F.plainAttrs_list PySem.F.slot_list_append PySem.F.type_list_append mt_append (pe_var hN hv hd hcd) (pa_cons (wE_ok e) pa_nil hst) hbase hfew hline hst hplain) hs) (wS_ok ss)) ?_
    refine ⟨.ref l, e3, .inl ⟨rfl, _, .inl (.inl hl)⟩, he S H σ _ z E e1 fun u S1 H1 rs X1 r1 f1 => ?_⟩
    have h1l : H1 l = some (.lst us) := X1.hp.go hl
    refine ⟨l, us, u, rfl, rfl, h1l, by rw [els.len]; exact hlen, ?_⟩
    have hne : H l ≠ none := by rw [hl]; simp
    have s1l : S1 l = none := X1.nw l (fr l List.mem_cons_self).1 hne
    refine hk z _ e1 e20 S1 _ σ D o (E.mutX X1 hG (fun v ps e5 r5 nd5 fr5 => ?_) (Same.refl _) (fun _ h _ => h) (fun a oo es => ?_)) e' (g.mono X1.st)
    · rw [e3] at e5
      cases e5
      obtain ⟨l', us', qs', el, hl', rfl, els', hz'⟩ := r5
      cases el
      rw [h1l] at hl'
      cases hl'
      have hnew : ∀ p ∈ rs, p ≠ l := fun p hp ep => hne (by rw [← ep]; exact (f1.2 p hp).1)
      have hlq : l ∉ qs' := (List.nodup_cons.mp nd5).1
      refine ⟨l :: (qs' ++ rs), ⟨l, us ++ [u], qs' ++ rs, rfl, upd_same, rfl, ?_, by rw [List.length_append]; exact hlen⟩, ?_, fun p hp => ?_, fun a oo na ea => ?_⟩
      · exact Els.snoc (els'.mono (Same.refl _) fun p hp => Kp.eq (upd_ne fun ep => hlq (by rw [← ep]; exact hp))) (O'.mono (Same.refl _) (fun p hp => Kp.eq (upd_ne (hnew p hp))) r1)
      · exact List.nodup_cons.mpr ⟨fun hm => (List.mem_append.mp hm).elim hlq fun hm => hnew l hm rfl, List.nodup_append.mpr ⟨(List.nodup_cons.mp nd5).2, f1.1, fun a ha b hb ep => (fr5 a (List.mem_cons_of_mem _ ha)).2.1 (by rw [ep]; exact (f1.2 b hb).1)⟩⟩
      · rcases List.mem_cons.mp hp with rfl | hp
        · exact ⟨.inl List.mem_cons_self, s1l, by rw [upd_same]; simp⟩
        · rcases List.mem_append.mp hp with hp | hp
          · obtain ⟨_, _, _, b1, b2⟩ := fr5 p (List.mem_cons_of_mem _ hp)
            exact ⟨.inl (List.mem_cons_of_mem _ hp), b1, by rw [upd_ne (fun ep => hlq (by rw [← ep]; exact hp))]; exact b2⟩
          · obtain ⟨b0, b1, b2⟩ := f1.2 p hp
            exact ⟨.inr b0, b1, by rw [upd_ne (hnew p hp)]; exact b2⟩
      · rw [upd_ne (fun ep => na (by rw [ep]; exact List.mem_cons_self))]; exact ea
    · rw [upd_ne (ne_of_none es s1l)]; exact X1.sb a oo es
  · cases e2
theorem Els.setP {R : Rp α} {us : List V} {xs : List α} {qs : List Addr} {u : V} {x : α} (j : Nat) (h : Els (oV R) S H us xs qs) (r : R.r S u x) : Els (oV R) S H (us.set j u) (xs.set j x) [] := by
  obtain ⟨p, _⟩ := h.to
  exact Els.of (paired_set r j p)
/-- xs[j] = e, xs one's own -/
theorem Run.setIx {R : Rp α} {xs : List α} {mx : Option α} {mj : Option Int} {k : List α → Option (Out ν μ ρ)} {spos : Pos} (i : Nat) {x : Str} (hN : X.N[i]? = some x) (hv : Vis X.env.scope x) (hG : G[i]? = some (.ow (oL (oV R)) xs)) (he : EvV X S0 H0 G e R mx) (hj : EvB X S0 H0 G b rInt mj) (hk : ∀ z j zs, mx = some z → mj = some j → setO xs j z = some zs → Run X S0 H0 (G.set i (.ow (oL (oV R)) zs)) ss Γ Λ O (k zs))
    (hs : swapsWithSole [.Subscript (.Name x pos') b spos] e pos.line X.env = pure false := by rfl) (hw : swappedStores [.Subscript (.Name x pos') b spos] e X.env = pure none := by rfl)
    (h1 : (assignEach [.Subscript (.Name x pos') b spos] X.env).map (·.2) = [assign (.Subscript (.Name x pos') b spos) X.env] := by rfl)
    (ha : ∀ v, assign (.Subscript (.Name x pos') b spos) X.env v = (do
      let ov ← PySem.holding [v] (eval (.Name x pos') X.env)
      let iv ← PySem.holding [v, ov] (eval b X.env)
      standAt spos
      PySem.holding [v, ov, iv] (setItem ov iv v)
      PySem.release [v, ov, iv] []) := by intro _; rfl)
    (hd : (x == ("__debug__" : Str)) = false := by decide) (hcd : (x == ("__classdict__" : Str)) = false := by decide) :
    Run X S0 H0 G (.Assign [.Subscript (.Name x pos') b spos] e pos :: ss) Γ Λ O (mx.bind fun z => mj.bind fun j => (setO xs j z).bind k) := .mk fun S H σ D o E e' g => by
  obtain ⟨z, e1, e'⟩ := bind_some_iff e'
  obtain ⟨j, e2, e'⟩ := bind_some_iff e'
  obtain ⟨zs, e3, e'⟩ := bind_some_iff e'
  have e30 := e3
  obtain ⟨jn, e4, e3⟩ := bind_some_iff e3
  cases e3
  obtain ⟨o', ps, e5, ⟨v, e6, r⟩, nd, fr⟩ := E.get hG
  subst e6
  refine wS_of (pss_cons (ps_asg (wE_ok e) (pg_sub (pe_var hN hv hd hcd) (wE_ok b) set_list ha) hs hw h1) (wS_ok ss)) (he S H σ _ z E e1 fun u S1 H1 rs X1 r1 f1 => ?_)
  refine ⟨v, e5, hj S1 H1 σ _ j (E.mono X1) e2 fun w S2 H2 X2 r2 => ?_⟩
  have X12 := X1.trans X2
  have r' := (oL (oV R)).mono X12.st (fun p hp => Same.at_ne X12.hp (fr p hp).2.1) r
  obtain ⟨l, us, qs, rfl, hl, rfl, els, hz⟩ := r'
  have hl : H2 l = some (.lst us) := hl
  have hlen : us.length = xs.length := els.len
  have hne : H l ≠ none := (fr l List.mem_cons_self).2.1
  have s2l : S2 l = none := X12.nw l (fr l List.mem_cons_self).1 hne
  refine ⟨l, us, j, jn, rfl, r2, hl, by rw [hlen]; exact e4, ?_⟩
  refine hk z j _ e1 e2 e30 S2 _ σ D o (E.mutX X12 hG (fun v ps e7 r7 nd7 fr7 => ?_) (Same.refl _) (fun _ h _ => h) (fun a oo es => ?_)) e' (g.mono X12.st)
  · rw [e5] at e7
    cases e7
    obtain ⟨l', us', qs', el, hl', rfl, els', hz'⟩ := r7
    cases el
    rw [hl] at hl'
    cases hl'
    refine ⟨[l], ⟨l, us.set jn u, [], rfl, upd_same, rfl, (els'.setP jn (R.mono X2.st.k r1.1)).mono (Same.refl _) (fun _ h => absurd h (by simp)), by rw [List.length_set]; exact hz'⟩, by simp, fun p hp => ?_, fun a oo na ea => ?_⟩
    · have : p = l := by simpa using hp
      subst this
      exact ⟨.inl List.mem_cons_self, s2l, by rw [upd_same]; simp⟩
    · rw [upd_ne (fun ep => na (by rw [ep]; exact List.mem_cons_self))]; exact ea
  · rw [upd_ne (ne_of_none es s2l)]; exact X12.sb a oo es
/-- a, b = e, a tuple of things that stay -/
theorem Run.tup2 {R1 : Rp α} {R2 : Rp β} {mx : Option (α × β)} {k : α × β → Option (Out ν μ ρ)} {es : List Expr} {x1} (i j : Nat) (he : EvV X S0 H0 G e (rT (rsCons R1 (rsOne R2))) mx)
    (hg : PG X (.Tuple es x1 pos') (gTup X.K 2 (gCons (gName i) (gCons (gName j) gNil)))) (hk : ∀ z, mx = some z → Run X S0 H0 ((G.set i (.val R1 z.1)).set j (.val R2 z.2)) ss Γ Λ O (k z))
    (hs : swapsWithSole [.Tuple es x1 pos'] e pos.line X.env = pure false := by rfl) (hw : swappedStores [.Tuple es x1 pos'] e X.env = pure none := by rfl)
    (h1 : (assignEach [.Tuple es x1 pos'] X.env).map (·.2) = [assign (.Tuple es x1 pos') X.env] := by rfl) : Run X S0 H0 G (.Assign [.Tuple es x1 pos'] e pos :: ss) Γ Λ O (mx.bind k) := .mk fun S H σ D o E e' g => by
  obtain ⟨z, e1, e'⟩ := bind_some_iff e'
  refine wS_of (pss_cons (ps_asg (wE_ok e) hg hs hw h1) (wS_ok ss)) (he S H σ _ z E e1 fun v S1 H1 ps X1 r1 f1 => ?_)
  obtain ⟨t, vs, rfl, q, v1, w1, rfl, q1, v2, rfl, q2⟩ := r1.1
  refine ⟨t, _, rfl, .inl (.inl (X1.sb _ _ q)), rfl, v1, _, rfl, v2, _, rfl, rfl, ?_⟩
  exact hk z e1 S1 H1 _ D o (((E.setV i X1 q1).setV j (Ext.refl X1.sb) q2)) e' (g.mono X1.st)
end
end Gc

namespace Gc
open PySem PySem.Spec PyProof.Rows L2
variable [Tn]

/-! ## 10. a def -/
theorem entry_ok {S H : Hp} (sb : Same S H) : ∀ {vs : List V} {sl : List Slot} (n : Nat), SlotVs H S vs sl → EnvOk S H S H (sl ++ List.replicate n .any) (vs.map some ++ List.replicate n none)
  | vs, sl, n, h => by
    have len : ∀ {vs : List V} {sl : List Slot}, SlotVs H S vs sl → vs.length = sl.length := by
      intro vs
      induction vs with
      | nil => intro sl h; cases sl with | nil => rfl | cons _ _ => exact h.elim
      | cons v vs ih => intro sl h; cases sl with | nil => exact h.elim | cons _ _ => simp [ih h.2]
    have get : ∀ {vs : List V} {sl : List Slot} {i : Nat} {s : Slot}, SlotVs H S vs sl → sl[i]? = some s → ∃ v, vs[i]? = some v ∧ SlotV H S v s := by
      intro vs
      induction vs with
      | nil => intro sl i s h e; cases sl with | nil => simp at e | cons _ _ => exact h.elim
      | cons v vs ih =>
        intro sl i s h e
        cases sl with
        | nil => exact h.elim
        | cons t sl =>
          cases i with
          | zero => simp at e; subst e; exact ⟨v, rfl, h.1⟩
          | succ i => obtain ⟨u, e1, r⟩ := ih (i := i) h.2 (by simpa using e); exact ⟨u, by simpa using e1, r⟩
    refine ⟨Ext.refl sb, by simp [len h], fun _ => [], fun j t es => ?_, ⟨fun j p hp => absurd hp (by simp), fun _ => .nil, fun _ _ _ h => absurd h (by simp)⟩⟩
    by_cases hj : j < sl.length
    · rw [List.getElem?_append_left hj] at es
      obtain ⟨v, e1, r⟩ := get h es
      refine ⟨some v, by rw [List.getElem?_append_left (by rw [List.length_map, len h]; exact hj), List.getElem?_map, e1]; rfl, ?_⟩
      cases t with
      | any => rfl
      | ow O x => exact r.elim
      | bw R x => exact ⟨v, rfl, r, rfl⟩
      | val R x => exact ⟨v, rfl, r, rfl⟩
    · rw [List.getElem?_append_right (by omega)] at es
      rw [List.getElem?_append_right (by rw [List.length_map, len h]; omega), List.length_map, len h]
      rw [List.getElem?_replicate] at es ⊢
      split at es
      · next c => cases es; rw [if_pos c]; exact ⟨none, rfl, rfl⟩
      · cases es
/-- how a def ends -/
def fin {ν μ ρ : Type} (d : Option ρ) : Out ν μ ρ → Option ρ
  | .nx _ => d
  | .rt x => some x
  | _ => none
abbrev XF (P : Program) (w : World) (K : PySem.W.Frag) (mg : Str → Option Value) (base : Heap) (N : List Str) (qual : Str) (sc : Scope) (f : Addr) (cdv : Value) (A : Around) (outer : List Env) (s : Shared) (H : Hp) (E : XK) : Cx :=
  (cxOf CX0 P w K mg base N qual sc f cdv A outer s H E).nox
instance (priority := 1500) sqXF {P : Program} {w : World} {K : PySem.W.Frag} {mg : Str → Option Value} {base : Heap} {N : List Str} {qual : Str} {sc : Scope} {f : Addr} {cdv : Value} {A : Around} {outer : List Env} {s : Shared} {H : Hp} {E : XK} {α : Type} {R : Rp α} : SqRp (XF P w K mg base N qual sc f cdv A outer s H E).K (rSq K R) R := ⟨fun ⟨a, vs, e, q, p, l⟩ => ⟨a, vs, e, q, p, l⟩⟩
section
variable {P : Program} {w : World} {K : PySem.W.Frag} {mg : Str → Option Value} {base : Heap}
theorem fn_ok {α β : Type} {k : Nat} {x qual : Str} {st : Stmt} {f : Addr} {fd : FuncData} {N ps : List Str} {A : Arp α} {O : Orp β} {fm : α → Option β} {fb : α → Option (Out Unit Empty β)} {d : Option β}
    (F : Fun K x qual st f fd) (sc : FnScope N ps (defScope st)) (hl : ∀ {S H vs z}, A.r S H vs z → vs.length = ps.length)
    (body : ∀ (cdv : Value) (Ar : Around) (outer : List Env) (s : Shared) (H : Hp) (E : XK), Room k (Ar.deeper (envOfC qual (defScope st) s.heap.objs.size f cdv)) → ∀ (S : Hp) z,
      Run (XF P w K mg base N qual (defScope st) f cdv Ar outer s H E) S H (A.sl z ++ List.replicate (N.length - ps.length) .any) (defBody st) (fun _ : Unit => List.replicate N.length .any) (fun e : Empty => nomatch e) O (fb z))
    (hd : ∀ y, d = some y → ∀ S H, O.r S H .non y []) (hm : ∀ z y, fm z = some y → (fb z).bind (fin d) = some y) : FnOk P w K mg base CX0 (k + 1) f fd ps (spOf A O fm) := by
  refine F.ok sc (fun vs H Q E ⟨S, z, y, sb, r, _⟩ => hl r) (fun cdv Ar outer s H vs Q E hr h => ?_)
  obtain ⟨S, z, y, sb, r, e, q⟩ := h
  obtain ⟨o, e1, e2⟩ := bind_some_iff (hm z y e)
  refine ⟨_, wS_ok _, ?_⟩
  refine body cdv Ar outer s H E hr S z S H _ _ o ?_ e1 ?_
  · have h1 := hl r
    have := entry_ok sb (N.length - ps.length) (A.ok r)
    unfold L2.start
    rw [h1]
    exact this
  · cases o with
    | nx u => exact fun S' H' σ' E' _ => q .non S' H' [] E'.base (hd y e2 S' H') Fresh.nil
    | rt v => cases e2; exact fun v S' H' ps X r f => q v S' H' ps X r f
    | bk l => exact nomatch l
    | ct l => exact nomatch l
theorem Fn.of {α β : Type} {k : Nat} {x : Str} {f : Addr} {fd : FuncData} {ps : List Str} {A : Arp α} {O : Orp β} {fm : α → Option β} {ds : List Value} {dvs : List V}
    (h : FnOk P w K mg base CX0 k f fd ps (spOf A O fm)) (gm : mg x = some (.ref f)) (kp : PySem.W.keepIn K (.ref f) = true) (b : Binds K fd ps ds) (hd : Vals dvs ds) : Fn P w K mg base k x A O fm dvs :=
  ⟨CX0, f, fd, ps, ds, h, fun _ _ _ => fun _ _ _ _ _ _ _ h => h.elim, gm, kp, b, hd⟩
/-- the law, called with the script -/
theorem law_sp {A : Arp (List Int × Unit)} {m : List Int × Unit → Option Bool} {H : Hp} {a : Addr} {ns : List Int} (hA : A = aV (rSq K rInt) aNil) (hq : SqL K H a (ns.map V.int)) (hl : ns.length ≤ 63) (hm : m (ns, ()) = some true) :
    spOf A (oV rBool) m [.ref a] H (fun v _ => v = .bl true) (fun _ _ _ => False) := by
  subst hA
  refine ⟨H, (ns, ()), true, Same.refl H, ⟨.ref a, [], rfl, ⟨a, ns.map V.int, rfl, hq, paired_of_ints ns, Nat.le_trans hl (by decide)⟩, rfl⟩, hm, fun v S' H' ps _ r _ => r.1⟩
theorem law_spB {A : Arp (List Int × Unit)} {m : List Int × Unit → Option Bool} {H : Hp} {a : Addr} {ns : List Int} (hA : A = aB (rSq K rInt) aNil) (hq : SqL K H a (ns.map V.int)) (hl : ns.length ≤ 63) (hm : m (ns, ()) = some true) :
    spOf A (oV rBool) m [.ref a] H (fun v _ => v = .bl true) (fun _ _ _ => False) := by
  subst hA
  refine ⟨H, (ns, ()), true, Same.refl H, ⟨.ref a, [], rfl, ⟨a, ns.map V.int, rfl, hq, paired_of_ints ns, Nat.le_trans hl (by decide)⟩, rfl⟩, hm, fun v S' H' ps _ r _ => r.1⟩
end
end Gc

namespace Gc
open PySem L2
variable [Tn]

/-! ## 11. the rules in the form in which they are printed: parts are pure, what may fail is bound ahead -/
def letP {α β : Type} (x : α) (k : α → Option β) : Option β := k x
section
variable {X : Cx} {S0 H0 S H S' H' : Hp} {G G' : Cxt} {σ : St} {α β γ ν μ ρ : Type} {tg elt iter a b e : Expr} {pos pos' : Pos} {Γ : ν → Cxt} {Λ : μ → Cxt} {O : Orp ρ} {ss : List Stmt}
theorem EvB.un {R : Rp α} {m1 : Option β} {k : β → Option α} (h : ∀ x, m1 = some x → EvB X S0 H0 G e R (k x)) : EvB X S0 H0 G e R (m1.bind k) := .mk fun S H σ Q z E hm kk => by
  obtain ⟨x, e1, hm⟩ := bind_some_iff hm; exact h x e1 S H σ Q z E hm kk
theorem EvO.un {O : Orp α} {m1 : Option β} {k : β → Option α} (h : ∀ x, m1 = some x → EvO X S0 H0 G e O (k x)) : EvO X S0 H0 G e O (m1.bind k) := .mk fun S H σ Q z E hm kk => by
  obtain ⟨x, e1, hm⟩ := bind_some_iff hm; exact h x e1 S H σ Q z E hm kk
theorem Tst.un {m1 : Option β} {k : β → Option Bool} (h : ∀ x, m1 = some x → Tst X S0 H0 G e (k x)) : Tst X S0 H0 G e (m1.bind k) := .mk fun S H σ Q z E hm kk => by
  obtain ⟨x, e1, hm⟩ := bind_some_iff hm; exact h x e1 S H σ Q z E hm kk
theorem TsW.un {m1 : Option β} {k : β → Option Bool} (h : ∀ x, m1 = some x → TsW X S0 H0 G e (k x)) : TsW X S0 H0 G e (m1.bind k) := .mk fun S H σ Q z E hm kk => by
  obtain ⟨x, e1, hm⟩ := bind_some_iff hm; exact h x e1 S H σ Q z E hm kk
theorem Run.un {m1 : Option β} {k : β → Option (Out ν μ ρ)} (h : ∀ x, m1 = some x → Run X S0 H0 G ss Γ Λ O (k x)) : Run X S0 H0 G ss Γ Λ O (m1.bind k) := .mk fun S H σ D o E hm g => by
  obtain ⟨x, e1, hm⟩ := bind_some_iff hm; exact h x e1 S H σ D o E hm g
theorem Run.letP {y : β} {k : β → Option (Out ν μ ρ)} (h : ∀ x, x = y → Run X S0 H0 G ss Γ Λ O (k x)) : Run X S0 H0 G ss Γ Λ O (letP y k) := h y rfl
theorem EvB.is {R : Rp α} {m : Option α} {x : α} (h : m = some x) (k : EvB X S0 H0 G e R m) : EvB X S0 H0 G e R (some x) := h ▸ k
theorem EvO.is {O : Orp α} {m : Option α} {x : α} (h : m = some x) (k : EvO X S0 H0 G e O m) : EvO X S0 H0 G e O (some x) := h ▸ k
theorem Tst.is {m : Option Bool} {x : Bool} (h : m = some x) (k : Tst X S0 H0 G e m) : Tst X S0 H0 G e (some x) := h ▸ k
theorem EvB.isP {R : Rp α} {x y : α} (h : x = y) (k : EvB X S0 H0 G e R (some y)) : EvB X S0 H0 G e R (some x) := h ▸ k
theorem EvO.isP {O : Orp α} {x y : α} (h : x = y) (k : EvO X S0 H0 G e O (some y)) : EvO X S0 H0 G e O (some x) := h ▸ k
theorem EvO.cx {O : Orp α} {m : Option α} (h : G = G') (k : EvO X S0 H0 G' e O m) : EvO X S0 H0 G e O m := h ▸ k
theorem Tst.cx {m : Option Bool} (h : G = G') (k : Tst X S0 H0 G' e m) : Tst X S0 H0 G e m := h ▸ k
theorem Run.cx {m : Option (Out ν μ ρ)} (h : G = G') (k : Run X S0 H0 G' ss Γ Λ O m) : Run X S0 H0 G ss Γ Λ O m := h ▸ k

theorem EvB.addP {x y : Int} (ha : EvB X S0 H0 G a rInt (some x)) (hb : EvB X S0 H0 G b rInt (some y)) : EvB X S0 H0 G (.BinOp a .Add b pos) rInt (some (x + y)) := EvB.add ha hb
theorem EvB.subP {x y : Int} (ha : EvB X S0 H0 G a rInt (some x)) (hb : EvB X S0 H0 G b rInt (some y)) : EvB X S0 H0 G (.BinOp a .Sub b pos) rInt (some (x - y)) := EvB.sub ha hb
theorem EvB.bandP {x y : Int} (ha : EvB X S0 H0 G a rInt (some x)) (hb : EvB X S0 H0 G b rInt (some y)) : EvB X S0 H0 G (.BinOp a .BitAnd b pos) rInt (some (Builtin.bitAnd x y)) := EvB.band ha hb
theorem EvB.borP {x y : Int} (ha : EvB X S0 H0 G a rInt (some x)) (hb : EvB X S0 H0 G b rInt (some y)) : EvB X S0 H0 G (.BinOp a .BitOr b pos) rInt (some (Builtin.bitOr x y)) := EvB.bor ha hb
theorem EvB.bxorP {x y : Int} (ha : EvB X S0 H0 G a rInt (some x)) (hb : EvB X S0 H0 G b rInt (some y)) : EvB X S0 H0 G (.BinOp a .BitXor b pos) rInt (some (Builtin.bitXor x y)) := EvB.bxor ha hb
theorem EvB.mulP {x y : Int} (ha : EvB X S0 H0 G a rInt (some x)) (hb : EvB X S0 H0 G b rInt (some y)) : EvB X S0 H0 G (.BinOp a .Mult b pos) rInt (mulO x y) := EvB.mul ha hb
theorem EvB.fdivP {x y : Int} (ha : EvB X S0 H0 G a rInt (some x)) (hb : EvB X S0 H0 G b rInt (some y)) : EvB X S0 H0 G (.BinOp a .FloorDiv b pos) rInt (fdivO x y) := EvB.fdiv ha hb
theorem EvB.modP {x y : Int} (ha : EvB X S0 H0 G a rInt (some x)) (hb : EvB X S0 H0 G b rInt (some y)) : EvB X S0 H0 G (.BinOp a .Mod b pos) rInt (modO x y) := EvB.mod ha hb
theorem EvB.powP {x y : Int} (ha : EvB X S0 H0 G a rInt (some x)) (hb : EvB X S0 H0 G b rInt (some y)) : EvB X S0 H0 G (.BinOp a .Pow b pos) rInt (powO x y) := EvB.pow ha hb
theorem EvB.shlP {x y : Int} (ha : EvB X S0 H0 G a rInt (some x)) (hb : EvB X S0 H0 G b rInt (some y)) : EvB X S0 H0 G (.BinOp a .LShift b pos) rInt (shlO x y) := EvB.shl ha hb
theorem EvB.shrP {x y : Int} (ha : EvB X S0 H0 G a rInt (some x)) (hb : EvB X S0 H0 G b rInt (some y)) : EvB X S0 H0 G (.BinOp a .RShift b pos) rInt (shrO x y) := EvB.shr ha hb
theorem EvB.negP {x : Int} (ha : EvB X S0 H0 G a rInt (some x)) : EvB X S0 H0 G (.UnaryOp .USub a pos) rInt (some (-x)) := EvB.neg ha
theorem EvB.fdivCP {x : Int} (c : Int) {j} (ha : EvB X S0 H0 G a rInt (some x)) (hc : (decide (0 < c) && decide (c < 1073741824)) = true := by decide) : EvB X S0 H0 G (.BinOp a .FloorDiv (.Constant (.int c) j pos') pos) rInt (some (x / c)) := EvB.fdivC ha hc
theorem EvB.modCP {x : Int} (c : Int) {j} (ha : EvB X S0 H0 G a rInt (some x)) (hc : decide (0 < c) = true := by decide) : EvB X S0 H0 G (.BinOp a .Mod (.Constant (.int c) j pos') pos) rInt (some (x % c)) := EvB.modC ha hc
theorem EvB.mulLP {x : Int} (c : Int) {j} (ha : EvB X S0 H0 G a rInt (some x)) (hc : (decide (-(2 ^ 64) < c) && decide (c < 2 ^ 64)) = true := by decide) : EvB X S0 H0 G (.BinOp (.Constant (.int c) j pos') .Mult a pos) rInt (some (c * x)) := EvB.mulL ha hc
theorem EvB.mulRP {x : Int} (c : Int) {j} (ha : EvB X S0 H0 G a rInt (some x)) (hc : (decide (-(2 ^ 64) < c) && decide (c < 2 ^ 64)) = true := by decide) : EvB X S0 H0 G (.BinOp a .Mult (.Constant (.int c) j pos') pos) rInt (some (x * c)) := EvB.mulR ha hc
/-- a written power -/
theorem EvB.powCP (b n : Nat) {j j'} {p1 p2 : Pos} (h : decide (n ≤ 1000000) = true := by decide) (hb : (decide ((b : Int).natAbs < 2 ^ 64)) = true := by decide) : EvB X S0 H0 G (.BinOp (.Constant (.int (b : Int)) j p1) .Pow (.Constant (.int (n : Int)) j' p2) pos) rInt (some ((b : Int) ^ n)) :=
  (EvB.opI (fun i j => some (i ^ j.toNat) |>.bind fun z => open Classical in if CPow i j then some z else none) op_pow (fun i j k h => by
    dsimp only [Option.bind_some] at h
    by_cases c : CPow i j
    · rw [if_pos c] at h; exact ⟨c, (Option.some.inj h).symm⟩
    · rw [if_neg c] at h; cases h) EvB.int EvB.int).to fun x hx => by
      have c : CPow (b : Int) (n : Int) := ⟨by omega, by have := of_decide_eq_true h; omega, of_decide_eq_true hb⟩
      cases hx
      simp [c]
theorem EvB.ltP {x y : Int} (ha : EvB X S0 H0 G a rInt (some x)) (hb : EvB X S0 H0 G b rInt (some y)) : EvB X S0 H0 G (.Compare a [.Lt] [b] pos) rBool (some (decide (x < y))) := EvB.lt ha hb
theorem EvB.leP {x y : Int} (ha : EvB X S0 H0 G a rInt (some x)) (hb : EvB X S0 H0 G b rInt (some y)) : EvB X S0 H0 G (.Compare a [.LtE] [b] pos) rBool (some (decide (x ≤ y))) := EvB.le ha hb
theorem EvB.gtP {x y : Int} (ha : EvB X S0 H0 G a rInt (some x)) (hb : EvB X S0 H0 G b rInt (some y)) : EvB X S0 H0 G (.Compare a [.Gt] [b] pos) rBool (some (decide (y < x))) := EvB.gt ha hb
theorem EvB.geP {x y : Int} (ha : EvB X S0 H0 G a rInt (some x)) (hb : EvB X S0 H0 G b rInt (some y)) : EvB X S0 H0 G (.Compare a [.GtE] [b] pos) rBool (some (decide (y ≤ x))) := EvB.ge ha hb
theorem EvB.eqeP {R : Rp α} [Scal R] [DecidableEq α] {x y : α} (ha : EvB X S0 H0 G a R (some x)) (hb : EvB X S0 H0 G b R (some y)) : EvB X S0 H0 G (.Compare a [.Eq] [b] pos) rBool (some (decide (x = y))) := EvB.eq ha hb
theorem EvB.neP {R : Rp α} [Scal R] [DecidableEq α] {x y : α} (ha : EvB X S0 H0 G a R (some x)) (hb : EvB X S0 H0 G b R (some y)) : EvB X S0 H0 G (.Compare a [.NotEq] [b] pos) rBool (some (!decide (x = y))) := EvB.ne ha hb
theorem EvB.isNoP {R : Rp α} {x : Option α} {j} (ha : EvB X S0 H0 G a (rOpt R) (some x)) : EvB X S0 H0 G (.Compare a [.Is] [.Constant .none j pos'] pos) rBool (some x.isNone) := EvB.isN ha
theorem EvB.notNP {R : Rp α} {x : Option α} {j} (ha : EvB X S0 H0 G a (rOpt R) (some x)) : EvB X S0 H0 G (.Compare a [.IsNot] [.Constant .none j pos'] pos) rBool (some x.isSome) := EvB.notN ha
theorem EvB.tstP {x : Bool} (h : EvB X S0 H0 G e rBool (some x)) (he : ∀ whole, isTrue e X.env whole = (do let v ← whole; standAt e.pos; PySem.holding [v] (truthy v)) := by intro _; rfl) : Tst X S0 H0 G e (some x) := EvB.tst h he
theorem Tst.notP {x : Bool} (h : Tst X S0 H0 G a (some x)) : Tst X S0 H0 G (.UnaryOp .Not a pos) (some !x) := Tst.not h
theorem TsW.andM {rest : List Expr} {x : Bool} {m2 : Option Bool} (h : Tst X S0 H0 G a (some x)) (h2 : TsW X S0 H0 G (.BoolOp .And (b :: rest) pos) m2) : TsW X S0 H0 G (.BoolOp .And (a :: b :: rest) pos) (if x = true then m2 else some false) := TsW.and h h2
theorem TsW.orM {rest : List Expr} {x : Bool} {m2 : Option Bool} (h : Tst X S0 H0 G a (some x)) (h2 : TsW X S0 H0 G (.BoolOp .Or (b :: rest) pos) m2) : TsW X S0 H0 G (.BoolOp .Or (a :: b :: rest) pos) (if x = true then some true else m2) := TsW.or h h2
theorem TsW.andP {rest : List Expr} {x y : Bool} (h : Tst X S0 H0 G a (some x)) (h2 : TsW X S0 H0 G (.BoolOp .And (b :: rest) pos) (some y)) : TsW X S0 H0 G (.BoolOp .And (a :: b :: rest) pos) (some (x && y)) := .mk fun S H σ Q z E hm k =>
  TsW.and h h2 S H σ Q z E (by cases hm; cases x <;> rfl) k
theorem TsW.orP {rest : List Expr} {x y : Bool} (h : Tst X S0 H0 G a (some x)) (h2 : TsW X S0 H0 G (.BoolOp .Or (b :: rest) pos) (some y)) : TsW X S0 H0 G (.BoolOp .Or (a :: b :: rest) pos) (some (x || y)) := .mk fun S H σ Q z E hm k =>
  TsW.or h h2 S H σ Q z E (by cases hm; cases x <;> rfl) k
theorem EvB.notP {x : Bool} (h : EvB X S0 H0 G a rBool (some x)) : EvB X S0 H0 G (.UnaryOp .Not a pos) rBool (some !x) := EvB.not h
theorem EvB.andM {rest : List Expr} {x : Bool} {m2 : Option Bool} (h : EvB X S0 H0 G a rBool (some x)) (h2 : EvB X S0 H0 G (.BoolOp .And (b :: rest) pos) rBool m2) : EvB X S0 H0 G (.BoolOp .And (a :: b :: rest) pos) rBool (if x = true then m2 else some false) := EvB.and h h2
theorem EvB.orM {rest : List Expr} {x : Bool} {m2 : Option Bool} (h : EvB X S0 H0 G a rBool (some x)) (h2 : EvB X S0 H0 G (.BoolOp .Or (b :: rest) pos) rBool m2) : EvB X S0 H0 G (.BoolOp .Or (a :: b :: rest) pos) rBool (if x = true then some true else m2) := EvB.or h h2
theorem EvB.andP {rest : List Expr} {x y : Bool} (h : EvB X S0 H0 G a rBool (some x)) (h2 : EvB X S0 H0 G (.BoolOp .And (b :: rest) pos) rBool (some y)) : EvB X S0 H0 G (.BoolOp .And (a :: b :: rest) pos) rBool (some (x && y)) := .mk fun S H σ Q z E hm k =>
  EvB.and h h2 S H σ Q z E (by cases hm; cases x <;> rfl) k
theorem EvB.orP {rest : List Expr} {x y : Bool} (h : EvB X S0 H0 G a rBool (some x)) (h2 : EvB X S0 H0 G (.BoolOp .Or (b :: rest) pos) rBool (some y)) : EvB X S0 H0 G (.BoolOp .Or (a :: b :: rest) pos) rBool (some (x || y)) := .mk fun S H σ Q z E hm k =>
  EvB.or h h2 S H σ Q z E (by cases hm; cases x <;> rfl) k
theorem EvB.ifM {c : Expr} {R : Rp α} {x : Bool} {m1 m2 : Option α} (hc : Tst X S0 H0 G c (some x)) (ha : EvB X S0 H0 G a R m1) (hb : EvB X S0 H0 G b R m2) : EvB X S0 H0 G (.IfExp c a b pos) R (if x = true then m1 else m2) := EvB.ifE hc ha hb

theorem EvB.ixP {RL : Rp (List α)} {R : Rp α} {xs : List α} {i : Int} [L : SqRp X.K RL R] (ha : EvB X S0 H0 G a RL (some xs)) (hb : EvB X S0 H0 G b rInt (some i)) (hs : PlainIx b := by exact fun _ _ => rfl) : EvB X S0 H0 G (.Subscript a b pos) R (atI xs i) := EvB.ix ha hb hs
theorem EvV.ixP {RL : Rp (List α)} {R : Rp α} {xs : List α} {i : Int} [L : SqRp X.K RL R] (ha : EvV X S0 H0 G a RL (some xs)) (hb : EvB X S0 H0 G b rInt (some i)) (hs : PlainIx b := by exact fun _ _ => rfl) : EvV X S0 H0 G (.Subscript a b pos) R (atI xs i) := EvV.ix ha hb hs
theorem EvB.tixP {Rs : Rps α} {R : Rp β} (k : Nat) {f : α → β} {x : α} {j} (p : Proj Rs k R f) (ha : EvB X S0 H0 G a (rT Rs) (some x)) : EvB X S0 H0 G (.Subscript a (.Constant (.int (k : Int)) j pos') pos) R (some (f x)) := EvB.tix ha p
theorem EvV.tixP {Rs : Rps α} {R : Rp β} (k : Nat) {f : α → β} {x : α} {j} (p : Proj Rs k R f) (ha : EvV X S0 H0 G a (rT Rs) (some x)) : EvV X S0 H0 G (.Subscript a (.Constant (.int (k : Int)) j pos') pos) R (some (f x)) := EvV.tix ha p
theorem boot_sum : bootBuiltins "sum" = some (.builtin "sum") := by decide +kernel
theorem boot_min : bootBuiltins "min" = some (.builtin "min") := by decide +kernel
theorem boot_max : bootBuiltins "max" = some (.builtin "max") := by decide +kernel
theorem boot_all : bootBuiltins "all" = some (.builtin "all") := by decide +kernel
theorem boot_abs : bootBuiltins "abs" = some (.builtin "abs") := by decide +kernel
theorem boot_lenG : bootBuiltins "len" = some (.builtin "len") := by decide +kernel
theorem boot_isi : bootBuiltins "isinstance" = some (.builtin "isinstance") := by decide +kernel
theorem boot_intT : bootBuiltins "int" = some (.type "int") := by decide +kernel
theorem boot_listT : bootBuiltins "list" = some (.type "list") := by decide +kernel
theorem boot_tupleT : bootBuiltins "tuple" = some (.type "tuple") := by decide +kernel
theorem boot_boolT : bootBuiltins "bool" = some (.type "bool") := by decide +kernel
theorem boot_strT : bootBuiltins "str" = some (.type "str") := by decide +kernel
end
section
variable {X : Cx} {S0 H0 S H S' H' : Hp} {G G' : Cxt} {σ : St} {α β γ ν μ ρ : Type} {tg elt iter a b e : Expr} {pos pos' p : Pos} {Γ : ν → Cxt} {Λ : μ → Cxt} {O : Orp ρ} {ss : List Stmt}
theorem EvB.lenP {RL : Rp (List α)} {R : Rp α} {xs : List α} [L : SqRp X.K RL R] (hm : X.mg "len" = none) (ha : EvB X S0 H0 G a RL (some xs)) (hg : Gl X "len" := by rfl) (he : starEach [a] X.env = (false, eval a X.env) :: starEach [] X.env := by rfl) :
    EvB X S0 H0 G (.Call (.Name "len" p) [a] [] pos) rInt (some (xs.length : Int)) := EvB.len ha hg hm boot_lenG (by decide) (by decide) he
theorem EvB.sumP {RL : Rp (List Int)} {xs : List Int} [L : SqRp X.K RL rInt] (hm : X.mg "sum" = none) (ha : EvB X S0 H0 G a RL (some xs)) (hg : Gl X "sum" := by rfl) (hc : X.calm = true := by rfl) (he : starEach [a] X.env = (false, eval a X.env) :: starEach [] X.env := by rfl) :
    EvB X S0 H0 G (.Call (.Name "sum" p) [a] [] pos) rInt (some xs.sum) := EvB.sum ha hg hm boot_sum hc (by decide) (by decide) he
theorem EvB.minlP {RL : Rp (List Int)} {xs : List Int} [L : SqRp X.K RL rInt] (hm : X.mg "min" = none) (ha : EvB X S0 H0 G a RL (some xs)) (hg : Gl X "min" := by rfl) (hc : X.calm = true := by rfl) (he : starEach [a] X.env = (false, eval a X.env) :: starEach [] X.env := by rfl) :
    EvB X S0 H0 G (.Call (.Name "min" p) [a] [] pos) rInt (minL xs) := EvB.minl ha hg hm boot_min hc (by decide) (by decide) he
theorem EvB.maxlP {RL : Rp (List Int)} {xs : List Int} [L : SqRp X.K RL rInt] (hm : X.mg "max" = none) (ha : EvB X S0 H0 G a RL (some xs)) (hg : Gl X "max" := by rfl) (hc : X.calm = true := by rfl) (he : starEach [a] X.env = (false, eval a X.env) :: starEach [] X.env := by rfl) :
    EvB X S0 H0 G (.Call (.Name "max" p) [a] [] pos) rInt (maxL xs) := EvB.maxl ha hg hm boot_max hc (by decide) (by decide) he
theorem EvB.allP {RL : Rp (List Bool)} {xs : List Bool} [L : SqRp X.K RL rBool] (hm : X.mg "all" = none) (ha : EvB X S0 H0 G a RL (some xs)) (hg : Gl X "all" := by rfl) (hc : X.calm = true := by rfl) (he : starEach [a] X.env = (false, eval a X.env) :: starEach [] X.env := by rfl) :
    EvB X S0 H0 G (.Call (.Name "all" p) [a] [] pos) rBool (some (xs.all id)) := EvB.all ha hg hm boot_all hc (by decide) (by decide) he
theorem EvB.absP {x : Int} (hm : X.mg "abs" = none) (ha : EvB X S0 H0 G a rInt (some x)) (hg : Gl X "abs" := by rfl) (he : starEach [a] X.env = (false, eval a X.env) :: starEach [] X.env := by rfl) :
    EvB X S0 H0 G (.Call (.Name "abs" p) [a] [] pos) rInt (some (if x < 0 then -x else x)) := EvB.abs ha hg hm boot_abs (by decide) (by decide) he
theorem EvB.min2P {x y : Int} (hm : X.mg "min" = none) (ha : EvB X S0 H0 G a rInt (some x)) (hb : EvB X S0 H0 G b rInt (some y)) (hg : Gl X "min" := by rfl) (hc : X.calm = true := by rfl)
    (he : starEach [a, b] X.env = (false, eval a X.env) :: starEach [b] X.env := by rfl) (he2 : starEach [b] X.env = (false, eval b X.env) :: starEach [] X.env := by rfl) (hpl : (backTo pos (starEach [b] X.env)).any (·.1) = false := by rfl) :
    EvB X S0 H0 G (.Call (.Name "min" p) [a, b] [] pos) rInt (some (min x y)) := EvB.min2 ha hb hg hm boot_min hc (by decide) (by decide) he he2 hpl
theorem EvB.max2P {x y : Int} (hm : X.mg "max" = none) (ha : EvB X S0 H0 G a rInt (some x)) (hb : EvB X S0 H0 G b rInt (some y)) (hg : Gl X "max" := by rfl) (hc : X.calm = true := by rfl)
    (he : starEach [a, b] X.env = (false, eval a X.env) :: starEach [b] X.env := by rfl) (he2 : starEach [b] X.env = (false, eval b X.env) :: starEach [] X.env := by rfl) (hpl : (backTo pos (starEach [b] X.env)).any (·.1) = false := by rfl) :
    EvB X S0 H0 G (.Call (.Name "max" p) [a, b] [] pos) rInt (some (max x y)) := EvB.max2 ha hb hg hm boot_max hc (by decide) (by decide) he he2 hpl
theorem EvB.intbP {x : Bool} (hm : X.mg "int" = none) (ha : EvB X S0 H0 G a rBool (some x)) (hg : Gl X "int" := by rfl) (he : starEach [a] X.env = (false, eval a X.env) :: starEach [] X.env := by rfl) :
    EvB X S0 H0 G (.Call (.Name "int" p) [a] [] pos) rInt (some (if x then 1 else 0)) := EvB.intb ha hg hm boot_intT (by decide) (by decide) he
theorem EvB.bitsP {apos : Pos} {x : Int} (ha : EvB X S0 H0 G a rInt (some x)) (hbase : attributeBase a "bit_length" X.env (eval a X.env) = eval a X.env := by rfl) (hline : (apos.endLine == pos.line) = true := by rfl) :
    EvB X S0 H0 G (.Call (.Attribute a "bit_length" apos) [] [] pos) rInt (some ((Builtin.Int.intBits x : Nat) : Int)) := EvB.bits ha hbase hline
theorem EvO.listVP {RL : Rp (List α)} {R : Rp α} {xs : List α} [L : SqRp X.K RL R] (hm : X.mg "list" = none) (ha : EvV X S0 H0 G a RL (some xs)) (hg : Gl X "list" := by rfl) (he : starEach [a] X.env = (false, eval a X.env) :: starEach [] X.env := by rfl) :
    EvO X S0 H0 G (.Call (.Name "list" p) [a] [] pos) (oL (oV R)) (some xs) := EvO.listV ha hg hm boot_listT (by decide) (by decide) he
theorem EvO.listBP {RL : Rp (List α)} {R : Rp α} [Flat R] {xs : List α} [L : SqRp X.K RL R] (hm : X.mg "list" = none) (ha : EvB X S0 H0 G a RL (some xs)) (hg : Gl X "list" := by rfl) (he : starEach [a] X.env = (false, eval a X.env) :: starEach [] X.env := by rfl) :
    EvO X S0 H0 G (.Call (.Name "list" p) [a] [] pos) (oL (oV R)) (some xs) := EvO.listB ha hg hm boot_listT (by decide) (by decide) he
/-- isinstance(x, T), T a built-in class: known by the kind -/
class TyR (K : PySem.W.Frag) (R : Rp α) (T : outParam String) : Prop where
  ty : ∀ {H : Hp} {v : V} {x : α}, R.r H v x → TyX K H v (.type T)
instance {K : PySem.W.Frag} : TyR K rInt "int" := ⟨fun h => by cases h; exact .base (.int _)⟩
instance {K : PySem.W.Frag} : TyR K rBool "bool" := ⟨fun h => by cases h; exact .base (.bl _)⟩
instance {K : PySem.W.Frag} : TyR K rStr "str" := ⟨fun h => by cases h.1; exact .base (.str _)⟩
instance {K : PySem.W.Frag} {R : Rp α} : TyR K (rL R) "list" := ⟨fun ⟨a, vs, e, q, _⟩ => by cases e; exact .base (.lst q)⟩
instance {K : PySem.W.Frag} {Rs : Rps α} : TyR K (rT Rs) "tuple" := ⟨fun ⟨a, vs, e, q, _⟩ => by cases e; exact .base (.tup q)⟩
theorem EvB.isiP {R : Rp α} {x : α} {T : String} [L : TyR X.K R T] (n : Str) (U : String) (r : Bool) {p1 : Pos} (hm : X.mg "isinstance" = none) (hmT : X.mg n = none) (hv : bootBuiltins n = some (.type U)) (ha : EvB X S0 H0 G a R (some x)) (hk : kitB T U = some r := by rfl) (hg : Gl X "isinstance" := by rfl) (hgT : Gl X n := by rfl)
    (he : starEach [a, .Name n p1] X.env = (false, eval a X.env) :: starEach [.Name n p1] X.env := by rfl) (he2 : starEach [.Name n p1] X.env = (false, eval (.Name n p1) X.env) :: starEach [] X.env := by rfl) (hpl : (backTo pos (starEach [.Name n p1] X.env)).any (·.1) = false := by rfl)
    (hn : n ≠ "__name__" := by decide) (hd : (n == ("__debug__" : Str)) = false := by decide) :
    EvB X S0 H0 G (.Call (.Name "isinstance" p) [a, .Name n p1] [] pos) rBool (some r) := .mk fun S H σ Q z E hm' k => by
  cases hm'
  refine wE_of (pe_callB call_isi hg hm boot_isi (pa_cons (wE_ok a) (pa_cons (pe_bltn (v := .ty U) (u := .type U) hgT hmT hv rfl hn hd) pa_nil he2) he) (by decide) (by decide) he hpl) (ha S H σ _ x E rfl fun v S1 H1 X1 r1 => ?_)
  exact ⟨v, .ty U, .type T, .type U, r, rfl, .ty U, L.ty r1, kit_ty hk, k _ S1 H1 X1 rfl⟩
/-! ### statements -/
theorem Run.itePP {νj : Type} {c : Expr} {A B : List Stmt} {x : Bool} {mA mB : Option (Out νj μ ρ)} {k : νj → Option (Out ν μ ρ)} (Γj : νj → Cxt) (hc : Tst X S0 H0 G c (some x)) (hA : Run X S0 H0 G A Γj Λ O mA) (hB : Run X S0 H0 G B Γj Λ O mB) (hk : ∀ s, Run X S0 H0 (Γj s) ss Γ Λ O (k s)) :
    Run X S0 H0 G (.If c A B pos :: ss) Γ Λ O ((if x = true then mA else mB).bind (bnd k)) := (Run.ite Γj hc hA hB hk).to fun o h => by cases x <;> exact h
theorem Run.ifxP {c : Expr} {A : List Stmt} {x : Bool} {mA : Option (Out Empty μ ρ)} {m : Option (Out ν μ ρ)} (hc : Tst X S0 H0 G c (some x)) (hA : Run X S0 H0 G A (fun e : Empty => nomatch e) Λ O mA) (hk : Run X S0 H0 G ss Γ Λ O m) :
    Run X S0 H0 G (.If c A [] pos :: ss) Γ Λ O (if x = true then mA.bind exitO else m) := Run.ifx hc hA hk
/-- if .. return e; the rest -/
theorem Run.ifr {c : Expr} {p2 : Pos} {x : Bool} {mA : Option ρ} {m : Option (Out ν μ ρ)} (hc : Tst X S0 H0 G c (some x)) (hA : EvO X S0 H0 G e O mA) (hk : Run X S0 H0 G ss Γ Λ O m) :
    Run X S0 H0 G (.If c [.Return (some e) p2] [] pos :: ss) Γ Λ O (if x = true then mA.bind fun y => some (.rt y) else m) := (Run.ifx hc (Run.ret hA) hk).to fun o h => by
  cases x with
  | false => exact h
  | true =>
    obtain ⟨y, e1, h⟩ := bind_some_iff (show mA.bind (fun y => some (Out.rt y)) = some o from h)
    cases h
    subst e1
    rfl
theorem Run.asgP {O' : Orp α} {y : α} {m : Option (Out ν μ ρ)} (i : Nat) {x : Str} (hN : X.N.Nodup) (he : EvO X S0 H0 G e O' (some y)) (hk : Run X S0 H0 (G.set i (.ow O' y)) ss Γ Λ O m)
    (hi : X.N[i]? = some x := by rfl) (hx : Loc X.env.scope x := by first | exact .inl rfl | exact .inr rfl)
    (hs : swapsWith e (some (.Name x pos')) pos.line X.env = pure false := by rfl) (hf : X.fn x = true ∨ X.env.scope.names.lookup x = some .local := by first | exact .inl rfl | exact .inr rfl | assumption) :
    Run X S0 H0 G (.Assign [.Name x pos'] e pos :: ss) Γ Λ O m := Run.asg (mx := some y) (k := fun _ => m) i hN hi hx he (fun z hz => by cases hz; exact hk) hs hf
theorem Run.asgVP {R : Rp α} {y : α} {m : Option (Out ν μ ρ)} (i : Nat) {x : Str} (hN : X.N.Nodup) (he : EvV X S0 H0 G e R (some y)) (hk : Run X S0 H0 (G.set i (.val R y)) ss Γ Λ O m)
    (hi : X.N[i]? = some x := by rfl) (hx : Loc X.env.scope x := by first | exact .inl rfl | exact .inr rfl)
    (hs : swapsWith e (some (.Name x pos')) pos.line X.env = pure false := by rfl) (hf : X.fn x = true ∨ X.env.scope.names.lookup x = some .local := by first | exact .inl rfl | exact .inr rfl | assumption) :
    Run X S0 H0 G (.Assign [.Name x pos'] e pos :: ss) Γ Λ O m := Run.asgV (mx := some y) (k := fun _ => m) i hN hi hx he (fun z hz => by cases hz; exact hk) hs hf
theorem LcOk.is {ifs : List Expr} {scope : Scope} {O : Orp β} {m : Option (List β)} {x : List β} (h : m = some x) (k : LcOk X S0 H0 G elt tg iter ifs scope O m) : LcOk X S0 H0 G elt tg iter ifs scope O (some x) := h ▸ k
theorem LcOk.isP {ifs : List Expr} {scope : Scope} {O : Orp β} {y x : List β} (h : x = y) (k : LcOk X S0 H0 G elt tg iter ifs scope O (some y)) : LcOk X S0 H0 G elt tg iter ifs scope O (some x) := h ▸ k
theorem Run.asgLcP {ifs : List Expr} {scope : Scope} {lpos : Pos} {O' : Orp β} {y : List β} {m : Option (Out ν μ ρ)} (i : Nat) {x : Str} (hN : X.N.Nodup) (h : LcOk X S0 H0 G elt tg iter ifs scope O' (some y)) (hk : Run X S0 H0 (G.set i (.ow (oL O') y)) ss Γ Λ O m)
    (hsw : swapsWith (.ListComp elt [⟨tg, iter, ifs, 0⟩] scope lpos) (some (.Name x pos')) pos.line X.env = pure true) (hi : X.N[i]? = some x := by rfl) (hx : X.env.scope.names.lookup x = some .local := by rfl) (hc : X.calm = true := by rfl) (hs : ∀ x, foldedSetIterable iter X.env x = pure x := by intro _; rfl) :
    Run X S0 H0 G (.Assign [.Name x pos'] (.ListComp elt [⟨tg, iter, ifs, 0⟩] scope lpos) pos :: ss) Γ Λ O m := Run.asgLc (mx := some y) (k := fun _ => m) i hN hi hx h (fun z hz => by cases hz; exact hk) hsw hc hs
theorem Run.retP {x : ρ} (he : EvO X S0 H0 G e O (some x)) : Run X S0 H0 G (.Return (some e) pos :: ss) Γ Λ O (some (.rt x)) := Run.ret he
theorem Run.retO {y : ρ} (i : Nat) {x : Str} (hG : G[i]? = some (.ow O y) := by rfl) (hN : X.N[i]? = some x := by rfl) (hv : Vis X.env.scope x := by first | exact Or.inl rfl | exact Or.inr (Or.inl rfl) | exact Or.inr (Or.inr rfl)) (hd : (x == ("__debug__" : Str)) = false := by decide) (hcd : (x == ("__classdict__" : Str)) = false := by decide) :
    Run X S0 H0 G (.Return (some (.Name x pos')) pos :: ss) Γ Λ O (some (.rt y)) := Run.retOwn i hN hv hG hd hcd
theorem Run.exprP {O' : Orp α} {y : α} {m : Option (Out ν μ ρ)} (he : EvO X S0 H0 G e O' (some y)) (hk : Run X S0 H0 G ss Γ Λ O m) (hs : swapsWith e none pos.line X.env = pure false := by rfl) :
    Run X S0 H0 G (.Expr e pos :: ss) Γ Λ O m := Run.expr (mx := some y) he hk hs
theorem Run.augP {y z : Int} {m : Option (Out ν μ ρ)} (i : Nat) {x : Str} (hN : X.N.Nodup) (he : EvB X S0 H0 G e rInt (some z)) (hk : Run X S0 H0 (G.set i (.val rInt (y + z))) ss Γ Λ O m) (hG : G[i]? = some (.val rInt y) := by rfl) (hi : X.N[i]? = some x := by rfl) (hx : Loc X.env.scope x := by first | exact .inl rfl | exact .inr rfl)
    (hf : X.fn x = true ∨ X.env.scope.names.lookup x = some .local := by first | exact .inl rfl | exact .inr rfl | assumption) :
    Run X S0 H0 G (.AugAssign (.Name x pos') .Add e pos :: ss) Γ Λ O m := Run.augAdd (mx := some z) (k := fun _ => m) i hN hi hx hG he (fun w hw => by cases hw; exact hk) hf
theorem Run.appP {O' : Orp α} {xs : List α} {z : α} {k : List α → Option (Out ν μ ρ)} {apos cpos : Pos} (i : Nat) {x : Str} (he : EvO X S0 H0 G e O' (some z)) (hk : ∀ zs, Run X S0 H0 (G.set i (.ow (oL O') zs)) ss Γ Λ O (k zs)) (hG : G[i]? = some (.ow (oL O') xs) := by rfl) (hN : X.N[i]? = some x := by rfl) (hv : Vis X.env.scope x := by first | exact Or.inl rfl | exact Or.inr (Or.inl rfl) | exact Or.inr (Or.inr rfl))
    (hs : swapsWith (.Call (.Attribute (.Name x pos') "append" apos) [e] [] cpos) none pos.line X.env = pure false := by rfl)
    (hbase : attributeBase (.Name x pos') "append" X.env (eval (.Name x pos') X.env) = eval (.Name x pos') X.env := by rfl)
    (hfew : ((backTo cpos (starEach [e] X.env)).all (fun x => !x.1) && (backToKw cpos (keywordEach [] X.env)).all (fun x => x.1.isSome)
      && decide (([e] : List Expr).length + ([] : List Keyword).length + (if ([] : List Keyword).isEmpty then 0 else 1) < 30)) = true := by rfl)
    (hline : (apos.endLine == cpos.line) = true := by rfl) (hst : starEach [e] X.env = (false, eval e X.env) :: starEach [] X.env := by rfl) (hplain : (backTo cpos (starEach [] X.env)).any (·.1) = false := by rfl)
    (hd : (x == ("__debug__" : Str)) = false := by decide) (hcd : (x == ("__classdict__" : Str)) = false := by decide) :
    Run X S0 H0 G (.Expr (.Call (.Attribute (.Name x pos') "append" apos) [e] [] cpos) pos :: ss) Γ Λ O ((appO xs z).bind k) := Run.append (mx := some z) i hN hv hG he (fun w ws hw h => hk ws) hs hbase hfew hline hst hplain hd hcd
theorem Run.setP {R : Rp α} {xs : List α} {z : α} {j : Int} {k : List α → Option (Out ν μ ρ)} {spos : Pos} (i : Nat) {x : Str} (he : EvV X S0 H0 G e R (some z)) (hj : EvB X S0 H0 G b rInt (some j)) (hk : ∀ zs, Run X S0 H0 (G.set i (.ow (oL (oV R)) zs)) ss Γ Λ O (k zs)) (hG : G[i]? = some (.ow (oL (oV R)) xs) := by rfl) (hN : X.N[i]? = some x := by rfl) (hv : Vis X.env.scope x := by first | exact Or.inl rfl | exact Or.inr (Or.inl rfl) | exact Or.inr (Or.inr rfl))
    (hs : swapsWithSole [.Subscript (.Name x pos') b spos] e pos.line X.env = pure false := by rfl) (hw : swappedStores [.Subscript (.Name x pos') b spos] e X.env = pure none := by rfl)
    (h1 : (assignEach [.Subscript (.Name x pos') b spos] X.env).map (·.2) = [assign (.Subscript (.Name x pos') b spos) X.env] := by rfl)
    (ha : ∀ v, assign (.Subscript (.Name x pos') b spos) X.env v = (do
      let ov ← PySem.holding [v] (eval (.Name x pos') X.env)
      let iv ← PySem.holding [v, ov] (eval b X.env)
      standAt spos
      PySem.holding [v, ov, iv] (setItem ov iv v)
      PySem.release [v, ov, iv] []) := by intro _; rfl)
    (hd : (x == ("__debug__" : Str)) = false := by decide) (hcd : (x == ("__classdict__" : Str)) = false := by decide) :
    Run X S0 H0 G (.Assign [.Subscript (.Name x pos') b spos] e pos :: ss) Γ Λ O ((setO xs j z).bind k) := Run.setIx (mx := some z) (mj := some j) i hN hv hG he hj (fun w l ws _ _ _ => hk ws) hs hw h1 ha hd hcd
theorem Run.forP {νl : Type} {mk : α → Item} {set : α → Cxt → Cxt} {g : TG} {is : List Nat} {body : List Stmt} {xs : List α} {bm : α → νl → Option (Out νl νl ρ)} {k : νl → Option (Out ν μ ρ)} (Γl : νl → Cxt) (s0 : νl) (hsub : Sub G (Γl s0))
    (hi : ItS X S0 H0 G tg iter mk (some xs)) (hg : PG X tg g) (tk : TgK X.K g mk set is) (hb : ∀ a s, Run X S0 H0 (set a (Γl s)) body Γl Γl O (bm a s)) (hk : ∀ s, Run X S0 H0 (Γl s) ss Γ Λ O (k s))
    (hp : PassesOwn (model X.prog X.w) X.A X.env X.xe) (hc : X.calm = true := by rfl) (hs : ∀ x, foldedSetIterable iter X.env x = pure x := by intro _; rfl) :
    Run X S0 H0 G (.For tg iter body [] pos :: ss) Γ Λ O ((forO (μ := μ) bm xs s0).bind (bnd k)) := Run.for (mx := some xs) Γl s0 hsub hi hg tk hb hk hp hc hs
theorem ItS.is {mk : α → Item} {m : Option (List α)} {x : List α} (h : m = some x) (k : ItS X S0 H0 G tg iter mk m) : ItS X S0 H0 G tg iter mk (some x) := h ▸ k
theorem ItC.is {mk : α → Item} {m : Option (List α)} {x : List α} (h : m = some x) (k : ItC X S0 H0 G tg iter mk m) : ItC X S0 H0 G tg iter mk (some x) := h ▸ k
theorem ItS.rng1P {n : Int} (hm : X.mg "range" = none) (h : EvB X S0 H0 G e rInt (some n)) (hg : Gl X "range" := by rfl) (hs : starEach [e] X.env = [(false, eval e X.env)] := by rfl) : ItS X S0 H0 G tg (.Call (.Name "range" p) [e] [] pos) (fun x => .one (.val rInt x)) (rngO 0 n) := ItS.rng1 h hg hm hs
theorem ItC.rng1P {n : Int} (hm : X.mg "range" = none) (h : EvB X S0 H0 G e rInt (some n)) (hg : Gl X "range" := by rfl) (hs : starEach [e] X.env = [(false, eval e X.env)] := by rfl) : ItC X S0 H0 G tg (.Call (.Name "range" p) [e] [] pos) (fun x => .one (.val rInt x)) (rngO 0 n) := ItC.rng1 h hg hm hs
theorem ItS.rng2P {l n : Int} (hm : X.mg "range" = none) (h : EvB X S0 H0 G a rInt (some l)) (h2 : EvB X S0 H0 G b rInt (some n)) (hg : Gl X "range" := by rfl) (hs : starEach [a, b] X.env = [(false, eval a X.env), (false, eval b X.env)] := by rfl) (hs2 : starEach [b] X.env = [(false, eval b X.env)] := by rfl) : ItS X S0 H0 G tg (.Call (.Name "range" p) [a, b] [] pos) (fun x => .one (.val rInt x)) (rngO l n) := ItS.rng2 h h2 hg hm hs hs2
theorem ItC.rng2P {l n : Int} (hm : X.mg "range" = none) (h : EvB X S0 H0 G a rInt (some l)) (h2 : EvB X S0 H0 G b rInt (some n)) (hg : Gl X "range" := by rfl) (hs : starEach [a, b] X.env = [(false, eval a X.env), (false, eval b X.env)] := by rfl) (hs2 : starEach [b] X.env = [(false, eval b X.env)] := by rfl) : ItC X S0 H0 G tg (.Call (.Name "range" p) [a, b] [] pos) (fun x => .one (.val rInt x)) (rngO l n) := ItC.rng2 h h2 hg hm hs hs2
theorem EvA.consVP {R : Rp α} {A : Arp β} {es : List Expr} {x : α} {y : β} (h : EvV X S0 H0 G e R (some x)) (h2 : EvA X S0 H0 G es A (some y)) (he : starEach (e :: es) X.env = (false, eval e X.env) :: starEach es X.env := by rfl) : EvA X S0 H0 G (e :: es) (aV R A) (some (x, y)) := EvA.consV h h2 he
theorem EvA.consBP {R : Rp α} {A : Arp β} {es : List Expr} {x : α} {y : β} (h : EvB X S0 H0 G e R (some x)) (h2 : EvA X S0 H0 G es A (some y)) (he : starEach (e :: es) X.env = (false, eval e X.env) :: starEach es X.env := by rfl) : EvA X S0 H0 G (e :: es) (aB R A) (some (x, y)) := EvA.consB h h2 he
theorem EvO.callP {x : Str} {k : Nat} {es : List Expr} {A : Arp α} {O : Orp β} {f : α → Option β} {z : α} {j : Nat} (F : Fn X.prog X.w X.K X.mg X.base k x A O f []) (hr : Room j X.A) (ha : EvA X S0 H0 G (e :: es) A (some z)) (hj : k ≤ j := by decide) (hg : Gl X x := by rfl) (hdb : (x == ("__debug__" : Str)) = false := by decide)
    (he : starEach (e :: es) X.env = (false, eval e X.env) :: starEach es X.env := by rfl) (hpl : (backTo pos (starEach es X.env)).any (·.1) = false := by rfl) : EvO X S0 H0 G (.Call (.Name x p) (e :: es) [] pos) O (f z) := EvO.call F (hr.mono hj) hg ha hdb he hpl
theorem EvIt.consP {O : Orp α} {es : List Expr} {x : α} {xs : List α} (h : EvO X S0 H0 G e O (some x)) (h2 : EvIt X S0 H0 G es O (some xs)) (he : starEach (e :: es) X.env = (false, eval e X.env) :: starEach es X.env := by rfl) : EvIt X S0 H0 G (e :: es) O (some (x :: xs)) := EvIt.cons h h2 he
theorem EvTs.consP {O : Orp α} {Os : Orps β} {es : List Expr} {x : α} {y : β} (h : EvO X S0 H0 G e O (some x)) (h2 : EvTs X S0 H0 G es Os (some y)) (he : starEach (e :: es) X.env = (false, eval e X.env) :: starEach es X.env := by rfl) : EvTs X S0 H0 G (e :: es) (osCons O Os) (some (x, y)) := EvTs.cons h h2 he
/-! names: the slot's kind decides -/
theorem EvB.v {R : Rp α} {y : α} (i : Nat) {x : Str} (hG : G[i]? = some (.val R y) := by rfl) (hN : X.N[i]? = some x := by rfl) (hv : Vis X.env.scope x := by first | exact Or.inl rfl | exact Or.inr (Or.inl rfl) | exact Or.inr (Or.inr rfl)) (hd : (x == ("__debug__" : Str)) = false := by decide) (hcd : (x == ("__classdict__" : Str)) = false := by decide) :
    EvB X S0 H0 G (.Name x pos) R (some y) := EvB.vvar i hN hv hG hd hcd
theorem EvB.o {O : Orp α} {y : α} (i : Nat) {x : Str} (hG : G[i]? = some (.ow O y) := by rfl) (hN : X.N[i]? = some x := by rfl) (hv : Vis X.env.scope x := by first | exact Or.inl rfl | exact Or.inr (Or.inl rfl) | exact Or.inr (Or.inr rfl)) (hd : (x == ("__debug__" : Str)) = false := by decide) (hcd : (x == ("__classdict__" : Str)) = false := by decide) :
    EvB X S0 H0 G (.Name x pos) O.fz (some y) := EvB.var i hN hv hG hd hcd
theorem EvB.w {R : Rp α} {y : α} (i : Nat) {x : Str} (hG : G[i]? = some (.bw R y) := by rfl) (hN : X.N[i]? = some x := by rfl) (hv : Vis X.env.scope x := by first | exact Or.inl rfl | exact Or.inr (Or.inl rfl) | exact Or.inr (Or.inr rfl)) (hd : (x == ("__debug__" : Str)) = false := by decide) (hcd : (x == ("__classdict__" : Str)) = false := by decide) :
    EvB X S0 H0 G (.Name x pos) R (some y) := EvB.bvar i hN hv hG hd hcd
theorem EvV.v {R : Rp α} {y : α} (i : Nat) {x : Str} (hG : G[i]? = some (.val R y) := by rfl) (hN : X.N[i]? = some x := by rfl) (hv : Vis X.env.scope x := by first | exact Or.inl rfl | exact Or.inr (Or.inl rfl) | exact Or.inr (Or.inr rfl)) (hd : (x == ("__debug__" : Str)) = false := by decide) (hcd : (x == ("__classdict__" : Str)) = false := by decide) :
    EvV X S0 H0 G (.Name x pos) R (some y) := EvV.var i hN hv hG hd hcd
theorem ItS.w {RL : Rp (List α)} {R : Rp α} {y : List α} [L : SqRp X.K RL R] (i : Nat) {x : Str} (hG : G[i]? = some (.bw RL y) := by rfl) (hN : X.N[i]? = some x := by rfl) (hv : Vis X.env.scope x := by first | exact Or.inl rfl | exact Or.inr (Or.inl rfl) | exact Or.inr (Or.inr rfl)) (hd : (x == ("__debug__" : Str)) = false := by decide) (hcd : (x == ("__classdict__" : Str)) = false := by decide) :
    ItS X S0 H0 G tg (.Name x pos) (fun x => .one (.bw R x)) (some y) := ItS.bvar i hN hv hG hd hcd
theorem ItS.wF {RL : Rp (List α)} {R : Rp α} [Flat R] {y : List α} [L : SqRp X.K RL R] (i : Nat) {x : Str} (hG : G[i]? = some (.bw RL y) := by rfl) (hN : X.N[i]? = some x := by rfl) (hv : Vis X.env.scope x := by first | exact Or.inl rfl | exact Or.inr (Or.inl rfl) | exact Or.inr (Or.inr rfl)) (hd : (x == ("__debug__" : Str)) = false := by decide) (hcd : (x == ("__classdict__" : Str)) = false := by decide) :
    ItS X S0 H0 G tg (.Name x pos) (fun x => .one (.val R x)) (some y) := ItS.bvarF i hN hv hG hd hcd
/-- comprehensions whose parts are pure -/
theorem mapO_pure (g : α → β) : ∀ xs : List α, mapO (fun x => some (g x)) xs = some (xs.map g)
  | [] => rfl
  | x :: xs => by show (some (g x)).bind _ = _; rw [mapO_pure g xs]; rfl
theorem filO_pure (c : α → Bool) (f : α → Option β) : ∀ xs : List α, filO (fun x => some (c x)) f xs = mapO f (xs.filter c)
  | [] => rfl
  | x :: xs => by
    show (if c x = true then _ else _) = _
    by_cases h : c x = true
    · rw [if_pos h, List.filter_cons_of_pos h, filO_pure c f xs]; rfl
    · rw [if_neg h, List.filter_cons_of_neg h, filO_pure c f xs]
end
end Gc

namespace Gc
open PySem L2
variable [Tn]
section
variable {X : Cx} {S0 H0 S H S' H' : Hp} {G G' : Cxt} {σ : St} {α β γ ν μ ρ : Type} {tg elt iter a b e : Expr} {pos pos' p : Pos} {Γ : ν → Cxt} {Λ : μ → Cxt} {O : Orp ρ} {ss : List Stmt}
theorem Run.ifrP {c : Expr} {p2 : Pos} {x : Bool} {y : ρ} {m : Option (Out ν μ ρ)} (hc : Tst X S0 H0 G c (some x)) (hA : EvO X S0 H0 G e O (some y)) (hk : Run X S0 H0 G ss Γ Λ O m) :
    Run X S0 H0 G (.If c [.Return (some e) p2] [] pos :: ss) Γ Λ O (if x = true then some (.rt y) else m) := Run.ifr hc hA hk
theorem Run.ifstuck {c : Expr} {A : List Stmt} {x : Bool} {m : Option (Out ν μ ρ)} (hc : Tst X S0 H0 G c (some x)) (hk : Run X S0 H0 G ss Γ Λ O m) :
    Run X S0 H0 G (.If c A [] pos :: ss) Γ Λ O (if x = true then none else m) := (Run.ifx hc (mA := none) Run.stuck hk).to fun o h => by
  cases x with
  | false => exact h
  | true => cases h
theorem LcOk.mapP {scope : Scope} {O : Orp β} {xs : List α} {g : α → β} (h : LcOk X S0 H0 G elt tg iter [] scope O ((some xs).bind fun xs => mapO (fun x => some (g x)) xs)) : LcOk X S0 H0 G elt tg iter [] scope O (some (xs.map g)) := by
  have e : ((some xs).bind fun xs => mapO (fun x => some (g x)) xs) = some (xs.map g) := mapO_pure g xs
  rwa [e] at h
theorem LcOk.filP {t : Expr} {scope : Scope} {O : Orp β} {xs : List α} {c : α → Bool} {g : α → β} (h : LcOk X S0 H0 G elt tg iter [t] scope O ((some xs).bind fun xs => filO (fun x => some (c x)) (fun x => some (g x)) xs)) : LcOk X S0 H0 G elt tg iter [t] scope O (some ((xs.filter c).map g)) := by
  have e : ((some xs).bind fun xs => filO (fun x => some (c x)) (fun x => some (g x)) xs) = some ((xs.filter c).map g) := (filO_pure c _ xs).trans (mapO_pure g _)
  rwa [e] at h
theorem EvO.lendL {R : Rp α} {m : Option (List α)} (h : EvO X S0 H0 G e (oL (oV R)) m) : EvB X S0 H0 G e (rL R) m := EvO.lend h
theorem EvO.lendV {R : Rp α} {m : Option α} (h : EvO X S0 H0 G e (oV R) m) : EvB X S0 H0 G e R m := EvO.lend h
theorem EvO.stayL {R : Rp α} {m : Option (List α)} (h : EvO X S0 H0 G e (oL (oV R)) m) : EvV X S0 H0 G e (rL R) m := EvO.stay h
theorem EvB.oL {R : Rp α} {y : List α} (i : Nat) {x : Str} (hG : G[i]? = some (.ow (oL (oV R)) y) := by rfl) (hN : X.N[i]? = some x := by rfl) (hv : Vis X.env.scope x := by first | exact Or.inl rfl | exact Or.inr (Or.inl rfl) | exact Or.inr (Or.inr rfl)) (hd : (x == ("__debug__" : Str)) = false := by decide) (hcd : (x == ("__classdict__" : Str)) = false := by decide) :
    EvB X S0 H0 G (.Name x pos) (rL R) (some y) := EvB.var i hN hv hG hd hcd
end
end Gc

namespace Gc
open PySem L2
variable [Tn]

/-! ## 12. more rules -/
def absI (x : Int) : Int := if x < 0 then -x else x
def catO {α : Type} (xs ys : List α) : Option (List α) := if xs.length + ys.length ≤ sizeLine then some (xs ++ ys) else none
def repO {α : Type} (xs : List α) (k : Int) : Option (List α) := if -(2 ^ 63) ≤ k ∧ k < 2 ^ 63 ∧ xs.length * k.toNat ≤ sizeLine then some (List.replicate k.toNat xs).flatten else none
def cutL {α : Type} (xs : List α) (lo hi : Option Int) : List α := (xs.drop (HT.sIx xs.length 0 lo)).take (HT.sIx xs.length xs.length hi - HT.sIx xs.length 0 lo)
def insO {α : Type} (xs : List α) (i : Int) (x : α) : Option (List α) := if xs.length < sizeLine ∧ 0 ≤ i ∧ i < 2 ^ 63 then some (xs.take i.toNat ++ [x] ++ xs.drop i.toNat) else none
def indexO (xs : List Int) (x : Int) : Option Int := if x ∈ xs then some ((xs.idxOf x : Nat) : Int) else none
def enumL {α : Type} (xs : List α) : List (Int × α) := xs.mapIdx fun i x => ((i : Int), x)
def rngcO (lo hi c : Int) : Option (List Int) := if c = -1 ∧ -(2 ^ 62) ≤ lo ∧ lo < 2 ^ 62 ∧ -(2 ^ 62) ≤ hi ∧ hi < 2 ^ 62 ∧ lo - hi ≤ 2 ^ 24 then some ((List.range (lo - hi).toNat).map fun (k : Nat) => lo - (k : Int)) else none
/-- what is never None -/
class NonN {α : Type} (R : Rp α) : Prop where
  nn : ∀ {H : Hp} {v : V} {x : α}, R.r H v x → v ≠ .non
instance : NonN rInt := ⟨fun h => by cases h; simp⟩
instance : NonN rBool := ⟨fun h => by cases h; simp⟩
instance : NonN rStr := ⟨fun h => by cases h.1; simp⟩
instance {α : Type} {R : Rp α} : NonN (rL R) := ⟨fun ⟨a, vs, e, _⟩ => by rw [e]; simp⟩
instance {α : Type} {K : PySem.W.Frag} {R : Rp α} : NonN (rSq K R) := ⟨fun ⟨a, vs, e, _⟩ => by rw [e]; simp⟩
instance {α : Type} {R : Rps α} : NonN (rT R) := ⟨fun ⟨a, vs, e, _⟩ => by rw [e]; simp⟩
/-- data that == compares -/
class Dat (K : PySem.W.Frag) {α : Type} (R : Rp α) where
  to : α → PyData
  d : Nat
  dp : ∀ {H : Hp} {v : V} {x : α}, R.r H v x → Dp K H v (to x)
  inj : ∀ x y, PyData.eqv (to x) (to y) = true ↔ x = y
  lay : ∀ {H : Hp} {v : V} {x : α}, R.r H v x → (to x).canLay0 = true
  dep : ∀ x, (to x).depth ≤ d
  nn : ∀ x, PyData.eqv .none (to x) = false ∧ PyData.eqv (to x) .none = false
class Dats (K : PySem.W.Frag) {α : Type} (R : Rps α) where
  to : α → List PyData
  d : Nat
  dp : ∀ {H : Hp} {v : List V} {x : α}, R.r H v x → DpAll K H v (to x)
  inj : ∀ x y, PyData.eqvAll (to x) (to y) = true ↔ x = y
  lay : ∀ {H : Hp} {v : List V} {x : α}, R.r H v x → PyData.canLayAll0 (to x) = true
  dep : ∀ x, PyData.depthAll (to x) ≤ d
instance datInt {K : PySem.W.Frag} : Dat K rInt where
  to := .int
  d := 0
  dp := fun h => by cases h; exact .int _
  inj := fun x y => by simp [PyData.eqv]
  lay := fun _ => by simp [PyData.canLay0]
  dep := fun x => by simp [PyData.depth]
  nn := fun x => by simp [PyData.eqv]
instance datBool {K : PySem.W.Frag} : Dat K rBool where
  to := .bool
  d := 0
  dp := fun h => by cases h; exact .bl _
  inj := fun x y => by simp [PyData.eqv]
  lay := fun _ => by simp [PyData.canLay0]
  dep := fun x => by simp [PyData.depth]
  nn := fun x => by simp [PyData.eqv]
theorem dpAll_of {K : PySem.W.Frag} {α : Type} {R : Rp α} [D : Dat K R] {H : Hp} : ∀ {vs : List V} {xs : List α}, Paired (R.r H) vs xs → DpAll K H vs (xs.map (Dat.to K R))
  | _, _, .nil => .nil
  | _, _, .cons r t => .cons (Dat.dp r) (dpAll_of t)
theorem eqvAll_of {K : PySem.W.Frag} {α : Type} {R : Rp α} [D : Dat K R] : ∀ (xs ys : List α), PyData.eqvAll (xs.map (Dat.to K R)) (ys.map (Dat.to K R)) = true ↔ xs = ys
  | [], [] => by simp [PyData.eqvAll]
  | x :: xs, [] => by simp [PyData.eqvAll]
  | [], y :: ys => by simp [PyData.eqvAll]
  | x :: xs, y :: ys => by
    rw [List.map_cons, List.map_cons, PyData.eqvAll, Bool.and_eq_true, D.inj x y, eqvAll_of xs ys]; simp
theorem layAll_of {K : PySem.W.Frag} {α : Type} {R : Rp α} [D : Dat K R] {H : Hp} : ∀ {vs : List V} {xs : List α}, Paired (R.r H) vs xs → PyData.canLayAll0 (xs.map (Dat.to K R)) = true
  | _, _, .nil => rfl
  | _, _, .cons r t => by rw [List.map_cons, PyData.canLayAll0, D.lay r, layAll_of t]; rfl
theorem depAll_of {K : PySem.W.Frag} {α : Type} {R : Rp α} [D : Dat K R] : ∀ (xs : List α), PyData.depthAll (xs.map (Dat.to K R)) ≤ D.d
  | [] => by simp [PyData.depthAll]
  | x :: xs => by
    rw [List.map_cons, PyData.depthAll]
    have h1 := D.dep x
    have h2 := depAll_of (K := K) (R := R) xs
    exact Nat.max_le.mpr ⟨h1, h2⟩
instance datL {K : PySem.W.Frag} {α : Type} {R : Rp α} [D : Dat K R] : Dat K (rL R) where
  to := fun xs => .list (xs.map (Dat.to K R))
  d := D.d + 1
  dp := fun ⟨a, vs, e, q, p, _⟩ => by subst e; exact .lst (.inl (.inl q)) (dpAll_of p)
  inj := fun x y => by rw [PyData.eqv]; exact eqvAll_of x y
  lay := fun ⟨a, vs, e, q, p, _⟩ => by rw [PyData.canLay0]; exact layAll_of p
  dep := fun x => by rw [PyData.depth]; exact Nat.succ_le_succ (depAll_of x)
  nn := fun x => by simp [PyData.eqv]
instance datSq {K : PySem.W.Frag} {α : Type} {R : Rp α} [D : Dat K R] : Dat K (rSq K R) where
  to := fun xs => .list (xs.map (Dat.to K R))
  d := D.d + 1
  dp := fun ⟨a, vs, e, q, p, _⟩ => by subst e; exact .lst q (dpAll_of p)
  inj := fun x y => by rw [PyData.eqv]; exact eqvAll_of x y
  lay := fun ⟨a, vs, e, q, p, _⟩ => by rw [PyData.canLay0]; exact layAll_of p
  dep := fun x => by rw [PyData.depth]; exact Nat.succ_le_succ (depAll_of x)
  nn := fun x => by simp [PyData.eqv]
instance (priority := 500) datXF {P : Program} {w : World} {K : PySem.W.Frag} {mg : Str → Option Value} {base : Heap} {N : List Str} {qual : Str} {sc : Scope} {f : Addr} {cdv : Value} {A : Around} {outer : List Env} {s : Shared} {H : Hp} {E : XK} {α : Type} {R : Rp α} [D : Dat K R] : Dat (XF P w K mg base N qual sc f cdv A outer s H E).K (rSq K R) where
  to := fun xs => .list (xs.map (Dat.to K R))
  d := D.d + 1
  dp := fun h => (datSq (K := K) (R := R)).dp h
  inj := fun x y => (datSq (K := K) (R := R)).inj x y
  lay := fun h => (datSq (K := K) (R := R)).lay h
  dep := fun x => (datSq (K := K) (R := R)).dep x
  nn := fun x => (datSq (K := K) (R := R)).nn x
instance datsOne {K : PySem.W.Frag} {α : Type} {R : Rp α} [D : Dat K R] : Dats K (rsOne R) where
  to := fun x => [Dat.to K R x]
  d := D.d
  dp := fun ⟨v, e, q⟩ => by subst e; exact .cons (D.dp q) .nil
  inj := fun x y => by simp [PyData.eqvAll, D.inj]
  lay := fun ⟨v, e, q⟩ => by simp [PyData.canLayAll0, D.lay q]
  dep := fun x => by simp [PyData.depthAll]; exact D.dep x
instance datsCons {K : PySem.W.Frag} {α β : Type} {R : Rp α} {Rs : Rps β} [D : Dat K R] [E : Dats K Rs] : Dats K (rsCons R Rs) where
  to := fun x => Dat.to K R x.1 :: Dats.to K Rs x.2
  d := max D.d E.d
  dp := fun ⟨v, ws, e, q, t⟩ => by subst e; exact .cons (D.dp q) (E.dp t)
  inj := fun x y => by rw [PyData.eqvAll, Bool.and_eq_true, D.inj, E.inj, Prod.ext_iff]
  lay := fun ⟨v, ws, e, q, t⟩ => by rw [PyData.canLayAll0, D.lay q, E.lay t]; rfl
  dep := fun x => by
    rw [PyData.depthAll]
    have h1 := D.dep x.1
    have h2 := E.dep x.2
    omega
instance datT {K : PySem.W.Frag} {α : Type} {Rs : Rps α} [E : Dats K Rs] : Dat K (rT Rs) where
  to := fun x => .tuple (Dats.to K Rs x)
  d := E.d + 1
  dp := fun ⟨a, vs, e, q, p⟩ => by subst e; exact .tup (.inl (.inl q)) (E.dp p)
  inj := fun x y => by rw [PyData.eqv]; exact E.inj x y
  lay := fun ⟨a, vs, e, q, p⟩ => by rw [PyData.canLay0]; exact E.lay p
  dep := fun x => by rw [PyData.depth]; exact Nat.succ_le_succ (E.dep x)
  nn := fun x => by simp [PyData.eqv]
/-- an option of such data: None is none of them -/
def optTo {α : Type} (f : α → PyData) : Option α → PyData
  | none => .none
  | some x => f x
class DatO (K : PySem.W.Frag) {α : Type} (R : Rp α) where
  to : α → PyData
  d : Nat
  dp : ∀ {H : Hp} {v : V} {x : α}, R.r H v x → Dp K H v (to x)
  inj : ∀ x y, PyData.eqv (to x) (to y) = true ↔ x = y
  lay : ∀ {H : Hp} {v : V} {x : α}, R.r H v x → (to x).canLay0 = true
  dep : ∀ x, (to x).depth ≤ d
instance datO1 {K : PySem.W.Frag} {α : Type} {R : Rp α} [D : Dat K R] : DatO K R := ⟨D.to, D.d, D.dp, D.inj, D.lay, D.dep⟩
instance datO2 {K : PySem.W.Frag} {α : Type} {R : Rp α} [D : Dat K R] : DatO K (rOpt R) where
  to := optTo (Dat.to K R)
  d := D.d
  dp := fun {H v x} h => by
    cases x with
    | none => cases (show v = .non from h); exact .non
    | some y => exact D.dp h.1
  inj := fun x y => by
    cases x with
    | none => cases y with
      | none => simp [optTo, PyData.eqv]
      | some y => simp [optTo, D.nn y]
    | some x => cases y with
      | none => simp [optTo, D.nn x]
      | some y => simp [optTo, D.inj x y]
  lay := fun {H v x} h => by
    cases x with
    | none => simp [optTo, PyData.canLay0]
    | some y => exact D.lay h.1
  dep := fun x => by
    cases x with
    | none => simp [optTo, PyData.depth]
    | some y => exact D.dep y
/-- lists and tuples of optional things -/
theorem dpAll_ofO {K : PySem.W.Frag} {α : Type} {R : Rp α} [D : DatO K R] {H : Hp} : ∀ {vs : List V} {xs : List α}, Paired (R.r H) vs xs → DpAll K H vs (xs.map (DatO.to K R))
  | _, _, .nil => .nil
  | _, _, .cons r t => .cons (DatO.dp r) (dpAll_ofO t)
section
variable {X : Cx} {S0 H0 S H S' H' : Hp} {G G' : Cxt} {σ : St} {α β γ ν μ ρ : Type} {tg elt iter a b c e : Expr} {pos pos' p : Pos} {Γ : ν → Cxt} {Λ : μ → Cxt} {O : Orp ρ} {ss : List Stmt}
theorem EvB.twoP {R1 : Rp α} {R2 : Rp β} {R3 : Rp γ} {x : α} {y : β} {z : γ} {ev : Expr} {r : L2.R2} (ha : EvB X S0 H0 G a R1 (some x)) (hb : EvB X S0 H0 G b R2 (some y))
    (hp : PE X ev (tOp r (wE X a) (wE X b))) (hr : ∀ S H Q v w, Same S H → R1.r H v x → R2.r H w y → (∀ u S' H', Ext S H S' H' → R3.r H' u z → Q u H') → r v w H Q) :
    EvB X S0 H0 G ev R3 (some z) := .mk fun S H σ Q z' E hm k => by
  cases hm
  refine wE_of hp (ha S H σ _ x E rfl fun v S1 H1 X1 r1 => ?_)
  refine hb S1 H1 σ _ y (E.mono X1) rfl fun w S2 H2 X2 r2 => ?_
  exact hr S2 H2 Q v w X2.sb (R1.mono X2.hp r1) r2 fun u S' H' X' r' => k u S' H' ((X1.trans X2).trans X') r'
theorem EvB.eqdP {R1 R2 : Rp α} [D1 : DatO X.K R1] [D2 : DatO X.K R2] [DecidableEq α] {x y : α} (hr : X.A.units + 64 < cLine) (ha : EvB X S0 H0 G a R1 (some x)) (hb : EvB X S0 H0 G b R2 (some y)) (he : D1.to = D2.to := by rfl) (hd : (decide (D1.d ≤ 64) && decide (D2.d ≤ 64)) = true := by rfl) :
    EvB X S0 H0 G (.Compare a [.Eq] [b] pos) rBool (some (decide (x = y))) :=
  EvB.twoP ha hb (pe_cmpR (op_eqD hr) (wE_ok a) (wE_ok b) (nomark _)) fun S H Q v w sb r1 r2 k => by
    have hd : D1.d ≤ 64 ∧ D2.d ≤ 64 := by simpa using hd
    refine ⟨_, _, D1.dp r1, D2.dp r2, ?_, ?_, k _ S H (Ext.refl sb) ?_⟩
    · rw [SeqAt.shaped, D1.lay r1, Bool.true_and, decide_eq_true_eq]; exact Nat.le_trans (D1.dep x) hd.1
    · rw [SeqAt.shaped, D2.lay r2, Bool.true_and, decide_eq_true_eq]; exact Nat.le_trans (D2.dep y) hd.2
    · show V.bl _ = V.bl _
      congr 1
      rw [← he]
      exact Bool.eq_iff_iff.mpr (by rw [D1.inj, decide_eq_true_eq])
theorem EvB.nedP {R1 R2 : Rp α} [D1 : DatO X.K R1] [D2 : DatO X.K R2] [DecidableEq α] {x y : α} (hr : X.A.units + 64 < cLine) (ha : EvB X S0 H0 G a R1 (some x)) (hb : EvB X S0 H0 G b R2 (some y)) (he : D1.to = D2.to := by rfl) (hd : (decide (D1.d ≤ 64) && decide (D2.d ≤ 64)) = true := by rfl) :
    EvB X S0 H0 G (.Compare a [.NotEq] [b] pos) rBool (some (!decide (x = y))) :=
  EvB.twoP ha hb (pe_cmpR (op_neD hr) (wE_ok a) (wE_ok b) (nomark _)) fun S H Q v w sb r1 r2 k => by
    have hd : D1.d ≤ 64 ∧ D2.d ≤ 64 := by simpa using hd
    refine ⟨_, _, D1.dp r1, D2.dp r2, ?_, ?_, k _ S H (Ext.refl sb) ?_⟩
    · rw [SeqAt.shaped, D1.lay r1, Bool.true_and, decide_eq_true_eq]; exact Nat.le_trans (D1.dep x) hd.1
    · rw [SeqAt.shaped, D2.lay r2, Bool.true_and, decide_eq_true_eq]; exact Nat.le_trans (D2.dep y) hd.2
    · show V.bl _ = V.bl _
      congr 2
      rw [← he]
      exact Bool.eq_iff_iff.mpr (by rw [D1.inj, decide_eq_true_eq])
theorem EvB.chainP {op op' : CmpOp} {f g : Int → Int → Bool} {x y z : Int} (ho : OpR X (compareOp op) (rI0 fun i j => .bl (f i j))) (ho' : OpR X (compareOp op') (rI0 fun i j => .bl (g i j)))
    (ha : EvB X S0 H0 G a rInt (some x)) (hb : EvB X S0 H0 G b rInt (some y)) (hc : EvB X S0 H0 G c rInt (some z)) (hm : lastMarks [op, op'] [b, c] = false := by with_unfolding_all rfl) :
    EvB X S0 H0 G (.Compare a [op, op'] [b, c] pos) rBool (some (f x y && g y z)) := .mk fun S H σ Q w E hw k => by
  cases hw
  refine wE_of (pe_chain ho ho' (wE_ok a) (wE_ok b) (wE_ok c) hm) (ha S H σ _ x E rfl fun v S1 H1 X1 r1 => hb S1 H1 σ _ y (E.mono X1) rfl fun w S2 H2 X2 r2 => ?_)
  have X12 := X1.trans X2
  refine ⟨x, y, r1, r2, _, rfl, ?_⟩
  cases hf : f x y with
  | false =>
    rw [if_neg Bool.false_ne_true]
    exact k _ S2 H2 X12 (by rw [hf]; rfl)
  | true =>
    rw [if_pos rfl]
    refine hc S2 H2 σ _ z (E.mono X12) rfl fun u S3 H3 X3 r3 => ?_
    exact ⟨y, z, r2, r3, k _ S3 H3 (X12.trans X3) (by rw [hf]; rfl)⟩
theorem EvB.absIP {x : Int} (hm : X.mg "abs" = none) (ha : EvB X S0 H0 G a rInt (some x)) (hg : Gl X "abs" := by rfl) (he : starEach [a] X.env = (false, eval a X.env) :: starEach [] X.env := by rfl) :
    EvB X S0 H0 G (.Call (.Name "abs" p) [a] [] pos) rInt (some (absI x)) := EvB.absP hm ha hg he
/-! options -/
theorem EvB.getP {R : Rp α} {o : Option α} (h : EvB X S0 H0 G a (rOpt R) (some o)) : EvB X S0 H0 G a R o := .mk fun S H σ Q z E hm k => by
  subst hm
  exact h S H σ Q _ E rfl fun v S' H' X' r => k v S' H' X' r.1
theorem EvV.getP {R : Rp α} {o : Option α} (h : EvV X S0 H0 G a (rOpt R) (some o)) : EvV X S0 H0 G a R o := .mk fun S H σ Q z E hm k => by
  subst hm
  exact h S H σ Q _ E rfl fun v S' H' ps X' r f => k v S' H' ps X' ⟨r.1.1, r.2⟩ f
theorem EvB.someP {R : Rp α} [NonN R] {x : α} (h : EvB X S0 H0 G a R (some x)) : EvB X S0 H0 G a (rOpt R) (some (some x)) := .mk fun S H σ Q z E hm k => by
  cases hm
  exact h S H σ Q _ E rfl fun v S' H' X' r => k v S' H' X' ⟨r, NonN.nn r⟩
theorem EvV.someP {R : Rp α} [NonN R] {x : α} (h : EvV X S0 H0 G a R (some x)) : EvV X S0 H0 G a (rOpt R) (some (some x)) := .mk fun S H σ Q z E hm k => by
  cases hm
  exact h S H σ Q _ E rfl fun v S' H' ps X' r f => k v S' H' ps X' ⟨⟨r.1, NonN.nn r.1⟩, r.2⟩ f
theorem EvV.nonP {R : Rp α} {j} : EvV X S0 H0 G (.Constant .none j pos) (rOpt R) (some none) := .mk fun S H σ Q z E hm k => by
  cases hm; exact wE_of pe_non (k _ S H [] (Ext.refl E.base.sb) ⟨rfl, rfl⟩ Fresh.nil)
theorem EvB.isNeverP {R : Rp α} [NonN R] {x : α} {j} (ha : EvB X S0 H0 G a R (some x)) : EvB X S0 H0 G (.Compare a [.Is] [.Constant .none j pos'] pos) rBool (some false) := EvB.isNoP (EvB.someP ha)
theorem EvB.notNeverP {R : Rp α} [NonN R] {x : α} {j} (ha : EvB X S0 H0 G a R (some x)) : EvB X S0 H0 G (.Compare a [.IsNot] [.Constant .none j pos'] pos) rBool (some true) := EvB.notNP (EvB.someP ha)
theorem EvB.unitO (h : EvB X S0 H0 G a rUnit (some ())) {R : Rp α} : EvB X S0 H0 G a (rOpt R) (some none) := .mk fun S H σ Q z E hm k => by
  cases hm
  exact h S H σ Q _ E rfl fun v S' H' X' r => k v S' H' X' r
theorem EvV.unitO (h : EvV X S0 H0 G a rUnit (some ())) {R : Rp α} : EvV X S0 H0 G a (rOpt R) (some none) := .mk fun S H σ Q z E hm k => by
  cases hm
  exact h S H σ Q _ E rfl fun v S' H' ps X' r f => k v S' H' ps X' ⟨r.1, r.2⟩ f
/-! in -/
theorem inV_ints (x : Int) : ∀ xs : List Int, inV (.int x) (xs.map V.int) = decide (x ∈ xs)
  | [] => by simp [inV]
  | y :: ys => by
    have h := inV_ints x ys
    unfold inV at h ⊢
    rw [List.map_cons, List.any_cons, h]
    show ((y == x) || decide (x ∈ ys)) = decide (x ∈ y :: ys)
    by_cases e : y = x
    · subst e; simp
    · have e' : ¬ x = y := fun z => e z.symm
      simp [e, e']
theorem flat_ints (xs : List Int) : (xs.map V.int).all flatV = true := by
  rw [List.all_eq_true]; intro v hv; obtain ⟨i, _, rfl⟩ := List.mem_map.mp hv; rfl
theorem EvB.inP {RL : Rp (List Int)} [L : SqRp X.K RL rInt] {x : Int} {xs : List Int} (ha : EvB X S0 H0 G a rInt (some x)) (hb : EvB X S0 H0 G b RL (some xs)) (hm : behindInMarks .In b = false := by with_unfolding_all rfl) : EvB X S0 H0 G (.Compare a [.In] [b] pos) rBool (some (decide (x ∈ xs))) :=
  EvB.twoP ha hb (pe_cmpR op_in_seq (wE_ok a) (wE_ok b) hm) fun S H Q v w sb r1 r2 k => by
    obtain ⟨l, vs, rfl, q, pr, _⟩ := L.sq r2
    cases (show v = .int x from r1)
    rw [ints_of pr] at q
    exact ⟨l, _, rfl, .inl q, rfl, flat_ints xs, k _ S H (Ext.refl sb) (by rw [if_neg Bool.false_ne_true, inV_ints]; rfl)⟩
/-! lists -/
theorem EvO.newL {R : Rp α} {zs : List V} {xs : List α} {S1 H1 : Hp} {Q : VK} {l : Addr} (X1 : Ext S H S1 H1) (hn : H1 l = none) (pr : Paired (R.r S1) zs xs) (hl : xs.length ≤ sizeLine)
    (k : ∀ v S' H' ps, Ext S H S' H' → (oL (oV R)).r S' H' v xs ps → Fresh H S' H' ps → Q v H') : Q (.ref l) (upd H1 l (.lst zs)) := by
  refine k (.ref l) S1 _ [l] (X1.trans (Ext.own X1.sb hn)) ⟨l, zs, [], rfl, upd_same, rfl, Els.of pr, hl⟩ ⟨by simp, fun q hq => ?_⟩
  have : q = l := by simpa using hq
  subst this
  exact ⟨X1.hp.free hn, X1.sb.free hn, by rw [upd_same]; simp⟩
theorem EvO.catBP {R : Rp α} [Flat R] {xs ys : List α} (ha : EvB X S0 H0 G a (rL R) (some xs)) (hb : EvB X S0 H0 G b (rL R) (some ys)) : EvO X S0 H0 G (.BinOp a .Add b pos) (oL (oV R)) (catO xs ys) := .mk fun S H σ Q zs E hm k => by
  unfold catO at hm
  split at hm
  · next hc =>
    cases hm
    refine wE_of (pe_op op_cat (wE_ok a) (wE_ok b)) (ha S H σ _ xs E rfl fun v S1 H1 X1 r1 => hb S1 H1 σ _ ys (E.mono X1) rfl fun w S2 H2 X2 r2 => ?_)
    obtain ⟨l, vs, rfl, q1, p1, l1⟩ := (rL R).mono X2.hp r1
    obtain ⟨m, ws, rfl, q2, p2, l2⟩ := r2
    refine ⟨l, m, vs, ws, rfl, rfl, q1, q2, by rw [paired_len p1, paired_len p2]; exact hc, fun p hp => ?_⟩
    exact EvO.newL (X1.trans X2) hp (paired_app (Paired.map_r (fun _ _ h => Flat.fl h) p1) (Paired.map_r (fun _ _ h => Flat.fl h) p2)) (by rw [List.length_append]; exact hc) k
  · cases hm
theorem EvO.catVP {R : Rp α} {xs ys : List α} (ha : EvV X S0 H0 G a (rL R) (some xs)) (hb : EvV X S0 H0 G b (rL R) (some ys)) : EvO X S0 H0 G (.BinOp a .Add b pos) (oL (oV R)) (catO xs ys) := .mk fun S H σ Q zs E hm k => by
  unfold catO at hm
  split at hm
  · next hc =>
    cases hm
    refine wE_of (pe_op op_cat (wE_ok a) (wE_ok b)) (ha S H σ _ xs E rfl fun v S1 H1 ps1 X1 r1 f1 => hb S1 H1 σ _ ys (E.mono X1) rfl fun w S2 H2 ps2 X2 r2 f2 => ?_)
    obtain ⟨l, vs, rfl, q1, p1, l1⟩ := (rL R).mono X2.st.k r1.1
    obtain ⟨m, ws, rfl, q2, p2, l2⟩ := r2.1
    refine ⟨l, m, vs, ws, rfl, rfl, X2.sb _ _ q1, X2.sb _ _ q2, by rw [paired_len p1, paired_len p2]; exact hc, fun p hp => ?_⟩
    exact EvO.newL (X1.trans X2) hp (paired_app p1 p2) (by rw [List.length_append]; exact hc) k
  · cases hm
theorem paired_rep {F : α → β → Prop} {l : List α} {m : List β} (h : Paired F l m) : ∀ k : Nat, Paired F (List.replicate k l).flatten (List.replicate k m).flatten
  | 0 => .nil
  | k + 1 => by rw [List.replicate_succ, List.replicate_succ, List.flatten_cons, List.flatten_cons]; exact paired_app h (paired_rep h k)
theorem len_rep {m : List β} : ∀ k : Nat, (List.replicate k m).flatten.length = m.length * k
  | 0 => rfl
  | k + 1 => by rw [List.replicate_succ, List.flatten_cons, List.length_append, len_rep k, Nat.mul_succ]; omega
theorem EvO.repBP {R : Rp α} [Flat R] {xs : List α} {n : Int} (ha : EvB X S0 H0 G a (rL R) (some xs)) (hb : EvB X S0 H0 G b rInt (some n)) : EvO X S0 H0 G (.BinOp a .Mult b pos) (oL (oV R)) (repO xs n) := .mk fun S H σ Q zs E hm k => by
  unfold repO at hm
  split at hm
  · next hc =>
    cases hm
    refine wE_of (pe_op op_rep (wE_ok a) (wE_ok b)) (ha S H σ _ xs E rfl fun v S1 H1 X1 r1 => hb S1 H1 σ _ n (E.mono X1) rfl fun w S2 H2 X2 r2 => ?_)
    obtain ⟨l, vs, rfl, q1, p1, l1⟩ := (rL R).mono X2.hp r1
    refine ⟨l, n, vs, rfl, r2, q1, hc.1, hc.2.1, by rw [paired_len p1]; exact hc.2.2, fun p hp => ?_⟩
    exact EvO.newL (X1.trans X2) hp (paired_rep (Paired.map_r (fun _ _ h => Flat.fl h) p1) _) (by rw [len_rep]; exact hc.2.2) k
  · cases hm
theorem EvO.repVP {R : Rp α} {xs : List α} {n : Int} (ha : EvV X S0 H0 G a (rL R) (some xs)) (hb : EvB X S0 H0 G b rInt (some n)) : EvO X S0 H0 G (.BinOp a .Mult b pos) (oL (oV R)) (repO xs n) := .mk fun S H σ Q zs E hm k => by
  unfold repO at hm
  split at hm
  · next hc =>
    cases hm
    refine wE_of (pe_op op_rep (wE_ok a) (wE_ok b)) (ha S H σ _ xs E rfl fun v S1 H1 ps1 X1 r1 f1 => hb S1 H1 σ _ n (E.mono X1) rfl fun w S2 H2 X2 r2 => ?_)
    obtain ⟨l, vs, rfl, q1, p1, l1⟩ := (rL R).mono X2.st.k r1.1
    refine ⟨l, n, vs, rfl, r2, X2.sb _ _ q1, hc.1, hc.2.1, by rw [paired_len p1]; exact hc.2.2, fun p hp => ?_⟩
    exact EvO.newL (X1.trans X2) hp (paired_rep p1 _) (by rw [len_rep]; exact hc.2.2) k
  · cases hm
end
/-! slices -/
inductive PoOk (X : Cx) (S0 H0 : Hp) (G : Cxt) : Option Expr → Option Int → Prop
  | none : PoOk X S0 H0 G none none
  | some {e : Expr} {i : Int} : EvB X S0 H0 G e rInt (some i) → PoOk X S0 H0 G (some e) (some i)
section
variable {X : Cx} {S0 H0 S H S' H' : Hp} {G G' : Cxt} {σ : St} {α β γ ν μ ρ : Type} {tg elt iter a b c e : Expr} {pos pos' p p2 : Pos} {Γ : ν → Cxt} {Λ : μ → Cxt} {O : Orp ρ} {ss : List Stmt}
theorem PoOk.po {eo : Option Expr} {o : Option Int} (h : PoOk X S0 H0 G eo o) : ∃ t : TO, PO X eo t ∧ ∀ S H σ (Q : Option Int → Hp → Prop), EnvOk S0 H0 S H G σ → (∀ S' H', Ext S H S' H' → Q o H') → t σ H Q := by
  cases h with
  | none => exact ⟨_, po_none, fun S H σ Q E k => k S H (Ext.refl E.base.sb)⟩
  | some h =>
    rename_i e i
    exact ⟨_, po_some (wE_ok e), fun S H σ Q E k => h S H σ _ i E rfl fun v S' H' X' r => ⟨i, r, k S' H' X'⟩⟩
theorem paired_cut {F : V → β → Prop} {l : List V} {m : List β} (h : Paired F l m) (lo hi : Option Int) : Paired F (cutV l lo hi) (cutL m lo hi) := by
  unfold cutV cutL
  rw [paired_len h]
  exact paired_take _ (paired_drop _ h)
theorem cutL_length {m : List β} (lo hi : Option Int) : (cutL m lo hi).length ≤ m.length := by
  unfold cutL; rw [List.length_take, List.length_drop]; omega
theorem EvO.slBP {RL : Rp (List α)} {R : Rp α} [Flat R] [L : SqRp X.K RL R] {xs : List α} {lo hi : Option Expr} {l u : Option Int} (ha : EvB X S0 H0 G a RL (some xs)) (hl : PoOk X S0 H0 G lo l) (hu : PoOk X S0 H0 G hi u) : EvO X S0 H0 G (.Subscript a (.Slice lo hi none p2) pos) (oL (oV R)) (some (cutL xs l u)) := .mk fun S H σ Q zs E hm k => by
  cases hm
  obtain ⟨tl, pl, kl⟩ := hl.po
  obtain ⟨tu, pu, ku⟩ := hu.po
  refine wE_of (pe_slice sl_list (wE_ok a) pl pu) (ha S H σ _ xs E rfl fun v S1 H1 X1 r1 => kl S1 H1 σ _ (E.mono X1) fun S2 H2 X2 => ku S2 H2 σ _ (E.mono (X1.trans X2)) fun S3 H3 X3 => ?_)
  obtain ⟨l, vs, rfl, q1, p1, l1⟩ := L.sq (RL.mono (X2.hp.trans X3.hp) r1)
  refine ⟨l, vs, rfl, q1, fun p hp => ?_⟩
  exact EvO.newL ((X1.trans X2).trans X3) hp (paired_cut (Paired.map_r (fun _ _ h => Flat.fl h) p1) _ _) (Nat.le_trans (cutL_length _ _) l1) k
theorem EvO.slVP {RL : Rp (List α)} {R : Rp α} [L : SqRp X.K RL R] {xs : List α} {lo hi : Option Expr} {l u : Option Int} (ha : EvV X S0 H0 G a RL (some xs)) (hl : PoOk X S0 H0 G lo l) (hu : PoOk X S0 H0 G hi u) : EvO X S0 H0 G (.Subscript a (.Slice lo hi none p2) pos) (oL (oV R)) (some (cutL xs l u)) := .mk fun S H σ Q zs E hm k => by
  cases hm
  obtain ⟨tl, pl, kl⟩ := hl.po
  obtain ⟨tu, pu, ku⟩ := hu.po
  refine wE_of (pe_slice sl_list (wE_ok a) pl pu) (ha S H σ _ xs E rfl fun v S1 H1 ps X1 r1 f1 => kl S1 H1 σ _ (E.mono X1) fun S2 H2 X2 => ku S2 H2 σ _ (E.mono (X1.trans X2)) fun S3 H3 X3 => ?_)
  obtain ⟨l, vs, rfl, q1, p1, l1⟩ := L.sq (RL.mono (X2.st.trans X3.st).k r1.1)
  refine ⟨l, vs, rfl, Same.seq X3.sb q1, fun p hp => ?_⟩
  exact EvO.newL ((X1.trans X2).trans X3) hp (paired_cut p1 _ _) (Nat.le_trans (cutL_length _ _) l1) k
theorem EvO.revP {RL : Rp (List α)} {R : Rp α} [Flat R] [L : SqRp X.K RL R] {xs : List α} {k : Nat} {p1 p2 p3 : Pos} (ha : EvB X S0 H0 G a RL (some xs)) : EvO X S0 H0 G (.Subscript a (.Slice none none (some (.UnaryOp .USub (.Constant (.int 1) k p1) p2)) p3) pos) (oL (oV R)) (some xs.reverse) := .mk fun S H σ Q zs E hm kk => by
  cases hm
  refine wE_of (pe_revL (wE_ok a)) (ha S H σ _ xs E rfl fun v S1 H1 X1 r1 => ?_)
  obtain ⟨l, vs, rfl, q1, pr, l1⟩ := L.sq r1
  refine ⟨l, vs, rfl, q1, fun p hp => ?_⟩
  exact EvO.newL X1 hp (paired_rev (Paired.map_r (fun _ _ h => Flat.fl h) pr)) (by rw [List.length_reverse]; exact l1) kk
theorem EvO.listRangeP {n : Int} {q1 q2 : Pos} (hl : X.mg "list" = none) (hr : X.mg "range" = none) (ha : EvB X S0 H0 G a rInt (some n)) (hg : Gl X "list" := by rfl) (hg2 : Gl X "range" := by rfl) (hc : X.calm = true := by rfl)
    (hs : starEach [a] X.env = (false, eval a X.env) :: starEach [] X.env := by rfl) (na : starEach [Expr.Call (.Name "range" q1) [a] [] q2] X.env = (false, eval (.Call (.Name "range" q1) [a] [] q2) X.env) :: starEach [] X.env := by rfl) :
    EvO X S0 H0 G (.Call (.Name "list" p) [.Call (.Name "range" q1) [a] [] q2] [] pos) (oL (oV rInt)) (rngO 0 n) := .mk fun S H σ Q zs E hm k => by
  unfold rngO at hm
  split at hm
  · next c =>
    cases hm
    refine wE_of (pe_listRg hc hg hl (prg_1 hg2 hr (wE_ok a) hs) na) (ha S H σ _ n E rfl fun v S1 H1 X1 r1 => ?_)
    cases (show v = .int n from r1)
    refine ⟨n, rfl, ⟨c.1, c.2.1, c.2.2.1, c.2.2.2.1, by have := c.2.2.2.2; omega⟩, fun q hq => ?_⟩
    have e : rgV 0 n = (rangeL 0 n).map V.int := by unfold rgV rangeL; rw [List.map_map]; rfl
    rw [e]
    exact EvO.newL X1 hq (paired_of_ints _) (by rw [rangeL_length, sizeLine_eq]; have := c.2.2.2.2; omega) k
  · cases hm
/-- a tuple of whole numbers -/
class TupI (Rs : Rps α) where
  to : α → List Int
  k : Nat
  ok : ∀ {S : Hp} {vs : List V} {x : α}, Rs.r S vs x → vs = (to x).map V.int ∧ (to x).length ≤ 1000
instance tupI1 : TupI (rsOne rInt) := ⟨fun x => [x], 1, fun ⟨v, e, q⟩ => ⟨by rw [e]; cases q; rfl, by simp⟩⟩
instance tupI2 : TupI (rsCons rInt (rsOne rInt)) := ⟨fun x => [x.1, x.2], 2, fun ⟨v, ws, e, q, v2, e2, q2⟩ => ⟨by rw [e, e2]; cases q; cases q2; rfl, by simp⟩⟩
instance tupI3 : TupI (rsCons rInt (rsCons rInt (rsOne rInt))) := ⟨fun x => [x.1, x.2.1, x.2.2], 3, fun ⟨v, ws, e, q, v2, ws2, e2, q2, v3, e3, q3⟩ => ⟨by rw [e, e2, e3]; cases q; cases q2; cases q3; rfl, by simp⟩⟩
theorem EvO.listTP {Rs : Rps α} [T : TupI Rs] {x : α} (hm : X.mg "list" = none) (ha : EvB X S0 H0 G a (rT Rs) (some x)) (hg : Gl X "list" := by rfl) (he : starEach [a] X.env = (false, eval a X.env) :: starEach [] X.env := by rfl) :
    EvO X S0 H0 G (.Call (.Name "list" p) [a] [] pos) (oL (oV rInt)) (some (TupI.to Rs x)) := .mk fun S H σ Q zs E hm' k => by
  cases hm'
  refine wE_of (pe_callTy call_list_of hg hm boot_listT (pa_cons (wE_ok a) pa_nil he) (by decide) (by decide) he) (ha S H σ _ x E rfl fun v S1 H1 X1 r1 => ?_)
  obtain ⟨t, vs, rfl, q, r⟩ := r1
  obtain ⟨e1, e2⟩ := T.ok r
  subst e1
  refine ⟨t, _, rfl, .inr (.inl (.inl q)), fun l hn => ?_⟩
  exact EvO.newL X1 hn (paired_of_ints _) (Nat.le_trans e2 (by decide)) k
/-- how many items a tuple has -/
class LenR (Rs : Rps α) (n : outParam Nat) : Prop where
  ok : ∀ {S : Hp} {vs : List V} {x : α}, Rs.r S vs x → vs.length = n
instance {R : Rp α} : LenR (rsOne R) 1 := ⟨fun ⟨v, e, q⟩ => by rw [e]; rfl⟩
instance {R : Rp α} {Rs : Rps β} {n : Nat} [L : LenR Rs n] : LenR (rsCons R Rs) (n + 1) := ⟨fun ⟨v, ws, e, q, t⟩ => by rw [e, List.length_cons, L.ok t]⟩
theorem EvB.lentP {Rs : Rps α} (n : Nat) [L : LenR Rs n] {x : α} (hm : X.mg "len" = none) (ha : EvB X S0 H0 G a (rT Rs) (some x)) (hg : Gl X "len" := by rfl) (he : starEach [a] X.env = (false, eval a X.env) :: starEach [] X.env := by rfl) :
    EvB X S0 H0 G (.Call (.Name "len" p) [a] [] pos) rInt (some (n : Int)) := .mk fun S H σ Q z E hm' k => by
  cases hm'
  refine wE_of (pe_callB call_len_seq hg hm boot_lenG (pa_cons (wE_ok a) pa_nil he) (by decide) (by decide) he) (ha S H σ _ x E rfl fun v S1 H1 X1 r1 => ?_)
  obtain ⟨t, vs, rfl, q, r⟩ := r1
  exact ⟨t, vs, rfl, .inr (.inl (.inl q)), by rw [L.ok r]; exact k _ S1 H1 X1 rfl⟩
theorem EvB.intP {Rs : Rps α} [T : TupI Rs] {x : Int} {y : α} (ha : EvB X S0 H0 G a rInt (some x)) (hb : EvB X S0 H0 G b (rT Rs) (some y)) (hm : behindInMarks .In b = false := by with_unfolding_all rfl) : EvB X S0 H0 G (.Compare a [.In] [b] pos) rBool (some (decide (x ∈ TupI.to Rs y))) :=
  EvB.twoP ha hb (pe_cmpR op_in_seq (wE_ok a) (wE_ok b) hm) fun S H Q v w sb r1 r2 k => by
    obtain ⟨t, vs, rfl, q, r⟩ := r2
    obtain ⟨e1, e2⟩ := T.ok r
    subst e1
    cases (show v = .int x from r1)
    exact ⟨t, _, rfl, .inr (.inl (.inl q)), rfl, flat_ints _, k _ S H (Ext.refl sb) (by rw [if_neg Bool.false_ne_true, inV_ints]; rfl)⟩
/-- isinstance of what may be None -/
theorem EvB.isiOP {R : Rp α} {x : Option α} {T : String} [L : TyR X.K R T] (n : Str) (U : String) {p1 : Pos} (hm : X.mg "isinstance" = none) (hmT : X.mg n = none) (hv : bootBuiltins n = some (.type U)) (ha : EvB X S0 H0 G a (rOpt R) (some x)) (hk : kitB T U = some true := by rfl) (hkn : kitB "NoneType" U = some false := by rfl) (hg : Gl X "isinstance" := by rfl) (hgT : Gl X n := by rfl)
    (he : starEach [a, .Name n p1] X.env = (false, eval a X.env) :: starEach [.Name n p1] X.env := by rfl) (he2 : starEach [.Name n p1] X.env = (false, eval (.Name n p1) X.env) :: starEach [] X.env := by rfl) (hpl : (backTo pos (starEach [.Name n p1] X.env)).any (·.1) = false := by rfl)
    (hn : n ≠ "__name__" := by decide) (hd : (n == ("__debug__" : Str)) = false := by decide) :
    EvB X S0 H0 G (.Call (.Name "isinstance" p) [a, .Name n p1] [] pos) rBool (some x.isSome) := .mk fun S H σ Q z E hm' k => by
  cases hm'
  refine wE_of (pe_callB call_isi hg hm boot_isi (pa_cons (wE_ok a) (pa_cons (pe_bltn (v := .ty U) (u := .type U) hgT hmT hv rfl hn hd) pa_nil he2) he) (by decide) (by decide) he hpl) (ha S H σ _ x E rfl fun v S1 H1 X1 r1 => ?_)
  cases x with
  | none => cases (show v = .non from r1); exact ⟨.non, .ty U, .type "NoneType", .type U, false, rfl, .ty U, .base .non, kit_ty hkn, k _ S1 H1 X1 rfl⟩
  | some y => exact ⟨v, .ty U, .type T, .type U, true, rfl, .ty U, L.ty r1.1, kit_ty hk, k _ S1 H1 X1 rfl⟩
theorem EvB.isiON {R : Rp α} {x : Option α} {T : String} [L : TyR X.K R T] (n : Str) (U : String) {p1 : Pos} (hm : X.mg "isinstance" = none) (hmT : X.mg n = none) (hv : bootBuiltins n = some (.type U)) (ha : EvB X S0 H0 G a (rOpt R) (some x)) (hk : kitB T U = some false := by rfl) (hkn : kitB "NoneType" U = some false := by rfl) (hg : Gl X "isinstance" := by rfl) (hgT : Gl X n := by rfl)
    (he : starEach [a, .Name n p1] X.env = (false, eval a X.env) :: starEach [.Name n p1] X.env := by rfl) (he2 : starEach [.Name n p1] X.env = (false, eval (.Name n p1) X.env) :: starEach [] X.env := by rfl) (hpl : (backTo pos (starEach [.Name n p1] X.env)).any (·.1) = false := by rfl)
    (hn : n ≠ "__name__" := by decide) (hd : (n == ("__debug__" : Str)) = false := by decide) :
    EvB X S0 H0 G (.Call (.Name "isinstance" p) [a, .Name n p1] [] pos) rBool (some false) := .mk fun S H σ Q z E hm' k => by
  cases hm'
  refine wE_of (pe_callB call_isi hg hm boot_isi (pa_cons (wE_ok a) (pa_cons (pe_bltn (v := .ty U) (u := .type U) hgT hmT hv rfl hn hd) pa_nil he2) he) (by decide) (by decide) he hpl) (ha S H σ _ x E rfl fun v S1 H1 X1 r1 => ?_)
  cases x with
  | none => cases (show v = .non from r1); exact ⟨.non, .ty U, .type "NoneType", .type U, false, rfl, .ty U, .base .non, kit_ty hkn, k _ S1 H1 X1 rfl⟩
  | some y => exact ⟨v, .ty U, .type T, .type U, false, rfl, .ty U, L.ty r1.1, kit_ty hk, k _ S1 H1 X1 rfl⟩
end
end Gc

namespace Gc
open PySem L2
variable [Tn]
theorem paired_ins {α β : Type} {F : α → β → Prop} {l : List α} {m : List β} {x : α} {y : β} (h : Paired F l m) (r : F x y) (n : Nat) : Paired F (l.take n ++ [x] ++ l.drop n) (m.take n ++ [y] ++ m.drop n) :=
  paired_app (paired_app (paired_take n h) (.cons r .nil)) (paired_drop n h)
section
variable {X : Cx} {S0 H0 S H S' H' : Hp} {G G' : Cxt} {σ : St} {α β γ ν μ ρ : Type} {tg elt iter a b c e : Expr} {pos pos' p p2 : Pos} {Γ : ν → Cxt} {Λ : μ → Cxt} {O : Orp ρ} {ss : List Stmt}
/-! index -/
theorem idx_first {x : Int} : ∀ {xs : List Int} {j : Nat}, xs.idxOf x = j → x ∈ xs → xs[j]? = some x ∧ ∀ m, m < j → ∀ z, xs[m]? = some z → z ≠ x
  | [], j, e, h => absurd h (by simp)
  | y :: ys, j, e, h => by
    by_cases q : y = x
    · subst q; rw [List.idxOf_cons_self] at e; subst e; exact ⟨rfl, fun m hm => absurd hm (by omega)⟩
    · rw [List.idxOf_cons, show (y == x) = false by simpa using q] at e
      simp only [cond_false] at e
      subst e
      have hy : x ∈ ys := by
        rcases List.mem_cons.mp h with h | h
        · exact absurd h.symm q
        · exact h
      obtain ⟨h1, h2⟩ := idx_first (xs := ys) rfl hy
      refine ⟨by simpa using h1, fun m hm z hz => ?_⟩
      cases m with
      | zero => simp at hz; subst hz; exact q
      | succ m => exact h2 m (by omega) z (by simpa using hz)
theorem EvB.indexP {RL : Rp (List Int)} [L : SqRp X.K RL rInt] {xs : List Int} {x : Int} {apos cpos : Pos} (ha : EvB X S0 H0 G a RL (some xs)) (hb : EvB X S0 H0 G b rInt (some x))
    (hty : ∀ {H : Hp} {v : V} {x : List Int}, RL.r H v x → tyV X.K "list" v H := by first | exact fun ⟨_, _, e, q, _⟩ => by subst e; exact Or.inl ⟨rfl, _, Or.inl (Or.inl q)⟩ | exact fun ⟨_, _, e, q, _⟩ => by subst e; exact Or.inl ⟨rfl, _, q⟩)
    (hbase : attributeBase a "index" X.env (eval a X.env) = eval a X.env := by rfl)
    (hfew : ((backTo cpos (starEach [b] X.env)).all (fun x => !x.1) && (backToKw cpos (keywordEach [] X.env)).all (fun x => x.1.isSome)
      && decide (([b] : List Expr).length + ([] : List Keyword).length + (if ([] : List Keyword).isEmpty then 0 else 1) < 30)) = true := by rfl)
    (hline : (apos.endLine == cpos.line) = true := by rfl) (hst : starEach [b] X.env = (false, eval b X.env) :: starEach [] X.env := by rfl) (hplain : (backTo cpos (starEach [] X.env)).any (·.1) = false := by rfl) :
    EvB X S0 H0 G (.Call (.Attribute a "index" apos) [b] [] cpos) rInt (indexO xs x) := .mk fun S H σ Q z E hm k => by
  unfold indexO at hm
  split at hm
  · next hx =>
    cases hm
    refine wE_of (pe_bm PySem.F.plainAttrs_list PySem.F.slot_list_index PySem.F.type_list_index mt_index (wE_ok a) (pa_cons (wE_ok b) pa_nil hst) hbase hfew hline hst hplain) (ha S H σ _ xs E rfl fun v S1 H1 X1 r1 => ?_)
    refine ⟨hty r1, hb S1 H1 σ _ x (E.mono X1) rfl fun w S2 H2 X2 r2 => ?_⟩
    obtain ⟨l, vs, rfl, q, pr, _⟩ := L.sq (RL.mono X2.hp r1)
    cases (show w = .int x from r2)
    rw [ints_of pr] at q
    obtain ⟨h1, h2⟩ := idx_first (xs := xs) rfl hx
    refine ⟨l, _, .int x, xs.idxOf x, .int x, rfl, rfl, q, rfl, flat_ints xs, by rw [List.getElem?_map, h1]; rfl, by simp [eqV], fun m z' hm' hz' => ?_, k _ S2 H2 (X1.trans X2) rfl⟩
    rw [List.getElem?_map] at hz'
    cases q' : xs[m]? with
    | none => rw [q'] at hz'; cases hz'
    | some y => rw [q'] at hz'; cases hz'; simp [eqV]; exact h2 m hm' y q'
  · cases hm
/-! displays of what is lent -/
abbrev EvItB (X : Cx) (S0 H0 : Hp) {α : Type} (G : Cxt) (es : List Expr) (R : Rp α) (m : Option (List α)) : Prop := Box (
  ∀ S H σ Q xs, EnvOk S0 H0 S H G σ → m = some xs → (∀ vs S' H', Ext S H S' H' → Paired (R.r H') vs xs → vs.length = es.length → Q vs H') → wA X es σ H Q)
theorem EvItB.nil {R : Rp α} : EvItB X S0 H0 G [] R (some []) := .mk fun S H σ Q xs E hm k => by
  cases hm
  exact wA_of pa_nil (k [] S H (Ext.refl E.base.sb) .nil rfl)
theorem EvItB.cons {R : Rp α} {es : List Expr} {x : α} {xs : List α} (h : EvB X S0 H0 G e R (some x)) (h2 : EvItB X S0 H0 G es R (some xs)) (he : starEach (e :: es) X.env = (false, eval e X.env) :: starEach es X.env := by rfl) :
    EvItB X S0 H0 G (e :: es) R (some (x :: xs)) := .mk fun S H σ Q ys E hm k => by
  cases hm
  refine wA_of (pa_cons (wE_ok e) (wA_ok es) he) (h S H σ _ x E rfl fun v S1 H1 X1 r1 => ?_)
  refine h2 S1 H1 σ _ xs (E.mono X1) rfl fun vs S2 H2 X2 r2 hl => ?_
  exact k _ S2 H2 (X1.trans X2) (.cons (R.mono X2.hp r1) r2) (by rw [List.length_cons, List.length_cons, hl])
theorem EvB.lstB {R : Rp α} {es : List Expr} {xs : List α} (h : EvItB X S0 H0 G es R (some xs)) (hl : decide (es.length ≤ 1000) = true := by rfl) : EvB X S0 H0 G (.List es pos) (rL R) (some xs) := .mk fun S H σ Q ys E hm k => by
  cases hm
  refine wE_of (pe_lst (wA_ok es)) (h S H σ _ xs E rfl fun vs S1 H1 X1 r1 hlen => ?_)
  have hl := of_decide_eq_true hl
  have hsz : vs.length ≤ sizeLine := by rw [hlen]; exact Nat.le_trans hl (by decide)
  refine ⟨hsz, fun p hp => ?_⟩
  exact k (.ref p) S1 _ (X1.trans (Ext.own X1.sb hp)) ⟨p, vs, rfl, upd_same, Paired.map_r (fun _ _ r => R.mono (Same.new hp).k r) r1, by rw [← paired_len r1]; exact hsz⟩
abbrev EvTsB (X : Cx) (S0 H0 : Hp) {α : Type} (G : Cxt) (es : List Expr) (Rs : Rps α) (m : Option α) : Prop := Box (
  ∀ S H σ Q x, EnvOk S0 H0 S H G σ → m = some x → (∀ vs S' H', Ext S H S' H' → Rs.r H' vs x → vs.length = es.length → Q vs H') → wA X es σ H Q)
theorem EvTsB.one {R : Rp α} {x : α} (h : EvB X S0 H0 G e R (some x)) (he : starEach [e] X.env = (false, eval e X.env) :: starEach [] X.env := by rfl) : EvTsB X S0 H0 G [e] (rsOne R) (some x) := .mk fun S H σ Q y E hm k => by
  cases hm
  exact wA_of (pa_cons (wE_ok e) pa_nil he) (h S H σ _ x E rfl fun v S1 H1 X1 r1 => k [v] S1 H1 X1 ⟨v, rfl, r1⟩ rfl)
theorem EvTsB.cons {R : Rp α} {Rs : Rps β} {es : List Expr} {x : α} {y : β} (h : EvB X S0 H0 G e R (some x)) (h2 : EvTsB X S0 H0 G es Rs (some y)) (he : starEach (e :: es) X.env = (false, eval e X.env) :: starEach es X.env := by rfl) :
    EvTsB X S0 H0 G (e :: es) (rsCons R Rs) (some (x, y)) := .mk fun S H σ Q z E hm k => by
  cases hm
  refine wA_of (pa_cons (wE_ok e) (wA_ok es) he) (h S H σ _ x E rfl fun v S1 H1 X1 r1 => ?_)
  refine h2 S1 H1 σ _ y (E.mono X1) rfl fun vs S2 H2 X2 r2 hl => ?_
  exact k _ S2 H2 (X1.trans X2) ⟨v, vs, rfl, R.mono X2.hp r1, r2⟩ (by rw [List.length_cons, List.length_cons, hl])
theorem EvB.tupB {Rs : Rps α} {es : List Expr} {x : α} {x1} (h : EvTsB X S0 H0 G es Rs (some x)) (hl : decide (es.length ≤ 1000) = true := by rfl) : EvB X S0 H0 G (.Tuple es x1 pos) (rT Rs) (some x) := .mk fun S H σ Q ys E hm k => by
  cases hm
  refine wE_of (pe_tup (wA_ok es)) (h S H σ _ x E rfl fun vs S1 H1 X1 r1 hlen => ?_)
  have hl := of_decide_eq_true hl
  have hsz : vs.length ≤ sizeLine := by rw [hlen]; exact Nat.le_trans hl (by decide)
  refine ⟨hsz, fun p hp => ?_⟩
  exact k (.ref p) S1 _ (X1.trans (Ext.own X1.sb hp)) ⟨p, vs, rfl, upd_same, Rs.mono (Same.new hp).k r1⟩
/-- the place of a list of one's own: what is there stays -/
theorem EvV.oixP {R : Rp α} {xs : List α} {n : Int} (i : Nat) {x : Str} (hb : EvB X S0 H0 G b rInt (some n)) (hG : G[i]? = some (.ow (oL (oV R)) xs) := by rfl) (hN : X.N[i]? = some x := by rfl) (hv : Vis X.env.scope x := by first | exact Or.inl rfl | exact Or.inr (Or.inl rfl) | exact Or.inr (Or.inr rfl)) (hs : PlainIx b := by exact fun _ _ => rfl) (hd : (x == ("__debug__" : Str)) = false := by decide) (hcd : (x == ("__classdict__" : Str)) = false := by decide) :
    EvV X S0 H0 G (.Subscript (.Name x pos') b pos) R (atI xs n) := .mk fun S H σ Q z E hm k => by
  obtain ⟨o, ps, e1, ⟨v, e2, r⟩, nd, fr⟩ := E.get hG
  subst e2
  refine wE_of (pe_ix ix_list (pe_var hN hv hd hcd) (wE_ok b) hs) ⟨v, e1, hb S H σ _ n E rfl fun w S2 H2 X2 r2 => ?_⟩
  obtain ⟨l, vs, qs, rfl, hl, rfl, els, hz⟩ := r
  obtain ⟨pr, eq⟩ := els.to
  obtain ⟨u, hu, ru⟩ := atI_paired pr hm
  exact ⟨l, vs, n, u, rfl, r2, .inl (.inl (X2.hp.go hl)), hu, k u S2 H2 [] X2 ⟨R.mono X2.st.k ru, rfl⟩ Fresh.nil⟩
/-- the whole of a list of one's own, taken as it is for reading: its items stay -/
theorem EvO.listOP {R : Rp α} {xs : List α} (i : Nat) {x : Str} (hm : X.mg "list" = none) (hG : G[i]? = some (.ow (oL (oV R)) xs) := by rfl) (hN : X.N[i]? = some x := by rfl) (hv : Vis X.env.scope x := by first | exact Or.inl rfl | exact Or.inr (Or.inl rfl) | exact Or.inr (Or.inr rfl)) (hg : Gl X "list" := by rfl) (hd : (x == ("__debug__" : Str)) = false := by decide) (hcd : (x == ("__classdict__" : Str)) = false := by decide)
    (he : starEach [Expr.Name x pos'] X.env = (false, eval (.Name x pos') X.env) :: starEach [] X.env := by rfl) :
    EvO X S0 H0 G (.Call (.Name "list" p) [.Name x pos'] [] pos) (oL (oV R)) (some xs) := .mk fun S H σ Q z E hm' k => by
  cases hm'
  obtain ⟨o, ps, e1, ⟨v, e2, r⟩, nd, fr⟩ := E.get hG
  subst e2
  obtain ⟨l, vs, qs, rfl, hl, rfl, els, hz⟩ := r
  obtain ⟨pr, eq⟩ := els.to
  refine wE_of (pe_callTy call_list_of hg hm boot_listT (pa_cons (pe_var hN hv hd hcd) pa_nil he) (by decide) (by decide) he) ⟨_, e1, l, vs, rfl, .inl (.inl (.inl hl)), fun q hn => ?_⟩
  exact EvO.newL (Ext.refl E.base.sb) hn pr hz k
/-! statements -/
theorem Run.tup2P {R1 : Rp α} {R2 : Rp β} {z : α × β} {m : Option (Out ν μ ρ)} {es : List Expr} {x1} (i j : Nat) (he : EvV X S0 H0 G e (rT (rsCons R1 (rsOne R2))) (some z))
    (hg : PG X (.Tuple es x1 pos') (gTup X.K 2 (gCons (gName i) (gCons (gName j) gNil)))) (hk : Run X S0 H0 ((G.set i (.val R1 z.1)).set j (.val R2 z.2)) ss Γ Λ O m)
    (hs : swapsWithSole [.Tuple es x1 pos'] e pos.line X.env = pure false := by rfl) (hw : swappedStores [.Tuple es x1 pos'] e X.env = pure none := by rfl)
    (h1 : (assignEach [.Tuple es x1 pos'] X.env).map (·.2) = [assign (.Tuple es x1 pos') X.env] := by rfl) : Run X S0 H0 G (.Assign [.Tuple es x1 pos'] e pos :: ss) Γ Λ O m :=
  Run.tup2 (mx := some z) (k := fun _ => m) i j he hg (fun w hw => by cases hw; exact hk) hs hw h1
/-- a statement that changes a list of one's own at its place -/
theorem EnvOk.putL {R : Rp α} {R' : Rp α} {xs ys : List α} {us : List V} {l : Addr} {i : Nat} {S1 H1 : Hp} (E : EnvOk S0 H0 S H G σ) (X1 : Ext S H S1 H1) (hG : G[i]? = some (.ow (oL (oV R)) xs)) (hi : σ[i]? = some (some (.ref l)))
    (pr : Paired (R.r S1) us ys) (hz : ys.length ≤ sizeLine) : EnvOk S0 H0 S1 (upd H1 l (.lst us)) (G.set i (.ow (oL (oV R)) ys)) σ := by
  obtain ⟨o, ps, e5, ⟨v, e6, r⟩, nd, fr⟩ := E.get hG
  subst e6
  rw [hi] at e5; cases e5
  obtain ⟨l0, vs, qs, el, hl, rfl, els, hz0⟩ := r
  cases el
  have hne : H l ≠ none := by rw [hl]; simp
  have s1l : S1 l = none := X1.nw l (fr l List.mem_cons_self).1 hne
  refine E.mutX X1 hG (fun v ps e7 r7 nd7 fr7 => ?_) (Same.refl _) (fun _ h _ => h) (fun a oo es => ?_)
  · rw [hi] at e7
    cases e7
    obtain ⟨l', us', qs', el, hl', rfl, els', hz'⟩ := r7
    cases el
    refine ⟨[l], ⟨l, us, [], rfl, upd_same, rfl, Els.of pr, hz⟩, by simp, fun p hp => ?_, fun a oo na ea => ?_⟩
    · have : p = l := by simpa using hp
      subst this
      exact ⟨.inl List.mem_cons_self, s1l, by rw [upd_same]; simp⟩
    · rw [upd_ne (fun ep => na (by rw [ep]; exact List.mem_cons_self))]; exact ea
  · rw [upd_ne (ne_of_none es s1l)]; exact X1.sb a oo es
theorem Run.insP {R : Rp α} {xs : List α} {z : α} {n : Int} {k : List α → Option (Out ν μ ρ)} {apos cpos : Pos} (i : Nat) {x : Str} (hn : EvB X S0 H0 G a rInt (some n)) (he : EvV X S0 H0 G e R (some z)) (hk : ∀ zs, Run X S0 H0 (G.set i (.ow (oL (oV R)) zs)) ss Γ Λ O (k zs)) (hG : G[i]? = some (.ow (oL (oV R)) xs) := by rfl) (hN : X.N[i]? = some x := by rfl) (hv : Vis X.env.scope x := by first | exact Or.inl rfl | exact Or.inr (Or.inl rfl) | exact Or.inr (Or.inr rfl))
    (hs : swapsWith (.Call (.Attribute (.Name x pos') "insert" apos) [a, e] [] cpos) none pos.line X.env = pure false := by rfl)
    (hbase : attributeBase (.Name x pos') "insert" X.env (eval (.Name x pos') X.env) = eval (.Name x pos') X.env := by rfl)
    (hfew : ((backTo cpos (starEach [a, e] X.env)).all (fun x => !x.1) && (backToKw cpos (keywordEach [] X.env)).all (fun x => x.1.isSome)
      && decide (([a, e] : List Expr).length + ([] : List Keyword).length + (if ([] : List Keyword).isEmpty then 0 else 1) < 30)) = true := by rfl)
    (hline : (apos.endLine == cpos.line) = true := by rfl) (hst : starEach [a, e] X.env = (false, eval a X.env) :: starEach [e] X.env := by rfl) (hst2 : starEach [e] X.env = (false, eval e X.env) :: starEach [] X.env := by rfl) (hplain : (backTo cpos (starEach [e] X.env)).any (·.1) = false := by rfl)
    (hd : (x == ("__debug__" : Str)) = false := by decide) (hcd : (x == ("__classdict__" : Str)) = false := by decide) :
    Run X S0 H0 G (.Expr (.Call (.Attribute (.Name x pos') "insert" apos) [a, e] [] cpos) pos :: ss) Γ Λ O ((insO xs n z).bind k) := .mk fun S H σ D o E e' g => by
  obtain ⟨zs, e2, e'⟩ := bind_some_iff e'
  unfold insO at e2
  split at e2
  · next hc =>
    cases e2
    obtain ⟨o', ps, e3, ⟨v, e4, r⟩, nd, fr⟩ := E.get hG
    subst e4
    obtain ⟨l, us, qs, rfl, hl, rfl, els, hz⟩ := r
    obtain ⟨pr, _⟩ := els.to
    refine wS_of (pss_cons (ps_expr (pe_bm PySem.F.plainAttrs_list PySem.F.slot_list_insert PySem.F.type_list_insert mt_insert (pe_var hN hv hd hcd) (pa_cons (wE_ok a) (pa_cons (wE_ok e) pa_nil hst2) hst) hbase hfew hline hst hplain) hs) (wS_ok ss)) ?_
    refine ⟨.ref l, e3, .inl ⟨rfl, _, .inl (.inl hl)⟩, hn S H σ _ n E rfl fun w S1 H1 X1 r1 => he S1 H1 σ _ z (E.mono X1) rfl fun u S2 H2 rs X2 r2 f2 => ?_⟩
    have X12 := X1.trans X2
    refine ⟨l, us, n, u, rfl, by rw [show w = .int n from r1], X12.hp.go hl, by rw [paired_len pr]; exact hc.1, hc.2.1, hc.2.2, ?_⟩
    refine hk _ S2 _ σ D o (E.putL (R' := R) X12 hG e3 (paired_ins (Paired.map_r (fun _ _ q => R.mono X12.st.k q) pr) r2.1 _) ?_) e' (g.mono X12.st)
    have := hc.1
    rw [List.length_append, List.length_append, List.length_take, List.length_drop]
    simp only [List.length_cons, List.length_nil]
    omega
  · cases e2
theorem Run.extP {R : Rp α} [Flat R] {xs ys : List α} {k : List α → Option (Out ν μ ρ)} {apos cpos : Pos} (i : Nat) {x : Str} (he : EvB X S0 H0 G e (rL R) (some ys)) (hk : ∀ zs, Run X S0 H0 (G.set i (.ow (oL (oV R)) zs)) ss Γ Λ O (k zs)) (hG : G[i]? = some (.ow (oL (oV R)) xs) := by rfl) (hN : X.N[i]? = some x := by rfl) (hv : Vis X.env.scope x := by first | exact Or.inl rfl | exact Or.inr (Or.inl rfl) | exact Or.inr (Or.inr rfl))
    (hs : swapsWith (.Call (.Attribute (.Name x pos') "extend" apos) [e] [] cpos) none pos.line X.env = pure false := by rfl)
    (hbase : attributeBase (.Name x pos') "extend" X.env (eval (.Name x pos') X.env) = eval (.Name x pos') X.env := by rfl)
    (hfew : ((backTo cpos (starEach [e] X.env)).all (fun x => !x.1) && (backToKw cpos (keywordEach [] X.env)).all (fun x => x.1.isSome)
      && decide (([e] : List Expr).length + ([] : List Keyword).length + (if ([] : List Keyword).isEmpty then 0 else 1) < 30)) = true := by rfl)
    (hline : (apos.endLine == cpos.line) = true := by rfl) (hst : starEach [e] X.env = (false, eval e X.env) :: starEach [] X.env := by rfl) (hplain : (backTo cpos (starEach [] X.env)).any (·.1) = false := by rfl)
    (hd : (x == ("__debug__" : Str)) = false := by decide) (hcd : (x == ("__classdict__" : Str)) = false := by decide) :
    Run X S0 H0 G (.Expr (.Call (.Attribute (.Name x pos') "extend" apos) [e] [] cpos) pos :: ss) Γ Λ O ((catO xs ys).bind k) := .mk fun S H σ D o E e' g => by
  obtain ⟨zs, e2, e'⟩ := bind_some_iff e'
  unfold catO at e2
  split at e2
  · next hc =>
    cases e2
    obtain ⟨o', ps, e3, ⟨v, e4, r⟩, nd, fr⟩ := E.get hG
    subst e4
    obtain ⟨l, us, qs, rfl, hl, rfl, els, hz⟩ := r
    obtain ⟨pr, _⟩ := els.to
    refine wS_of (pss_cons (ps_expr (pe_bm PySem.F.plainAttrs_list PySem.F.slot_list_extend PySem.F.type_list_extend mt_extend (pe_var hN hv hd hcd) (pa_cons (wE_ok e) pa_nil hst) hbase hfew hline hst hplain) hs) (wS_ok ss)) ?_
    refine ⟨.ref l, e3, .inl ⟨rfl, _, .inl (.inl hl)⟩, he S H σ _ ys E rfl fun w S1 H1 X1 r1 => ?_⟩
    obtain ⟨m, ws, rfl, hm, pr2, _⟩ := r1
    refine ⟨l, m, us, ws, rfl, rfl, X1.hp.go hl, hm, by rw [paired_len pr, paired_len pr2]; exact hc, ?_⟩
    exact hk _ S1 _ σ D o (E.putL (R' := R) X1 hG e3 (paired_app (Paired.map_r (fun _ _ q => R.mono X1.st.k q) pr) (Paired.map_r (fun _ _ q => Flat.fl q) pr2)) (by rw [List.length_append]; exact hc)) e' (g.mono X1.st)
  · cases e2
end
end Gc

namespace Gc
open PySem L2
variable [Tn]
/-! ## 13. more that is walked -/
theorem enumL_get {α : Type} {xs : List α} {i : Nat} {q : Int × α} (h : (enumL xs)[i]? = some q) : q.1 = (i : Int) ∧ xs[i]? = some q.2 := by
  unfold enumL at h
  rw [List.getElem?_mapIdx] at h
  cases e : xs[i]? with
  | none => rw [e] at h; cases h
  | some x => rw [e] at h; cases h; exact ⟨rfl, rfl⟩
theorem enumL_len {α : Type} (xs : List α) : (enumL xs).length = xs.length := by unfold enumL; simp
/-- new pairs: the item's tuple is an object of the turn -/
theorem ite_ok {K : PySem.W.Frag} {B S1 : Hp} {a : Addr} {vs : List V} {α : Type} {s : α → Slot} {xs : List α} (hlen : xs.length ≤ sizeLine) (hl : vs.length = xs.length) (hq : ∀ S' H', Same S1 S' → Same S' H' → Keep B H' → SqL K H' a vs)
    (hi : ∀ (i : Nat) x v S', Same S1 S' → xs[i]? = some x → vs[i]? = some v → SlotV B S' v (s x)) : ItOk K B (Ite K a) S1 (fun q : Int × α => .tup [.val rInt q.1, s q.2]) (enumL xs) where
  len := by rw [enumL_len]; exact hlen
  go := fun S' H' h1 h2 h3 i q e => by
    obtain ⟨e1, e2⟩ := enumL_get e
    have hlt : i < vs.length := by rw [hl]; exact (List.getElem?_eq_some_iff.mp e2).1
    refine ⟨⟨vs, vs[i], hq S' H' h1 h2 h3, List.getElem?_eq_getElem hlt⟩, fun v H'' y => ?_⟩
    obtain ⟨T, x, rfl, hT, rfl, f⟩ := y
    have hx := f vs (hq S' H' h1 h2 h3)
    have X2 : Ext S' H' S' (upd H' T (.tup [.int (i : Nat), x])) := Ext.own h2 hT
    refine ⟨S', X2, T, _, rfl, .inl (.inl upd_same), ?_, hi i q.2 x S' h1 e2 hx, trivial⟩
    show V.int _ = V.int _
    rw [e1]
  stop := fun S' H' h1 h2 h3 i e => ⟨vs, hq S' H' h1 h2 h3, by rw [enumL_len] at e; rw [hl]; exact e⟩
theorem itz_ok {K : PySem.W.Frag} {B S1 : Hp} {a b : Addr} {vs ws : List V} {α β : Type} {s : α → Slot} {t : β → Slot} {xs : List α} {ys : List β} (hlen : xs.length ≤ sizeLine) (hl : vs.length = xs.length) (hl2 : ws.length = ys.length) (hq : ∀ S' H', Same S1 S' → Same S' H' → Keep B H' → SqL K H' a vs ∧ SqL K H' b ws)
    (hi : ∀ (i : Nat) x v S', Same S1 S' → xs[i]? = some x → vs[i]? = some v → SlotV B S' v (s x)) (hj : ∀ (i : Nat) x v S', Same S1 S' → ys[i]? = some x → ws[i]? = some v → SlotV B S' v (t x)) : ItOk K B (Itz K a b) S1 (fun q : α × β => .tup [s q.1, t q.2]) (xs.zip ys) where
  len := by rw [List.length_zip]; omega
  go := fun S' H' h1 h2 h3 i q e => by
    obtain ⟨e1, e2⟩ := List.getElem?_zip_eq_some.mp e
    have hlt : i < vs.length := by rw [hl]; exact (List.getElem?_eq_some_iff.mp e1).1
    have hlt2 : i < ws.length := by rw [hl2]; exact (List.getElem?_eq_some_iff.mp e2).1
    obtain ⟨q1, q2⟩ := hq S' H' h1 h2 h3
    refine ⟨⟨vs, ws, vs[i], ws[i], q1, q2, List.getElem?_eq_getElem hlt, List.getElem?_eq_getElem hlt2⟩, fun v H'' y => ?_⟩
    obtain ⟨T, x, y, rfl, hT, rfl, f, g⟩ := y
    have X2 : Ext S' H' S' (upd H' T (.tup [x, y])) := Ext.own h2 hT
    exact ⟨S', X2, T, _, rfl, .inl (.inl upd_same), hi i q.1 x S' h1 e1 (f vs q1), hj i q.2 y S' h1 e2 (g ws q2), trivial⟩
  stop := fun S' H' h1 h2 h3 i e => by
    obtain ⟨q1, q2⟩ := hq S' H' h1 h2 h3
    refine ⟨vs, ws, q1, q2, ?_⟩
    rw [List.length_zip] at e
    omega
section
variable {X : Cx} {S0 H0 S H S' H' : Hp} {G G' : Cxt} {σ : St} {α β γ ν μ ρ : Type} {tg elt iter a b c e : Expr} {pos pos' p p2 tpos : Pos} {Γ : ν → Cxt} {Λ : μ → Cxt} {O : Orp ρ} {ss : List Stmt} {elts : List Expr} {kk : Nat}
/-! enumerate -/
theorem ItC.enumFP {RL : Rp (List α)} {R : Rp α} [Flat R] {xs : List α} [L : SqRp X.K RL R] (hm : X.mg "enumerate" = none) (h : EvB X S0 H0 G e RL (some xs)) (hg : Gl X "enumerate" := by rfl) (hs : starEach [e] X.env = [(false, eval e X.env)] := by rfl) :
    ItC X S0 H0 G (.Tuple elts kk tpos) (.Call (.Name "enumerate" p) [e] [] pos) (fun q : Int × α => .tup [.val rInt q.1, .val R q.2]) (some (enumL xs)) := .mk fun S H σ Rk ys E hm' k => by
  cases hm'
  refine wI_of (pi_enum hg hm (pa_cons (wE_ok e) pa_nil hs) hs) (h S H σ _ xs E rfl fun v S1 H1 X1 r1 => ?_)
  obtain ⟨t, vs, rfl, q, pr, hl⟩ := L.sq r1
  exact ⟨t, vs, rfl, q, k _ S1 H1 X1 (ite_ok hl (paired_len pr) (fun S' H' _ _ h3 => Keep.seq h3 q) fun i x v S' _ e1 e2 => Flat.fl (R := R) (paired_get2 pr e2 e1))⟩
theorem ItC.enumP {RL : Rp (List α)} {R : Rp α} {xs : List α} [L : SqRp X.K RL R] (hm : X.mg "enumerate" = none) (h : EvB X S0 H0 G e RL (some xs)) (hg : Gl X "enumerate" := by rfl) (hs : starEach [e] X.env = [(false, eval e X.env)] := by rfl) :
    ItC X S0 H0 G (.Tuple elts kk tpos) (.Call (.Name "enumerate" p) [e] [] pos) (fun q : Int × α => .tup [.val rInt q.1, .bw R q.2]) (some (enumL xs)) := .mk fun S H σ Rk ys E hm' k => by
  cases hm'
  refine wI_of (pi_enum hg hm (pa_cons (wE_ok e) pa_nil hs) hs) (h S H σ _ xs E rfl fun v S1 H1 X1 r1 => ?_)
  obtain ⟨t, vs, rfl, q, pr, hl⟩ := L.sq r1
  exact ⟨t, vs, rfl, q, k _ S1 H1 X1 (ite_ok (s := fun x => .bw R x) hl (paired_len pr) (fun S' H' _ _ h3 => Keep.seq h3 q) fun i x v S' _ e1 e2 => paired_get2 pr e2 e1)⟩
theorem ItC.enumVP {RL : Rp (List α)} {R : Rp α} {xs : List α} [L : SqRp X.K RL R] (hm : X.mg "enumerate" = none) (h : EvV X S0 H0 G e RL (some xs)) (hg : Gl X "enumerate" := by rfl) (hs : starEach [e] X.env = [(false, eval e X.env)] := by rfl) :
    ItC X S0 H0 G (.Tuple elts kk tpos) (.Call (.Name "enumerate" p) [e] [] pos) (fun q : Int × α => .tup [.val rInt q.1, .val R q.2]) (some (enumL xs)) := .mk fun S H σ Rk ys E hm' k => by
  cases hm'
  refine wI_of (pi_enum hg hm (pa_cons (wE_ok e) pa_nil hs) hs) (h S H σ _ xs E rfl fun v S1 H1 ps X1 r1 f1 => ?_)
  obtain ⟨t, vs, rfl, q, pr, hl⟩ := L.sq r1.1
  exact ⟨t, vs, rfl, Same.seq X1.sb q, k _ S1 H1 X1 (ite_ok (s := fun x => .val R x) hl (paired_len pr) (fun S' H' h1 h2 _ => Same.seq (h1.trans h2) q) fun i x v S' h1 e1 e2 => R.mono h1.k (paired_get2 pr e2 e1))⟩
theorem ItS.enumVP {RL : Rp (List α)} {R : Rp α} {xs : List α} [L : SqRp X.K RL R] (hm : X.mg "enumerate" = none) (h : EvV X S0 H0 G e RL (some xs)) (hg : Gl X "enumerate" := by rfl) (hs : starEach [e] X.env = [(false, eval e X.env)] := by rfl) :
    ItS X S0 H0 G (.Tuple elts kk tpos) (.Call (.Name "enumerate" p) [e] [] pos) (fun q : Int × α => .tup [.val rInt q.1, .val R q.2]) (some (enumL xs)) := .mk fun S H σ Rk ys E hm' k => by
  cases hm'
  refine wI_of (pi_enum hg hm (pa_cons (wE_ok e) pa_nil hs) hs) (h S H σ _ xs E rfl fun v S1 H1 ps X1 r1 f1 => ?_)
  obtain ⟨t, vs, rfl, q, pr, hl⟩ := L.sq r1.1
  exact ⟨t, vs, rfl, Same.seq X1.sb q, k _ S1 H1 X1 (ite_ok (s := fun x => .val R x) hl (paired_len pr) (fun S' H' h1 h2 _ => Same.seq (h1.trans h2) q) fun i x v S' h1 e1 e2 => R.mono h1.k (paired_get2 pr e2 e1))⟩
/-! what is lent from the entry on -/
abbrev EvH (X : Cx) (S0 H0 : Hp) {α : Type} (G : Cxt) (e : Expr) (R : Rp α) (m : Option α) : Prop := Box (
  ∀ S H σ Q x, EnvOk S0 H0 S H G σ → m = some x → (∀ v S' H', Ext S H S' H' → R.r H0 v x → Q v H') → wE X e σ H Q)
theorem EvH.w {R : Rp α} {y : α} (i : Nat) {x : Str} (hG : G[i]? = some (.bw R y) := by rfl) (hN : X.N[i]? = some x := by rfl) (hv : Vis X.env.scope x := by first | exact Or.inl rfl | exact Or.inr (Or.inl rfl) | exact Or.inr (Or.inr rfl)) (hd : (x == ("__debug__" : Str)) = false := by decide) (hcd : (x == ("__classdict__" : Str)) = false := by decide) :
    EvH X S0 H0 G (.Name x pos) R (some y) := .mk fun S H σ Q z E hm k => by
  cases hm
  obtain ⟨o, ps, e1, ⟨v, e2, r, _⟩, nd, fr⟩ := E.get hG
  subst e2
  exact wE_of (pe_var hN hv hd hcd) ⟨v, e1, k v S H (Ext.refl E.base.sb) r⟩
theorem EvH.is {R : Rp α} {m : Option α} {x : α} (h : m = some x) (k : EvH X S0 H0 G e R m) : EvH X S0 H0 G e R (some x) := h ▸ k
theorem EvH.ixP {RL : Rp (List α)} {R : Rp α} {xs : List α} {n : Int} [L : SqRp X.K RL R] (ha : EvH X S0 H0 G a RL (some xs)) (hb : EvB X S0 H0 G b rInt (some n)) (hs : PlainIx b := by exact fun _ _ => rfl) :
    EvH X S0 H0 G (.Subscript a b pos) R (atI xs n) := .mk fun S H σ Q z E hm k => by
  refine wE_of (pe_ix ix_list (wE_ok a) (wE_ok b) hs) (ha S H σ _ xs E rfl fun v S1 H1 X1 r1 => hb S1 H1 σ _ n (E.mono X1) rfl fun w S2 H2 X2 r2 => ?_)
  have E2 := E.mono (X1.trans X2)
  obtain ⟨p, vs, rfl, q, pr, _⟩ := L.sq r1
  obtain ⟨u, hu, ru⟩ := atI_paired pr hm
  exact ⟨p, vs, n, u, rfl, r2, Keep.seq E2.base.hp q, hu, k u S2 H2 (X1.trans X2) ru⟩
theorem EvH.tixP {Rs : Rps α} {R : Rp β} {f : α → β} {x : α} (k : Nat) (p : Proj Rs k R f) {j} (ha : EvH X S0 H0 G a (rT Rs) (some x)) :
    EvH X S0 H0 G (.Subscript a (.Constant (.int (k : Int)) j pos') pos) R (some (f x)) := .mk fun S H σ Q z E hm kk => by
  cases hm
  refine wE_of (pe_ix ix_tup (wE_ok a) pe_int (fun _ _ => rfl)) (ha S H σ _ x E rfl fun v S1 H1 X1 r1 => ?_)
  obtain ⟨t, vs, rfl, q, r⟩ := r1
  obtain ⟨u, e2, ru⟩ := p.pj r
  have E2 := E.mono X1
  exact ⟨t, vs, k, u, rfl, rfl, .inl (.inl (E2.base.hp.go q)), atI_nat e2, kk u S1 H1 X1 ru⟩
theorem ItS.lstH {RL : Rp (List α)} {R : Rp α} {xs : List α} [L : SqRp X.K RL R] (h : EvH X S0 H0 G e RL (some xs)) : ItS X S0 H0 G tg e (fun x => .one (.bw R x)) (some xs) := .mk fun S H σ Rk ys E hm k => by
  cases hm
  refine wI_of (pi_list (wE_ok e)) (h S H σ _ xs E rfl fun v S1 H1 X1 r1 => ?_)
  obtain ⟨t, vs, rfl, q, pr, hl⟩ := L.sq r1
  have E2 := E.mono X1
  exact ⟨t, rfl, ⟨vs, Keep.seq E2.base.hp q⟩, k _ S1 H1 X1 (itl_ok hl (paired_len pr) (fun S' H' _ _ h3 => Keep.seq h3 q) fun i x v S' H' _ _ _ e1 e2 => paired_get2 pr e2 e1)⟩
theorem ItS.enumHP {RL : Rp (List α)} {R : Rp α} {xs : List α} [L : SqRp X.K RL R] (hm : X.mg "enumerate" = none) (h : EvH X S0 H0 G e RL (some xs)) (hg : Gl X "enumerate" := by rfl) (hs : starEach [e] X.env = [(false, eval e X.env)] := by rfl) :
    ItS X S0 H0 G (.Tuple elts kk tpos) (.Call (.Name "enumerate" p) [e] [] pos) (fun q : Int × α => .tup [.val rInt q.1, .bw R q.2]) (some (enumL xs)) := .mk fun S H σ Rk ys E hm' k => by
  cases hm'
  refine wI_of (pi_enum hg hm (pa_cons (wE_ok e) pa_nil hs) hs) (h S H σ _ xs E rfl fun v S1 H1 X1 r1 => ?_)
  obtain ⟨t, vs, rfl, q, pr, hl⟩ := L.sq r1
  have E2 := E.mono X1
  exact ⟨t, vs, rfl, Keep.seq E2.base.hp q, k _ S1 H1 X1 (ite_ok (s := fun x => .bw R x) hl (paired_len pr) (fun S' H' _ _ h3 => Keep.seq h3 q) fun i x v S' _ e1 e2 => paired_get2 pr e2 e1)⟩
/-! zip -/
theorem ItC.zipFP {RL : Rp (List α)} {R : Rp α} [Flat R] {RL2 : Rp (List β)} {R2 : Rp β} [Flat R2] {xs : List α} {ys : List β} [L : SqRp X.K RL R] [L2 : SqRp X.K RL2 R2] (hm : X.mg "zip" = none) (h : EvB X S0 H0 G a RL (some xs)) (h2 : EvB X S0 H0 G b RL2 (some ys)) (hg : Gl X "zip" := by rfl)
    (hs : starEach [a, b] X.env = (false, eval a X.env) :: starEach [b] X.env := by rfl) (hs2 : starEach [b] X.env = (false, eval b X.env) :: starEach [] X.env := by rfl) (hpl : (backTo pos (starEach [b] X.env)).any (·.1) = false := by rfl) :
    ItC X S0 H0 G (.Tuple elts kk tpos) (.Call (.Name "zip" p) [a, b] [] pos) (fun q : α × β => .tup [.val R q.1, .val R2 q.2]) (some (xs.zip ys)) := .mk fun S H σ Rk zs E hm' k => by
  cases hm'
  refine wI_of (pi_zip hg hm (pa_cons (wE_ok a) (pa_cons (wE_ok b) pa_nil hs2) hs) hs hpl) (h S H σ _ xs E rfl fun v S1 H1 X1 r1 => h2 S1 H1 σ _ ys (E.mono X1) rfl fun w S2 H2 X2 r2 => ?_)
  obtain ⟨t, vs, rfl, q, pr, hl⟩ := L.sq (RL.mono X2.hp r1)
  obtain ⟨t2, vs2, rfl, q2, pr2, hl2⟩ := L2.sq r2
  exact ⟨t, t2, vs, vs2, rfl, q, q2, k _ S2 H2 (X1.trans X2) (itz_ok (s := fun x => .val R x) (t := fun x => .val R2 x) hl (paired_len pr) (paired_len pr2) (fun S' H' _ _ h3 => ⟨Keep.seq h3 q, Keep.seq h3 q2⟩) (fun i x v S' _ e1 e2 => Flat.fl (R := R) (paired_get2 pr e2 e1)) (fun i x v S' _ e1 e2 => Flat.fl (R := R2) (paired_get2 pr2 e2 e1)))⟩
theorem ItC.zipVP {RL : Rp (List α)} {R : Rp α} {RL2 : Rp (List β)} {R2 : Rp β} {xs : List α} {ys : List β} [L : SqRp X.K RL R] [L2 : SqRp X.K RL2 R2] (hm : X.mg "zip" = none) (h : EvV X S0 H0 G a RL (some xs)) (h2 : EvV X S0 H0 G b RL2 (some ys)) (hg : Gl X "zip" := by rfl)
    (hs : starEach [a, b] X.env = (false, eval a X.env) :: starEach [b] X.env := by rfl) (hs2 : starEach [b] X.env = (false, eval b X.env) :: starEach [] X.env := by rfl) (hpl : (backTo pos (starEach [b] X.env)).any (·.1) = false := by rfl) :
    ItC X S0 H0 G (.Tuple elts kk tpos) (.Call (.Name "zip" p) [a, b] [] pos) (fun q : α × β => .tup [.val R q.1, .val R2 q.2]) (some (xs.zip ys)) := .mk fun S H σ Rk zs E hm' k => by
  cases hm'
  refine wI_of (pi_zip hg hm (pa_cons (wE_ok a) (pa_cons (wE_ok b) pa_nil hs2) hs) hs hpl) (h S H σ _ xs E rfl fun v S1 H1 ps1 X1 r1 f1 => h2 S1 H1 σ _ ys (E.mono X1) rfl fun w S2 H2 ps2 X2 r2 f2 => ?_)
  obtain ⟨t, vs, rfl, q, pr, hl⟩ := L.sq (RL.mono X2.st.k r1.1)
  obtain ⟨t2, vs2, rfl, q2, pr2, hl2⟩ := L2.sq r2.1
  exact ⟨t, t2, vs, vs2, rfl, Same.seq X2.sb q, Same.seq X2.sb q2, k _ S2 H2 (X1.trans X2) (itz_ok (s := fun x => .val R x) (t := fun x => .val R2 x) hl (paired_len pr) (paired_len pr2) (fun S' H' h1 h2 _ => ⟨Same.seq (h1.trans h2) q, Same.seq (h1.trans h2) q2⟩) (fun i x v S' h1 e1 e2 => R.mono h1.k (paired_get2 pr e2 e1)) (fun i x v S' h1 e1 e2 => R2.mono h1 (paired_get2 pr2 e2 e1)))⟩
theorem ItS.zipVP {RL : Rp (List α)} {R : Rp α} {RL2 : Rp (List β)} {R2 : Rp β} {xs : List α} {ys : List β} [L : SqRp X.K RL R] [L2 : SqRp X.K RL2 R2] (hm : X.mg "zip" = none) (h : EvV X S0 H0 G a RL (some xs)) (h2 : EvV X S0 H0 G b RL2 (some ys)) (hg : Gl X "zip" := by rfl)
    (hs : starEach [a, b] X.env = (false, eval a X.env) :: starEach [b] X.env := by rfl) (hs2 : starEach [b] X.env = (false, eval b X.env) :: starEach [] X.env := by rfl) (hpl : (backTo pos (starEach [b] X.env)).any (·.1) = false := by rfl) :
    ItS X S0 H0 G (.Tuple elts kk tpos) (.Call (.Name "zip" p) [a, b] [] pos) (fun q : α × β => .tup [.val R q.1, .val R2 q.2]) (some (xs.zip ys)) := .mk fun S H σ Rk zs E hm' k => by
  cases hm'
  refine wI_of (pi_zip hg hm (pa_cons (wE_ok a) (pa_cons (wE_ok b) pa_nil hs2) hs) hs hpl) (h S H σ _ xs E rfl fun v S1 H1 ps1 X1 r1 f1 => h2 S1 H1 σ _ ys (E.mono X1) rfl fun w S2 H2 ps2 X2 r2 f2 => ?_)
  obtain ⟨t, vs, rfl, q, pr, hl⟩ := L.sq (RL.mono X2.st.k r1.1)
  obtain ⟨t2, vs2, rfl, q2, pr2, hl2⟩ := L2.sq r2.1
  exact ⟨t, t2, vs, vs2, rfl, Same.seq X2.sb q, Same.seq X2.sb q2, k _ S2 H2 (X1.trans X2) (itz_ok (s := fun x => .val R x) (t := fun x => .val R2 x) hl (paired_len pr) (paired_len pr2) (fun S' H' h1 h2 _ => ⟨Same.seq (h1.trans h2) q, Same.seq (h1.trans h2) q2⟩) (fun i x v S' h1 e1 e2 => R.mono h1.k (paired_get2 pr e2 e1)) (fun i x v S' h1 e1 e2 => R2.mono h1 (paired_get2 pr2 e2 e1)))⟩
theorem ItS.zipHP {RL : Rp (List α)} {R : Rp α} {RL2 : Rp (List β)} {R2 : Rp β} {xs : List α} {ys : List β} [L : SqRp X.K RL R] [L2 : SqRp X.K RL2 R2] (hm : X.mg "zip" = none) (h : EvH X S0 H0 G a RL (some xs)) (h2 : EvH X S0 H0 G b RL2 (some ys)) (hg : Gl X "zip" := by rfl)
    (hs : starEach [a, b] X.env = (false, eval a X.env) :: starEach [b] X.env := by rfl) (hs2 : starEach [b] X.env = (false, eval b X.env) :: starEach [] X.env := by rfl) (hpl : (backTo pos (starEach [b] X.env)).any (·.1) = false := by rfl) :
    ItS X S0 H0 G (.Tuple elts kk tpos) (.Call (.Name "zip" p) [a, b] [] pos) (fun q : α × β => .tup [.bw R q.1, .bw R2 q.2]) (some (xs.zip ys)) := .mk fun S H σ Rk zs E hm' k => by
  cases hm'
  refine wI_of (pi_zip hg hm (pa_cons (wE_ok a) (pa_cons (wE_ok b) pa_nil hs2) hs) hs hpl) (h S H σ _ xs E rfl fun v S1 H1 X1 r1 => h2 S1 H1 σ _ ys (E.mono X1) rfl fun w S2 H2 X2 r2 => ?_)
  obtain ⟨t, vs, rfl, q, pr, hl⟩ := L.sq r1
  obtain ⟨t2, vs2, rfl, q2, pr2, hl2⟩ := L2.sq r2
  have E2 := E.mono (X1.trans X2)
  exact ⟨t, t2, vs, vs2, rfl, Keep.seq E2.base.hp q, Keep.seq E2.base.hp q2, k _ S2 H2 (X1.trans X2) (itz_ok (s := fun x => .bw R x) (t := fun x => .bw R2 x) hl (paired_len pr) (paired_len pr2) (fun S' H' _ _ h3 => ⟨Keep.seq h3 q, Keep.seq h3 q2⟩) (fun i x v S' _ e1 e2 => (paired_get2 pr e2 e1)) (fun i x v S' _ e1 e2 => (paired_get2 pr2 e2 e1)))⟩
/-! items that are tuples, taken apart -/
theorem ItOk.sub {K : PySem.W.Frag} {B S1 : Hp} {J : It} {mk mk' : α → Item} {xs : List α} (h : ItOk K B J S1 mk xs) (f : ∀ x v S H, Same S1 S → Same S H → Keep B H → ItemV K B S H v (mk x) → ItemV K B S H v (mk' x)) : ItOk K B J S1 mk' xs where
  len := h.len
  go := fun S' H' h1 h2 h3 i x e => by
    obtain ⟨g, y⟩ := h.go S' H' h1 h2 h3 i x e
    refine ⟨g, fun v H'' yy => ?_⟩
    obtain ⟨S'', X2, r⟩ := y v H'' yy
    exact ⟨S'', X2, f x v S'' H'' (h1.trans X2.st) X2.sb (h3.trans X2.hp) r⟩
  stop := h.stop
theorem ItS.sub {mk mk' : α → Item} {m : Option (List α)} (h : ItS X S0 H0 G tg e mk m) (f : ∀ x v S H, Same S H → Keep H0 H → ItemV X.K H0 S H v (mk x) → ItemV X.K H0 S H v (mk' x)) : ItS X S0 H0 G tg e mk' m := .mk fun S H σ Rk xs E hm k =>
  h S H σ Rk xs E hm fun J S1 H1 X1 ok => k J S1 H1 X1 (ok.sub fun x v S H _ h2 h3 r => f x v S H h2 h3 r)
theorem ItC.sub {mk mk' : α → Item} {m : Option (List α)} (h : ItC X S0 H0 G tg e mk m) (f : ∀ B x v S H, Same S H → Keep B H → ItemV X.K B S H v (mk x) → ItemV X.K B S H v (mk' x)) : ItC X S0 H0 G tg e mk' m := .mk fun S H σ Rk xs E hm k =>
  h S H σ Rk xs E hm fun J S1 H1 X1 ok => k J S1 H1 X1 (ok.sub fun x v S H _ h2 h3 r => f H1 x v S H h2 h3 r)
theorem ItS.v2 {R1 : Rp α} {R2 : Rp β} {m : Option (List (α × β))} (h : ItS X S0 H0 G tg e (fun x => .one (.val (rT (rsCons R1 (rsOne R2))) x)) m) : ItS X S0 H0 G tg e (fun x => .tup [.val R1 x.1, .val R2 x.2]) m :=
  h.sub fun x v S H h2 _ ⟨a, vs, e, q, v1, ws, e1, q1, v2, e2, q2⟩ => ⟨a, vs, e, .inl (.inl (h2 _ _ q)), by subst e2 e1; exact ⟨q1, q2, trivial⟩⟩
theorem ItC.v2 {R1 : Rp α} {R2 : Rp β} {m : Option (List (α × β))} (h : ItC X S0 H0 G tg e (fun x => .one (.val (rT (rsCons R1 (rsOne R2))) x)) m) : ItC X S0 H0 G tg e (fun x => .tup [.val R1 x.1, .val R2 x.2]) m :=
  h.sub fun B x v S H h2 _ ⟨a, vs, e, q, v1, ws, e1, q1, v2, e2, q2⟩ => ⟨a, vs, e, .inl (.inl (h2 _ _ q)), by subst e2 e1; exact ⟨q1, q2, trivial⟩⟩
theorem ItS.w2 {R1 : Rp α} {R2 : Rp β} {m : Option (List (α × β))} (h : ItS X S0 H0 G tg e (fun x => .one (.bw (rT (rsCons R1 (rsOne R2))) x)) m) : ItS X S0 H0 G tg e (fun x => .tup [.bw R1 x.1, .bw R2 x.2]) m :=
  h.sub fun x v S H _ h2 ⟨a, vs, e, q, v1, ws, e1, q1, v2, e2, q2⟩ => ⟨a, vs, e, .inl (.inl (h2.go q)), by subst e2 e1; exact ⟨q1, q2, trivial⟩⟩
theorem ItC.w2 {R1 : Rp α} {R2 : Rp β} {m : Option (List (α × β))} (h : ItC X S0 H0 G tg e (fun x => .one (.bw (rT (rsCons R1 (rsOne R2))) x)) m) : ItC X S0 H0 G tg e (fun x => .tup [.bw R1 x.1, .bw R2 x.2]) m :=
  h.sub fun B x v S H _ h2 ⟨a, vs, e, q, v1, ws, e1, q1, v2, e2, q2⟩ => ⟨a, vs, e, .inl (.inl (h2.go q)), by subst e2 e1; exact ⟨q1, q2, trivial⟩⟩
theorem ItS.v3 {R1 : Rp α} {R2 : Rp β} {R3 : Rp γ} {m : Option (List (α × β × γ))} (h : ItS X S0 H0 G tg e (fun x => .one (.val (rT (rsCons R1 (rsCons R2 (rsOne R3)))) x)) m) : ItS X S0 H0 G tg e (fun x => .tup [.val R1 x.1, .val R2 x.2.1, .val R3 x.2.2]) m :=
  h.sub fun x v S H h2 _ ⟨a, vs, e, q, v1, ws, e1, q1, v2, ws2, e2, q2, v3, e3, q3⟩ => ⟨a, vs, e, .inl (.inl (h2 _ _ q)), by subst e3 e2 e1; exact ⟨q1, q2, q3, trivial⟩⟩
theorem ItC.v3 {R1 : Rp α} {R2 : Rp β} {R3 : Rp γ} {m : Option (List (α × β × γ))} (h : ItC X S0 H0 G tg e (fun x => .one (.val (rT (rsCons R1 (rsCons R2 (rsOne R3)))) x)) m) : ItC X S0 H0 G tg e (fun x => .tup [.val R1 x.1, .val R2 x.2.1, .val R3 x.2.2]) m :=
  h.sub fun B x v S H h2 _ ⟨a, vs, e, q, v1, ws, e1, q1, v2, ws2, e2, q2, v3, e3, q3⟩ => ⟨a, vs, e, .inl (.inl (h2 _ _ q)), by subst e3 e2 e1; exact ⟨q1, q2, q3, trivial⟩⟩
theorem ItS.w3 {R1 : Rp α} {R2 : Rp β} {R3 : Rp γ} {m : Option (List (α × β × γ))} (h : ItS X S0 H0 G tg e (fun x => .one (.bw (rT (rsCons R1 (rsCons R2 (rsOne R3)))) x)) m) : ItS X S0 H0 G tg e (fun x => .tup [.bw R1 x.1, .bw R2 x.2.1, .bw R3 x.2.2]) m :=
  h.sub fun x v S H _ h2 ⟨a, vs, e, q, v1, ws, e1, q1, v2, ws2, e2, q2, v3, e3, q3⟩ => ⟨a, vs, e, .inl (.inl (h2.go q)), by subst e3 e2 e1; exact ⟨q1, q2, q3, trivial⟩⟩
theorem ItC.w3 {R1 : Rp α} {R2 : Rp β} {R3 : Rp γ} {m : Option (List (α × β × γ))} (h : ItC X S0 H0 G tg e (fun x => .one (.bw (rT (rsCons R1 (rsCons R2 (rsOne R3)))) x)) m) : ItC X S0 H0 G tg e (fun x => .tup [.bw R1 x.1, .bw R2 x.2.1, .bw R3 x.2.2]) m :=
  h.sub fun B x v S H _ h2 ⟨a, vs, e, q, v1, ws, e1, q1, v2, ws2, e2, q2, v3, e3, q3⟩ => ⟨a, vs, e, .inl (.inl (h2.go q)), by subst e3 e2 e1; exact ⟨q1, q2, q3, trivial⟩⟩
end
end Gc

namespace Gc
open PySem L2
variable [Tn]
/-! ## 14. comparisons, as values and as tests -/
structure Cm (X : Cx) (S0 H0 : Hp) (G : Cxt) (e : Expr) (x : Bool) : Prop where
  b : EvB X S0 H0 G e rBool (some x)
  t : Tst X S0 H0 G e (some x)
section
variable {X : Cx} {S0 H0 S H S' H' : Hp} {G G' : Cxt} {σ : St} {α β γ ν μ ρ : Type} {a b c e : Expr} {pos pos' p p2 : Pos}
theorem Cm.two {R1 : Rp α} {R2 : Rp β} {x : α} {y : β} {z : Bool} {op : CmpOp} {r : L2.R2} (ha : EvB X S0 H0 G a R1 (some x)) (hb : EvB X S0 H0 G b R2 (some y)) (ho : OpR X (compareOp op) r) (hm : behindInMarks op b = false)
    (hr : ∀ (S H : Hp) (Q : VK) (v w : V), Same S H → R1.r H v x → R2.r H w y → Q (.bl z) H → r v w H Q) : Cm X S0 H0 G (.Compare a [op] [b] pos) z where
  b := .mk fun S H σ Q z' E hm' k => by
    cases hm'
    refine wE_of (pe_cmpR ho (wE_ok a) (wE_ok b) hm) (ha S H σ _ x E rfl fun v S1 H1 X1 r1 => ?_)
    refine hb S1 H1 σ _ y (E.mono X1) rfl fun w S2 H2 X2 r2 => ?_
    exact hr S2 H2 Q v w X2.sb (R1.mono X2.hp r1) r2 (k _ S2 H2 (X1.trans X2) rfl)
  t := .mk fun S H σ Q z' E hm' k => by
    cases hm'
    refine wT_of (pt_cmpR ho (wE_ok a) (wE_ok b) hm) (ha S H σ _ x E rfl fun v S1 H1 X1 r1 => ?_)
    refine hb S1 H1 σ _ y (E.mono X1) rfl fun w S2 H2 X2 r2 => ?_
    exact hr S2 H2 _ v w X2.sb (R1.mono X2.hp r1) r2 ⟨z, rfl, k S2 H2 (X1.trans X2)⟩
theorem Cm.cmpI {op : CmpOp} {f : Int → Int → Bool} {x y : Int} (ho : OpR X (compareOp op) (rI0 fun i j => .bl (f i j))) (hm : behindInMarks op b = false) (ha : EvB X S0 H0 G a rInt (some x)) (hb : EvB X S0 H0 G b rInt (some y)) : Cm X S0 H0 G (.Compare a [op] [b] pos) (f x y) :=
  Cm.two ha hb ho hm fun S H Q v w sb r1 r2 k => ⟨x, y, r1, r2, k⟩
theorem Cm.ltP {x y : Int} (ha : EvB X S0 H0 G a rInt (some x)) (hb : EvB X S0 H0 G b rInt (some y)) : Cm X S0 H0 G (.Compare a [.Lt] [b] pos) (decide (x < y)) := Cm.cmpI op_lt (nomark _) ha hb
theorem Cm.leP {x y : Int} (ha : EvB X S0 H0 G a rInt (some x)) (hb : EvB X S0 H0 G b rInt (some y)) : Cm X S0 H0 G (.Compare a [.LtE] [b] pos) (decide (x ≤ y)) := Cm.cmpI op_le (nomark _) ha hb
theorem Cm.gtP {x y : Int} (ha : EvB X S0 H0 G a rInt (some x)) (hb : EvB X S0 H0 G b rInt (some y)) : Cm X S0 H0 G (.Compare a [.Gt] [b] pos) (decide (y < x)) := Cm.cmpI op_gt (nomark _) ha hb
theorem Cm.geP {x y : Int} (ha : EvB X S0 H0 G a rInt (some x)) (hb : EvB X S0 H0 G b rInt (some y)) : Cm X S0 H0 G (.Compare a [.GtE] [b] pos) (decide (y ≤ x)) := Cm.cmpI op_ge (nomark _) ha hb
theorem Cm.eqeP {R : Rp α} [Scal R] [DecidableEq α] {x y : α} (ha : EvB X S0 H0 G a R (some x)) (hb : EvB X S0 H0 G b R (some y)) : Cm X S0 H0 G (.Compare a [.Eq] [b] pos) (decide (x = y)) :=
  Cm.two ha hb op_eq (nomark _) fun S H Q v w sb r1 r2 k => by
    obtain ⟨c1, c2⟩ := Scal.ok r1 r2
    refine ⟨c1, ?_⟩
    show Q (V.bl _) H
    rw [show decide (v = w) = decide (x = y) from decide_eq_decide.mpr c2]
    exact k
theorem Cm.neP {R : Rp α} [Scal R] [DecidableEq α] {x y : α} (ha : EvB X S0 H0 G a R (some x)) (hb : EvB X S0 H0 G b R (some y)) : Cm X S0 H0 G (.Compare a [.NotEq] [b] pos) (!decide (x = y)) :=
  Cm.two ha hb op_ne (nomark _) fun S H Q v w sb r1 r2 k => by
    obtain ⟨c1, c2⟩ := Scal.ok r1 r2
    refine ⟨c1, ?_⟩
    show Q (V.bl _) H
    rw [show decide (v = w) = decide (x = y) from decide_eq_decide.mpr c2]
    exact k
theorem Cm.eqdP {R1 R2 : Rp α} [D1 : DatO X.K R1] [D2 : DatO X.K R2] [DecidableEq α] {x y : α} (hr : X.A.units + 64 < cLine) (ha : EvB X S0 H0 G a R1 (some x)) (hb : EvB X S0 H0 G b R2 (some y)) (he : D1.to = D2.to := by rfl) (hd : (decide (D1.d ≤ 64) && decide (D2.d ≤ 64)) = true := by rfl) :
    Cm X S0 H0 G (.Compare a [.Eq] [b] pos) (decide (x = y)) :=
  Cm.two ha hb (op_eqD hr) (nomark _) fun S H Q v w sb r1 r2 k => by
    have hd : D1.d ≤ 64 ∧ D2.d ≤ 64 := by simpa using hd
    refine ⟨_, _, D1.dp r1, D2.dp r2, ?_, ?_, ?_⟩
    · rw [SeqAt.shaped, D1.lay r1, Bool.true_and, decide_eq_true_eq]; exact Nat.le_trans (D1.dep x) hd.1
    · rw [SeqAt.shaped, D2.lay r2, Bool.true_and, decide_eq_true_eq]; exact Nat.le_trans (D2.dep y) hd.2
    · rw [← he, show PyData.eqv (D1.to x) (D1.to y) = decide (x = y) from Bool.eq_iff_iff.mpr (by rw [D1.inj, decide_eq_true_eq])]; exact k
theorem Cm.nedP {R1 R2 : Rp α} [D1 : DatO X.K R1] [D2 : DatO X.K R2] [DecidableEq α] {x y : α} (hr : X.A.units + 64 < cLine) (ha : EvB X S0 H0 G a R1 (some x)) (hb : EvB X S0 H0 G b R2 (some y)) (he : D1.to = D2.to := by rfl) (hd : (decide (D1.d ≤ 64) && decide (D2.d ≤ 64)) = true := by rfl) :
    Cm X S0 H0 G (.Compare a [.NotEq] [b] pos) (!decide (x = y)) :=
  Cm.two ha hb (op_neD hr) (nomark _) fun S H Q v w sb r1 r2 k => by
    have hd : D1.d ≤ 64 ∧ D2.d ≤ 64 := by simpa using hd
    refine ⟨_, _, D1.dp r1, D2.dp r2, ?_, ?_, ?_⟩
    · rw [SeqAt.shaped, D1.lay r1, Bool.true_and, decide_eq_true_eq]; exact Nat.le_trans (D1.dep x) hd.1
    · rw [SeqAt.shaped, D2.lay r2, Bool.true_and, decide_eq_true_eq]; exact Nat.le_trans (D2.dep y) hd.2
    · rw [← he, show PyData.eqv (D1.to x) (D1.to y) = decide (x = y) from Bool.eq_iff_iff.mpr (by rw [D1.inj, decide_eq_true_eq])]; exact k
theorem EvB.nonQ {R : Rp α} {j} : EvB X S0 H0 G (.Constant .none j pos) rUnit (some ()) := .mk fun S H σ Q z E hm k => by
  cases hm; exact wE_of pe_non (k _ S H (Ext.refl E.base.sb) rfl)
theorem Cm.isNoP {R : Rp α} {x : Option α} {j} (ha : EvB X S0 H0 G a (rOpt R) (some x)) : Cm X S0 H0 G (.Compare a [.Is] [.Constant .none j pos'] pos) x.isNone :=
  Cm.two ha (EvB.nonQ (R := rUnit)) op_isN (nomark _) fun S H Q v w sb r1 r2 k => by
    refine ⟨r2, ?_⟩
    cases x with
    | none => rw [show v = .non from r1]; exact k
    | some y => rw [decide_eq_false r1.2]; exact k
theorem Cm.notNP {R : Rp α} {x : Option α} {j} (ha : EvB X S0 H0 G a (rOpt R) (some x)) : Cm X S0 H0 G (.Compare a [.IsNot] [.Constant .none j pos'] pos) x.isSome :=
  Cm.two ha (EvB.nonQ (R := rUnit)) op_notN (nomark _) fun S H Q v w sb r1 r2 k => by
    refine ⟨r2, ?_⟩
    cases x with
    | none => rw [show v = .non from r1]; exact k
    | some y => rw [decide_eq_false r1.2]; exact k
theorem Cm.isNeverP {R : Rp α} [NonN R] {x : α} {j} (ha : EvB X S0 H0 G a R (some x)) : Cm X S0 H0 G (.Compare a [.Is] [.Constant .none j pos'] pos) false := Cm.isNoP (EvB.someP ha)
theorem Cm.notNeverP {R : Rp α} [NonN R] {x : α} {j} (ha : EvB X S0 H0 G a R (some x)) : Cm X S0 H0 G (.Compare a [.IsNot] [.Constant .none j pos'] pos) true := Cm.notNP (EvB.someP ha)
theorem Cm.isUnitP {j} (ha : EvB X S0 H0 G a rUnit (some ())) : Cm X S0 H0 G (.Compare a [.Is] [.Constant .none j pos'] pos) true := Cm.isNoP (R := rInt) (x := none) (EvB.unitO ha)
theorem Cm.notUnitP {j} (ha : EvB X S0 H0 G a rUnit (some ())) : Cm X S0 H0 G (.Compare a [.IsNot] [.Constant .none j pos'] pos) false := Cm.notNP (R := rInt) (x := none) (EvB.unitO ha)
theorem Cm.inP {RL : Rp (List Int)} [L : SqRp X.K RL rInt] {x : Int} {xs : List Int} (ha : EvB X S0 H0 G a rInt (some x)) (hb : EvB X S0 H0 G b RL (some xs)) (hm : behindInMarks .In b = false := by with_unfolding_all rfl) : Cm X S0 H0 G (.Compare a [.In] [b] pos) (decide (x ∈ xs)) :=
  Cm.two ha hb op_in_seq hm fun S H Q v w sb r1 r2 k => by
    obtain ⟨l, vs, rfl, q, pr, _⟩ := L.sq r2
    cases (show v = .int x from r1)
    rw [ints_of pr] at q
    exact ⟨l, _, rfl, .inl q, rfl, flat_ints xs, by rw [if_neg Bool.false_ne_true, inV_ints]; exact k⟩
theorem Cm.notinP {RL : Rp (List Int)} [L : SqRp X.K RL rInt] {x : Int} {xs : List Int} (ha : EvB X S0 H0 G a rInt (some x)) (hb : EvB X S0 H0 G b RL (some xs)) (hm : behindInMarks .NotIn b = false := by with_unfolding_all rfl) : Cm X S0 H0 G (.Compare a [.NotIn] [b] pos) (!decide (x ∈ xs)) :=
  Cm.two ha hb op_notIn_seq hm fun S H Q v w sb r1 r2 k => by
    obtain ⟨l, vs, rfl, q, pr, _⟩ := L.sq r2
    cases (show v = .int x from r1)
    rw [ints_of pr] at q
    exact ⟨l, _, rfl, .inl q, rfl, flat_ints xs, by rw [if_pos rfl, inV_ints]; exact k⟩
theorem Cm.intP {Rs : Rps α} [T : TupI Rs] {x : Int} {y : α} (ha : EvB X S0 H0 G a rInt (some x)) (hb : EvB X S0 H0 G b (rT Rs) (some y)) (hm : behindInMarks .In b = false := by with_unfolding_all rfl) : Cm X S0 H0 G (.Compare a [.In] [b] pos) (decide (x ∈ TupI.to Rs y)) :=
  Cm.two ha hb op_in_seq hm fun S H Q v w sb r1 r2 k => by
    obtain ⟨t, vs, rfl, q, r⟩ := r2
    obtain ⟨e1, e2⟩ := T.ok r
    subst e1
    cases (show v = .int x from r1)
    exact ⟨t, _, rfl, .inr (.inl (.inl q)), rfl, flat_ints _, by rw [if_neg Bool.false_ne_true, inV_ints]; exact k⟩
theorem Cm.notintP {Rs : Rps α} [T : TupI Rs] {x : Int} {y : α} (ha : EvB X S0 H0 G a rInt (some x)) (hb : EvB X S0 H0 G b (rT Rs) (some y)) (hm : behindInMarks .NotIn b = false := by with_unfolding_all rfl) : Cm X S0 H0 G (.Compare a [.NotIn] [b] pos) (!decide (x ∈ TupI.to Rs y)) :=
  Cm.two ha hb op_notIn_seq hm fun S H Q v w sb r1 r2 k => by
    obtain ⟨t, vs, rfl, q, r⟩ := r2
    obtain ⟨e1, e2⟩ := T.ok r
    subst e1
    cases (show v = .int x from r1)
    exact ⟨t, _, rfl, .inr (.inl (.inl q)), rfl, flat_ints _, by rw [if_pos rfl, inV_ints]; exact k⟩
theorem Cm.chainP {op op' : CmpOp} {f g : Int → Int → Bool} {x y z : Int} (ho : OpR X (compareOp op) (rI0 fun i j => .bl (f i j))) (ho' : OpR X (compareOp op') (rI0 fun i j => .bl (g i j)))
    (ha : EvB X S0 H0 G a rInt (some x)) (hb : EvB X S0 H0 G b rInt (some y)) (hc : EvB X S0 H0 G c rInt (some z)) (hm : lastMarks [op, op'] [b, c] = false := by with_unfolding_all rfl) :
    Cm X S0 H0 G (.Compare a [op, op'] [b, c] pos) (f x y && g y z) where
  b := EvB.chainP ho ho' ha hb hc hm
  t := .mk fun S H σ Q w E hw k => by
    cases hw
    refine wT_of (pt_chain ho ho' (wE_ok a) (wE_ok b) (wE_ok c) hm) (ha S H σ _ x E rfl fun v S1 H1 X1 r1 => hb S1 H1 σ _ y (E.mono X1) rfl fun w S2 H2 X2 r2 => ?_)
    have X12 := X1.trans X2
    refine ⟨x, y, r1, r2, _, rfl, ?_⟩
    cases hf : f x y with
    | false =>
      rw [if_neg Bool.false_ne_true]
      exact ⟨false, rfl, by have := k S2 H2 X12; rwa [hf] at this⟩
    | true =>
      rw [if_pos rfl]
      refine hc S2 H2 σ _ z (E.mono X12) rfl fun u S3 H3 X3 r3 => ?_
      exact ⟨y, z, r2, r3, g y z, rfl, by have := k S3 H3 (X12.trans X3); rwa [hf] at this⟩
/-! a list as a test -/
end
end Gc

namespace Gc
open PySem L2
variable [Tn]
/-! ## 15. displays of written numbers -/
def cInt : Expr → Option Int
  | .Constant (.int i) _ _ => some i
  | .UnaryOp .USub (.Constant (.int i) _ _) _ => some (-i)
  | _ => none
def cInts : List Expr → Option (List Int)
  | [] => some []
  | e :: es => match cInt e, cInts es with
    | some i, some is => some (i :: is)
    | _, _ => none
section
variable {X : Cx} {S0 H0 S H S' H' : Hp} {G G' : Cxt} {σ : St} {α β γ ν μ ρ : Type} {a b c e : Expr} {pos pos' p p2 : Pos}
theorem EvB.cint {i : Int} (h : cInt e = some i) : EvB X S0 H0 G e rInt (some i) := by
  unfold cInt at h
  split at h
  · cases h; exact EvB.int
  · cases h; exact EvB.negP EvB.int
  · cases h
theorem star_cint {i : Int} {es : List Expr} (h : cInt e = some i) : starEach (e :: es) X.env = (false, eval e X.env) :: starEach es X.env := by
  unfold cInt at h
  split at h
  · rfl
  · rfl
  · cases h
theorem EvIt.cints : ∀ {es : List Expr} {ns : List Int}, cInts es = some ns → EvIt X S0 H0 G es (oV rInt) (some ns)
  | [], _, h => by cases h; exact EvIt.nil
  | e :: es, _, h => by
    unfold cInts at h
    split at h
    · next i is h1 h2 =>
      cases h
      exact EvIt.consP (EvB.cint h1).val (EvIt.cints h2) (star_cint h1)
    · cases h
theorem EvIt.bang {α : Type} {O : Orp α} {es : List Expr} {xs ys : List α} (h : xs = ys) (k : EvIt X S0 H0 G es O (some xs)) : EvIt X S0 H0 G es O (some ys) := h ▸ k
end
end Gc

namespace Gc
open PySem PySem.Spec PyProof.Rows L2
variable [Tn]
/-! ## 14. a module's numbers, a list's truth, defaults -/
section
variable {X : Cx} {S0 H0 : Hp} {G : Cxt} {α β : Type} {a e : Expr} {pos p pos' : Pos}
theorem EvB.globP {x : Str} {i : Int} {t : Tok} (hm : X.mg x = some (.int i t)) (hg : Gl X x := by rfl) (hd : (x == ("__debug__" : Str)) = false := by decide) : EvB X S0 H0 G (.Name x pos) rInt (some i) := .mk fun S H σ Q z E e1 k => by
  cases e1
  exact wE_of (pe_glob (v := .int i) hg hm ⟨t, rfl⟩ hd) (k _ S H (Ext.refl E.base.sb) rfl)
theorem isE_paired {F : α → β → Prop} : ∀ {xs : List α} {ys : List β}, Paired F xs ys → xs.isEmpty = ys.isEmpty
  | _, _, .nil => rfl
  | _, _, .cons _ _ => rfl
theorem EvB.tstLP {RL : Rp (List α)} {R : Rp α} {xs : List α} [L : SqRp X.K RL R] (h : EvB X S0 H0 G e RL (some xs)) (he : ∀ whole, isTrue e X.env whole = (do let v ← whole; standAt e.pos; PySem.holding [v] (truthy v)) := by intro _; rfl) : Tst X S0 H0 G e (some (!xs.isEmpty)) := .mk fun S H σ Q z E hm k => by
  cases hm
  refine wT_of (pt_truth (wE_ok e) he) (h S H σ _ xs E rfl fun v S1 H1 X1 r1 => ?_)
  obtain ⟨a, vs, rfl, q, pr, _⟩ := L.sq r1
  exact ⟨!xs.isEmpty, .inl ⟨vs, q, by rw [isE_paired pr]⟩, k S1 H1 X1⟩
end
/-- what is not given: the default None -/
def aD {α : Type} : Arp (Option α × Unit) := ⟨fun _ _ vs x => vs = [] ∧ x = (none, ()), fun _ h => h, fun _ => [], fun h => by obtain ⟨rfl, _⟩ := h; trivial⟩
/-- the arguments with their default -/
structure DfA {α : Type} (A' A : Arp α) : Prop where
  to : ∀ {S H vs z}, A'.r S H vs z → A.r S H (vs ++ [.non]) z
theorem DfA.nil {R : Rp α} : DfA (aD : Arp (Option α × Unit)) (aV (rOpt R) aNil) := ⟨fun ⟨h1, h2⟩ => by subst h1 h2; exact ⟨_, [], rfl, rfl, rfl⟩⟩
theorem DfA.consV {α β : Type} {R : Rp α} {A' A : Arp β} (d : DfA A' A) : DfA (aV R A') (aV R A) := ⟨fun ⟨v, vs, e, r, t⟩ => ⟨v, vs ++ [.non], by rw [e]; rfl, r, d.to t⟩⟩
theorem DfA.consB {α β : Type} {R : Rp α} {A' A : Arp β} (d : DfA A' A) : DfA (aB R A') (aB R A) := ⟨fun ⟨v, vs, e, r, t⟩ => ⟨v, vs ++ [.non], by rw [e]; rfl, r, d.to t⟩⟩
section
variable {X : Cx} {S0 H0 : Hp} {G : Cxt} {α β : Type} {a e : Expr} {pos p pos' : Pos}
theorem EvA.nilD : EvA X S0 H0 G [] (aD : Arp (Option α × Unit)) (some (none, ())) := .mk fun S H σ Q z E hm k => by
  cases hm
  exact wA_of pa_nil (k [] S H (Ext.refl E.base.sb) ⟨rfl, rfl⟩)
theorem EvO.callDP {x : Str} {k : Nat} {es : List Expr} {A' A : Arp α} {O : Orp β} {f : α → Option β} {z : α} {j : Nat} (d : DfA A' A) (F : Fn X.prog X.w X.K X.mg X.base k x A O f [.non]) (hr : Room j X.A) (ha : EvA X S0 H0 G (e :: es) A' (some z)) (hj : k ≤ j := by decide) (hg : Gl X x := by rfl) (hdb : (x == ("__debug__" : Str)) = false := by decide)
    (he : starEach (e :: es) X.env = (false, eval e X.env) :: starEach es X.env := by rfl) (hpl : (backTo pos (starEach es X.env)).any (·.1) = false := by rfl) : EvO X S0 H0 G (.Call (.Name x p) (e :: es) [] pos) O (f z) := .mk fun S H σ Q y E hm kk => by
  obtain ⟨CX, fa, fd, ps, ds, h1, h2, h3, h4, h5, h6⟩ := F
  refine wE_of (pe_call h1 (hr.mono hj) hg h3 h4 h5 h6 (h2 X rfl rfl) (wA_ok _) hdb he hpl) (ha S H σ _ z E rfl fun vs S1 H1 X1 r1 => ?_)
  exact ⟨S1, z, y, X1.sb, d.to r1, hm, fun v S' H' ps X2 r f => kk v S' H' ps (X1.trans X2) r (f.grow X1.hp)⟩
end
/-- a def whose last parameter's default is None -/
abbrev FunN (K : PySem.W.Frag) (x qual : Str) (st : Stmt) (f : Addr) (fd : FuncData) : Prop := FunD K x qual (defArgs st) (defBody st) (defScope st) [.non] [] f fd
section
variable {P : Program} {w : World} {K : PySem.W.Frag} {mg : Str → Option Value} {base : Heap}
theorem fn_okN {α β : Type} {k : Nat} {x qual : Str} {st : Stmt} {f : Addr} {fd : FuncData} {N ps : List Str} {A : Arp α} {O : Orp β} {fm : α → Option β} {fb : α → Option (Out Unit Empty β)} {d : Option β}
    (F : FunN K x qual st f fd) (sc : FnScope N ps (defScope st)) (hl : ∀ {S H vs z}, A.r S H vs z → vs.length = ps.length)
    (body : ∀ (cdv : Value) (Ar : Around) (outer : List Env) (s : Shared) (H : Hp) (E : XK), Room k (Ar.deeper (envOfC qual (defScope st) s.heap.objs.size f cdv)) → ∀ (S : Hp) z,
      Run (XF P w K mg base N qual (defScope st) f cdv Ar outer s H E) S H (A.sl z ++ List.replicate (N.length - ps.length) .any) (defBody st) (fun _ : Unit => List.replicate N.length .any) (fun e : Empty => nomatch e) O (fb z))
    (hd : ∀ y, d = some y → ∀ S H, O.r S H .non y []) (hm : ∀ z y, fm z = some y → (fb z).bind (fin d) = some y) : FnOk P w K mg base CX0 (k + 1) f fd ps (spOf A O fm) := by
  refine F.ok sc (fun vs H Q E ⟨S, z, y, sb, r, _⟩ => hl r) (fun cdv Ar outer s H vs Q E hr h => ?_)
  obtain ⟨S, z, y, sb, r, e, q⟩ := h
  obtain ⟨o, e1, e2⟩ := bind_some_iff (hm z y e)
  refine ⟨_, (wS_ok (X := XF P w K mg base N qual (defScope st) f cdv Ar outer s H E) _).nox, ?_⟩
  refine body cdv Ar outer s H E hr S z S H _ _ o ?_ e1 ?_
  · have h1 := hl r
    have := entry_ok sb (N.length - ps.length) (A.ok r)
    unfold L2.start
    rw [h1]
    exact this
  · cases o with
    | nx u => exact fun S' H' σ' E' _ => q .non S' H' [] E'.base (hd y e2 S' H') Fresh.nil
    | rt v => cases e2; exact fun v S' H' ps X r f => q v S' H' ps X r f
    | bk l => exact nomatch l
    | ct l => exact nomatch l
theorem funN_mk {x qual : Str} {st : Stmt} {f T : Addr} {od an od2 : Option Addr} {sl sl2 : Array (Option Value)} {oc oc2 kV dc pm cd ct : Value} {n : Nat}
    (l : K.lookup f = some ⟨oc, od, .func (PySem.W.fnOf x qual (defArgs st) (defBody st) (defScope st) (.ref T) kV dc pm an cd ct), sl⟩) (t : K.lookup T = some ⟨oc2, od2, .seq #[.none] n, sl2⟩) (c : PySem.W.codeIn K cd qual = true) (k : PySem.W.keepIn K (.ref f) = true) :
    FunN K x qual st f (PySem.W.fnOf x qual (defArgs st) (defBody st) (defScope st) (.ref T) kV dc pm an cd ct) :=
  ⟨⟨oc, od, .ref T, kV, dc, pm, an, cd, ct, sl, rfl, l, c, .inr ⟨by simp, T, _, [.none], n, rfl, t, rfl, .cons rfl .nil⟩, .inl rfl⟩, k⟩
/-- every parameter is given -/
theorem funN_all {x qual : Str} {st : Stmt} {f : Addr} {fd : FuncData} {ps : List Str} (F : FunN K x qual st f fd)
    (h : ∀ (T : Addr) (kV doc pm : Value) (an : Option Addr) (cdv ct : Value) (us its : List Value), us.length = ps.length → its.length = 1 →
      ∃ k, bindArgs (PySem.W.fnOf x qual (defArgs st) (defBody st) (defScope st) (.ref T) kV doc pm an cdv ct) ⟨us, []⟩ = seqItems? (.ref T) >>= k ∧ k (some its.toArray) = pure (ps.zip (us ++ its.drop 1))) : Binds K fd ps [] := by
  obtain ⟨ds, hv, b⟩ := F.binds1 (ps := ps) ps.length 1 (by simp) (by simp) h
  cases hv
  exact b
theorem funN_dflt {x qual : Str} {st : Stmt} {f : Addr} {fd : FuncData} {ps : List Str} (n : Nat) (F : FunN K x qual st f fd) (hn : n + 1 = ps.length)
    (h : ∀ (T : Addr) (kV doc pm : Value) (an : Option Addr) (cdv ct : Value) (us its : List Value), us.length = n → its.length = 1 →
      ∃ k, bindArgs (PySem.W.fnOf x qual (defArgs st) (defBody st) (defScope st) (.ref T) kV doc pm an cdv ct) ⟨us, []⟩ = seqItems? (.ref T) >>= k ∧ k (some its.toArray) = pure (ps.zip (us ++ its.drop 0))) : ∃ ds, Vals [.non] ds ∧ Binds K fd ps ds :=
  F.binds1 (ps := ps) n 0 (by simp) hn h
end
end Gc

namespace Gc
open PySem PySem.Spec PyProof.Rows L2
variable [Tn]
/-! ## 15. tuples that stay -/
structure EvTV (X : Cx) (S0 H0 : Hp) {α : Type} (G : Cxt) (es : List Expr) (Rs : Rps α) (x : α) : Prop where
  ex : ∃ Os : Orps α, Os.fz = Rs ∧ EvTs X S0 H0 G es Os (some x)
section
variable {X : Cx} {S0 H0 : Hp} {G : Cxt} {α β : Type} {a e : Expr} {pos p pos' : Pos}
theorem EvTV.one {R : Rp α} {x : α} (h : EvV X S0 H0 G e R (some x)) (he : starEach [e] X.env = (false, eval e X.env) :: starEach [] X.env := by rfl) : EvTV X S0 H0 G [e] (rsOne R) x := ⟨osOne (oV R), rfl, EvTs.one h he⟩
theorem EvTV.cons {R : Rp α} {Rs : Rps β} {es : List Expr} {x : α} {y : β} (h : EvV X S0 H0 G e R (some x)) (h2 : EvTV X S0 H0 G es Rs y) (he : starEach (e :: es) X.env = (false, eval e X.env) :: starEach es X.env := by rfl) : EvTV X S0 H0 G (e :: es) (rsCons R Rs) (x, y) := by
  obtain ⟨Os, e2, q⟩ := h2.ex
  subst e2
  exact ⟨osCons (oV R) Os, rfl, EvTs.cons h q he⟩
theorem EvV.tupV {Rs : Rps α} {es : List Expr} {x : α} {x1} (h : EvTV X S0 H0 G es Rs x) (hl : decide (es.length ≤ 1000) = true := by rfl) : EvV X S0 H0 G (.Tuple es x1 pos) (rT Rs) (some x) := by
  obtain ⟨Os, e2, q⟩ := h.ex
  subst e2
  exact (EvO.tup q hl).stay
end
end Gc

namespace Gc
open PySem PySem.Spec PyProof.Rows L2
variable [Tn]
/-! ## 16. sorted, pop -/
def sortL (xs : List Int) : List Int := xs.mergeSort fun a b => decide (a ≤ b)
theorem sortL_perm (xs : List Int) : (sortL xs).Perm xs := List.mergeSort_perm ..
theorem sortL_sorted (xs : List Int) : (sortL xs).Pairwise (· ≤ ·) := (List.pairwise_mergeSort (le := fun a b : Int => decide (a ≤ b)) (fun a b c h1 h2 => by simp at *; omega) (fun a b => by simp; omega) xs).imp fun h => by simpa using h
theorem sortL_eq {xs ys : List Int} (h : ys.Perm xs) (hs : ys.Pairwise (· ≤ ·)) : ys = sortL xs := List.Perm.eq_of_pairwise (le := fun a b : Int => a ≤ b) (fun a b _ _ h1 h2 => by omega) hs (sortL_sorted xs) (h.trans (sortL_perm xs).symm)
def sortD (xs : List Int) : List Int := (sortL xs).reverse
theorem sortD_perm (xs : List Int) : (sortD xs).Perm xs := (List.reverse_perm _).trans (sortL_perm xs)
theorem sortD_sorted (xs : List Int) : (sortD xs).Pairwise (· ≥ ·) := List.pairwise_reverse.mpr (sortL_sorted xs)
theorem sortD_eq {xs ys : List Int} (h : ys.Perm xs) (hs : ys.Pairwise (· ≥ ·)) : ys = sortD xs := List.Perm.eq_of_pairwise (le := fun a b : Int => a ≥ b) (fun a b _ _ h1 h2 => by omega) hs (sortD_sorted xs) (h.trans (sortD_perm xs).symm)
theorem boot_sorted : bootBuiltins "sorted" = some (.builtin "sorted") := by decide +kernel
def popO {α : Type} (xs : List α) (j : Int) : Option (α × List α) := if -(2 ^ 63) ≤ j ∧ j < 2 ^ 63 then (seqIndex? j xs.length).bind fun k => xs[k]?.bind fun y => some (y, xs.eraseIdx k) else none
section
variable {X : Cx} {S0 H0 : Hp} {G : Cxt} {α β ν μ ρ : Type} {a e : Expr} {pos p pos' : Pos} {ss : List Stmt} {Γ : ν → Cxt} {Λ : μ → Cxt} {O : Orp ρ}
theorem EvO.sortedP {RL : Rp (List Int)} [L : SqRp X.K RL rInt] {xs : List Int} (hm : X.mg "sorted" = none) (ha : EvB X S0 H0 G a RL (some xs)) (hg : Gl X "sorted" := by rfl) (he : starEach [a] X.env = (false, eval a X.env) :: starEach [] X.env := by rfl) :
    EvO X S0 H0 G (.Call (.Name "sorted" p) [a] [] pos) (oL (oV rInt)) (some (sortL xs)) := .mk fun S H σ Q zs E hm' kk => by
  cases hm'
  refine wE_of (pe_callB cr_sortedI hg hm boot_sorted (pa_cons (wE_ok a) pa_nil he) (by decide) (by decide) he) (ha S H σ _ xs E rfl fun v S1 H1 X1 r1 => ?_)
  obtain ⟨t, vs, rfl, q, pr, hl⟩ := L.sq r1
  refine ⟨t, xs, rfl, by rw [← ints_of pr]; exact q, fun ns' l hp hs hn => ?_⟩
  rw [sortL_eq hp hs]
  exact EvO.newL X1 hn (paired_of_ints _) (by rw [(sortL_perm xs).length_eq]; exact hl) kk
theorem EvO.sortedRP {RL : Rp (List Int)} [L : SqRp X.K RL rInt] {xs : List Int} {kp kp2 : Pos} {j} (hm : X.mg "sorted" = none) (ha : EvB X S0 H0 G a RL (some xs)) (hg : Gl X "sorted" := by rfl)
    (he : backTo pos (starEach [a] X.env) = (false, eval a X.env) :: backTo pos (starEach [] X.env) := by rfl) (hst : starEach [a] X.env = (false, eval a X.env) :: starEach [] X.env := by rfl) (hpl : (backTo pos (starEach [a] X.env)).any (·.1) = false := by rfl)
    (hall : (backToKw pos (keywordEach [⟨some (Str.ofString "reverse"), .Constant (.bool true) j kp, kp2⟩] X.env)).all (·.1.isSome) = true := by rfl) (hnone : (backToKw pos (keywordEach [⟨some (Str.ofString "reverse"), .Constant (.bool true) j kp, kp2⟩] X.env)).any (·.1.isNone) = false := by rfl)
    (hks : (backToKw pos (keywordEach [⟨some (Str.ofString "reverse"), .Constant (.bool true) j kp, kp2⟩] X.env)).filterMap (·.1) = [Str.ofString "reverse"] := by rfl) :
    EvO X S0 H0 G (.Call (.Name "sorted" p) [a] [⟨some (Str.ofString "reverse"), .Constant (.bool true) j kp, kp2⟩] pos) (oL (oV rInt)) (some (sortD xs)) := .mk fun S H σ Q zs E hm' kk => by
  cases hm'
  refine wE_of (pe_callBK (cr_sortedRev (b := true)) hg hm boot_sorted (pa_cons (wE_ok a) pa_nil hst) (pk_cons pe_bl pk_nil) (by decide) (by decide) he hpl hall hnone hks) (ha S H σ _ xs E rfl fun v S1 H1 X1 r1 => ?_)
  obtain ⟨t, vs, rfl, q, pr, hl⟩ := L.sq r1
  refine ⟨t, xs, rfl, rfl, by rw [← ints_of pr]; exact q, fun ns' l hp hs hn => ?_⟩
  rw [sortD_eq hp hs]
  exact EvO.newL X1 hn (paired_of_ints _) (by rw [(sortD_perm xs).length_eq]; exact hl) kk
/-- y = xs.pop(e), xs one's own -/
theorem Run.popP {R : Rp α} {xs : List α} {j : Int} {k : α × List α → Option (Out ν μ ρ)} {apos cpos : Pos} (i d : Nat) {x y : Str} (hNd : X.N.Nodup) (he : EvB X S0 H0 G e rInt (some j)) (hk : ∀ z, Run X S0 H0 ((G.set i (.ow (oL (oV R)) z.2)).set d (.val R z.1)) ss Γ Λ O (k z))
    (hG : G[i]? = some (.ow (oL (oV R)) xs) := by rfl) (hN : X.N[i]? = some x := by rfl) (hNy : X.N[d]? = some y := by rfl) (hv : Vis X.env.scope x := by first | exact Or.inl rfl | exact Or.inr (Or.inl rfl) | exact Or.inr (Or.inr rfl)) (hy : Loc X.env.scope y := by first | exact .inl rfl | exact .inr rfl)
    (hs : swapsWith (.Call (.Attribute (.Name x pos') "pop" apos) [e] [] cpos) (some (.Name y p)) pos.line X.env = pure false := by rfl) (hf : X.fn y = true ∨ X.env.scope.names.lookup y = some .local := by first | exact .inl rfl | exact .inr rfl | assumption)
    (hbase : attributeBase (.Name x pos') "pop" X.env (eval (.Name x pos') X.env) = eval (.Name x pos') X.env := by rfl)
    (hfew : ((backTo cpos (starEach [e] X.env)).all (fun x => !x.1) && (backToKw cpos (keywordEach [] X.env)).all (fun x => x.1.isSome)
      && decide (([e] : List Expr).length + ([] : List Keyword).length + (if ([] : List Keyword).isEmpty then 0 else 1) < 30)) = true := by rfl)
    (hline : (apos.endLine == cpos.line) = true := by rfl) (hst : starEach [e] X.env = (false, eval e X.env) :: starEach [] X.env := by rfl) (hplain : (backTo cpos (starEach [] X.env)).any (·.1) = false := by rfl)
    (hd : (x == ("__debug__" : Str)) = false := by decide) (hcd : (x == ("__classdict__" : Str)) = false := by decide) :
    Run X S0 H0 G (.Assign [.Name y p] (.Call (.Attribute (.Name x pos') "pop" apos) [e] [] cpos) pos :: ss) Γ Λ O ((popO xs j).bind k) := .mk fun S H σ D o E e' g => by
  obtain ⟨⟨z, zs⟩, e1, e'⟩ := bind_some_iff e'
  unfold popO at e1
  split at e1
  · next hj =>
    obtain ⟨jn, e2, e1⟩ := bind_some_iff e1
    obtain ⟨w, e3, e1⟩ := bind_some_iff e1
    cases e1
    obtain ⟨o', ps, e5, ⟨v, e6, r⟩, nd, fr⟩ := E.get hG
    subst e6
    obtain ⟨l, us, qs, rfl, hl, rfl, els, hz⟩ := r
    refine wS_of (pss_cons (ps_set (i := d) hNd hNy hy (pe_bm PySem.F.plainAttrs_list PySem.F.slot_list_pop PySem.F.type_list_pop mt_popAt (pe_var hN hv hd hcd) (pa_cons (wE_ok e) pa_nil hst) hbase hfew hline hst hplain) hs hf) (wS_ok ss)) ?_
    refine ⟨.ref l, e5, .inl ⟨rfl, _, .inl (.inl hl)⟩, he S H σ _ j E rfl fun u S1 H1 X1 r1 => ?_⟩
    have h1l : H1 l = some (.lst us) := X1.hp.go hl
    have hne : H l ≠ none := by rw [hl]; simp
    have s1l : S1 l = none := X1.nw l (fr l List.mem_cons_self).1 hne
    obtain ⟨pr, _⟩ := els.to
    obtain ⟨uz, e7, rz⟩ := paired_at pr e3
    refine ⟨l, us, j, jn, uz, rfl, by rw [show u = .int j from r1], h1l, hj.1, hj.2, by rw [els.len]; exact e2, e7, ?_⟩
    have E2 : EnvOk S0 H0 S1 (upd H1 l (.lst (us.eraseIdx jn))) (G.set i (.ow (oL (oV R)) (xs.eraseIdx jn))) σ := E.mutX X1 hG (fun v ps e8 r8 nd8 fr8 => by
      rw [e5] at e8
      cases e8
      obtain ⟨l', us', qs', el, hl', rfl, els', hz'⟩ := r8
      cases el
      rw [h1l] at hl'
      cases hl'
      obtain ⟨pr', _⟩ := els'.to
      have pe : ∀ (us : List V) (xs : List α) (j : Nat), Paired (R.r S1) us xs → Paired (R.r S1) (us.eraseIdx j) (xs.eraseIdx j) := by
        intro us xs j pr
        induction pr generalizing j with
        | nil => exact .nil
        | cons r t ih =>
          cases j with
          | zero => exact t
          | succ j => exact .cons r (ih j)
      refine ⟨[l], ⟨l, us.eraseIdx jn, [], rfl, upd_same, rfl, Els.of (pe _ _ _ pr'), Nat.le_trans (List.length_eraseIdx_le ..) hz'⟩, by simp, fun p hp => ?_, fun a oo na ea => ?_⟩
      · have : p = l := by simpa using hp
        subst this
        exact ⟨.inl List.mem_cons_self, s1l, by rw [upd_same]; simp⟩
      · rw [upd_ne (fun ep => na (by rw [ep]; exact List.mem_cons_self))]; exact ea) (Same.refl _) (fun _ h _ => h) (fun a oo es => by rw [upd_ne (ne_of_none es s1l)]; exact X1.sb a oo es)
    exact hk (z, xs.eraseIdx jn) S1 _ _ D o (E2.setV d (Ext.refl E2.base.sb) (R.mono X1.st.k rz)) e' (g.mono X1.st)
  · cases e1
end
end Gc

namespace Gc
open PySem PySem.Spec PyProof.Rows L2
variable [Tn]
/-! ## 17. ranges with a step -/
def stepL (lo c : Int) (n : Nat) : List Int := (List.range n).map fun (k : Nat) => lo + (k : Int) * c
def rng3O (lo hi c : Int) : Option (List Int) := if c ≠ 0 ∧ c.natAbs < 1073741824 ∧ Builtin.Range.small lo hi c = true ∧ 0 ≤ Builtin.Range.rangeSize lo hi c ∧ Builtin.Range.rangeSize lo hi c ≤ 2 ^ 24 then some (stepL lo c (Builtin.Range.rangeSize lo hi c).toNat) else none
theorem stepL_get {lo c : Int} {n i : Nat} {x : Int} (h : (stepL lo c n)[i]? = some x) : i < n ∧ x = lo + (i : Int) * c := by
  unfold stepL at h
  rw [List.getElem?_map] at h
  by_cases q : i < n
  · rw [List.getElem?_range q] at h
    cases h
    exact ⟨q, rfl⟩
  · rw [List.getElem?_eq_none (by simpa using q)] at h
    cases h
theorem itc_ok {K : PySem.W.Frag} {B S1 : Hp} {lo c : Int} {n : Nat} (h : n ≤ 2 ^ 24) : ItOk K B (Itc lo c n) S1 (fun x => .one (.val rInt x)) (stepL lo c n) where
  len := by unfold stepL; rw [List.length_map, List.length_range, sizeLine_eq]; omega
  go := fun S' H' _ h2 _ i x e => by
    obtain ⟨h4, rfl⟩ := stepL_get e
    exact ⟨h4, fun v H'' ⟨e1, e2⟩ => ⟨S', by subst e1; exact Ext.refl h2, e2⟩⟩
  stop := fun S' H' _ _ _ i e => by unfold stepL at e; rw [List.length_map, List.length_range] at e; exact e
section
variable {X : Cx} {S0 H0 : Hp} {G : Cxt} {a b e tg : Expr} {pos p : Pos}
theorem ItS.rng3P {l n c : Int} (hm : X.mg "range" = none) (h : EvB X S0 H0 G a rInt (some l)) (h2 : EvB X S0 H0 G b rInt (some n)) (h3 : EvB X S0 H0 G e rInt (some c)) (hg : Gl X "range" := by rfl) (hs : starEach [a, b, e] X.env = (false, eval a X.env) :: starEach [b, e] X.env := by rfl) (hs2 : starEach [b, e] X.env = (false, eval b X.env) :: starEach [e] X.env := by rfl) (hs3 : starEach [e] X.env = (false, eval e X.env) :: starEach [] X.env := by rfl) (hpl : (backTo pos (starEach [b, e] X.env)).any (·.1) = false := by rfl) :
    ItS X S0 H0 G tg (.Call (.Name "range" p) [a, b, e] [] pos) (fun x => .one (.val rInt x)) (rng3O l n c) := .mk fun S H σ Rk xs E hm' k => by
  unfold rng3O at hm'
  split at hm'
  · next q =>
    cases hm'
    refine wI_of (pi_range3 hg hm (pa_cons (wE_ok a) (pa_cons (wE_ok b) (pa_cons (wE_ok e) pa_nil hs3) hs2) hs) hs hpl) (h S H σ _ l E rfl fun v S1 H1 X1 r1 => h2 S1 H1 σ _ n (E.mono X1) rfl fun w S2 H2 X2 r2 => h3 S2 H2 σ _ c ((E.mono X1).mono X2) rfl fun u S3 H3 X3 r3 => ?_)
    have r1 : v = .int l := r1
    have r2 : w = .int n := r2
    have r3 : u = .int c := r3
    subst r1 r2 r3
    exact ⟨l, n, c, _, rfl, ⟨q.1, q.2.1, q.2.2.1, (Int.toNat_of_nonneg q.2.2.2.1).symm⟩, k _ S3 H3 ((X1.trans X2).trans X3) (itc_ok (by have := q.2.2.2.2; omega))⟩
  · cases hm'
theorem ItC.rng3P {l n c : Int} (hm : X.mg "range" = none) (h : EvB X S0 H0 G a rInt (some l)) (h2 : EvB X S0 H0 G b rInt (some n)) (h3 : EvB X S0 H0 G e rInt (some c)) (hg : Gl X "range" := by rfl) (hs : starEach [a, b, e] X.env = (false, eval a X.env) :: starEach [b, e] X.env := by rfl) (hs2 : starEach [b, e] X.env = (false, eval b X.env) :: starEach [e] X.env := by rfl) (hs3 : starEach [e] X.env = (false, eval e X.env) :: starEach [] X.env := by rfl) (hpl : (backTo pos (starEach [b, e] X.env)).any (·.1) = false := by rfl) :
    ItC X S0 H0 G tg (.Call (.Name "range" p) [a, b, e] [] pos) (fun x => .one (.val rInt x)) (rng3O l n c) := .mk fun S H σ Rk xs E hm' k => by
  unfold rng3O at hm'
  split at hm'
  · next q =>
    cases hm'
    refine wI_of (pi_range3 hg hm (pa_cons (wE_ok a) (pa_cons (wE_ok b) (pa_cons (wE_ok e) pa_nil hs3) hs2) hs) hs hpl) (h S H σ _ l E rfl fun v S1 H1 X1 r1 => h2 S1 H1 σ _ n (E.mono X1) rfl fun w S2 H2 X2 r2 => h3 S2 H2 σ _ c ((E.mono X1).mono X2) rfl fun u S3 H3 X3 r3 => ?_)
    have r1 : v = .int l := r1
    have r2 : w = .int n := r2
    have r3 : u = .int c := r3
    subst r1 r2 r3
    exact ⟨l, n, c, _, rfl, ⟨q.1, q.2.1, q.2.2.1, (Int.toNat_of_nonneg q.2.2.2.1).symm⟩, k _ S3 H3 ((X1.trans X2).trans X3) (itc_ok (by have := q.2.2.2.2; omega))⟩
  · cases hm'
end
end Gc

namespace Gc
open PySem PySem.Spec PyProof.Rows L2
variable [Tn]
/-! ## 18. an expression that changes one's own -/
abbrev EvM (X : Cx) (S0 H0 : Hp) {α γ : Type} (G : Cxt) (e : Expr) (R : Rp α) (m : Option (α × γ)) (G' : α × γ → Cxt) : Prop := Box (
  ∀ S H σ Q z, EnvOk S0 H0 S H G σ → m = some z → (∀ v S' H', EnvOk S0 H0 S' H' (G' z) σ → R.r S' v z.1 → Same S S' → Q v H') → wE X e σ H Q)
section
variable {X : Cx} {S0 H0 : Hp} {G : Cxt} {α β γ ν μ ρ : Type} {a e : Expr} {pos p pos' : Pos} {ss : List Stmt} {Γ : ν → Cxt} {Λ : μ → Cxt} {O : Orp ρ}
theorem EvM.popP {R : Rp α} {xs : List α} {j : Int} {apos cpos : Pos} (i : Nat) {x : Str} (he : EvB X S0 H0 G e rInt (some j))
    (hG : G[i]? = some (.ow (oL (oV R)) xs) := by rfl) (hN : X.N[i]? = some x := by rfl) (hv : Vis X.env.scope x := by first | exact Or.inl rfl | exact Or.inr (Or.inl rfl) | exact Or.inr (Or.inr rfl))
    (hbase : attributeBase (.Name x pos') "pop" X.env (eval (.Name x pos') X.env) = eval (.Name x pos') X.env := by rfl)
    (hfew : ((backTo cpos (starEach [e] X.env)).all (fun x => !x.1) && (backToKw cpos (keywordEach [] X.env)).all (fun x => x.1.isSome)
      && decide (([e] : List Expr).length + ([] : List Keyword).length + (if ([] : List Keyword).isEmpty then 0 else 1) < 30)) = true := by rfl)
    (hline : (apos.endLine == cpos.line) = true := by rfl) (hst : starEach [e] X.env = (false, eval e X.env) :: starEach [] X.env := by rfl) (hplain : (backTo cpos (starEach [] X.env)).any (·.1) = false := by rfl)
    (hd : (x == ("__debug__" : Str)) = false := by decide) (hcd : (x == ("__classdict__" : Str)) = false := by decide) :
    EvM X S0 H0 G (.Call (.Attribute (.Name x pos') "pop" apos) [e] [] cpos) R (popO xs j) (fun z => G.set i (.ow (oL (oV R)) z.2)) := .mk fun S H σ Q z0 E e1 k => by
  obtain ⟨z, zs⟩ := z0
  unfold popO at e1
  split at e1
  · next hj =>
    obtain ⟨jn, e2, e1⟩ := bind_some_iff e1
    obtain ⟨w, e3, e1⟩ := bind_some_iff e1
    cases e1
    obtain ⟨o', ps, e5, ⟨v, e6, r⟩, nd, fr⟩ := E.get hG
    subst e6
    obtain ⟨l, us, qs, rfl, hl, rfl, els, hz⟩ := r
    refine wE_of (pe_bm PySem.F.plainAttrs_list PySem.F.slot_list_pop PySem.F.type_list_pop mt_popAt (pe_var hN hv hd hcd) (pa_cons (wE_ok e) pa_nil hst) hbase hfew hline hst hplain) ?_
    refine ⟨.ref l, e5, .inl ⟨rfl, _, .inl (.inl hl)⟩, he S H σ _ j E rfl fun u S1 H1 X1 r1 => ?_⟩
    have h1l : H1 l = some (.lst us) := X1.hp.go hl
    have hne : H l ≠ none := by rw [hl]; simp
    have s1l : S1 l = none := X1.nw l (fr l List.mem_cons_self).1 hne
    obtain ⟨pr, _⟩ := els.to
    obtain ⟨uz, e7, rz⟩ := paired_at pr e3
    refine ⟨l, us, j, jn, uz, rfl, by rw [show u = .int j from r1], h1l, hj.1, hj.2, by rw [els.len]; exact e2, e7, ?_⟩
    have E2 : EnvOk S0 H0 S1 (upd H1 l (.lst (us.eraseIdx jn))) (G.set i (.ow (oL (oV R)) (xs.eraseIdx jn))) σ := E.mutX X1 hG (fun v ps e8 r8 nd8 fr8 => by
      rw [e5] at e8
      cases e8
      obtain ⟨l', us', qs', el, hl', rfl, els', hz'⟩ := r8
      cases el
      rw [h1l] at hl'
      cases hl'
      obtain ⟨pr', _⟩ := els'.to
      have pe : ∀ (us : List V) (xs : List α) (j : Nat), Paired (R.r S1) us xs → Paired (R.r S1) (us.eraseIdx j) (xs.eraseIdx j) := by
        intro us xs j pr
        induction pr generalizing j with
        | nil => exact .nil
        | cons r t ih =>
          cases j with
          | zero => exact t
          | succ j => exact .cons r (ih j)
      refine ⟨[l], ⟨l, us.eraseIdx jn, [], rfl, upd_same, rfl, Els.of (pe _ _ _ pr'), Nat.le_trans (List.length_eraseIdx_le ..) hz'⟩, by simp, fun p hp => ?_, fun a oo na ea => ?_⟩
      · have : p = l := by simpa using hp
        subst this
        exact ⟨.inl List.mem_cons_self, s1l, by rw [upd_same]; simp⟩
      · rw [upd_ne (fun ep => na (by rw [ep]; exact List.mem_cons_self))]; exact ea) (Same.refl _) (fun _ h _ => h) (fun a oo es => by rw [upd_ne (ne_of_none es s1l)]; exact X1.sb a oo es)
    exact k uz S1 _ E2 (R.mono X1.st.k rz) X1.st
  · cases e1
/-- x.append(e), e changes another thing of one's own -/
theorem Run.appMP {R : Rp α} {xs : List α} {m : Option (α × γ)} {G' : α × γ → Cxt} {k : α × γ → List α → Option (Out ν μ ρ)} {apos cpos : Pos} (i : Nat) {x : Str} (he : EvM X S0 H0 G e R m G') (hk : ∀ z zs, Run X S0 H0 ((G' z).set i (.ow (oL (oV R)) zs)) ss Γ Λ O (k z zs))
    (hG : G[i]? = some (.ow (oL (oV R)) xs) := by rfl) (hG2 : ∀ z, (G' z)[i]? = some (.ow (oL (oV R)) xs) := by intro _; rfl) (hN : X.N[i]? = some x := by rfl) (hv : Vis X.env.scope x := by first | exact Or.inl rfl | exact Or.inr (Or.inl rfl) | exact Or.inr (Or.inr rfl))
    (hs : swapsWith (.Call (.Attribute (.Name x pos') "append" apos) [e] [] cpos) none pos.line X.env = pure false := by rfl)
    (hbase : attributeBase (.Name x pos') "append" X.env (eval (.Name x pos') X.env) = eval (.Name x pos') X.env := by rfl)
    (hfew : ((backTo cpos (starEach [e] X.env)).all (fun x => !x.1) && (backToKw cpos (keywordEach [] X.env)).all (fun x => x.1.isSome)
      && decide (([e] : List Expr).length + ([] : List Keyword).length + (if ([] : List Keyword).isEmpty then 0 else 1) < 30)) = true := by rfl)
    (hline : (apos.endLine == cpos.line) = true := by rfl) (hst : starEach [e] X.env = (false, eval e X.env) :: starEach [] X.env := by rfl) (hplain : (backTo cpos (starEach [] X.env)).any (·.1) = false := by rfl)
    (hd : (x == ("__debug__" : Str)) = false := by decide) (hcd : (x == ("__classdict__" : Str)) = false := by decide) :
    Run X S0 H0 G (.Expr (.Call (.Attribute (.Name x pos') "append" apos) [e] [] cpos) pos :: ss) Γ Λ O (m.bind fun z => (appO xs z.1).bind (k z)) := .mk fun S H σ D o E e' g => by
  obtain ⟨z, e1, e'⟩ := bind_some_iff e'
  obtain ⟨zs, e2, e'⟩ := bind_some_iff e'
  unfold appO at e2
  split at e2
  · next hlen =>
    cases e2
    obtain ⟨o', ps, e3, ⟨v, e4, r⟩, nd, fr⟩ := E.get hG
    subst e4
    obtain ⟨l, us0, qs0, rfl, hl0, rfl, els0, hz0⟩ := r
    refine wS_of (pss_cons (ps_expr (pe_bm PySem.F.plainAttrs_list PySem.F.slot_list_append PySem.F.type_list_append mt_append (pe_var hN hv hd hcd) (pa_cons (wE_ok e) pa_nil hst) hbase hfew hline hst hplain) hs) (wS_ok ss)) ?_
    refine ⟨.ref l, e3, .inl ⟨rfl, _, .inl (.inl hl0)⟩, he S H σ _ z E e1 fun u S1 H1 E1 r1 sm => ?_⟩
    obtain ⟨o2, ps2, f3, ⟨v2, f4, r2⟩, nd2, fr2⟩ := E1.get (hG2 z)
    subst f4
    rw [e3] at f3
    cases f3
    obtain ⟨l', us, qs, el, hl, rfl, els, hz⟩ := r2
    cases el
    refine ⟨l, us, u, rfl, rfl, hl, by rw [els.len]; exact hlen, ?_⟩
    have s1l : S1 l = none := (fr2 l List.mem_cons_self).1
    refine hk z (xs ++ [z.1]) S1 _ σ D o (E1.mutX (Ext.refl E1.base.sb) (hG2 z) (fun v ps e5 r5 nd5 fr5 => ?_) (Same.refl _) (fun _ h _ => h) (fun a oo es => ?_)) e' (g.mono sm)
    · rw [e3] at e5
      cases e5
      obtain ⟨l', us', qs', el, hl', rfl, els', hz'⟩ := r5
      cases el
      rw [hl] at hl'
      cases hl'
      obtain ⟨pr', qe⟩ := els'.to
      subst qe
      refine ⟨[l], ⟨l, us ++ [u], [], rfl, upd_same, rfl, ?_, by rw [List.length_append]; exact hlen⟩, by simp, fun p hp => ?_, fun a oo na ea => ?_⟩
      · have := Els.snoc (O := oV R) (S := S1) (H := upd H1 l (.lst (us ++ [u]))) (Els.of pr') (ps := []) ⟨r1, rfl⟩
        simpa using this
      · have : p = l := by simpa using hp
        subst this
        exact ⟨.inl List.mem_cons_self, s1l, by rw [upd_same]; simp⟩
      · rw [upd_ne (fun ep => na (by rw [ep]; exact List.mem_cons_self))]; exact ea
    · rw [upd_ne (ne_of_none es s1l)]; exact E1.base.sb a oo es
  · cases e2
end
end Gc

namespace Gc
open PySem PySem.Spec PyProof.Rows L2
variable [Tn]
/-! ## 19. marks: dicts from ints to True -/
def mkK (xs : List Int) : List (Key × V) := xs.map fun x => (Sum.inl x, V.bl true)
def putI (xs : List Int) (x : Int) : List Int := if x ∈ xs then xs else xs ++ [x]
def markO (xs : List Int) (x : Int) : Option (List Int) := if xs.length < sizeLine then some (putI xs x) else none
theorem mkK_put (xs : List Int) (x : Int) : putK (mkK xs) (Sum.inl x) (V.bl true) = mkK (putI xs x) := by
  have ha : ((mkK xs).any fun kv => decide (kv.1 = Sum.inl x)) = decide (x ∈ xs) := by
    unfold mkK
    induction xs with
    | nil => rfl
    | cons y ys ih =>
      rw [List.map_cons, List.any_cons, ih]
      by_cases c : y = x
      · subst c; simp
      · have : ¬ x = y := fun z => c z.symm
        simp [c, this]
  unfold putK
  rw [ha]
  unfold putI
  by_cases c : x ∈ xs
  · rw [if_pos (decide_eq_true c), if_pos c]
    unfold mkK
    rw [List.map_map]
    apply List.map_congr_left
    intro y _
    show (if (Sum.inl y : Key) = Sum.inl x then ((Sum.inl y : Key), V.bl true) else (Sum.inl y, V.bl true)) = _
    split <;> rfl
  · rw [if_neg (by simpa using c), if_neg c]
    unfold mkK
    rw [List.map_append]
    rfl
theorem mkK_get (xs : List Int) (x : Int) : (valV (mkK xs) (Sum.inl x)).isSome = decide (x ∈ xs) := by
  rw [← valV_any]
  unfold mkK
  induction xs with
  | nil => rfl
  | cons y ys ih =>
    rw [List.map_cons, List.any_cons, ih]
    by_cases c : y = x
    · subst c; simp
    · have : ¬ x = y := fun z => c z.symm
      simp [c, this]
def rMk : Rp (List Int) := ⟨fun H v xs => ∃ p, v = .ref p ∧ H p = some (.dK (mkK xs)), fun h ⟨p, e, q⟩ => ⟨p, e, h.go q⟩⟩
def oMk : Orp (List Int) where
  r := fun S H v xs ps => ∃ p, v = .ref p ∧ H p = some (.dK (mkK xs)) ∧ ps = [p]
  mono := fun h k ⟨p, e, q, ep⟩ => ⟨p, e, (k p (by rw [ep]; exact List.mem_cons_self)).go q, ep⟩
  fz := rMk
  frz := fun ⟨p, e, q, ep⟩ h k => ⟨p, e, (k p (by rw [ep]; exact List.mem_cons_self)).go q⟩
section
variable {X : Cx} {S0 H0 : Hp} {G : Cxt} {α β γ ν μ ρ : Type} {a b e : Expr} {pos p pos' spos kp : Pos} {ss : List Stmt} {Γ : ν → Cxt} {Λ : μ → Cxt} {O : Orp ρ} {kd : Nat}
theorem EvO.dictP : EvO X S0 H0 G (.Dict [] [] pos) oMk (some []) := .mk fun S H σ Q z E hm k => by
  cases hm
  refine wE_of pe_dnewK fun l hl => ?_
  refine k (.ref l) S _ [l] (Ext.own E.base.sb hl) ⟨l, rfl, upd_same, rfl⟩ ⟨by simp, fun q hq => ?_⟩
  obtain rfl : q = l := by simpa using hq
  refine ⟨hl, E.base.sb.free hl, by rw [upd_same]; simp⟩
theorem EvB.mrk {xs : List Int} (i : Nat) {x : Str} (hG : G[i]? = some (.ow oMk xs) := by rfl) (hN : X.N[i]? = some x := by rfl) (hv : Vis X.env.scope x := by first | exact Or.inl rfl | exact Or.inr (Or.inl rfl) | exact Or.inr (Or.inr rfl)) (hd : (x == ("__debug__" : Str)) = false := by decide) (hcd : (x == ("__classdict__" : Str)) = false := by decide) :
    EvB X S0 H0 G (.Name x pos) rMk (some xs) := .mk fun S H σ Q z E hm k => by
  cases hm
  obtain ⟨o, ps, e1, ⟨v, e2, l, e3, hl, _⟩, nd, fr⟩ := E.get hG
  subst e2
  exact wE_of (pe_var hN hv hd hcd) ⟨v, e1, k v S H (Ext.refl E.base.sb) ⟨l, e3, hl⟩⟩
theorem Cm.inMP {x : Int} {xs : List Int} (hu : X.A.units + 64 < cLine) (ha : EvB X S0 H0 G a rInt (some x)) (hb : EvB X S0 H0 G b rMk (some xs)) (hm : behindInMarks .In b = false := by rfl) : Cm X S0 H0 G (.Compare a [.In] [b] pos) (decide (x ∈ xs)) where
  b := .mk fun S H σ Q z' E hm' k => by
    cases hm'
    refine wE_of (pe_cmp (pc_din (by omega) (wE_ok a) (wE_ok b)) hm) (ha S H σ _ x E rfl fun v S1 H1 X1 r1 => ?_)
    refine hb S1 H1 σ _ xs (E.mono X1) rfl fun w S2 H2 X2 ⟨l, e, hl⟩ => ?_
    subst e
    have r1 : v = .int x := r1
    subst r1
    exact ⟨l, _, rfl, DGet.k (k := Sum.inl x) hl, by rw [mkK_get]; exact k _ S2 H2 (X1.trans X2) rfl⟩
  t := .mk fun S H σ Q z' E hm' k => by
    cases hm'
    refine wT_of (pt_cmp (pc_din (by omega) (wE_ok a) (wE_ok b)) hm) (ha S H σ _ x E rfl fun v S1 H1 X1 r1 => ?_)
    refine hb S1 H1 σ _ xs (E.mono X1) rfl fun w S2 H2 X2 ⟨l, e, hl⟩ => ?_
    subst e
    have r1 : v = .int x := r1
    subst r1
    exact ⟨l, _, rfl, DGet.k (k := Sum.inl x) hl, by rw [mkK_get]; exact ⟨_, rfl, k S2 H2 (X1.trans X2)⟩⟩
theorem Cm.notinMP {x : Int} {xs : List Int} (hu : X.A.units + 64 < cLine) (ha : EvB X S0 H0 G a rInt (some x)) (hb : EvB X S0 H0 G b rMk (some xs)) (hm : behindInMarks .NotIn b = false := by rfl) : Cm X S0 H0 G (.Compare a [.NotIn] [b] pos) (!decide (x ∈ xs)) where
  b := .mk fun S H σ Q z' E hm' k => by
    cases hm'
    refine wE_of (pe_cmp (pc_dnotin (by omega) (wE_ok a) (wE_ok b)) hm) (ha S H σ _ x E rfl fun v S1 H1 X1 r1 => ?_)
    refine hb S1 H1 σ _ xs (E.mono X1) rfl fun w S2 H2 X2 ⟨l, e, hl⟩ => ?_
    subst e
    have r1 : v = .int x := r1
    subst r1
    refine ⟨l, _, rfl, DGet.k (k := Sum.inl x) hl, ?_⟩
    rw [mkK_get]
    exact k _ S2 H2 (X1.trans X2) rfl
  t := .mk fun S H σ Q z' E hm' k => by
    cases hm'
    refine wT_of (pt_cmp (pc_dnotin (by omega) (wE_ok a) (wE_ok b)) hm) (ha S H σ _ x E rfl fun v S1 H1 X1 r1 => ?_)
    refine hb S1 H1 σ _ xs (E.mono X1) rfl fun w S2 H2 X2 ⟨l, e, hl⟩ => ?_
    subst e
    have r1 : v = .int x := r1
    subst r1
    refine ⟨l, _, rfl, DGet.k (k := Sum.inl x) hl, ?_⟩
    rw [mkK_get]
    exact ⟨_, rfl, k S2 H2 (X1.trans X2)⟩
/-- marks[e] = True -/
theorem Run.markP {y : Int} {xs : List Int} {k : List Int → Option (Out ν μ ρ)} {spos vpos : Pos} (i : Nat) {x : Str} (hu : X.A.units + 64 < cLine) (he : EvB X S0 H0 G e rInt (some y)) (hk : ∀ zs, Run X S0 H0 (G.set i (.ow oMk zs)) ss Γ Λ O (k zs))
    (hG : G[i]? = some (.ow oMk xs) := by rfl) (hN : X.N[i]? = some x := by rfl) (hv : Vis X.env.scope x := by first | exact Or.inl rfl | exact Or.inr (Or.inl rfl) | exact Or.inr (Or.inr rfl))
    (hs : swapsWith (.Constant (.bool true) kd vpos) (some (.Subscript (.Name x pos') e spos)) pos.line X.env = pure false := by rfl)
    (hd : (x == ("__debug__" : Str)) = false := by decide) (hcd : (x == ("__classdict__" : Str)) = false := by decide) :
    Run X S0 H0 G (.Assign [.Subscript (.Name x pos') e spos] (.Constant (.bool true) kd vpos) pos :: ss) Γ Λ O ((markO xs y).bind k) := .mk fun S H σ D o E e' g => by
  obtain ⟨zs, e1, e'⟩ := bind_some_iff e'
  unfold markO at e1
  split at e1
  · next hlen =>
    cases e1
    obtain ⟨o', ps, e3, ⟨v, e4, l, e5, hl, epp⟩, nd, fr⟩ := E.get hG
    subst e4 e5 epp
    refine wS_of (pss_cons (ps_dput (by omega) (pe_var hN hv hd hcd) (wE_ok e) pe_bl hs) (wS_ok ss)) ?_
    refine ⟨.ref l, e3, he S H σ _ y E rfl fun u S1 H1 X1 r1 => ?_⟩
    have r1 : u = .int y := r1
    subst r1
    have h1l : H1 l = some (.dK (mkK xs)) := X1.hp.go hl
    have s1l : S1 l = none := X1.nw l (fr l List.mem_cons_self).1 (by rw [hl]; simp)
    refine ⟨l, _, rfl, DPut.k (k := Sum.inl y) h1l (by simpa [mkK] using hlen), ?_⟩
    refine hk (putI xs y) S1 _ σ D o (E.mutX X1 hG (fun v ps e5 r5 nd5 fr5 => ?_) (Same.refl _) (fun _ h _ => h) (fun a oo es => ?_)) e' (g.mono X1.st)
    · rw [e3] at e5
      cases e5
      obtain ⟨l', el, hl', rfl⟩ := r5
      cases el
      refine ⟨[l], ⟨l, rfl, by rw [upd_same, mkK_put], rfl⟩, by simp, fun p hp => ?_, fun a oo na ea => ?_⟩
      · have : p = l := by simpa using hp
        subst this
        exact ⟨.inl List.mem_cons_self, s1l, by rw [upd_same]; simp⟩
      · rw [upd_ne (fun ep => na (by rw [ep]; exact List.mem_cons_self))]; exact ea
    · rw [upd_ne (ne_of_none es s1l)]; exact X1.sb a oo es
  · cases e1
end
end Gc

namespace Gc
open PySem PySem.Spec PyProof.Rows L2
variable [Tn]
/-! ## 20. lent for a loop; parts of one's own changed; unions; options of one's own -/
def rAt {α : Type} (R : Rp α) (v0 : V) : Rp α := ⟨fun S v x => R.r S v x ∧ v = v0, fun h q => ⟨R.mono h q.1, q.2⟩⟩
/-- what is lent from H0 on -/
def rIn {α : Type} (H0 : Hp) (R : Rp α) : Rp α := ⟨fun S v x => R.r H0 v x ∧ Keep H0 S, fun h q => ⟨q.1, q.2.trans h⟩⟩
def lendG (H0 : Hp) : Slot → Slot
  | .bw R x => .bw (rIn H0 R) x
  | s => s
section
variable {X : Cx} {S0 H0 S H : Hp} {G : Cxt} {σ : L2.St} {α β γ ν μ ρ : Type} {a b e tg iter : Expr} {pos p pos' : Pos} {ss : List Stmt} {Γ : ν → Cxt} {Λ : μ → Cxt} {O : Orp ρ}
theorem EvB.unat {R : Rp α} {v0 : V} {m : Option α} (h : EvB X S0 H0 G a (rAt R v0) m) : EvB X S0 H0 G a R m := .mk fun S H σ Q z E hm k => h S H σ Q z E hm fun v S' H' X r => k v S' H' X r.1
theorem EvH.unat {R : Rp α} {v0 : V} {m : Option α} (h : EvH X S0 H0 G a (rAt R v0) m) : EvH X S0 H0 G a R m := .mk fun S H σ Q z E hm k => h S H σ Q z E hm fun v S' H' X r => k v S' H' X r.1
theorem EvB.unin {R : Rp α} {B : Hp} {m : Option α} (h : EvB X S0 H0 G a (rIn B R) m) : EvB X S0 H0 G a R m := .mk fun S H σ Q z E hm k => h S H σ Q z E hm fun v S' H' X r => k v S' H' X (R.mono r.2 r.1)
theorem EvH.unin {R : Rp α} {B : Hp} {m : Option α} (h : EvH X S0 H0 G a (rIn B R) m) : EvH X S0 H0 G a R m := .mk fun S H σ Q z E hm k => h S H σ Q z E hm fun v S' H' X r => k v S' H' X (R.mono r.2 r.1)
theorem EnvOk.lendTo {O' : Orp α} {y : α} {i : Nat} (E : EnvOk S0 H0 S H G σ) (e : G[i]? = some (.ow O' y)) : ∃ H1 v0, EnvOk S H1 S H ((G.map (lendG H0)).set i (.bw (rAt O'.fz v0) y)) σ ∧
    (∀ S' H', Ext S H1 S' H' → Ext S0 H0 S' H') ∧ Keep H0 H1 ∧ (∀ S' H' G' σ', EnvOk S H1 S' H' ((G'.map (lendG H0)).set i (.bw (rAt O'.fz v0) y)) σ' → G'[i]? = some (.ow O' y) → EnvOk S0 H0 S' H' G' σ') := by
  obtain ⟨fp, ok, F⟩ := E.ex
  obtain ⟨o, e1, v0, eo, q⟩ := ok i _ e
  subst eo
  have hb : ∀ p, p ∈ fp i → H0 p = none ∧ S p = none ∧ H p ≠ none := fun p hp => let ⟨a, b, c, _⟩ := F.at_ i p hp; ⟨c, a, b⟩
  letI dc : ∀ a : Addr, Decidable (S a = none) := fun a => Classical.propDecidable _
  letI dc2 : ∀ a : Addr, Decidable (H0 a = none) := fun a => Classical.propDecidable _
  let H1 : Hp := fun a => if a ∈ fp i then H a else if S a = none then (if H0 a = none then none else H a) else S a
  have h1i : ∀ p, p ∈ fp i → H1 p = H p := fun p hp => if_pos hp
  have h1z : ∀ a, H0 a ≠ none → H1 a = H a := fun a z => by
    show (if a ∈ fp i then H a else if S a = none then (if H0 a = none then none else H a) else S a) = H a
    rw [if_neg (fun m => z (hb a m).1)]
    by_cases c : S a = none
    · rw [if_pos c, if_neg z]
    · rw [if_neg c]
      cases w : S a with
      | none => exact absurd w c
      | some o' => exact (E.base.sb a o' w).symm
  have s01 : Keep H0 H1 := ⟨fun a o z n => by rw [h1z a (by rw [z]; simp)]; exact E.base.hp.kp a o z n, fun a ps z => by rw [h1z a (by rw [z]; simp)]; exact E.base.hp.tab a ps z⟩
  have s1 : Same H1 H := fun a o z => by
    have z : (if a ∈ fp i then H a else if S a = none then (if H0 a = none then none else H a) else S a) = some o := z
    split at z
    · exact z
    · split at z
      · split at z
        · cases z
        · exact z
      · exact E.base.sb a o z
  have sS : Same S H1 := fun a o z => by
    show (if a ∈ fp i then H a else if S a = none then (if H0 a = none then none else H a) else S a) = some o
    rw [if_neg (fun m => by rw [(hb a m).2.1] at z; cases z), if_neg (by rw [z]; simp)]
    exact z
  have off : ∀ j p, j ≠ i → p ∈ fp j → H1 p = none := fun j p ne hp => by
    show (if p ∈ fp i then H p else if S p = none then (if H0 p = none then none else H p) else S p) = none
    obtain ⟨a1, a2, a3, _⟩ := F.at_ j p hp
    rw [if_neg (fun z => ne (F.sep j i p hp z)), if_pos a1, if_pos a3]
  have hi : i < G.length := (List.getElem?_eq_some_iff.mp e).1
  have ext : ∀ S' H', Ext S H1 S' H' → Ext S0 H0 S' H' := fun S' H' x => ⟨E.base.st.trans x.st, s01.trans x.hp, fun a z1 z2 => x.nw a (E.base.nw a z1 z2) (ne_keep s01 z2), x.sb, fun P t => x.tb P ((E.base.tb P t).ext (Same.refl S) fun ps e => (h1z P t.at_).trans e)⟩
  refine ⟨H1, v0, ⟨⟨Same.refl S, s1.k, fun a z1 _ => z1, E.base.sb, fun P t => t.ext (Same.refl S) fun ps e => s1 P _ e⟩, by simp [E.len], fun j => if j = i then [] else fp j, fun j s es => ?_, ⟨fun j p hp => ?_, fun j => ?_, fun j l p h1 h2 => ?_⟩⟩, ext, s01, fun S' H' G' σ' E' e' => ?_⟩
  · rcases set_get es with ⟨rfl, rfl, _⟩ | ⟨ne, es⟩
    · exact ⟨some v0, e1, v0, rfl, ⟨O'.frz q sS fun p hp => Kp.eq (h1i p hp), rfl⟩, by simp⟩
    · rw [List.getElem?_map] at es
      cases es0 : G[j]? with
      | none => rw [es0] at es; cases es
      | some s0 =>
        rw [es0] at es
        cases es
        obtain ⟨o, e1, q⟩ := ok j s0 es0
        refine ⟨o, e1, ?_⟩
        simp only [if_neg (fun z => ne z.symm : ¬ j = i)]
        cases s0 with
        | bw R x => obtain ⟨v, eo, r, z⟩ := q; exact ⟨v, eo, ⟨r, s01⟩, z⟩
        | any => exact q
        | ow O x => exact q
        | val R x => exact q
  · replace hp : p ∈ (if j = i then [] else fp j) := hp
    rw [List.length_set]
    by_cases ne : j = i
    · rw [if_pos ne] at hp; cases hp
    · rw [if_neg ne] at hp
      obtain ⟨h1, h2, h3, h4⟩ := F.at_ j p hp
      exact ⟨h1, h2, off j p ne hp, by rw [List.length_map]; exact h4⟩
  · show (if j = i then [] else fp j).Nodup
    split
    · exact .nil
    · exact F.nd j
  · replace h1 : p ∈ (if j = i then [] else fp j) := h1
    replace h2 : p ∈ (if l = i then [] else fp l) := h2
    by_cases e1 : j = i
    · rw [if_pos e1] at h1; cases h1
    · rw [if_neg e1] at h1
      by_cases e2 : l = i
      · rw [if_pos e2] at h2; cases h2
      · rw [if_neg e2] at h2
        exact F.sep j l p h1 h2
  · obtain ⟨gp, ok', F'⟩ := E'.ex
    have hi' : i < G'.length := (List.getElem?_eq_some_iff.mp e').1
    have el := E'.len
    rw [List.length_set, List.length_map] at el
    have lenG : ((G'.map (lendG H0)).set i (.bw (rAt O'.fz v0) y)).length = G'.length := by rw [List.length_set, List.length_map]
    refine ⟨ext _ _ E'.base, el, fun j => if j = i then fp i else gp j, fun j s es => ?_, ⟨fun j p hp => ?_, fun j => ?_, fun j l p h1 h2 => ?_⟩⟩
    · by_cases ne : j = i
      · subst ne
        rw [e'] at es
        cases es
        obtain ⟨o2, f1, v, f2, ⟨f3, f4⟩, _⟩ := ok' j (.bw (rAt O'.fz v0) y) (List.getElem?_set_self (by rw [List.length_map]; exact hi'))
        subst f2 f4
        refine ⟨_, f1, v, rfl, ?_⟩
        simp only [if_true]
        exact O'.mono E'.base.st (fun p hp => ⟨fun o w nt => E'.base.hp.kp p o (by rw [h1i p hp]; exact w) nt⟩) q
      · obtain ⟨o, e1, q⟩ := ok' j (lendG H0 s) (by rw [List.getElem?_set_ne (fun z => ne z.symm), List.getElem?_map, es]; rfl)
        refine ⟨o, e1, ?_⟩
        simp only [if_neg ne]
        cases s with
        | bw R x => obtain ⟨v, eo, ⟨r, _⟩, z⟩ := q; exact ⟨v, eo, r, z⟩
        | any => exact q
        | ow O x => exact q
        | val R x => exact q
    · replace hp : p ∈ (if j = i then fp i else gp j) := hp
      by_cases ej : j = i
      · rw [if_pos ej] at hp
        subst ej
        have hne : H1 p ≠ none := by rw [h1i p hp]; exact (hb p hp).2.2
        exact ⟨E'.base.nw p (hb p hp).2.1 hne, ne_keep E'.base.hp hne, (hb p hp).1, hi'⟩
      · rw [if_neg ej] at hp
        obtain ⟨h1, h2, h3, h4⟩ := F'.at_ j p hp
        rw [lenG] at h4
        refine ⟨h1, h2, ?_, h4⟩
        cases w : H0 p with
        | none => rfl
        | some o => exact absurd h3 (s01.ne (by rw [w]; simp))
    · show (if j = i then fp i else gp j).Nodup
      split
      · exact F.nd i
      · exact F'.nd j
    · replace h1 : p ∈ (if j = i then fp i else gp j) := h1
      replace h2 : p ∈ (if l = i then fp i else gp l) := h2
      have mix : ∀ l, p ∈ fp i → p ∈ gp l → False := fun l z1 z2 => (hb p z1).2.2 (by rw [← h1i p z1]; exact (F'.at_ l p z2).2.2.1)
      by_cases e1 : j = i
      · rw [if_pos e1] at h1
        by_cases e2 : l = i
        · rw [e1, e2]
        · rw [if_neg e2] at h2
          exact (mix l h1 h2).elim
      · rw [if_neg e1] at h1
        by_cases e2 : l = i
        · rw [if_pos e2] at h2
          exact (mix j h2 h1).elim
        · rw [if_neg e2] at h2
          exact F'.sep j l p h1 h2
/-- for, over a thing of one's own that the body leaves as it is -/
theorem Run.lendForP {νl : Type} {O' : Orp γ} {y : γ} {mk : α → Item} {set : α → Cxt → Cxt} {g : TG} {is : List Nat} {body : List Stmt} {xs : List α} {bm : α → νl → Option (Out νl νl ρ)} {k : νl → Option (Out ν μ ρ)} (i : Nat) (Γl : νl → Cxt) (s0 : νl) (hsub : Sub G (Γl s0))
    (hi : ∀ S1 H1 v0, ItS X S1 H1 (((Γl s0).map (lendG H0)).set i (.bw (rAt O'.fz v0) y)) tg iter mk (some xs)) (hg : PG X tg g) (tk : TgK X.K g mk set is)
    (hb : ∀ S1 H1 v0 a s, Run X S1 H1 (set a (((Γl s).map (lendG H0)).set i (.bw (rAt O'.fz v0) y))) body (fun s => ((Γl s).map (lendG H0)).set i (.bw (rAt O'.fz v0) y)) (fun s => ((Γl s).map (lendG H0)).set i (.bw (rAt O'.fz v0) y)) O (bm a s)) (hk : ∀ s, Run X S0 H0 (Γl s) ss Γ Λ O (k s))
    (hp : PassesOwn (model X.prog X.w) X.A X.env X.xe) (hG : ∀ s, (Γl s)[i]? = some (.ow O' y) := by intro _; rfl) (hc : X.calm = true := by rfl) (hs : ∀ x, foldedSetIterable iter X.env x = pure x := by intro _; rfl) :
    Run X S0 H0 G (.For tg iter body [] pos :: ss) Γ Λ O ((forO (μ := μ) bm xs s0).bind (bnd k)) := .mk fun S H σ D o E e' gd => by
  obtain ⟨H1, v0, E1, ext, s01, back⟩ := (hsub.get E).lendTo (hG s0)
  refine wS_of (pss_cons (ps_for hp hc (wI_ok tg iter) hg (wS_ok body) hs) (wS_ok ss)) (hi S H1 v0 S H σ _ xs E1 rfl fun J S1 H2 X1 iok => ?_)
  have E1 := E1.mono X1
  refine ⟨fun i' m σ H => m = xs.length - i' ∧ i' ≤ xs.length ∧ ∃ S' s, EnvOk S H1 S' H (((Γl s).map (lendG H0)).set i (.bw (rAt O'.fz v0) y)) σ ∧ Same S1 S' ∧ (forO (μ := μ) bm (xs.drop i') s).bind (bnd k) = some o, ⟨xs.length, by simp, Nat.zero_le _, S1, s0, E1, Same.refl _, e'⟩, ?_⟩
  rintro i' m σ2 H3 ⟨rfl, hi, S2, s, E2, hs2, hm⟩
  have gd2 : ∀ {S'}, Same S S' → (∀ (x : ρ), o = .rt x → Good S H1 S' (ν := νl) (μ := νl) (fun s => ((Γl s).map (lendG H0)).set i (.bw (rAt O'.fz v0) y)) (fun s => ((Γl s).map (lendG H0)).set i (.bw (rAt O'.fz v0) y)) O D (.rt x)) := fun _ x e => by
    subst e
    exact fun v S' H' ps X r f => gd v S' H' ps (ext _ _ X) r (f.grow s01)
  by_cases hlt : i' < xs.length
  · obtain ⟨hgo, hy⟩ := iok.go S2 H3 hs2 E2.base.sb E2.base.hp i' xs[i'] (List.getElem?_eq_getElem hlt)
    rw [List.drop_eq_getElem_cons hlt] at hm
    obtain ⟨r, er, hm⟩ := bind_some_iff hm
    obtain ⟨ob, eb, er⟩ := bind_some_iff er
    refine .inr ⟨hgo, fun σ' H' => i' + 1 ≤ xs.length ∧ ∃ S' s, EnvOk S H1 S' H' (((Γl s).map (lendG H0)).set i (.bw (rAt O'.fz v0) y)) σ' ∧ Same S1 S' ∧ (forO (μ := μ) bm (xs.drop (i' + 1)) s).bind (bnd k) = some o, fun σ' H' h => ⟨xs.length - (i' + 1), by omega, rfl, h⟩, fun v H4 hyl => ?_⟩
    obtain ⟨S3, X3, iv⟩ := hy v H4 hyl
    refine tk S H1 S3 H4 _ _ v xs[i'] _ (E2.mono X3) iv fun σ' E4 _ => ?_
    refine hb S H1 v0 _ s S3 H4 σ' _ ob E4 eb ?_
    cases ob with
    | nx s' => exact fun S5 H5 σ5 E5 q5 => ⟨hlt, S5, s', E5, (hs2.trans X3.st).trans q5, by rw [show forO (μ := μ) bm (xs.drop (i' + 1)) s' = some r from er]; exact hm⟩
    | ct s' => exact fun S5 H5 σ5 E5 q5 => ⟨hlt, S5, s', E5, (hs2.trans X3.st).trans q5, by rw [show forO (μ := μ) bm (xs.drop (i' + 1)) s' = some r from er]; exact hm⟩
    | bk s' => cases er; exact fun S5 H5 σ5 E5 q5 => hk s' S5 H5 σ5 D o (back _ _ _ _ E5 (hG s')) hm (gd.mono (((X1.st.trans hs2).trans X3.st).trans q5))
    | rt x => cases er; cases hm; exact gd2 (Same.refl _) x rfl
  · have ei : xs.drop i' = [] := List.drop_eq_nil_of_le (by omega)
    rw [ei] at hm
    exact .inl ⟨iok.stop S2 H3 hs2 E2.base.sb E2.base.hp i' (by omega), hk s S2 H3 σ2 D o (back _ _ _ _ E2 (hG s)) hm (gd.mono (X1.st.trans hs2))⟩
/-! parts of a tuple of one's own changed -/
structure Foc (Os : Orps α) (k : Nat) (R : Rp β) (get : α → Option (List β)) (put : α → List β → α) : Prop where
  f : ∀ {S H : Hp} {vs : List V} {x : α} {ps : List Addr} {ys : List β}, Os.r S H vs x ps → ps.Nodup → get x = some ys → ∃ l us, vs[k]? = some (.ref l) ∧ l ∈ ps ∧ H l = some (.lst us) ∧ Paired (R.r S) us ys ∧ ys.length ≤ sizeLine ∧
    ∀ (H' : Hp) (us' : List V) (ys' : List β), (∀ p ∈ ps, p ≠ l → H' p = H p) → H' l = some (.lst us') → Paired (R.r S) us' ys' → ys'.length ≤ sizeLine → Os.r S H' vs (put x ys') ps
theorem foc1 {R : Rp β} : Foc (osOne (oL (oV R))) 0 R some (fun _ ys => ys) := ⟨fun {S H vs x ps ys} ⟨v, e, l, us, qs, ev, q, ep, els, hz⟩ nd hg => by
  subst e ev ep
  cases hg
  obtain ⟨pr, rfl⟩ := els.to
  exact ⟨l, us, rfl, List.mem_cons_self, q, pr, hz, fun H' us' ys' h1 h2 h3 h4 => ⟨_, rfl, l, us', [], rfl, h2, rfl, Els.of h3, h4⟩⟩⟩
theorem foc0 {R : Rp β} {Os : Orps α} : Foc (osCons (oL (oV R)) Os) 0 R (fun x => some x.1) (fun x ys => (ys, x.2)) := ⟨fun {S H vs x ps ys} ⟨v, ws, p1, p2, e, ⟨l, us, qs, ev, q, ep, els, hz⟩, t, ep2⟩ nd hg => by
  subst e ev ep ep2
  cases hg
  obtain ⟨pr, rfl⟩ := els.to
  have hl : l ∉ p2 := (List.nodup_cons.mp nd).1
  exact ⟨l, us, rfl, List.mem_cons_self, q, pr, hz, fun H' us' ys' h1 h2 h3 h4 => ⟨_, ws, [l], p2, rfl, ⟨l, us', [], rfl, h2, rfl, Els.of h3, h4⟩, Os.mono (Same.refl S) (fun p hp => Kp.eq (h1 p (List.mem_cons_of_mem _ hp) (fun z => hl (by rw [← z]; exact hp)))) t, rfl⟩⟩⟩
theorem focS {R : Rp β} {Os : Orps α} {O' : Orp γ} {k : Nat} {get : α → Option (List β)} {put : α → List β → α} (h : Foc Os k R get put) : Foc (osCons O' Os) (k + 1) R (fun x => get x.2) (fun x ys => (x.1, put x.2 ys)) := ⟨fun {S H vs x ps ys} ⟨v, ws, p1, p2, e, t1, t, ep2⟩ nd hg => by
  subst e ep2
  obtain ⟨nd1, nd2, dj⟩ := List.nodup_append.mp nd
  obtain ⟨l, us, h1, h2, h3, h4, h5, h6⟩ := h.f t nd2 hg
  exact ⟨l, us, h1, List.mem_append_right _ h2, h3, h4, h5, fun H' us' ys' g1 g2 g3 g4 => ⟨v, ws, p1, p2, rfl, O'.mono (Same.refl S) (fun p hp => Kp.eq (g1 p (List.mem_append_left _ hp) (fun z => dj p hp l h2 z))) t1, h6 H' us' ys' (fun p hp => g1 p (List.mem_append_right _ hp)) g2 g3 g4, rfl⟩⟩⟩
end
end Gc

namespace Gc
open PySem PySem.Spec PyProof.Rows L2
variable [Tn]
/-! ## 21. parts changed: statements; options of one's own; unions -/
section
variable {X : Cx} {S0 H0 : Hp} {G : Cxt} {α β γ ν μ ρ : Type} {a b e : Expr} {pos p pos' : Pos} {ss : List Stmt} {Γ : ν → Cxt} {Λ : μ → Cxt} {O : Orp ρ} {kj : Nat}
theorem EnvOk.focus {S H S1 H1 : Hp} {σ : L2.St} {Os : Orps α} {x : α} {get : α → Option (List β)} {put : α → List β → α} {R : Rp β} {k i : Nat} {v : V} {ys : List β} (F : Foc Os k R get put) (E : EnvOk S0 H0 S H G σ) (X1 : Ext S H S1 H1) (hG : G[i]? = some (.ow (oT Os) x)) (ev : σ[i]? = some (some v)) (hg : get x = some ys) :
    ∃ t vs l us, v = .ref t ∧ S t = some (.tup vs) ∧ vs[k]? = some (.ref l) ∧ H1 l = some (.lst us) ∧ Paired (R.r S1) us ys ∧ ys.length ≤ sizeLine ∧
      (∀ us' zs, Paired (R.r S1) us' zs → zs.length ≤ sizeLine → EnvOk S0 H0 S1 (upd H1 l (.lst us')) (G.set i (.ow (oT Os) (put x zs))) σ) := by
  obtain ⟨o, ps, e1, ⟨v', e2, t, vs, e3, q, r⟩, nd, fr⟩ := E.get hG
  rw [e1] at ev
  cases ev
  cases e2
  have r1 : Os.r S1 H1 vs x ps := Os.mono X1.st (fun p hp => Same.at_ne X1.hp (fr p hp).2.1) r
  obtain ⟨l, us, h1, h2, h3, h4, h5, h6⟩ := F.f r1 nd hg
  have s1l : S1 l = none := X1.nw l (fr l h2).1 (fr l h2).2.1
  refine ⟨t, vs, l, us, e3, q, h1, h3, h4, h5, fun us' zs pr hz => ?_⟩
  refine E.mutX X1 hG (fun w ps' e8 r8 nd8 fr8 => ?_) (Same.refl _) (fun _ h _ => h) (fun a oo es => by rw [upd_ne (ne_of_none es s1l)]; exact X1.sb a oo es)
  rw [e1] at e8
  cases e8
  obtain ⟨t', vs', e9, q9, r9⟩ := r8
  rw [e3] at e9
  cases e9
  rw [X1.st _ _ q] at q9
  cases q9
  obtain ⟨l', us2, g1, g2, g3, g4, g5, g6⟩ := F.f r9 nd8 hg
  rw [h1] at g1
  cases g1
  refine ⟨ps', ⟨t, vs, e3, X1.st _ _ q, g6 (upd H1 l (.lst us')) us' zs (fun p hp ne => upd_ne ne) upd_same pr hz⟩, nd8, fun p hp => ?_, fun a oo na ea => ?_⟩
  · obtain ⟨_, _, _, b1, b2⟩ := fr8 p hp
    refine ⟨.inl hp, b1, ?_⟩
    by_cases c : p = l
    · rw [c, upd_same]; simp
    · rw [upd_ne c]; exact b2
  · rw [upd_ne (fun ep => na (by rw [ep]; exact g2))]; exact ea
/-- x[k].append(e) -/
theorem Run.focApp {Os : Orps α} {x0 : α} {get : α → Option (List β)} {put : α → List β → α} {R : Rp β} {z : β} {k : α → Option (Out ν μ ρ)} {apos cpos spos : Pos} (i kk : Nat) (F : Foc Os kk R get put) {x : Str} (he : EvV X S0 H0 G e R (some z)) (hk : ∀ y, Run X S0 H0 (G.set i (.ow (oT Os) y)) ss Γ Λ O (k y))
    (hG : G[i]? = some (.ow (oT Os) x0) := by rfl) (hN : X.N[i]? = some x := by rfl) (hv : Vis X.env.scope x := by first | exact Or.inl rfl | exact Or.inr (Or.inl rfl) | exact Or.inr (Or.inr rfl))
    (hs : swapsWith (.Call (.Attribute (.Subscript (.Name x pos') (.Constant (.int (kk : Int)) kj p) spos) "append" apos) [e] [] cpos) none pos.line X.env = pure false := by rfl)
    (hbase : attributeBase (.Subscript (.Name x pos') (.Constant (.int (kk : Int)) kj p) spos) "append" X.env (eval (.Subscript (.Name x pos') (.Constant (.int (kk : Int)) kj p) spos) X.env) = eval (.Subscript (.Name x pos') (.Constant (.int (kk : Int)) kj p) spos) X.env := by rfl)
    (hfew : ((backTo cpos (starEach [e] X.env)).all (fun x => !x.1) && (backToKw cpos (keywordEach [] X.env)).all (fun x => x.1.isSome)
      && decide (([e] : List Expr).length + ([] : List Keyword).length + (if ([] : List Keyword).isEmpty then 0 else 1) < 30)) = true := by rfl)
    (hline : (apos.endLine == cpos.line) = true := by rfl) (hst : starEach [e] X.env = (false, eval e X.env) :: starEach [] X.env := by rfl) (hplain : (backTo cpos (starEach [] X.env)).any (·.1) = false := by rfl)
    (hd : (x == ("__debug__" : Str)) = false := by decide) (hcd : (x == ("__classdict__" : Str)) = false := by decide) :
    Run X S0 H0 G (.Expr (.Call (.Attribute (.Subscript (.Name x pos') (.Constant (.int (kk : Int)) kj p) spos) "append" apos) [e] [] cpos) pos :: ss) Γ Λ O (((get x0).bind fun ys => (appO ys z).bind fun zs => some (put x0 zs)).bind k) := .mk fun S H σ D o E e' g => by
  obtain ⟨y, e1, e'⟩ := bind_some_iff e'
  obtain ⟨ys, e2, e1⟩ := bind_some_iff e1
  obtain ⟨zs, e3, e1⟩ := bind_some_iff e1
  cases e1
  unfold appO at e3
  split at e3
  · next hlen =>
    cases e3
    obtain ⟨o1, ps, f1, ⟨v, f2, r⟩, nd, fr⟩ := E.get hG
    subst f2
    obtain ⟨t, vs, l, us, rfl, q, h1, h3, h4, h5, h6⟩ := E.focus F (Ext.refl E.base.sb) hG f1 e2
    refine wS_of (pss_cons (ps_expr (pe_bm PySem.F.plainAttrs_list PySem.F.slot_list_append PySem.F.type_list_append mt_append (pe_ix ix_tup (pe_var hN hv hd hcd) pe_int (fun _ _ => rfl)) (pa_cons (wE_ok e) pa_nil hst) hbase hfew hline hst hplain) hs) (wS_ok ss)) ?_
    refine ⟨.ref t, f1, t, vs, (kk : Int), .ref l, rfl, rfl, .inl (.inl (E.base.sb _ _ q)), atI_nat h1, .inl ⟨rfl, _, .inl (.inl h3)⟩, he S H σ _ z E rfl fun u S1 H1 rs X1 r1 f1' => ?_⟩
    obtain ⟨t', vs', l', us', e9, q', g1, g3, g4, g5, g6⟩ := E.focus F X1 hG f1 e2
    cases e9
    rw [q] at q'
    cases q'
    rw [h1] at g1
    cases g1
    refine ⟨l, us', u, rfl, rfl, g3, by rw [paired_len g4]; exact hlen, ?_⟩
    exact hk (put x0 (ys ++ [z])) S1 _ σ D o (g6 (us' ++ [u]) (ys ++ [z]) (paired_app g4 (.cons r1.1 .nil)) (by rw [List.length_append]; exact hlen)) e' (g.mono X1.st)
  · cases e3
/-- x[k][j] = e -/
theorem Run.focSet {Os : Orps α} {x0 : α} {get : α → Option (List β)} {put : α → List β → α} {R : Rp β} {z : β} {j : Int} {k : α → Option (Out ν μ ρ)} {spos tpos : Pos} (i kk : Nat) (F : Foc Os kk R get put) {x : Str} (he : EvV X S0 H0 G e R (some z)) (hj : EvB X S0 H0 G b rInt (some j)) (hk : ∀ y, Run X S0 H0 (G.set i (.ow (oT Os) y)) ss Γ Λ O (k y))
    (hG : G[i]? = some (.ow (oT Os) x0) := by rfl) (hN : X.N[i]? = some x := by rfl) (hv : Vis X.env.scope x := by first | exact Or.inl rfl | exact Or.inr (Or.inl rfl) | exact Or.inr (Or.inr rfl))
    (hs : swapsWithSole [.Subscript (.Subscript (.Name x pos') (.Constant (.int (kk : Int)) kj p) spos) b tpos] e pos.line X.env = pure false := by rfl) (hw : swappedStores [.Subscript (.Subscript (.Name x pos') (.Constant (.int (kk : Int)) kj p) spos) b tpos] e X.env = pure none := by rfl)
    (h1 : (assignEach [.Subscript (.Subscript (.Name x pos') (.Constant (.int (kk : Int)) kj p) spos) b tpos] X.env).map (·.2) = [assign (.Subscript (.Subscript (.Name x pos') (.Constant (.int (kk : Int)) kj p) spos) b tpos) X.env] := by rfl)
    (ha : ∀ v, assign (.Subscript (.Subscript (.Name x pos') (.Constant (.int (kk : Int)) kj p) spos) b tpos) X.env v = (do
      let ov ← PySem.holding [v] (eval (.Subscript (.Name x pos') (.Constant (.int (kk : Int)) kj p) spos) X.env)
      let iv ← PySem.holding [v, ov] (eval b X.env)
      standAt tpos
      PySem.holding [v, ov, iv] (setItem ov iv v)
      PySem.release [v, ov, iv] []) := by intro _; rfl)
    (hd : (x == ("__debug__" : Str)) = false := by decide) (hcd : (x == ("__classdict__" : Str)) = false := by decide) :
    Run X S0 H0 G (.Assign [.Subscript (.Subscript (.Name x pos') (.Constant (.int (kk : Int)) kj p) spos) b tpos] e pos :: ss) Γ Λ O (((get x0).bind fun ys => (setO ys j z).bind fun zs => some (put x0 zs)).bind k) := .mk fun S H σ D o E e' g => by
  obtain ⟨y, e1, e'⟩ := bind_some_iff e'
  obtain ⟨ys, e2, e1⟩ := bind_some_iff e1
  obtain ⟨zs, e3, e1⟩ := bind_some_iff e1
  cases e1
  obtain ⟨jn, e4, e3⟩ := bind_some_iff e3
  cases e3
  obtain ⟨o1, ps, f1, ⟨v, f2, r⟩, nd, fr⟩ := E.get hG
  subst f2
  refine wS_of (pss_cons (ps_asg (wE_ok e) (pg_sub (pe_ix ix_tup (pe_var hN hv hd hcd) pe_int (fun _ _ => rfl)) (wE_ok b) set_list ha) hs hw h1) (wS_ok ss)) (he S H σ _ z E rfl fun u S1 H1 rs X1 r1 f1' => ?_)
  obtain ⟨t, vs, l, us, rfl, q, g1, g3, g4, g5, g6⟩ := E.focus F X1 hG f1 e2
  refine ⟨.ref t, f1, t, vs, (kk : Int), .ref l, rfl, rfl, .inl (.inl (X1.sb _ _ (X1.st _ _ q))), atI_nat g1, hj S1 H1 σ _ j (E.mono X1) rfl fun w S2 H2 X2 r2 => ?_⟩
  have X12 := X1.trans X2
  obtain ⟨t', vs', l', us', e9, q', k1, k3, k4, k5, k6⟩ := E.focus F X12 hG f1 e2
  cases e9
  rw [q] at q'
  cases q'
  rw [g1] at k1
  cases k1
  refine ⟨l, us', j, jn, rfl, r2, k3, by rw [paired_len k4]; exact e4, ?_⟩
  exact hk (put x0 (ys.set jn z)) S2 _ σ D o (k6 (us'.set jn u) (ys.set jn z) (paired_set (R.mono X2.st.k r1.1) jn k4) (by rw [List.length_set]; exact k5)) e' (g.mono X12.st)
/-- one's own, lent -/
theorem EvB.oG {O' : Orp α} {R : Rp α} {y : α} (i : Nat) {x : Str} (hG : G[i]? = some (.ow O' y) := by rfl) (hN : X.N[i]? = some x := by rfl) (hv : Vis X.env.scope x := by first | exact Or.inl rfl | exact Or.inr (Or.inl rfl) | exact Or.inr (Or.inr rfl)) (hd : (x == ("__debug__" : Str)) = false := by decide) (hcd : (x == ("__classdict__" : Str)) = false := by decide) (hR : O'.fz = R := by rfl) :
    EvB X S0 H0 G (.Name x pos) R (some y) := .mk fun S H σ Q z E hm k => by
  cases hm
  subst hR
  obtain ⟨o, ps, e1, ⟨v, e2, r⟩, nd, fr⟩ := E.get hG
  subst e2
  exact wE_of (pe_var hN hv hd hcd) ⟨v, e1, k v S H (Ext.refl E.base.sb) (O'.frz r E.base.sb fun _ _ => Kp.eq rfl)⟩
/-! options of one's own -/
def oOpt (O : Orp α) : Orp (Option α) where
  r := fun S H v x ps => match x with | none => v = .non ∧ ps = [] | some y => O.r S H v y ps ∧ v ≠ .non
  mono := fun {S H S' H' v x ps} h k q => by
    cases x with
    | none => exact q
    | some y => exact ⟨O.mono h k q.1, q.2⟩
  fz := rOpt O.fz
  frz := fun {S H S' v x ps} q h k => by
    cases x with
    | none => exact q.1
    | some y => exact ⟨O.frz q.1 h k, q.2⟩
class NonO (O : Orp α) : Prop where
  nn : ∀ {S H : Hp} {v : V} {x : α} {ps : List Addr}, O.r S H v x ps → v ≠ .non
instance {O : Orp α} : NonO (oL O) := ⟨fun ⟨p, vs, qs, e, _⟩ => by rw [e]; simp⟩
instance {Os : Orps α} : NonO (oT Os) := ⟨fun ⟨p, vs, e, _⟩ => by rw [e]; simp⟩
theorem EvO.someP {O' : Orp α} [NonO O'] {x : α} (h : EvO X S0 H0 G a O' (some x)) : EvO X S0 H0 G a (oOpt O') (some (some x)) := .mk fun S H σ Q z E hm k => by
  cases hm
  exact h S H σ Q _ E rfl fun v S' H' ps X' r f => k v S' H' ps X' ⟨r, NonO.nn r⟩ f
theorem EvO.nonP {O' : Orp α} {j} : EvO X S0 H0 G (.Constant .none j pos) (oOpt O') (some none) := .mk fun S H σ Q z E hm k => by
  cases hm; exact wE_of pe_non (k _ S H [] (Ext.refl E.base.sb) ⟨rfl, rfl⟩ Fresh.nil)
/-- it is there -/
theorem Run.ungetP {O' : Orp α} {y : Option α} {k : α → Option (Out ν μ ρ)} (i : Nat) (hk : ∀ x, Run X S0 H0 (G.set i (.ow O' x)) ss Γ Λ O (k x)) (hG : G[i]? = some (.ow (oOpt O') y) := by rfl) : Run X S0 H0 G ss Γ Λ O (y.bind k) := .mk fun S H σ D o E e' g => by
  obtain ⟨x, e1, e'⟩ := bind_some_iff e'
  subst e1
  exact hk x S H σ D o (E.conv (s' := .ow O' x) hG fun o ps ⟨v, h1, h2⟩ => ⟨v, h1, h2.1⟩) e' g
/-! unions -/
def rOr (R1 : Rp α) (R2 : Rp β) : Rp (α ⊕ β) := ⟨fun S v x => match x with | .inl a => R1.r S v a | .inr b => R2.r S v b, fun {S S' v x} h q => by
  cases x with
  | inl a => exact R1.mono h q
  | inr b => exact R2.mono h q⟩
def oOr (O1 : Orp α) (O2 : Orp β) : Orp (α ⊕ β) where
  r := fun S H v x ps => match x with | .inl a => O1.r S H v a ps | .inr b => O2.r S H v b ps
  mono := fun {S H S' H' v x ps} h k q => by
    cases x with
    | inl a => exact O1.mono h k q
    | inr b => exact O2.mono h k q
  fz := rOr O1.fz O2.fz
  frz := fun {S H S' v x ps} q h k => by
    cases x with
    | inl a => exact O1.frz q h k
    | inr b => exact O2.frz q h k
theorem EvO.inlP {O1 : Orp α} {O2 : Orp β} {x : α} (h : EvO X S0 H0 G a O1 (some x)) : EvO X S0 H0 G a (oOr O1 O2) (some (.inl x)) := .mk fun S H σ Q z E hm k => by
  cases hm; exact h S H σ Q _ E rfl fun v S' H' ps X' r f => k v S' H' ps X' r f
theorem EvO.inrP {O1 : Orp α} {O2 : Orp β} {x : β} (h : EvO X S0 H0 G a O2 (some x)) : EvO X S0 H0 G a (oOr O1 O2) (some (.inr x)) := .mk fun S H σ Q z E hm k => by
  cases hm; exact h S H σ Q _ E rfl fun v S' H' ps X' r f => k v S' H' ps X' r f
theorem EvV.inlP {R1 : Rp α} {R2 : Rp β} {x : α} (h : EvV X S0 H0 G a R1 (some x)) : EvV X S0 H0 G a (rOr R1 R2) (some (.inl x)) := .mk fun S H σ Q z E hm k => by
  cases hm; exact h S H σ Q _ E rfl fun v S' H' ps X' r f => k v S' H' ps X' r f
theorem EvV.inrP {R1 : Rp α} {R2 : Rp β} {x : β} (h : EvV X S0 H0 G a R2 (some x)) : EvV X S0 H0 G a (rOr R1 R2) (some (.inr x)) := .mk fun S H σ Q z E hm k => by
  cases hm; exact h S H σ Q _ E rfl fun v S' H' ps X' r f => k v S' H' ps X' r f
theorem EvB.inlP {R1 : Rp α} {R2 : Rp β} {x : α} (h : EvB X S0 H0 G a R1 (some x)) : EvB X S0 H0 G a (rOr R1 R2) (some (.inl x)) := .mk fun S H σ Q z E hm k => by
  cases hm; exact h S H σ Q _ E rfl fun v S' H' X' r => k v S' H' X' r
theorem EvB.inrP {R1 : Rp α} {R2 : Rp β} {x : β} (h : EvB X S0 H0 G a R2 (some x)) : EvB X S0 H0 G a (rOr R1 R2) (some (.inr x)) := .mk fun S H σ Q z E hm k => by
  cases hm; exact h S H σ Q _ E rfl fun v S' H' X' r => k v S' H' X' r
def getL {α β : Type} : α ⊕ β → Option α
  | .inl a => some a
  | .inr _ => none
def getR {α β : Type} : α ⊕ β → Option β
  | .inl _ => none
  | .inr b => some b
theorem EvB.getLP {R1 : Rp α} {R2 : Rp β} {o : α ⊕ β} (h : EvB X S0 H0 G a (rOr R1 R2) (some o)) : EvB X S0 H0 G a R1 (getL o) := .mk fun S H σ Q z E hm k => by
  cases o with
  | inl x => cases hm; exact h S H σ Q _ E rfl fun v S' H' X' r => k v S' H' X' r
  | inr x => cases hm
theorem EvB.getRP {R1 : Rp α} {R2 : Rp β} {o : α ⊕ β} (h : EvB X S0 H0 G a (rOr R1 R2) (some o)) : EvB X S0 H0 G a R2 (getR o) := .mk fun S H σ Q z E hm k => by
  cases o with
  | inl x => cases hm
  | inr x => cases hm; exact h S H σ Q _ E rfl fun v S' H' X' r => k v S' H' X' r
theorem EvV.getLP {R1 : Rp α} {R2 : Rp β} {o : α ⊕ β} (h : EvV X S0 H0 G a (rOr R1 R2) (some o)) : EvV X S0 H0 G a R1 (getL o) := .mk fun S H σ Q z E hm k => by
  cases o with
  | inl x => cases hm; exact h S H σ Q _ E rfl fun v S' H' ps X' r f => k v S' H' ps X' r f
  | inr x => cases hm
theorem EvV.getRP {R1 : Rp α} {R2 : Rp β} {o : α ⊕ β} (h : EvV X S0 H0 G a (rOr R1 R2) (some o)) : EvV X S0 H0 G a R2 (getR o) := .mk fun S H σ Q z E hm k => by
  cases o with
  | inl x => cases hm
  | inr x => cases hm; exact h S H σ Q _ E rfl fun v S' H' ps X' r f => k v S' H' ps X' r f
theorem EvB.isiUP {R1 : Rp α} {R2 : Rp β} {x : α ⊕ β} {T1 T2 : String} [L1 : TyR X.K R1 T1] [L2 : TyR X.K R2 T2] (n : Str) (U : String) (r1 r2 : Bool) {p1 : Pos} (hm : X.mg "isinstance" = none) (hmT : X.mg n = none) (hv : bootBuiltins n = some (.type U)) (ha : EvB X S0 H0 G a (rOr R1 R2) (some x)) (hk1 : kitB T1 U = some r1 := by rfl) (hk2 : kitB T2 U = some r2 := by rfl) (hg : Gl X "isinstance" := by rfl) (hgT : Gl X n := by rfl)
    (he : starEach [a, .Name n p1] X.env = (false, eval a X.env) :: starEach [.Name n p1] X.env := by rfl) (he2 : starEach [.Name n p1] X.env = (false, eval (.Name n p1) X.env) :: starEach [] X.env := by rfl) (hpl : (backTo pos (starEach [.Name n p1] X.env)).any (·.1) = false := by rfl)
    (hn : n ≠ "__name__" := by decide) (hd : (n == ("__debug__" : Str)) = false := by decide) :
    EvB X S0 H0 G (.Call (.Name "isinstance" p) [a, .Name n p1] [] pos) rBool (some (if x.isLeft = true then r1 else r2)) := .mk fun S H σ Q z E hm' k => by
  cases hm'
  refine wE_of (pe_callB call_isi hg hm boot_isi (pa_cons (wE_ok a) (pa_cons (pe_bltn (v := .ty U) (u := .type U) hgT hmT hv rfl hn hd) pa_nil he2) he) (by decide) (by decide) he hpl) (ha S H σ _ x E rfl fun v S1 H1 X1 r => ?_)
  cases x with
  | inl y => exact ⟨v, .ty U, .type T1, .type U, r1, rfl, .ty U, L1.ty r, kit_ty hk1, k _ S1 H1 X1 rfl⟩
  | inr y => exact ⟨v, .ty U, .type T2, .type U, r2, rfl, .ty U, L2.ty r, kit_ty hk2, k _ S1 H1 X1 rfl⟩
theorem focOr {R : Rp β} {O1 : Orp α} : Foc (osOne (oOr O1 (oL (oV R)))) 0 R getR (fun _ ys => .inr ys) := ⟨fun {S H vs x ps ys} ⟨v, e, h⟩ nd hg => by
  cases x with
  | inl y => cases hg
  | inr y =>
    obtain ⟨l, us, qs, ev, q, ep, els, hz⟩ := h
    subst e ev ep
    cases hg
    obtain ⟨pr, rfl⟩ := els.to
    exact ⟨l, us, rfl, List.mem_cons_self, q, pr, hz, fun H' us' ys' h1 h2 h3 h4 => ⟨_, rfl, l, us', [], rfl, h2, rfl, Els.of h3, h4⟩⟩⟩
instance datIL {K : PySem.W.Frag} {R : Rp α} [D : Dat K R] : Dat K (rOr rInt (rL R)) where
  to := fun x => match x with | .inl n => (datInt (K := K)).to n | .inr ys => (datL (K := K) (R := R)).to ys
  d := (datL (K := K) (R := R)).d
  dp := fun {H v x} h => by
    cases x with
    | inl n => exact (datInt (K := K)).dp h
    | inr ys => exact (datL (K := K) (R := R)).dp h
  inj := fun x y => by
    cases x with
    | inl n => cases y with
      | inl m => exact ((datInt (K := K)).inj n m).trans ⟨fun h => by rw [h], fun h => by cases h; rfl⟩
      | inr ys => exact ⟨fun h => by
          have h : PyData.eqv (.int n) (.list (ys.map (Dat.to K R))) = true := h
          simp [PyData.eqv] at h, fun h => by cases h⟩
    | inr xs => cases y with
      | inl m => exact ⟨fun h => by
          have h : PyData.eqv (.list (xs.map (Dat.to K R))) (.int m) = true := h
          simp [PyData.eqv] at h, fun h => by cases h⟩
      | inr ys => exact ((datL (K := K) (R := R)).inj xs ys).trans ⟨fun h => by rw [h], fun h => by cases h; rfl⟩
  lay := fun {H v x} h => by
    cases x with
    | inl n => exact (datInt (K := K)).lay (H := H) (v := v) h
    | inr ys => exact (datL (K := K) (R := R)).lay (H := H) (v := v) h
  dep := fun x => by
    cases x with
    | inl n => exact Nat.le_trans ((datInt (K := K)).dep n) (Nat.zero_le _)
    | inr ys => exact (datL (K := K) (R := R)).dep ys
  nn := fun x => by
    cases x with
    | inl n => exact (datInt (K := K)).nn n
    | inr ys => exact (datL (K := K) (R := R)).nn ys
/-! is True -/
theorem Cm.isBP {x y : Bool} (ha : EvB X S0 H0 G a rBool (some x)) (hb : EvB X S0 H0 G b rBool (some y)) (hm : behindInMarks .Is b = false := by with_unfolding_all rfl) : Cm X S0 H0 G (.Compare a [.Is] [b] pos) (decide (x = y)) :=
  Cm.two ha hb op_is_bl hm fun S H Q v w sb r1 r2 k => ⟨x, y, r1, r2, k⟩
theorem Cm.notBP {x y : Bool} (ha : EvB X S0 H0 G a rBool (some x)) (hb : EvB X S0 H0 G b rBool (some y)) (hm : behindInMarks .IsNot b = false := by with_unfolding_all rfl) : Cm X S0 H0 G (.Compare a [.IsNot] [b] pos) (!decide (x = y)) :=
  Cm.two ha hb op_isnot_bl hm fun S H Q v w sb r1 r2 k => ⟨x, y, r1, r2, k⟩
end
end Gc

namespace Gc
open PySem PySem.Spec PyProof.Rows L2
variable [Tn]
/-! ## 22. a list and the script together; parts handed back; walks over what is lent -/
theorem op_catS {X : Cx} : OpR X (binaryOp .Add) (fun x y H Q => ∃ l b us ws, x = .ref l ∧ y = .ref b ∧ SqL X.K H l us ∧ SqL X.K H b ws ∧ us.length + ws.length ≤ sizeLine ∧ ∀ p, H p = none → Q (.ref p) (upd H p (.lst (us ++ ws)))) := by
  rintro pins s σ H x y v u Q I rx ry ⟨l, b, us, ws, rfl, rfl, hl, hb, hz, q⟩
  cases rx; cases ry
  obtain ⟨its, r, pl, _⟩ := I.list hl
  obtain ⟨its2, r2, pl2, _⟩ := I.list hb
  obtain ⟨⟨c1, d1, a1, s1⟩, ho, hc, n, hd⟩ := pl.isList
  obtain ⟨⟨c2, d2, a2, s2⟩, ho2, hc2, n2, hd2⟩ := pl2.isList
  simp only at hc hd hc2 hd2
  subst hc hd hc2 hd2
  have e : its.toArray ++ its2.toArray = (its ++ its2).toArray := by simp
  refine concat_meets ⟨_, ho, rfl⟩ ⟨_, ho2, rfl⟩ noFill_list_add seq_list_add PySem.F.slot_list_add PySem.F.entry_list_add (PySem.F.args_list_add_2 _ _) (list_addW l b its.toArray its2.toArray n n2 _ _ _ _ (by
    have h1 := r.length; have h2 := r2.length; simp only [List.size_toArray]; omega)) ⟨ho, ho2, ?_⟩
  rw [e]
  exact ⟨.ref _, _, I.lnew (t' := s.toks) (r.append r2) (by rw [List.length_append]; omega), rfl, q _ I.fresh⟩
section
variable {X : Cx} {S0 H0 : Hp} {G : Cxt} {α β γ ν μ ρ : Type} {a b e tg : Expr} {pos p pos' : Pos} {ss : List Stmt} {Γ : ν → Cxt} {Λ : μ → Cxt} {O : Orp ρ}
theorem EvO.catSP {RL1 RL2 : Rp (List α)} {R : Rp α} [Flat R] [L1 : SqRp X.K RL1 R] [L2 : SqRp X.K RL2 R] {xs ys : List α} (ha : EvB X S0 H0 G a RL1 (some xs)) (hb : EvB X S0 H0 G b RL2 (some ys)) : EvO X S0 H0 G (.BinOp a .Add b pos) (oL (oV R)) (catO xs ys) := .mk fun S H σ Q zs E hm k => by
  unfold catO at hm
  split at hm
  · next hc =>
    cases hm
    refine wE_of (pe_op op_catS (wE_ok a) (wE_ok b)) (ha S H σ _ xs E rfl fun v S1 H1 X1 r1 => hb S1 H1 σ _ ys (E.mono X1) rfl fun w S2 H2 X2 r2 => ?_)
    obtain ⟨l, vs, rfl, q1, p1, l1⟩ := L1.sq (RL1.mono X2.hp r1)
    obtain ⟨m, ws, rfl, q2, p2, l2⟩ := L2.sq r2
    refine ⟨l, m, vs, ws, rfl, rfl, q1, q2, by rw [paired_len p1, paired_len p2]; exact hc, fun p hp => ?_⟩
    exact EvO.newL (X1.trans X2) hp (paired_app (Paired.map_r (fun _ _ h => Flat.fl h) p1) (Paired.map_r (fun _ _ h => Flat.fl h) p2)) (by rw [List.length_append]; exact hc) k
  · cases hm
theorem ItS.lstHF {RL : Rp (List α)} {R : Rp α} [Flat R] {xs : List α} [L : SqRp X.K RL R] (h : EvH X S0 H0 G e RL (some xs)) : ItS X S0 H0 G tg e (fun x => .one (.val R x)) (some xs) := .mk fun S H σ Rk ys E hm k => by
  cases hm
  refine wI_of (pi_list (wE_ok e)) (h S H σ _ xs E rfl fun v S1 H1 X1 r1 => ?_)
  obtain ⟨t, vs, rfl, q, pr, hl⟩ := L.sq r1
  have E2 := E.mono X1
  exact ⟨t, rfl, ⟨vs, Keep.seq E2.base.hp q⟩, k _ S1 H1 X1 (itl_ok hl (paired_len pr) (fun S' H' _ _ h3 => Keep.seq h3 q) fun i x v S' H' _ _ _ e1 e2 => Flat.fl (R := R) (paired_get2 pr e2 e1))⟩
theorem EvTs.oneP {O' : Orp α} {x : α} (h : EvO X S0 H0 G e O' (some x)) (he : starEach [e] X.env = (false, eval e X.env) :: starEach [] X.env := by rfl) : EvTs X S0 H0 G [e] (osOne O') (some x) := EvTs.one h he
theorem EvO.lendG {O' : Orp α} {R : Rp α} {m : Option α} (h : EvO X S0 H0 G e O' m) (hR : O'.fz = R := by rfl) : EvB X S0 H0 G e R m := hR ▸ EvO.lend h
theorem EvO.stayG {O' : Orp α} {R : Rp α} {m : Option α} (h : EvO X S0 H0 G e O' m) (hR : O'.fz = R := by rfl) : EvV X S0 H0 G e R m := hR ▸ EvO.stay h
instance datStr {K : PySem.W.Frag} : Dat K rStr where
  to := .str
  d := 0
  dp := fun h => by cases h.1; exact .str _
  inj := fun x y => by simp [PyData.eqv]
  lay := fun h => by rw [PyData.canLay0]; exact h.2
  dep := fun x => by simp [PyData.depth]
  nn := fun x => by simp [PyData.eqv]
instance {R1 : Rp α} {R2 : Rp β} [N1 : NonN R1] [N2 : NonN R2] : NonN (rOr R1 R2) := ⟨fun {H v x} h => by
  cases x with
  | inl a => exact N1.nn h
  | inr b => exact N2.nn h⟩
/-- return (x, e), x one's own -/
theorem Run.retTup2 {O1 : Orp α} {O2 : Orp β} {x : α} {y : β} {x1} {xn : Str} {O : Orp (α × β)} (i : Nat) (he : EvO X S0 H0 G e O2 (some y)) (hG : G[i]? = some (.ow O1 x) := by rfl) (hN : X.N[i]? = some xn := by rfl) (hv : Vis X.env.scope xn := by first | exact Or.inl rfl | exact Or.inr (Or.inl rfl) | exact Or.inr (Or.inr rfl))
    (hO : oT (osCons O1 (osOne O2)) = O := by rfl)
    (h1 : starEach [.Name xn p, e] X.env = (false, eval (.Name xn p) X.env) :: starEach [e] X.env := by rfl) (h2 : starEach [e] X.env = (false, eval e X.env) :: starEach [] X.env := by rfl)
    (hd : (xn == ("__debug__" : Str)) = false := by decide) (hcd : (xn == ("__classdict__" : Str)) = false := by decide) :
    Run X S0 H0 G (.Return (some (.Tuple [.Name xn p, e] x1 pos')) pos :: ss) Γ Λ O (some (.rt (x, y))) := .mk fun S H σ D o E e' g => by
  cases e'
  subst hO
  obtain ⟨o, ps, e1, ⟨v, e2, r⟩, nd, fr⟩ := E.get hG
  subst e2
  refine wS_of (pss_cons (ps_ret (pe_tup (pa_cons (pe_var hN hv hd hcd) (pa_cons (wE_ok e) pa_nil h2) h1))) (wS_ok ss)) ?_
  refine ⟨v, e1, he S H σ _ y E rfl fun w S1 H1 qs X1 r1 f1 => ⟨(by decide : 2 ≤ sizeLine), fun t ht => ?_⟩⟩
  have X2 : Ext S1 H1 (upd S1 t (.tup [v, w])) (upd H1 t (.tup [v, w])) := Ext.val X1.sb ht
  have X3 := X1.trans X2
  have r' := O1.mono X1.st (fun p hp => Same.at_ne X1.hp (fr p hp).2.1) r
  have kp : ∀ p ∈ ps, S1 p = none ∧ H1 p ≠ none := fun p hp => ⟨X1.nw p (fr p hp).1 (fr p hp).2.1, ne_keep X1.hp (fr p hp).2.1⟩
  refine g (.ref t) _ _ (ps ++ qs) (E.base.trans X3) ⟨t, _, rfl, upd_same, v, [w], ps, qs, rfl, O1.mono X2.st (fun p hp => Same.at_ne X2.hp (kp p hp).2) r', ⟨w, rfl, O2.mono X2.st (fun p hp => Same.at_ne X2.hp (f1.2 p hp).2.2) r1⟩, rfl⟩ ⟨List.nodup_append.mpr ⟨nd, f1.1, fun a ha b hb ep => ?_⟩, fun q hq => ?_⟩
  · subst ep
    exact (fr a ha).2.1 (f1.2 a hb).1
  · rcases List.mem_append.mp hq with hq | hq
    · obtain ⟨a1, a2, a3⟩ := fr q hq
      obtain ⟨b1, b2⟩ := kp q hq
      exact ⟨a3, X2.nw q b1 b2, ne_keep X2.hp b2⟩
    · obtain ⟨a1, a2, a3⟩ := f1.2 q hq
      exact ⟨E.base.hp.free a1, X2.nw q a2 a3, ne_keep X2.hp a3⟩
/-- return (e1, e2, x), x one's own -/
theorem Run.retTup3 {R1 : Rp α} {R2 : Rp β} {O3 : Orp γ} {y1 : α} {y2 : β} {x : γ} {x1} {xn : Str} {O : Orp (α × β × γ)} (i : Nat) (ha : EvV X S0 H0 G a R1 (some y1)) (hb : EvV X S0 H0 G b R2 (some y2)) (hG : G[i]? = some (.ow O3 x) := by rfl) (hN : X.N[i]? = some xn := by rfl) (hv : Vis X.env.scope xn := by first | exact Or.inl rfl | exact Or.inr (Or.inl rfl) | exact Or.inr (Or.inr rfl))
    (hO : oT (osCons (oV R1) (osCons (oV R2) (osOne O3))) = O := by rfl)
    (h1 : starEach [a, b, .Name xn p] X.env = (false, eval a X.env) :: starEach [b, .Name xn p] X.env := by rfl) (h2 : starEach [b, .Name xn p] X.env = (false, eval b X.env) :: starEach [.Name xn p] X.env := by rfl) (h3 : starEach [.Name xn p] X.env = (false, eval (.Name xn p) X.env) :: starEach [] X.env := by rfl)
    (hd : (xn == ("__debug__" : Str)) = false := by decide) (hcd : (xn == ("__classdict__" : Str)) = false := by decide) :
    Run X S0 H0 G (.Return (some (.Tuple [a, b, .Name xn p] x1 pos')) pos :: ss) Γ Λ O (some (.rt (y1, y2, x))) := .mk fun S H σ D o E e' g => by
  cases e'
  subst hO
  obtain ⟨o, ps, e1, ⟨v, e2, r⟩, nd, fr⟩ := E.get hG
  subst e2
  refine wS_of (pss_cons (ps_ret (pe_tup (pa_cons (wE_ok a) (pa_cons (wE_ok b) (pa_cons (pe_var hN hv hd hcd) pa_nil h3) h2) h1))) (wS_ok ss)) ?_
  refine ha S H σ _ y1 E rfl fun w1 S1 H1 qs1 X1 r1 f1 => hb S1 H1 σ _ y2 (E.mono X1) rfl fun w2 S2 H2 qs2 X2 r2 f2 => ⟨v, e1, (by decide : 3 ≤ sizeLine), fun t ht => ?_⟩
  have X12 := X1.trans X2
  have X3 : Ext S2 H2 (upd S2 t (.tup [w1, w2, v])) (upd H2 t (.tup [w1, w2, v])) := Ext.val X12.sb ht
  have X4 := X12.trans X3
  refine g (.ref t) _ _ ps (E.base.trans X4) ⟨t, _, rfl, upd_same, w1, [w2, v], [], ps, rfl, ⟨R1.mono (X2.trans X3).st.k r1.1, rfl⟩, ⟨w2, [v], [], ps, rfl, ⟨R2.mono X3.st.k r2.1, rfl⟩, ⟨v, rfl, O3.mono X4.st (fun p hp => Same.at_ne X4.hp (fr p hp).2.1) r⟩, rfl⟩, rfl⟩ ⟨nd, fun q hq => ?_⟩
  obtain ⟨a1, a2, a3⟩ := fr q hq
  exact ⟨a3, X4.nw q a1 a2, ne_keep X4.hp a2⟩
/-- return (x, y), both one's own -/
theorem Run.retTupOO {O1 : Orp α} {O2 : Orp β} {x : α} {y : β} {x1} {xn yn : Str} {q : Pos} {O : Orp (α × β)} (i j : Nat) (hij : i ≠ j := by decide) (hG : G[i]? = some (.ow O1 x) := by rfl) (hG2 : G[j]? = some (.ow O2 y) := by rfl) (hN : X.N[i]? = some xn := by rfl) (hN2 : X.N[j]? = some yn := by rfl) (hv : Vis X.env.scope xn := by first | exact Or.inl rfl | exact Or.inr (Or.inl rfl) | exact Or.inr (Or.inr rfl)) (hv2 : Vis X.env.scope yn := by first | exact Or.inl rfl | exact Or.inr (Or.inl rfl) | exact Or.inr (Or.inr rfl))
    (hO : oT (osCons O1 (osOne O2)) = O := by rfl)
    (h1 : starEach [.Name xn p, .Name yn q] X.env = (false, eval (.Name xn p) X.env) :: starEach [.Name yn q] X.env := by rfl) (h2 : starEach [.Name yn q] X.env = (false, eval (.Name yn q) X.env) :: starEach [] X.env := by rfl)
    (hd : (xn == ("__debug__" : Str)) = false := by decide) (hcd : (xn == ("__classdict__" : Str)) = false := by decide) (hd2 : (yn == ("__debug__" : Str)) = false := by decide) (hcd2 : (yn == ("__classdict__" : Str)) = false := by decide) :
    Run X S0 H0 G (.Return (some (.Tuple [.Name xn p, .Name yn q] x1 pos')) pos :: ss) Γ Λ O (some (.rt (x, y))) := .mk fun S H σ D o E e' g => by
  cases e'
  subst hO
  obtain ⟨fp, ok, F⟩ := E.ex
  obtain ⟨o1, e1, v, ev, r⟩ := ok i _ hG
  obtain ⟨o2, e2, w, ew, r2⟩ := ok j _ hG2
  subst ev ew
  refine wS_of (pss_cons (ps_ret (pe_tup (pa_cons (pe_var hN hv hd hcd) (pa_cons (pe_var hN2 hv2 hd2 hcd2) pa_nil h2) h1))) (wS_ok ss)) ?_
  refine ⟨v, e1, w, e2, (by decide : 2 ≤ sizeLine), fun t ht => ?_⟩
  have X2 : Ext S H (upd S t (.tup [v, w])) (upd H t (.tup [v, w])) := Ext.val E.base.sb ht
  have fr : ∀ k p, p ∈ fp k → S p = none ∧ H p ≠ none ∧ H0 p = none := fun k p hp => let ⟨a, b, c, _⟩ := F.at_ k p hp; ⟨a, b, c⟩
  refine g (.ref t) _ _ (fp i ++ fp j) (E.base.trans X2) ⟨t, _, rfl, upd_same, v, [w], fp i, fp j, rfl, O1.mono X2.st (fun p hp => Same.at_ne X2.hp (fr i p hp).2.1) r, ⟨w, rfl, O2.mono X2.st (fun p hp => Same.at_ne X2.hp (fr j p hp).2.1) r2⟩, rfl⟩ ⟨List.nodup_append.mpr ⟨F.nd i, F.nd j, fun a ha b hb ep => hij (F.sep i j a ha (by rw [ep]; exact hb))⟩, fun q hq => ?_⟩
  obtain ⟨k, hk⟩ : ∃ k, q ∈ fp k := (List.mem_append.mp hq).elim (fun h => ⟨i, h⟩) (fun h => ⟨j, h⟩)
  obtain ⟨a1, a2, a3⟩ := fr k q hk
  exact ⟨a3, X2.nw q a1 a2, ne_keep X2.hp a2⟩
/-- x = a part of what is lent from the entry on -/
theorem Run.asgHP {R : Rp α} {y : α} {m : Option (Out ν μ ρ)} (i : Nat) {x : Str} (hN : X.N.Nodup) (he : EvH X S0 H0 G e R (some y)) (hk : Run X S0 H0 (G.set i (.bw R y)) ss Γ Λ O m) (hi : X.N[i]? = some x := by rfl) (hx : Loc X.env.scope x := by first | exact .inl rfl | exact .inr rfl)
    (hs : swapsWith e (some (.Name x pos')) pos.line X.env = pure false := by rfl) (hf : X.fn x = true ∨ X.env.scope.names.lookup x = some .local := by first | exact .inl rfl | exact .inr rfl | assumption) :
    Run X S0 H0 G (.Assign [.Name x pos'] e pos :: ss) Γ Λ O m := .mk fun S H σ D o E e' g => by
  refine wS_of (pss_cons (ps_set (i := i) hN hi hx (wE_ok e) hs hf) (wS_ok ss)) (he S H σ _ y E rfl fun v S1 H1 X1 r1 => ?_)
  exact hk S1 H1 _ D o (E.setB i X1 r1) e' (g.mono X1.st)
end
end Gc

namespace Gc
open PySem PySem.Spec PyProof.Rows L2
variable [Tn]
/-! ## 23. lists of unlike things; own lists walked in a comprehension; a last append -/
def rHl {α : Type} (R : Rps α) : Rp α :=
  ⟨fun S v x => ∃ a vs, v = .ref a ∧ S a = some (.lst vs) ∧ R.r S vs x, fun h ⟨a, vs, e, q, p⟩ => ⟨a, vs, e, h.go q, R.mono h p⟩⟩
instance {α : Type} {R : Rps α} : NonN (rHl R) := ⟨fun ⟨a, vs, e, _⟩ => by rw [e]; simp⟩
instance {K : PySem.W.Frag} {α : Type} {Rs : Rps α} : TyR K (rHl Rs) "list" := ⟨fun ⟨a, vs, e, q, _⟩ => by cases e; exact .base (.lst q)⟩
instance datHl {K : PySem.W.Frag} {α : Type} {Rs : Rps α} [E : Dats K Rs] : Dat K (rHl Rs) where
  to := fun x => .list (Dats.to K Rs x)
  d := E.d + 1
  dp := fun ⟨a, vs, e, q, p⟩ => by subst e; exact .lst (.inl (.inl q)) (E.dp p)
  inj := fun x y => by rw [PyData.eqv]; exact E.inj x y
  lay := fun ⟨a, vs, e, q, p⟩ => by rw [PyData.canLay0]; exact E.lay p
  dep := fun x => by rw [PyData.depth]; exact Nat.succ_le_succ (E.dep x)
  nn := fun x => by simp [PyData.eqv]
section
variable {X : Cx} {S0 H0 : Hp} {G : Cxt} {α β γ ν μ ρ : Type} {a b e tg : Expr} {pos p pos' : Pos} {ss : List Stmt} {Γ : ν → Cxt} {Λ : μ → Cxt} {O : Orp ρ}
theorem EvB.hlB {Rs : Rps α} {es : List Expr} {x : α} (h : EvTsB X S0 H0 G es Rs (some x)) (hl : decide (es.length ≤ 1000) = true := by rfl) : EvB X S0 H0 G (.List es pos) (rHl Rs) (some x) := .mk fun S H σ Q ys E hm k => by
  cases hm
  refine wE_of (pe_lst (wA_ok es)) (h S H σ _ x E rfl fun vs S1 H1 X1 r1 hlen => ?_)
  have hl := of_decide_eq_true hl
  refine ⟨by rw [hlen]; exact Nat.le_trans hl (by decide), fun p hp => ?_⟩
  exact k (.ref p) S1 _ (X1.trans (Ext.own X1.sb hp)) ⟨p, vs, rfl, upd_same, Rs.mono (Same.new hp).k r1⟩
theorem EvTV.stable {es : List Expr} {Rs : Rps α} {x : α} (h : EvTV X S0 H0 G es Rs x) : ∀ S H σ Q, EnvOk S0 H0 S H G σ → (∀ vs S' H', Ext S H S' H' → Rs.r S' vs x → vs.length = es.length → Q vs H') → wA X es σ H Q := fun S H σ Q E k => by
  obtain ⟨Os, e2, q⟩ := h.ex
  subst e2
  refine q S H σ Q x E rfl fun vs S1 H1 ps X1 r1 f1 hlen => ?_
  have hs : Same S1 (putAll S1 H1 ps) := putAll_same fun p hp => (f1.2 p hp).2.1
  have hb : Same (putAll S1 H1 ps) H1 := fun a o z => by
    unfold putAll at z
    split at z
    · exact z
    · exact X1.sb a o z
  refine k vs (putAll S1 H1 ps) H1 ⟨X1.st.trans hs, X1.hp, fun a z1 z2 => ?_, hb, fun P t => (X1.tb P t).ext hs fun ps e => e⟩ (Os.frz r1 hs fun p hp => Kp.eq (by unfold putAll; rw [if_pos hp])) hlen
  unfold putAll
  rw [if_neg (fun m => z2 (f1.2 a m).1)]
  exact X1.nw a z1 z2
theorem EvV.hlV {Rs : Rps α} {es : List Expr} {x : α} (h : EvTV X S0 H0 G es Rs x) (hl : decide (es.length ≤ 1000) = true := by rfl) : EvV X S0 H0 G (.List es pos) (rHl Rs) (some x) := .mk fun S H σ Q ys E hm k => by
  cases hm
  refine wE_of (pe_lst (wA_ok es)) (h.stable S H σ _ E fun vs S1 H1 X1 r1 hlen => ?_)
  have hl := of_decide_eq_true hl
  refine ⟨by rw [hlen]; exact Nat.le_trans hl (by decide), fun p hp => ?_⟩
  have X2 : Ext S1 H1 (upd S1 p (.lst vs)) (upd H1 p (.lst vs)) := Ext.val X1.sb hp
  exact k (.ref p) _ _ [] (X1.trans X2) ⟨⟨p, vs, rfl, upd_same, Rs.mono X2.st.k r1⟩, rfl⟩ Fresh.nil
theorem EvB.hixP {Rs : Rps α} {R : Rp β} {f : α → β} {x : α} (k : Nat) (p : Proj Rs k R f) {j} (ha : EvB X S0 H0 G a (rHl Rs) (some x)) :
    EvB X S0 H0 G (.Subscript a (.Constant (.int (k : Int)) j pos') pos) R (some (f x)) := .mk fun S H σ Q z E hm kk => by
  cases hm
  refine wE_of (pe_ix ix_list (wE_ok a) pe_int (fun _ _ => rfl)) (ha S H σ _ x E rfl fun v S1 H1 X1 r1 => ?_)
  obtain ⟨t, vs, rfl, q, r⟩ := r1
  obtain ⟨u, e2, ru⟩ := p.pj r
  exact ⟨t, vs, k, u, rfl, rfl, .inl (.inl q), atI_nat e2, kk u S1 H1 X1 ru⟩
theorem EvV.hixP {Rs : Rps α} {R : Rp β} {f : α → β} {x : α} (k : Nat) (p : Proj Rs k R f) {j} (ha : EvV X S0 H0 G a (rHl Rs) (some x)) :
    EvV X S0 H0 G (.Subscript a (.Constant (.int (k : Int)) j pos') pos) R (some (f x)) := .mk fun S H σ Q z E hm kk => by
  cases hm
  refine wE_of (pe_ix ix_list (wE_ok a) pe_int (fun _ _ => rfl)) (ha S H σ _ x E rfl fun v S1 H1 ps X1 r1 f1 => ?_)
  obtain ⟨t, vs, rfl, q, r⟩ := r1.1
  obtain ⟨u, e2, ru⟩ := p.pj r
  exact ⟨t, vs, k, u, rfl, rfl, .inl (.inl (X1.sb _ _ q)), atI_nat e2, kk u S1 H1 [] X1 ⟨ru, rfl⟩ Fresh.nil⟩
theorem ItC.lstO {R : Rp α} {xs : List α} (i : Nat) {x : Str} (hG : G[i]? = some (.ow (oL (oV R)) xs) := by rfl) (hN : X.N[i]? = some x := by rfl) (hv : Vis X.env.scope x := by first | exact Or.inl rfl | exact Or.inr (Or.inl rfl) | exact Or.inr (Or.inr rfl)) (hd : (x == ("__debug__" : Str)) = false := by decide) (hcd : (x == ("__classdict__" : Str)) = false := by decide) :
    ItC X S0 H0 G tg (.Name x pos) (fun x => .one (.val R x)) (some xs) := .mk fun S H σ Rk ys E hm k => by
  cases hm
  obtain ⟨o, ps, e1, ⟨v, e2, r⟩, nd, fr⟩ := E.get hG
  subst e2
  obtain ⟨t, vs, qs, rfl, q, rfl, els, hl⟩ := r
  obtain ⟨pr, _⟩ := els.to
  exact wI_of (pi_list (pe_var hN hv hd hcd)) ⟨_, e1, t, rfl, ⟨vs, .inl (.inl q)⟩, k _ S H (Ext.refl E.base.sb) (itl_ok hl (paired_len pr) (fun S' H' _ _ h3 => .inl (.inl (h3.go q))) fun i x v S' H' h1 _ _ e1 e2 => R.mono h1.k (paired_get2 pr e2 e1))⟩
theorem EvV.anyP {R : Rp α} {x : α} (h : EvV X S0 H0 G a R (some x)) : EvV X S0 H0 G a rAny0 (some ()) := .mk fun S H σ Q z E hm k => by
  cases hm
  exact h S H σ Q _ E rfl fun v S' H' ps X' r f => k v S' H' ps X' ⟨trivial, r.2⟩ f
/-- what the items are is forgotten -/
theorem Run.anyL {R : Rp α} {xs : List α} {m : Option (Out ν μ ρ)} (i : Nat) (h : Run X S0 H0 (G.set i (.ow (oL (oV rAny0)) (xs.map fun _ => ()))) ss Γ Λ O m) (hG : G[i]? = some (.ow (oL (oV R)) xs) := by rfl) : Run X S0 H0 G ss Γ Λ O m := .mk fun S H σ D o E e' g =>
  h S H σ D o (E.conv (s' := .ow (oL (oV rAny0)) (xs.map fun _ => ())) hG fun o ps ⟨v, h1, l, us, qs, h2, h3, h4, els, hz⟩ => by
    obtain ⟨pr, e⟩ := els.to
    subst e
    have : ∀ {us : List V} {xs : List α}, Paired (R.r S) us xs → Paired (rAny0.r S) us (xs.map fun _ => ()) := by
      intro us xs pr
      induction pr with
      | nil => exact .nil
      | cons _ _ ih => exact .cons trivial ih
    exact ⟨v, h1, l, us, [], h2, h3, h4, Els.of (this pr), by rw [List.length_map]; exact hz⟩) e' g
end
end Gc

namespace Gc
open PySem PySem.Spec PyProof.Rows L2
variable [Tn]
/-! ## 24. sorted(set(a list of ints)) -/
section
variable {P : Program} {w : World} {A : Around} {E : Value → Shared → Prop} {s : Shared}
set_option maxRecDepth 100000 in
set_option maxHeartbeats 3200000 in
/-- set(a list of ints), told by its members -/
theorem set_of_list {l : Addr} {items : Array Value} (ns : List Int) {Q : Value → Shared → Prop} (hh : A.handled = none) (hl : s.heap.IsList l items) (hit : IntsAre items.toList ns) (hb : ns.length + 1 < scanBound)
    (h : ∀ (h' : Heap) (tk c : Nat), SetR w h' s.heap.objs.size (fun j => decide (j ∈ ns)) c → c ≤ ns.length → (∀ b o, s.heap.get? b = some o → h'.get? b = some o) → Q (.ref s.heap.objs.size) { s with heap := h', toks := tk }) :
    wpAny (model P w) A (call (.type "set") [.ref l]) Q E s := by
  have hisz : items.size = ns.length := by rw [← Array.length_toList]; exact IntsAre.length hit
  have hlS : l < s.heap.objs.size := by
    obtain ⟨o, ho, _⟩ := hl
    exact Heap.lt_size ho
  obtain ⟨b, hb0⟩ : ∃ b, (!w.params.followText "set-order") = b := ⟨_, rfl⟩
  obtain ⟨e0, he0⟩ : ∃ o : Obj, o = { cls := .type "set", dict := none, data := .set #[] 0 (.fresh 0 0 (!w.params.followText "set-order")) } := ⟨_, rfl⟩
  obtain ⟨s1, hs1⟩ : ∃ s1 : Shared, s1 = { s with heap := s.heap.push e0 } := ⟨_, rfl⟩
  have hS : s1.heap.get? s.heap.objs.size = some e0 := by rw [hs1]; exact Heap.get?_push_size _ (by rw [he0]; rfl)
  have hz : s1.heap.objs.size = s.heap.objs.size + 1 := by rw [hs1]; exact Heap.size_push ..
  have hold : ∀ b o, s.heap.get? b = some o → s1.heap.get? b = some o := fun b o e => by rw [hs1]; exact Heap.get?_push_of_some _ e
  have hl1 : s1.heap.IsList l items := by rw [hs1]; exact hl.push _
  have hT : s1.TypeIs (.ref s.heap.objs.size) "set" := ⟨_, hS, by rw [he0]⟩
  -- the class is called
  obtain ⟨c0, tl0, hmro⟩ := F.called_set.mro
  have hmade := F.called_set.made
  have hsub := F.called_set.sub
  refine wpAny_call (codeAny_of_tree ?_)
  show wpAny _ _ (callAny (.type "set") _) _ _ _
  refine wpAny_pure ⟨Code.quiet_builtin _ (by decide +kernel), codeAny_builtin F.entry_type_call ?_⟩
  rw [Around.under_plain (weight_type_call_type "set" [.ref l] []) rfl]
  have h1 := F.called_set.notType
  have h2 := F.called_set.canCreate
  have hct := F.typeCall_set_1 (.ref l)
  repeat (any_goals (first | assumption | wp_step))
  refine codeAny_mono (code_set_led1 (.ref l) (E := E) (Q₁ := fun obj s₁ => obj = .ref s.heap.objs.size ∧ s₁ = s1) ⟨rfl, by rw [hs1, he0]⟩) fun r s₁ hr => ?_
  cases r with
  | error e => exact hr
  | ok fl =>
    cases fl with
    | ret obj =>
      obtain ⟨rfl, rfl⟩ := hr
      have hli := F.called_set.init.lookup
      have hbi := F.called_set.init.bind (.ref s.heap.objs.size)
      repeat (any_goals (first | assumption | wp_step))
      refine codeAny_mono (codeAny_call_builtin (R := wants (fun r s₂ => r = .none ∧ ∃ h' tk c, s₂ = { s with heap := h', toks := tk } ∧ SetR w h' s.heap.objs.size (fun j => decide (j ∈ ns)) c ∧ c ≤ ns.length ∧
          (∀ b o, s.heap.get? b = some o → h'.get? b = some o)) E) F.called_set.init.plain F.entry_set_init (check_set_init_1 hT ?_)) fun r₂ s₂ hr₂ => ?_
      · have hsls := F.sub_list_set
        have hslf := F.sub_list_frozenset
        have hne : (Value.type "list" == Value.type "dict") = false := by decide
        have hl2 := hl1
        obtain ⟨ol, hol, hcl, nl, hdl⟩ := hl2
        obtain ⟨ocls, odict, odata, oslots⟩ := ol
        simp only at hcl hdl
        subst hcl; subst hdl
        subst he0
        unfold Builtin.«set.__init__» noKeywords Builtin.Frozenset.updateFrom
        generalize hPI : pyIter = PI
        wp_walk
        subst hPI
        refine wpAny_pyIter_list hl1 ?_
        refine wpAny_bind (wpAny_runValue ?_)
        have hh3 : A.in1.in1.in1.handled = none := by simp [hh]
        have hneI : l ≠ s₁.heap.objs.size := Nat.ne_of_lt (by rw [hz]; exact Nat.lt_succ_of_lt hlS)
        have hSf : s.heap.objs.size ∉ [s₁.heap.objs.size, l] := by
          intro hm
          rcases List.mem_cons.mp hm with e | e
          · exact Nat.ne_of_lt (show s.heap.objs.size < s₁.heap.objs.size by rw [hz]; exact Nat.lt_succ_self _) e
          · exact Nat.ne_of_gt hlS (List.mem_singleton.mp e)
        refine set_update_ints ((Walks.list hh3 _ l hneI items).toS) s.heap.objs.size hSf ns hisz hb (fun i v hv => ?_) (items.size - 0) 0 _ (by omega) (Nat.zero_le _)
          ⟨⟨_, Heap.get?_push_size _ rfl, rfl, rfl⟩, (hl1.push _)⟩ ⟨0, Nat.le_refl 0, setR_new_at (Heap.get?_push_of_some _ hS)⟩ fun s' c' hm hc' hS' => ?_
        · have hi : i < ns.length := by rw [← hisz]; exact (Array.getElem?_eq_some_iff.mp hv).1
          obtain ⟨t, e⟩ := PyProof.Rows.IntsAre.int_at hit i v (by rw [Array.getElem?_toList]; exact hv)
          refine ⟨ns[i], t, List.getElem?_eq_getElem hi, ?_⟩
          rw [e, List.getD_eq_getElem?_getD, List.getElem?_eq_getElem hi] <;> rfl
        · obtain ⟨h', g2, d', tk', os'⟩ := s'
          have eg : g2 = s₁.gens := hm.gens
          have ed : d' = s₁.drawn := hm.drawn
          have eo : os' = s₁.os := hm.os
          subst eg; subst ed; subst eo
          show wpAny _ _ _ _ _ _
          refine wpAny_pure ?_
          show wpAny _ _ (ret Value.none) _ _ _
          rw [hisz] at hc'
          refine wpAny_pure ⟨rfl, h', tk', c', by rw [hs1], hS', hc', fun b o e => ?_⟩
          have hb0 : b < s.heap.objs.size := Heap.lt_size e
          refine hm.heap b o (fun z => ?_) (Heap.get?_push_of_some _ (hold b o e))
          rcases List.mem_cons.mp z with z | z
          · exact Nat.ne_of_lt hb0 z
          · rcases List.mem_cons.mp z with z | z
            · exact Nat.ne_of_lt (show b < s₁.heap.objs.size by rw [hz]; exact Nat.lt_succ_of_lt hb0) z
            · cases z
      · cases r₂ with
        | error e => exact hr₂
        | ok fl₂ =>
          cases fl₂ with
          | ret r =>
            obtain ⟨rfl, h', tk, c', rfl, hS', hc', hk'⟩ := hr₂
            repeat (any_goals (first | assumption | wp_step))
            exact h _ _ _ hS' hc' hk'
          | _ => exact hr₂.elim
    | _ => exact hr.elim
end
/-- each number once -/
def onceL : List Int → List Int
  | [] => []
  | x :: xs => if x ∈ xs then onceL xs else x :: onceL xs
theorem mem_onceL {x : Int} : ∀ {xs : List Int}, x ∈ onceL xs ↔ x ∈ xs
  | [] => Iff.rfl
  | y :: xs => by
    unfold onceL
    have ih := mem_onceL (x := x) (xs := xs)
    split
    · next h =>
      rw [ih, List.mem_cons]
      exact ⟨.inr, fun z => z.elim (fun e => e ▸ h) id⟩
    · rw [List.mem_cons, List.mem_cons, ih]
theorem onceL_nodup : ∀ xs : List Int, (onceL xs).Nodup
  | [] => List.nodup_nil
  | y :: xs => by
    unfold onceL
    split
    · exact onceL_nodup xs
    · next h => exact List.nodup_cons.mpr ⟨fun z => h (mem_onceL.mp z), onceL_nodup xs⟩
/-- sorted(set(xs)) -/
def sortSetO (xs : List Int) : Option (List Int) := if xs.length < 64 then some (sortL (onceL xs)) else none
theorem sortSet_eq {xs ys : List Int} (h : ∀ k, k ∈ ys ↔ k ∈ xs) (hs : ys.Pairwise (· < ·)) : ys = sortL (onceL xs) := by
  refine sortL_eq ?_ (hs.imp fun h => Int.le_of_lt h)
  refine (List.perm_ext_iff_of_nodup (hs.imp fun h => Int.ne_of_lt h) (onceL_nodup xs)).mpr fun k => ?_
  rw [h, mem_onceL]
theorem boot_set' : bootBuiltins "set" = some (.type "set") := by decide +kernel
section
variable {X : Cx} {S0 H0 : Hp} {G : Cxt} {a : Expr} {pos p pos' p' : Pos}
def tSortSet (K : PySem.W.Frag) (ta : TE) : TE := fun σ H Q => ta σ H fun x H1 => ∃ (l : Addr) (ns : List Int), x = .ref l ∧ SqL K H1 l (ns.map V.int) ∧ ns.length < 64 ∧
  ∀ (p : Addr), H1 p = none → Q (.ref p) (upd H1 p (.lst ((sortL (onceL ns)).map V.int)))
theorem pe_sortSet {ta : TE} (hg : Gl X "sorted") (hm : X.mg "sorted" = none) (hg2 : Gl X "set") (hm2 : X.mg "set" = none) (ha : PE X a ta) (hc : X.calm = true := by rfl)
    (na : starEach [a] X.env = (false, eval a X.env) :: starEach [] X.env := by rfl) : PE X (.Call (.Name "sorted" p) [.Call (.Name "set" p') [a] [] pos'] [] pos) (tSortSet X.K ta) := by
  refine ⟨fun pins s σ H Q I h => ?_⟩
  refine Call_ (ld_blt I hg hm boot_sorted ?_)
  refine PyProof.Rows.callWith_builtin1 (PyProof.Rows.args_cons ?_ rfl) rfl rfl
  refine Call_ (ld_blt I hg2 hm2 boot_set' ?_)
  refine PyProof.Rows.callWith_type1 (PyProof.Rows.args_cons (thn (ha.run pins s σ H _ I h) fun v s1 ⟨x, H1, I1, r1, q1⟩ => PyProof.Rows.args_nil ?_) na) na rfl
  obtain ⟨l, ns, rfl, hq, hl, q1⟩ := q1
  cases r1
  obtain ⟨its, r, pl, hz⟩ := I1.list hq
  refine set_of_list ns (I1.ok.hd hc) pl.isList (by simpa using RZ.intsAre_vals r) (by unfold scanBound; omega) fun h' tk c R hcn hk => ?_
  refine PyProof.Rows.args_nil ?_
  have I2 : Inv X pins σ H1 { s1 with heap := h', toks := tk } := I1.kept fun b o e => hk b o e
  refine sorted_set R (I2.ok.hd hc) (by omega) fun s' p out c' ns' k g o hp hg' hi hs hmem hl' => ?_
  have e1 : ns' = sortL (onceL ns) := sortSet_eq (fun k => by rw [hmem, decide_eq_true_iff]) hs
  subst e1
  have hlen : ((sortL (onceL ns)).map V.int).length ≤ sizeLine := by rw [List.length_map, hl', sizeLine_eq]; omega
  have hn : H1 p = none := I2.hok.fresh hp
  have J : Inv X pins σ (upd H1 p (.lst ((sortL (onceL ns)).map V.int))) { ({ s1 with heap := h', toks := tk } : Shared) with heap := s'.heap, gens := s'.gens, drawn := s'.drawn, toks := s'.toks } :=
    I2.call (ch := []) (Un.laid k hp hn) (I2.hok.laid k hp ⟨hlen, out.toList, c', vals_of_ints hi, hg'⟩) (by rw [g]; exact I2.bare) (fun _ z => nomatch z)
  have e : s' = { ({ s1 with heap := h', toks := tk } : Shared) with heap := s'.heap, gens := s'.gens, drawn := s'.drawn, toks := s'.toks } := by
    cases s'
    cases s1
    cases o
    rfl
  rw [e]
  exact ⟨.ref p, _, J, rfl, q1 p hn⟩
theorem EvO.sortSetP {RL : Rp (List Int)} [L : SqRp X.K RL rInt] {xs : List Int} (hm : X.mg "sorted" = none) (hm2 : X.mg "set" = none) (ha : EvB X S0 H0 G a RL (some xs)) (hg : Gl X "sorted" := by rfl) (hg2 : Gl X "set" := by rfl) (hc : X.calm = true := by rfl)
    (he : starEach [a] X.env = (false, eval a X.env) :: starEach [] X.env := by rfl) :
    EvO X S0 H0 G (.Call (.Name "sorted" p) [.Call (.Name "set" p') [a] [] pos'] [] pos) (oL (oV rInt)) (sortSetO xs) := .mk fun S H σ Q zs E hm' kk => by
  unfold sortSetO at hm'
  split at hm'
  · next hl =>
    cases hm'
    refine wE_of (pe_sortSet hg hm hg2 hm2 (wE_ok a) hc he) (ha S H σ _ xs E rfl fun v S1 H1 X1 r1 => ?_)
    obtain ⟨t, vs, rfl, q, pr, hl2⟩ := L.sq r1
    refine ⟨t, xs, rfl, by rw [← ints_of pr]; exact q, hl, fun p hn => ?_⟩
    exact EvO.newL X1 hn (paired_of_ints _) (by
      have h1 : (sortL (onceL xs)).length ≤ 63 := by
        rw [(sortL_perm _).length_eq]
        have : ∀ ys : List Int, (onceL ys).length ≤ ys.length := fun ys => by
          induction ys with
          | nil => exact Nat.le_refl _
          | cons y ys ih => unfold onceL; split <;> simp <;> omega
        have := this xs
        omega
      exact Nat.le_trans h1 (by decide)) kk
  · cases hm'
end
section
variable {X : Cx} {S0 H0 : Hp} {G : Cxt} {α ν μ ρ : Type} {pos p pos' : Pos} {ss : List Stmt} {Γ : ν → Cxt} {Λ : μ → Cxt} {O : Orp ρ}
/-- xs.reverse(), xs one's own -/
theorem Run.revP {R : Rp α} {xs : List α} {k : Option (Out ν μ ρ)} {apos cpos : Pos} (i : Nat) {x : Str} (hk : Run X S0 H0 (G.set i (.ow (oL (oV R)) xs.reverse)) ss Γ Λ O k) (hG : G[i]? = some (.ow (oL (oV R)) xs) := by rfl) (hN : X.N[i]? = some x := by rfl) (hv : Vis X.env.scope x := by first | exact Or.inl rfl | exact Or.inr (Or.inl rfl) | exact Or.inr (Or.inr rfl))
    (hs : swapsWith (.Call (.Attribute (.Name x pos') "reverse" apos) [] [] cpos) none pos.line X.env = pure false := by rfl)
    (hbase : attributeBase (.Name x pos') "reverse" X.env (eval (.Name x pos') X.env) = eval (.Name x pos') X.env := by rfl)
    (hline : (apos.endLine == cpos.line) = true := by rfl)
    (hd : (x == ("__debug__" : Str)) = false := by decide) (hcd : (x == ("__classdict__" : Str)) = false := by decide) :
    Run X S0 H0 G (.Expr (.Call (.Attribute (.Name x pos') "reverse" apos) [] [] cpos) pos :: ss) Γ Λ O k := .mk fun S H σ D o E e' g => by
  obtain ⟨o', ps, e3, ⟨v, e4, r⟩, nd, fr⟩ := E.get hG
  subst e4
  obtain ⟨l, us, qs, rfl, hl, rfl, els, hz⟩ := r
  obtain ⟨pr, _⟩ := els.to
  refine wS_of (pss_cons (ps_expr (pe_bm0 PySem.F.plainAttrs_list PySem.F.slot_list_reverse PySem.F.type_list_reverse mt_reverse (pe_var hN hv hd hcd) hbase hline) hs) (wS_ok ss)) ?_
  refine ⟨.ref l, e3, .inl ⟨rfl, _, .inl (.inl hl)⟩, ?_⟩
  refine ⟨l, us, rfl, rfl, hl, ?_⟩
  exact hk S _ σ D o (E.putL (R' := R) (Ext.refl E.base.sb) hG e3 (paired_rev pr) (by rw [List.length_reverse]; exact hz)) e' g
end
/-- a tuple of things of one kind, read by a place that is reckoned -/
structure ProjAll {α β : Type} (Rs : Rps α) (R : Rp β) (f : α → List β) : Prop where
  pj : ∀ {S : Hp} {vs : List V} {x : α}, Rs.r S vs x → Paired (R.r S) vs (f x)
theorem pja1 {α : Type} {R : Rp α} : ProjAll (rsOne R) R (fun x => [x]) := ⟨fun ⟨v, e, q⟩ => by rw [e]; exact .cons q .nil⟩
theorem pjaS {α β : Type} {R : Rp α} {Rs : Rps β} {f : β → List α} (h : ProjAll Rs R f) : ProjAll (rsCons R Rs) R (fun x => x.1 :: f x.2) := ⟨fun ⟨v, ws, e, q, t⟩ => by rw [e]; exact .cons q (h.pj t)⟩
section
variable {X : Cx} {S0 H0 : Hp} {G : Cxt} {α β : Type} {a b : Expr} {pos : Pos}
theorem EvB.tvP {Rs : Rps α} {R : Rp β} {f : α → List β} {x : α} {i : Int} (p : ProjAll Rs R f) (ha : EvB X S0 H0 G a (rT Rs) (some x)) (hb : EvB X S0 H0 G b rInt (some i)) (hs : PlainIx b := by exact fun _ _ => rfl) : EvB X S0 H0 G (.Subscript a b pos) R (atI (f x) i) :=
  EvB.two (F := fun x i => atI (f x) i) ha hb (pe_ix ix_tup (wE_ok a) (wE_ok b) hs) fun S H Q v w x i z sb r1 r2 hz k => by
    obtain ⟨t, vs, rfl, q, r⟩ := r1
    obtain ⟨u, hu, ru⟩ := atI_paired (p.pj r) hz
    exact ⟨t, vs, i, u, rfl, r2, .inl (.inl q), hu, k u S H (Ext.refl sb) ru⟩
end
section
variable {X : Cx} {S0 H0 : Hp} {G : Cxt} {α β : Type} {a : Expr} {pos p : Pos}
/-- list(t), t a tuple of things of one kind that are lent -/
theorem EvB.listTB {Rs : Rps α} {R : Rp β} {f : α → List β} {x : α} (pj : ProjAll Rs R f) (hm : X.mg "list" = none) (ha : EvB X S0 H0 G a (rT Rs) (some x)) (hl : decide ((f x).length ≤ 1000) = true := by rfl) (hg : Gl X "list" := by rfl) (he : starEach [a] X.env = (false, eval a X.env) :: starEach [] X.env := by rfl) :
    EvB X S0 H0 G (.Call (.Name "list" p) [a] [] pos) (rL R) (some (f x)) := .mk fun S H σ Q zs E hm' k => by
  cases hm'
  refine wE_of (pe_callTy call_list_of hg hm boot_listT (pa_cons (wE_ok a) pa_nil he) (by decide) (by decide) he) (ha S H σ _ x E rfl fun v S1 H1 X1 r1 => ?_)
  obtain ⟨t, vs, rfl, q, r⟩ := r1
  refine ⟨t, _, rfl, .inr (.inl (.inl q)), fun l hn => ?_⟩
  refine k (.ref l) S1 _ (X1.trans (Ext.own X1.sb hn)) ⟨l, vs, rfl, upd_same, Paired.map_r (fun _ _ q => R.mono (Same.new hn).k q) (pj.pj r), Nat.le_trans (of_decide_eq_true hl) (by decide)⟩
end
end Gc

namespace Gc
open PySem PySem.Spec PyProof.Rows L2
variable [Tn]
/-! ## 25. exceptions: a second walk shows where a def raises -/
/-- the caught exception: known by its place -/
def rEx (a : Addr) : Rp Unit := ⟨fun _ v _ => v = .ref a, fun _ h => h⟩
def oNo : Orp Unit := ⟨fun _ _ _ _ _ => False, fun _ _ h => h, ⟨fun _ _ _ => False, fun _ h => h⟩, fun h _ _ => h⟩
/-- X has a use for an exception of the class at D, wherever the heap stands -/
def RaisesTo (X : Cx) (S0 H0 : Hp) (D : Addr) : Prop := ∃ W, L2N.Takes X W ∧ ∀ S H σ, Ext S0 H0 S H → W (.ref D) none σ H
def spR {α : Type} (A : Arp α) (D : Addr) (r : α → Option Unit) : Sp := fun vs H _ E => ∃ S z, Same S H ∧ A.r S H vs z ∧ r z = some () ∧ ∀ S' H', Ext S H S' H' → E (.ref D) none H'
/-- called with what A says of x, where r says so the def raises an exception of the class at D -/
def FnR (P : Program) (w : World) (K : PySem.W.Frag) (mg : Str → Option Value) (base : Heap) (k : Nat) (name : Str) {α : Type} (A : Arp α) (D : Addr) (r : α → Option Unit) (dvs : List V) : Prop :=
  ∃ a fd ps ds, FnOk P w K mg base (L2N.CX P w) k a fd ps (spR A D r) ∧ mg name = some (.ref a) ∧ PySem.W.keepIn K (.ref a) = true ∧ Binds K fd ps ds ∧ Vals dvs ds
theorem FnR.mono {P : Program} {w : World} {K : PySem.W.Frag} {mg : Str → Option Value} {base : Heap} {j k : Nat} {name : Str} {α : Type} {A : Arp α} {D : Addr} {r : α → Option Unit} {dvs : List V} (F : FnR P w K mg base j name A D r dvs) (h : j ≤ k) : FnR P w K mg base k name A D r dvs :=
  let ⟨a, fd, ps, ds, h1, h2⟩ := F
  ⟨a, fd, ps, ds, h1.mono h, h2⟩
/-- where r says so, what follows is not reached -/
def elseR {ν μ : Type} (r : Option Unit) (m : Option (Out ν μ Unit)) : Option (Out ν μ Unit) := match r with | some _ => some (.rt ()) | none => m
def tryO {β : Type} (r : Option Unit) (a b : Option β) : Option β := match r with | some _ => b | none => a
def bndX {ν ν' μ ρ : Type} (k : ν → Option (Out ν' μ ρ)) : Out ν Empty Empty → Option (Out ν' μ ρ)
  | .nx s => k s
theorem tryO_some {β : Type} (a b : Option β) : tryO (some ()) a b = b := rfl
theorem tryO_none {β : Type} (a b : Option β) : tryO none a b = a := rfl
theorem bndX_nx {ν ν' μ ρ : Type} (k : ν → Option (Out ν' μ ρ)) (s : ν) : bndX k (.nx s) = k s := rfl
theorem elseR_some {ν μ : Type} (m : Option (Out ν μ Unit)) : elseR (some ()) m = some (.rt ()) := rfl
theorem elseR_none {ν μ : Type} (m : Option (Out ν μ Unit)) : elseR none m = m := rfl
section
variable (X : Cx) (S0 H0 : Hp)
/-- e raises -/
abbrev EvX (G : Cxt) (e : Expr) (D : Addr) (c : Option Unit) : Prop := Box (
  ∀ S H σ W Q, EnvOk S0 H0 S H G σ → L2N.Takes X W → c = some () → (∀ S' H', Ext S H S' H' → W (.ref D) none σ H') → wE X e σ H Q)
/-- these rows raise, the names being as they were -/
abbrev RB (G : Cxt) (ss : List Stmt) (D : Addr) (c : Option Unit) : Prop := Box (
  ∀ S H σ W Dn, EnvOk S0 H0 S H G σ → L2N.Takes X W → c = some () → (∀ S' H', Ext S H S' H' → W (.ref D) none σ H') → wS X ss Dn σ H)
end
section
variable {X : Cx} {S0 H0 S H S' H' : Hp} {G : Cxt} {σ : L2.St} {α β γ ν μ ρ : Type} {a b e : Expr} {pos pos' p : Pos} {ss : List Stmt} {D : Addr} {Γ : ν → Cxt} {Λ : μ → Cxt} {O : Orp ρ}
theorem EvX.stuck : EvX X S0 H0 G e D none := .mk fun _ _ _ _ _ _ _ h => nomatch h
theorem EvX.call {x : Str} {k j : Nat} {es : List Expr} {A : Arp α} {r : α → Option Unit} {z : α} (F : FnR X.prog X.w X.K X.mg X.base k x A D r []) (hr : Room j X.A) (ha : EvA X S0 H0 G (e :: es) A (some z)) (hj : k ≤ j := by decide) (hg : Gl X x := by rfl) (hdb : (x == ("__debug__" : Str)) = false := by decide)
    (he : starEach (e :: es) X.env = (false, eval e X.env) :: starEach es X.env := by rfl) (hpl : (backTo pos (starEach es X.env)).any (·.1) = false := by rfl) : EvX X S0 H0 G (.Call (.Name x p) (e :: es) [] pos) D (r z) := .mk fun S H σ W Q E tk hm hw => by
  obtain ⟨fa, fd, ps, ds, h1, h3, h4, h5, h6⟩ := F
  cases h6
  refine wE_of (pe_callS h1 (hr.mono hj) hg h3 h4 h5 (L2N.passAt tk) (wA_ok _) hdb he hpl) (ha S H σ _ z E rfl fun vs S1 H1 X1 r1 => ?_)
  exact ⟨S1, z, X1.sb, r1, hm, fun S' H' X2 => hw S' H' (X1.trans X2)⟩
theorem EvX.callD {x : Str} {k j : Nat} {es : List Expr} {A' A : Arp α} {r : α → Option Unit} {z : α} (d : DfA A' A) (F : FnR X.prog X.w X.K X.mg X.base k x A D r [.non]) (hr : Room j X.A) (ha : EvA X S0 H0 G (e :: es) A' (some z)) (hj : k ≤ j := by decide) (hg : Gl X x := by rfl) (hdb : (x == ("__debug__" : Str)) = false := by decide)
    (he : starEach (e :: es) X.env = (false, eval e X.env) :: starEach es X.env := by rfl) (hpl : (backTo pos (starEach es X.env)).any (·.1) = false := by rfl) : EvX X S0 H0 G (.Call (.Name x p) (e :: es) [] pos) D (r z) := .mk fun S H σ W Q E tk hm hw => by
  obtain ⟨fa, fd, ps, ds, h1, h3, h4, h5, h6⟩ := F
  refine wE_of (pe_callSD h1 (hr.mono hj) hg h3 h4 h5 h6 (L2N.passAt tk) (wA_ok _) hdb he hpl) (ha S H σ _ z E rfl fun vs S1 H1 X1 r1 => ?_)
  exact ⟨S1, z, X1.sb, d.to r1, hm, fun S' H' X2 => hw S' H' (X1.trans X2)⟩
/-! the rows of a def that raises -/
theorem RaisesTo.run {c : Option Unit} {m : Option (Out ν μ ρ)} (h : RB X S0 H0 G ss D c) (hc : c = some ()) (rx : RaisesTo X S0 H0 D) : Run X S0 H0 G ss Γ Λ O m := .mk fun S H σ Dn o E _ _ => by
  obtain ⟨W, tk, ok⟩ := rx
  exact h S H σ W Dn E tk hc fun S' H' X1 => ok S' H' σ (E.base.trans X1)
theorem RB.expr {c : Option Unit} (h : EvX X S0 H0 G e D c) (hs : swapsWith e none pos.line X.env = pure false := by rfl) : RB X S0 H0 G (.Expr e pos :: ss) D c := .mk fun S H σ W Dn E tk hc hw =>
  wS_of (pss_cons (ps_expr (wE_ok e) hs) (wS_ok ss)) (h S H σ W _ E tk hc hw)
theorem RB.ret {c : Option Unit} (h : EvX X S0 H0 G e D c) : RB X S0 H0 G (.Return (some e) pos :: ss) D c := .mk fun S H σ W Dn E tk hc hw =>
  wS_of (pss_cons (ps_ret (wE_ok e)) (wS_ok ss)) (h S H σ W _ E tk hc hw)
theorem RB.ite {c : Expr} {A B : List Stmt} {x : Bool} {cA cB : Option Unit} (hc : Tst X S0 H0 G c (some x)) (hA : RB X S0 H0 G A D cA) (hB : RB X S0 H0 G B D cB) : RB X S0 H0 G (.If c A B pos :: ss) D (if x = true then cA else cB) := .mk fun S H σ W Dn E tk hcc hw => by
  refine wS_of (pss_cons (ps_if (wT_ok c) (wS_ok A) (wS_ok B)) (wS_ok ss)) (hc S H σ _ x E rfl fun S1 H1 X1 => ?_)
  cases x with
  | true => exact hA S1 H1 σ W _ (E.mono X1) tk hcc fun S' H' X2 => hw S' H' (X1.trans X2)
  | false => exact hB S1 H1 σ W _ (E.mono X1) tk hcc fun S' H' X2 => hw S' H' (X1.trans X2)
theorem RB.stuck : RB X S0 H0 G ss D none := .mk fun _ _ _ _ _ _ _ h => nomatch h
theorem RB.un {mx : Option α} {c : α → Option Unit} (h : ∀ y, mx = some y → RB X S0 H0 G ss D (c y)) : RB X S0 H0 G ss D (mx.bind c) := .mk fun S H σ W Dn E tk hc hw => by
  obtain ⟨y, e1, e2⟩ := bind_some_iff hc
  exact h y e1 S H σ W Dn E tk e2 hw
theorem EvX.un {mx : Option α} {c : α → Option Unit} (h : ∀ y, mx = some y → EvX X S0 H0 G e D (c y)) : EvX X S0 H0 G e D (mx.bind c) := .mk fun S H σ W Q E tk hc hw => by
  obtain ⟨y, e1, e2⟩ := bind_some_iff hc
  exact h y e1 S H σ W Q E tk e2 hw
/-- a row that may raise, then the rest -/
theorem Run.elseP {st : Stmt} {c : Option Unit} {m : Option (Out ν μ Unit)} {O : Orp Unit} (rx : RaisesTo X S0 H0 D) (h : RB X S0 H0 G (st :: ss) D c) (hk : Run X S0 H0 G (st :: ss) Γ Λ O m) : Run X S0 H0 G (st :: ss) Γ Λ O (elseR c m) := by
  cases c with
  | some u => exact rx.run h rfl
  | none => exact hk
end
/-- a class of the program's own over ValueError, without own __init__ -/
structure ExCl (K : PySem.W.Frag) (mg : Str → Option Value) (x : Str) (D : Addr) : Prop where
  q : PySem.W.excIn K D [.type "ValueError", .type "Exception", .type "BaseException", .type "object"] "ValueError.__new__" = true
  g : mg x = some (.ref D)
  kp : PySem.W.keepIn K (.ref D) = true
  b : PySem.W.subIn K (.ref D) (.type "BaseException") = some true
  t : PySem.W.typeIn K (.ref D) = some (.type "type")
section
variable {X : Cx} {S0 H0 S H S' H' : Hp} {G : Cxt} {σ : L2.St} {α β γ ν μ ρ : Type} {a b e : Expr} {pos pos' p : Pos} {ss : List Stmt} {D : Addr} {Γ : ν → Cxt} {Λ : μ → Cxt} {O : Orp ρ}
theorem Run.raiseP {x m : Str} {j : Nat} {p2 : Pos} {mm : Option (Out ν μ ρ)} (C : ExCl X.K X.mg x D) (rx : RaisesTo X S0 H0 D) (hg : Gl X x := by rfl) (hc : X.calm = true := by rfl) (hdb : (x == ("__debug__" : Str)) = false := by decide) :
    Run X S0 H0 G (.Raise (some (.Call (.Name x p) [.Constant (.str m) j p2] [] pos)) none pos' :: ss) Γ Λ O mm := .mk fun S H σ Dn o E _ _ => by
  obtain ⟨W, tk, ok⟩ := rx
  exact wS_of (pss_cons (L2N.ps_raise hc tk (L2N.pmk_own PySem.F.excBase_ValueError C.q C.g C.kp (raises_own C.b C.t) hg hdb)) (wS_ok ss)) (ok S H σ E.base)
end
abbrev XR (P : Program) (w : World) (K : PySem.W.Frag) (mg : Str → Option Value) (base : Heap) (N : List Str) (qual : Str) (sc : Scope) (f : Addr) (cdv : Value) (A : Around) (outer : List Env) (s : Shared) (H : Hp) (E : XK) : Cx :=
  cxOf (L2N.CX P w) P w K mg base N qual sc f cdv A outer s H E
instance (priority := 1500) sqXR {P : Program} {w : World} {K : PySem.W.Frag} {mg : Str → Option Value} {base : Heap} {N : List Str} {qual : Str} {sc : Scope} {f : Addr} {cdv : Value} {A : Around} {outer : List Env} {s : Shared} {H : Hp} {E : XK} {α : Type} {R : Rp α} : SqRp (XR P w K mg base N qual sc f cdv A outer s H E).K (rSq K R) R := ⟨fun ⟨a, vs, e, q, p, l⟩ => ⟨a, vs, e, q, p, l⟩⟩
section
variable {P : Program} {w : World} {K : PySem.W.Frag} {mg : Str → Option Value} {base : Heap}
theorem xr_po {N : List Str} {qual : Str} {sc : Scope} {f : Addr} {cdv : Value} {A : Around} {outer : List Env} {s : Shared} {H : Hp} {E : XK} : PassesOwn (model P w) (XR P w K mg base N qual sc f cdv A outer s H E).A (XR P w K mg base N qual sc f cdv A outer s H E).env (XR P w K mg base N qual sc f cdv A outer s H E).xe :=
  L2.passes_of (X := XR P w K mg base N qual sc f cdv A outer s H E) rfl
theorem fn_okR {α : Type} {k : Nat} {x qual : Str} {st : Stmt} {f : Addr} {fd : FuncData} {N ps : List Str} {A : Arp α} {D : Addr} {r : α → Option Unit} {fb : α → Option (Out Unit Empty Unit)}
    (F : Fun K x qual st f fd) (sc : FnScope N ps (defScope st)) (hl : ∀ {S H vs z}, A.r S H vs z → vs.length = ps.length)
    (body : ∀ (cdv : Value) (Ar : Around) (outer : List Env) (s : Shared) (H : Hp) (E : XK), Room k (Ar.deeper (envOfC qual (defScope st) s.heap.objs.size f cdv)) → ∀ (S : Hp) z, RaisesTo (XR P w K mg base N qual (defScope st) f cdv Ar outer s H E) S H D →
      Run (XR P w K mg base N qual (defScope st) f cdv Ar outer s H E) S H (A.sl z ++ List.replicate (N.length - ps.length) .any) (defBody st) (fun _ : Unit => List.replicate N.length .any) (fun e : Empty => nomatch e) oNo (fb z))
    (hm : ∀ z, r z = some () → fb z = some (.rt ())) : FnOk P w K mg base (L2N.CX P w) (k + 1) f fd ps (spR A D r) := by
  obtain ⟨oc, od, kV, doc, pm, an, cdv, ct, osl, rfl, lk, hcd⟩ := F.ex
  refine fn_of lk hcd sc (fun vs H Q E ⟨S, z, sb, r, _⟩ => hl r) fun Ar outer s H vs Q E hr h => ?_
  obtain ⟨S, z, sb, r1, e, q⟩ := h
  refine ⟨_, wS_ok (X := XR P w K mg base N qual (defScope st) f cdv Ar outer s H E) _, ?_⟩
  refine body cdv Ar outer s H E hr S z ⟨_, L2N.takes_of rfl rfl rfl rfl, fun S1 H1 σ1 X1 => q S1 H1 X1⟩ S H _ _ _ ?_ (hm z e) ?_
  · have h1 := hl r1
    have := entry_ok sb (N.length - ps.length) (A.ok r1)
    unfold L2.start
    rw [h1]
    exact this
  · exact fun v S' H' ps X r f => r.elim
theorem fn_okRN {α : Type} {k : Nat} {x qual : Str} {st : Stmt} {f : Addr} {fd : FuncData} {N ps : List Str} {A : Arp α} {D : Addr} {r : α → Option Unit} {fb : α → Option (Out Unit Empty Unit)}
    (F : FunN K x qual st f fd) (sc : FnScope N ps (defScope st)) (hl : ∀ {S H vs z}, A.r S H vs z → vs.length = ps.length)
    (body : ∀ (cdv : Value) (Ar : Around) (outer : List Env) (s : Shared) (H : Hp) (E : XK), Room k (Ar.deeper (envOfC qual (defScope st) s.heap.objs.size f cdv)) → ∀ (S : Hp) z, RaisesTo (XR P w K mg base N qual (defScope st) f cdv Ar outer s H E) S H D →
      Run (XR P w K mg base N qual (defScope st) f cdv Ar outer s H E) S H (A.sl z ++ List.replicate (N.length - ps.length) .any) (defBody st) (fun _ : Unit => List.replicate N.length .any) (fun e : Empty => nomatch e) oNo (fb z))
    (hm : ∀ z, r z = some () → fb z = some (.rt ())) : FnOk P w K mg base (L2N.CX P w) (k + 1) f fd ps (spR A D r) := by
  refine F.ok sc (fun vs H Q E ⟨S, z, sb, r, _⟩ => hl r) fun cdv Ar outer s H vs Q E hr h => ?_
  obtain ⟨S, z, sb, r1, e, q⟩ := h
  refine ⟨_, wS_ok (X := XR P w K mg base N qual (defScope st) f cdv Ar outer s H E) _, ?_⟩
  refine body cdv Ar outer s H E hr S z ⟨_, L2N.takes_of rfl rfl rfl rfl, fun S1 H1 σ1 X1 => q S1 H1 X1⟩ S H _ _ _ ?_ (hm z e) ?_
  · have h1 := hl r1
    have := entry_ok sb (N.length - ps.length) (A.ok r1)
    unfold L2.start
    rw [h1]
    exact this
  · exact fun v S' H' ps X r f => r.elim
theorem FnR.of {α : Type} {k : Nat} {x : Str} {f : Addr} {fd : FuncData} {ps : List Str} {A : Arp α} {D : Addr} {r : α → Option Unit} {ds : List Value} {dvs : List V}
    (h : FnOk P w K mg base (L2N.CX P w) k f fd ps (spR A D r)) (gm : mg x = some (.ref f)) (kp : PySem.W.keepIn K (.ref f) = true) (b : Binds K fd ps ds) (hd : Vals dvs ds) : FnR P w K mg base k x A D r dvs :=
  ⟨f, fd, ps, ds, h, gm, kp, b, hd⟩
end

/-! the try: what is caught stays known behind the suite -/
section
variable {X : Cx} {x n : Str} {c : Value} {i : Nat} {body suite : List Stmt} {b₀ : Stmt} {np pos pos' : Pos}
theorem inv_pinned {pins pn' : List (Addr × Obj)} {q : Addr × Obj} {a : Addr} {σ : L2.St} {H : Hp} {s : Shared} (I : Inv (X.suite a (q :: (X.pn ++ pins))) pn' σ H s) (ok : X.Ok) : Inv X (q :: pins) σ H s :=
  ⟨ok, I.os, I.bare, I.base, I.loc, I.cell, I.free, I.freeC, fun p hp => I.pin p (by
    rcases List.mem_append.mp hp with z | z
    · exact List.mem_append_left _ (List.mem_cons_of_mem _ (List.mem_append_left _ z))
    · rcases List.mem_cons.mp z with z | z
      · exact List.mem_append_left _ (z ▸ List.mem_cons_self)
      · exact List.mem_append_left _ (List.mem_cons_of_mem _ (List.mem_append_right _ z))), I.hok, I.len⟩
theorem try_pin {pins : List (Addr × Obj)} {s : Shared} {σ : L2.St} {H : Hp} {W : WX} {Db : Ends} {Ds : Addr → Obj → L2.St → Hp → Prop} {Qx : Flow → Shared → Prop} (I : Inv X pins σ H s)
    (hs : X.stack = X.env :: X.outer) (hf : X.env.frame = some X.env.locals) (hN : X.N.Nodup) (hi : X.N[i]? = some n) (hln : X.env.kindOf n = some .local) (hc : Names X x c)
    (hb : ∀ (xe : Value → Shared → Prop), L2N.Takes (X.tr (X.pn ++ pins) xe) W → PassesOwn (model X.prog X.w) X.A X.env xe → wS (X.tr (X.pn ++ pins) xe) body Db σ H)
    (hW : ∀ cls d σ' H', W cls d σ' H' → PySem.W.exmOne X.K cls c = some true)
    (hsu : ∀ a oe cls d σ' H', L2N.Zn cls d oe → (∃ vs, oe.data = .fields vs) → W cls d σ' H' → wS (X.suite a ((a, oe) :: (X.pn ++ pins))) (b₀ :: suite) { nx := Ds a oe, rt := fun _ _ => False } (σ'.set i (some (.ref a))) H')
    (hend1 : ∀ f s1, SP X pins Db f s1 → Qx f s1)
    (hend2 : ∀ a oe σ6 H6 s7, Inv X ((a, oe) :: pins) (σ6.set i none) H6 s7 → Ds a oe σ6 H6 → Qx .next s7) :
    wpAny (model X.prog X.w) X.A (exec (.Try body [.ExceptHandler (some (.Name x np)) (some n) (b₀ :: suite) pos'] [] [] pos) X.env) Qx X.xe s := by
  have ok := I.ok
  have hfr : X.A.frames = some (X.env :: X.outer) := by rw [ok.frames, hs]
  have hloc : Loc X.env.scope n := .inl hln
  refine wpAny_Try_except ?_
  refine wpAny_mono (hb (fun e s₁ => wpAny (model X.prog X.w) X.A (noteFrame e X.env) (fun _ s₂ => wpAny (model X.prog X.w) X.A (setFlight e none) (fun _ s₃ =>
    wpAny (model X.prog X.w) X.A (handleBy e X.env [.ExceptHandler (some (.Name x np)) (some n) (b₀ :: suite) pos']) Qx X.xe s₃) X.xe s₂) X.xe s₁) (fun u s' xx => ?_) PassesOwn.looking [] s (I.toTry _)) (fun f s1 hsp => ?_) (fun e s1 he => he)
  · obtain ⟨a, B, sI, pins', σ', H', cls, d, rfl, J', nb, up, sky, na, os, ag, wW⟩ := xx
    have hb1 := hW _ _ _ _ wW
    have J : Inv X pins σ' H' sI := J'.ofTry ok
    have sky' : Sky B (X.env :: X.outer) a (L2N.Zn cls d) X.env.locals s'.heap := by rw [← hs]; exact sky
    show wpAny (model X.prog X.w) X.A (noteFrame (.ref a) X.env) _ _ _
    refine L2N.Sky.land L2N.Zn.steady hfr hf sky' fun h3 fl3 up3 => ?_
    have J3 : Inv X pins σ' H' { s' with heap := h3 } := J.landed nb fl3.1 (up.trans up3) os ag
    obtain ⟨oe3, vs3, he3, hz3, hd3⟩ := fl3.there
    have nfr : a ∉ frs (X.env :: X.outer) := fun hm => by
      obtain ⟨_, o', e', hnf⟩ := fl3.2.2.1.mem hm
      rw [he3] at e'; cases e'
      exact hnf _ hd3
    have nL : a ≠ X.env.locals := fun z => nfr (List.mem_filterMap.mpr ⟨X.env, List.mem_cons_self, by rw [hf, z]⟩)
    have nF : a ∉ X.fs := fun hm => by
      obtain ⟨e, he, q⟩ := List.mem_filterMap.mp hm
      exact nfr (List.mem_filterMap.mpr ⟨e, List.mem_cons_of_mem _ he, q⟩)
    have S3 := J3.suite he3 hd3 na nL nF
    refine wpAny_handleBy_cons (codeAny_handlers_test ?_) (by intro q; cases q)
    have LT : PySem.W.Looks (model X.prog X.w) h3 (typeOf (.ref a)) cls := fun A Q E s k q => wpAny_typeOf_ref (k _ _ he3) (by rw [hz3.1]; exact q)
    have LM := PySem.W.exm_one (M := model X.prog X.w) (J3.kIn) LT hb1
    have test : ∀ {Q : Value → Shared → Prop} {E : Value → Shared → Prop}, Q c { s' with heap := h3 } → wpAny (model X.prog X.w) (X.A.mark (some (.ref a))) (eval (.Name x np) X.env) Q E { s' with heap := h3 } := fun {Q E} q => by
      obtain ⟨hg, hdbg, hm | ⟨hm, hv, hnn⟩⟩ := hc
      · exact ld_glob (X := X.suite a ((a, oe3) :: (X.pn ++ pins))) S3 hg hm q hdbg
      · exact ld_blt (X := X.suite a ((a, oe3) :: (X.pn ++ pins))) S3 hg hm hv q hnn hdbg
    refine test (LM.here ?_)
    refine codeAny_handlers_suite_as ?_
    refine HandSPX.lands_againZ fl3 fun h4 fl4 up4 => ?_
    have J4 : Inv X pins σ' H' { s' with heap := h4 } := J.landed nb fl4.1 ((up.trans up3).trans up4) os ag
    obtain ⟨oe4, vs4, he4, hz4, hd4⟩ := fl4.there
    have S4 := J4.suite he4 hd4 na nL nF
    refine store_ok (X := X.suite a ((a, oe4) :: (X.pn ++ pins))) (v := .ref a) S4 hN hi hloc rfl (fun s5 S5 => ?_) (.inr hln)
    refine wpAny_mono (hsu a oe4 cls d σ' H' hz4 ⟨_, hd4⟩ wW [] s5 S5) (fun f s6 hsp => ?_) (fun _ _ z => False.elim z)
    cases f with
    | next =>
      obtain ⟨σ6, H6, S6, q6⟩ := hsp
      exact gone_ok (inv_pinned S6 ok) hN hi hln fun s7 J7 => hend2 a oe4 σ6 H6 s7 J7 q6
    | brk =>
      obtain ⟨σ6, H6, S6, q6⟩ := hsp
      exact q6.elim
    | cont =>
      obtain ⟨σ6, H6, S6, q6⟩ := hsp
      exact q6.elim
    | ret u =>
      obtain ⟨v6, σ6, H6, S6, r6, q6⟩ := hsp
      exact q6.elim
  · cases f with
    | next =>
      obtain ⟨σ', H', J', q⟩ := hsp
      exact wpAny_execs_nil (hend1 .next _ ⟨σ', H', J'.ofTry ok, q⟩)
    | brk =>
      obtain ⟨σ', H', J', q⟩ := hsp
      exact hend1 .brk _ ⟨σ', H', J'.ofTry ok, q⟩
    | cont =>
      obtain ⟨σ', H', J', q⟩ := hsp
      exact hend1 .cont _ ⟨σ', H', J'.ofTry ok, q⟩
    | ret u =>
      obtain ⟨v, σ', H', J', r, q⟩ := hsp
      exact hend1 (.ret u) _ ⟨v, σ', H', J'.ofTry ok, r, q⟩
end
/-- the exception at a, of the class at D, is among what the context keeps -/
structure ExIn (X : Cx) (a D : Addr) : Prop where
  ex : ∃ oe, (a, oe) ∈ X.pn ∧ L2N.Zn (.ref D) none oe ∧ ∃ vs, oe.data = .fields vs
section
variable {X : Cx} {S0 H0 S H S' H' : Hp} {G : Cxt} {σ : L2.St} {α β γ ν μ ρ νb νs : Type} {a b e : Expr} {np pos pos' p : Pos} {ss : List Stmt} {D : Addr} {Γ : ν → Cxt} {Λ : μ → Cxt} {O : Orp ρ}
/-- nothing is raised -/
theorem Run.tryN {x n : Str} {c : Value} (i : Nat) {body suite : List Stmt} {b₀ : Stmt} {mN : Option (Out νb Empty Empty)} {kN : νb → Option (Out ν μ ρ)} {ON : Orp Empty} (Γb : νb → Cxt)
    (hN : X.N.Nodup) (hc : Names X x c)
    (hB : ∀ pn xe, Run (X.tr pn xe) S0 H0 G body Γb (fun e : Empty => nomatch e) ON mN)
    (hkN : ∀ s, Run X S0 H0 (Γb s) ss Γ Λ O (kN s))
    (hs : X.stack = X.env :: X.outer := by rfl) (hf : X.env.frame = some X.env.locals := by rfl) (hi : X.N[i]? = some n := by rfl) (hln : X.env.kindOf n = some .local := by rfl) :
    Run X S0 H0 G (.Try body [.ExceptHandler (some (.Name x np)) (some n) (b₀ :: suite) pos'] [] [] pos :: ss) Γ Λ O (mN.bind (bndX kN)) := .mk fun S H σ Dn o E e' g => by
  intro pins s I
  obtain ⟨o1, e1, e2⟩ := bind_some_iff e'
  cases o1 with
  | rt z => exact nomatch z
  | bk z => exact nomatch z
  | ct z => exact nomatch z
  | nx sb =>
    refine wpAny_execs_cons ?_
    refine try_pin (W := fun _ _ _ _ => False) (Db := { nx := wS X ss Dn, rt := fun _ _ => False }) (Ds := fun _ _ _ _ => False) I hs hf hN hi hln hc (fun xe tk po => hB _ xe S H σ _ _ E e1 fun S1 H1 σ1 E1 q1 => hkN sb S1 H1 σ1 Dn o E1 e2 (g.mono q1)) (fun _ _ _ _ z => z.elim) (fun _ _ _ _ _ _ _ _ z => z.elim) (fun f s1 q => ?_) (fun _ _ _ _ _ _ z => z.elim)
    cases f with
    | next => obtain ⟨σ', H', J, q⟩ := q; exact q pins s1 J
    | ret u => obtain ⟨_, _, _, _, _, z⟩ := q; exact z.elim
    | brk => obtain ⟨_, _, _, z⟩ := q; exact z.elim
    | cont => obtain ⟨_, _, _, z⟩ := q; exact z.elim
/-- where mr says so an exception of the class at D is raised and caught -/
theorem Run.tryR {x n : Str} {c : Value} (i : Nat) {body suite : List Stmt} {b₀ : Stmt} {mr : Option Unit} {m : Option (Out ν μ ρ)} {mS : Option (Out νs Empty Empty)} {kS : νs → Option (Out ν μ ρ)} {OS : Orp Empty} (Γs : Addr → νs → Cxt)
    (hN : X.N.Nodup) (hc : Names X x c) (hx : PySem.W.exmOne X.K (.ref D) c = some true)
    (hR : ∀ pn xe, RB (X.tr pn xe) S0 H0 G body D mr)
    (hS : ∀ a pn, ExIn (X.suite a pn) a D → Run (X.suite a pn) S0 H0 (G.set i (.val (rEx a) ())) (b₀ :: suite) (Γs a) (fun e : Empty => nomatch e) OS mS)
    (hkS : ∀ a pn s, ExIn (X.tr pn X.xe) a D → Run (X.tr pn X.xe) S0 H0 ((Γs a s).set i .any) ss Γ Λ O (kS s))
    (hm : Run X S0 H0 G (.Try body [.ExceptHandler (some (.Name x np)) (some n) (b₀ :: suite) pos'] [] [] pos :: ss) Γ Λ O m)
    (hs : X.stack = X.env :: X.outer := by rfl) (hf : X.env.frame = some X.env.locals := by rfl) (hi : X.N[i]? = some n := by rfl) (hln : X.env.kindOf n = some .local := by rfl) :
    Run X S0 H0 G (.Try body [.ExceptHandler (some (.Name x np)) (some n) (b₀ :: suite) pos'] [] [] pos :: ss) Γ Λ O (tryO mr m (mS.bind (bndX kS))) := .mk fun S H σ Dn o E e' g => by
  cases hmr : mr with
  | none =>
    rw [hmr] at e'
    exact hm S H σ Dn o E e' g
  | some u =>
    intro pins s I
    rw [hmr] at e'
    obtain ⟨o1, e1, e2⟩ := bind_some_iff (show mS.bind (bndX kS) = some o from e')
    cases o1 with
    | rt z => exact nomatch z
    | bk z => exact nomatch z
    | ct z => exact nomatch z
    | nx sb =>
      refine wpAny_execs_cons ?_
      refine try_pin (W := fun cls d σ' H' => cls = .ref D ∧ d = none ∧ σ' = σ ∧ ∃ S', Ext S H S' H') (Db := { nx := fun _ _ => False, rt := fun _ _ => False })
        (Ds := fun a oe σ6 H6 => L2N.Zn (.ref D) none oe ∧ (∃ vs, oe.data = .fields vs) ∧ ∃ S6, EnvOk S0 H0 S6 H6 (Γs a sb) σ6 ∧ Same S S6) I hs hf hN hi hln hc
        (fun xe tk po => hR _ xe S H σ _ _ E tk hmr fun S' H' X1 => ⟨rfl, rfl, rfl, S', X1⟩) (fun cls d σ' H' ⟨h1, _⟩ => h1 ▸ hx) (fun a oe cls d σ' H' hz hfd ⟨h1, h2, h3, S1, X1⟩ => ?_) (fun f s1 q => ?_) (fun a oe σ6 H6 s7 J ⟨hz, hfd, S6, E6, q6⟩ => ?_)
      · subst h1 h2 h3
        exact hS a _ ⟨oe, List.mem_cons_self, hz, hfd⟩ S1 H' _ _ _ (E.setV i X1 (R := rEx a) rfl) e1 fun S6 H6 σ6 E6 q6 => ⟨hz, hfd, S6, E6, X1.st.trans q6⟩
      · cases f with
        | next => obtain ⟨_, _, _, z⟩ := q; exact z.elim
        | ret u => obtain ⟨_, _, _, _, _, z⟩ := q; exact z.elim
        | brk => obtain ⟨_, _, _, z⟩ := q; exact z.elim
        | cont => obtain ⟨_, _, _, z⟩ := q; exact z.elim
      · have ok := J.ok
        have J2 : Inv (X.tr (X.pn ++ ((a, oe) :: pins)) X.xe) [] (σ6.set i none) H6 s7 := J.toTry _
        have hmem : (a, oe) ∈ X.pn ++ ((a, oe) :: pins) := List.mem_append_right _ List.mem_cons_self
        refine thn (hkS a _ sb ⟨oe, hmem, hz, hfd⟩ S6 H6 _ Dn o E6.wipe1 e2 (g.mono q6) [] s7 J2) fun f s8 q => ?_
        have back : ∀ {σ8 : L2.St} {H8 : Hp}, Inv (X.tr (X.pn ++ ((a, oe) :: pins)) X.xe) [] σ8 H8 s8 → Inv X pins σ8 H8 s8 := fun {σ8 H8} J8 =>
          ⟨ok, J8.os, J8.bare, J8.base, J8.loc, J8.cell, J8.free, J8.freeC, fun p hp => J8.pin p (List.mem_append_left _ (by
            rcases List.mem_append.mp hp with z | z
            · exact List.mem_append_left _ z
            · exact List.mem_append_right _ (List.mem_cons_of_mem _ z))), J8.hok, J8.len⟩
        cases f with
        | next => obtain ⟨σ8, H8, J8, q⟩ := q; exact ⟨σ8, H8, back J8, q⟩
        | brk => obtain ⟨σ8, H8, J8, q⟩ := q; exact ⟨σ8, H8, back J8, q⟩
        | cont => obtain ⟨σ8, H8, J8, q⟩ := q; exact ⟨σ8, H8, back J8, q⟩
        | ret u => obtain ⟨v, σ8, H8, J8, r, q⟩ := q; exact ⟨v, σ8, H8, back J8, r, q⟩
end
/-! isinstance -/
section
variable {X : Cx} {D a : Addr}
/-- isinstance(e, c), e the exception that the context keeps -/
def rIsX (K : PySem.W.Frag) (D a : Addr) : List V → Hp → VK → Prop := fun xs H Q => ∃ (c : V) (u : Value) (b : Bool), xs = [.ref a, c] ∧ ClsV c u ∧ PySem.W.kitOne K (.ref D) u = some b ∧ Q (.bl b) H
def rIsXT (K : PySem.W.Frag) (D a : Addr) : List V → Hp → VK → Prop := fun xs H Q => ∃ (tp : Addr) (cs : List V) (us : List Value) (b : Bool), xs = [.ref a, .ref tp] ∧ H tp = some (.tup cs) ∧ Paired ClsV cs us ∧ PySem.W.kitAny K (.ref D) us = some b ∧ Q (.bl b) H
theorem ExIn.inst (hx : ExIn X a D) {pins : List (Addr × Obj)} {σ : L2.St} {H : Hp} {s : Shared} (I : Inv X pins σ H s) : ∃ oe, PySem.W.InstAt s.heap a oe D none := by
  obtain ⟨oe, hm, hz, vs, hv⟩ := hx.ex
  obtain ⟨hget, _⟩ := I.pin (a, oe) (List.mem_append_left _ hm)
  refine ⟨oe, ?_⟩
  obtain ⟨oc, od, oda, osl⟩ := oe
  obtain ⟨h1, h2, _⟩ := hz
  dsimp only at h1 h2 hv
  subst h1 h2 hv
  exact ⟨hget, rfl, rfl, trivial⟩
theorem call_isX (hx : ExIn X a D) (C : ExcC X.K D) : CallR X (.builtin "isinstance") (rIsX X.K D a) := by
  intro pins s σ H xs us Q I r h
  obtain ⟨c, u, b, rfl, k, e, q⟩ := h
  obtain ⟨u1, u2, rfl, r1, r2⟩ := vals2 r
  cases (show u1 = Value.ref a from r1)
  have e2 := k.eq r2
  subst e2
  obtain ⟨oe, J⟩ := hx.inst I
  exact PySem.W.kia_one (PySem.W.handS_kitx_exc C.hg C.hk C.hs C.hd C.ha C.hn C.ht C.hm) I.kIn J e (fun z => nomatch z) fun tk => ⟨.bl b, H, I.tok tk, rfl, q⟩
theorem call_isXT (hx : ExIn X a D) (C : ExcC X.K D) : CallR X (.builtin "isinstance") (rIsXT X.K D a) := by
  intro pins s σ H xs us Q I r h
  obtain ⟨tp, cs, ws, b, rfl, hT, k, e, q⟩ := h
  obtain ⟨u1, u2, rfl, r1, r2⟩ := vals2 r
  cases (show u1 = Value.ref a from r1)
  cases (show u2 = Value.ref tp from r2)
  obtain ⟨oe, J⟩ := hx.inst I
  obtain ⟨_, its, rv, o, h1, h2, n, h3⟩ := (show ObjOk X.prog X.w H s.heap tp (.tup cs) from I.hok tp _ hT)
  have e3 := ClsV.all k rv
  subst e3
  obtain ⟨oc, od, dt, sl⟩ := o
  simp only at h2 h3
  subst h2 h3
  exact PySem.W.kia_tup (PySem.W.handS_kitx_exc C.hg C.hk C.hs C.hd C.ha C.hn C.ht C.hm) I.kIn J h1 e (fun z => nomatch z) fun tk => ⟨.bl b, H, I.tok tk, rfl, q⟩
end
section
variable {X : Cx} {S0 H0 S H S' H' : Hp} {G : Cxt} {σ : L2.St} {α β γ : Type} {a b e : Expr} {pos pos' p : Pos} {D ad C' : Addr}
/-- isinstance(e, C), C a class of the program's own -/
theorem EvB.isXP (n : Str) (r : Bool) {p1 : Pos} (hx : ExIn X ad D) (C : ExcC X.K D) (hm : X.mg "isinstance" = none) (gc : X.mg n = some (.ref C')) (ek : PySem.W.kitOne X.K (.ref D) (.ref C') = some r) (ha : EvB X S0 H0 G a (rEx ad) (some ()))
    (hg : Gl X "isinstance" := by rfl) (hgT : Gl X n := by rfl) (hd : (n == ("__debug__" : Str)) = false := by decide) (he : starEach [a, .Name n p1] X.env = (false, eval a X.env) :: starEach [.Name n p1] X.env := by rfl) (he2 : starEach [.Name n p1] X.env = (false, eval (.Name n p1) X.env) :: starEach [] X.env := by rfl) (hpl : (backTo pos (starEach [.Name n p1] X.env)).any (·.1) = false := by rfl) :
    EvB X S0 H0 G (.Call (.Name "isinstance" p) [a, .Name n p1] [] pos) rBool (some r) := .mk fun S H σ Q z E hm' k => by
  cases hm'
  refine wE_of (pe_callB (call_isX hx C) hg hm boot_isi (pa_cons (wE_ok a) (pa_cons (pe_glob (v := .ref C') (u := .ref C') hgT gc rfl hd) pa_nil he2) he) (by decide) (by decide) he hpl) (ha S H σ _ () E rfl fun v S1 H1 X1 r1 => ?_)
  cases (show v = .ref ad from r1)
  exact ⟨_, _, _, rfl, .own C', ek, k _ S1 H1 X1 rfl⟩
/-- isinstance(e, T), T a built-in class -/
theorem EvB.isXBP (n : Str) (U : String) (r : Bool) {p1 : Pos} (hx : ExIn X ad D) (C : ExcC X.K D) (hm : X.mg "isinstance" = none) (hmT : X.mg n = none) (hv : bootBuiltins n = some (.type U)) (ek : PySem.W.kitOne X.K (.ref D) (.type U) = some r) (ha : EvB X S0 H0 G a (rEx ad) (some ()))
    (hg : Gl X "isinstance" := by rfl) (hgT : Gl X n := by rfl) (hn : n ≠ "__name__" := by decide) (hd : (n == ("__debug__" : Str)) = false := by decide) (he : starEach [a, .Name n p1] X.env = (false, eval a X.env) :: starEach [.Name n p1] X.env := by rfl) (he2 : starEach [.Name n p1] X.env = (false, eval (.Name n p1) X.env) :: starEach [] X.env := by rfl) (hpl : (backTo pos (starEach [.Name n p1] X.env)).any (·.1) = false := by rfl) :
    EvB X S0 H0 G (.Call (.Name "isinstance" p) [a, .Name n p1] [] pos) rBool (some r) := .mk fun S H σ Q z E hm' k => by
  cases hm'
  refine wE_of (pe_callB (call_isX hx C) hg hm boot_isi (pa_cons (wE_ok a) (pa_cons (pe_bltn (v := .ty U) (u := .type U) hgT hmT hv rfl hn hd) pa_nil he2) he) (by decide) (by decide) he hpl) (ha S H σ _ () E rfl fun v S1 H1 X1 r1 => ?_)
  cases (show v = .ref ad from r1)
  exact ⟨_, _, _, rfl, .ty U, ek, k _ S1 H1 X1 rfl⟩
end

/-- a class as a value -/
def rCl (C : Addr) : Rp Unit := ⟨fun _ v _ => v = .ref C, fun _ h => h⟩
structure ClT {α : Type} (Rs : Rps α) (y : α) (us : List Value) : Prop where
  h : ∀ S vs, Rs.r S vs y → Paired ClsV vs us
theorem ClT.one {C : Addr} : ClT (rsOne (rCl C)) () [.ref C] := ⟨fun S vs h => by
  obtain ⟨v, rfl, q⟩ := h
  cases (show v = .ref C from q)
  exact .cons (.own C) .nil⟩
theorem ClT.cons {α : Type} {Rs : Rps α} {y : α} {us : List Value} {C : Addr} (t : ClT Rs y us) : ClT (rsCons (rCl C) Rs) ((), y) (.ref C :: us) := ⟨fun S vs h => by
  obtain ⟨v, ws, rfl, q, r⟩ := h
  cases (show v = .ref C from q)
  exact .cons (.own C) (t.h S ws r)⟩
instance {a : Addr} : NonN (rEx a) := ⟨fun h e => by
  have h2 := e.symm.trans h
  cases h2⟩
section
variable {X : Cx} {S0 H0 S H S' H' : Hp} {G : Cxt} {σ : L2.St} {α β γ : Type} {a b e t : Expr} {pos pos' p : Pos} {D ad C' : Addr}
theorem EvB.clP {n : Str} {p1 : Pos} (gc : X.mg n = some (.ref C')) (hgT : Gl X n := by rfl) (hd : (n == ("__debug__" : Str)) = false := by decide) : EvB X S0 H0 G (.Name n p1) (rCl C') (some ()) := .mk fun S H σ Q z E hm k =>
  wE_of (pe_glob (v := .ref C') (u := .ref C') hgT gc rfl hd) (k _ S H (Ext.refl E.base.sb) rfl)
/-- isinstance(e, (C1, C2, ..)) -/
theorem EvB.isXTP {Rs : Rps α} {y : α} {us : List Value} {x1} {es : List Expr} {pt : Pos} (r : Bool) (hx : ExIn X ad D) (C : ExcC X.K D) (hm : X.mg "isinstance" = none) (ct : ClT Rs y us) (ek : PySem.W.kitAny X.K (.ref D) us = some r) (ha : EvB X S0 H0 G a (rEx ad) (some ()))
    (ht : EvB X S0 H0 G (.Tuple es x1 pt) (rT Rs) (some y))
    (hg : Gl X "isinstance" := by rfl) (he : starEach [a, .Tuple es x1 pt] X.env = (false, eval a X.env) :: starEach [.Tuple es x1 pt] X.env := by rfl) (he2 : starEach [.Tuple es x1 pt] X.env = (false, eval (.Tuple es x1 pt) X.env) :: starEach [] X.env := by rfl) (hpl : (backTo pos (starEach [.Tuple es x1 pt] X.env)).any (·.1) = false := by rfl) :
    EvB X S0 H0 G (.Call (.Name "isinstance" p) [a, .Tuple es x1 pt] [] pos) rBool (some r) := .mk fun S H σ Q z E hm' k => by
  cases hm'
  refine wE_of (pe_callB (call_isXT hx C) hg hm boot_isi (pa_cons (wE_ok a) (pa_cons (wE_ok _) pa_nil he2) he) (by decide) (by decide) he hpl) (ha S H σ _ () E rfl fun v S1 H1 X1 r1 => ?_)
  cases (show v = .ref ad from r1)
  refine ht S1 H1 σ _ y (E.mono X1) rfl fun v2 S2 H2 X2 r2 => ?_
  obtain ⟨tp, vs, rfl, q, rr⟩ := r2
  exact ⟨tp, vs, us, r, rfl, q, ct.h _ _ rr, ek, k _ S2 H2 (X1.trans X2) rfl⟩
end
/-! a def whose one parameter is a caught exception -/
def RoomE (hot : Bool) (k : Nat) (A : Around) : Prop := L2H.RoomH k A ∧ (hot = false → A.handled = none)
def spE {β : Type} (O : Orp β) (y : Option β) (a : Addr) (vs : List V) (H : Hp) (Q : VK) : Prop := ∃ S z, Same S H ∧ vs = [.ref a] ∧ y = some z ∧ ∀ v S' H' ps, Ext S H S' H' → O.r S' H' v z ps → Fresh H S' H' ps → Q v H'
/-- called with an exception of the class at D -/
def FnE (P : Program) (w : World) (K : PySem.W.Frag) (mg : Str → Option Value) (base : Heap) (hot : Bool) (k : Nat) (name : Str) {β : Type} (D : Addr) (O : Orp β) (y : Option β) : Prop :=
  ∃ fa fd x, mg name = some (.ref fa) ∧ PySem.W.keepIn K (.ref fa) = true ∧ Binds K fd [x] [] ∧
    ∀ (A : Around) (outer : List Env) (s : Shared) (H : Hp) (args : Args) (Q : VK) (p : Addr × Obj), RoomE hot k A → L2H.PinOk outer H s p → L2N.Zn (.ref D) none p.2 → (∃ vs, p.2.data = .fields vs) → Env0 P w K mg base A outer s H → BindsTo s fd args [(x, .ref p.1)] → spE O y p.1 [.ref p.1] H Q →
      codeAny (model P w) A (.call (.ref fa) args) (CR CX0 outer P w H s Q NoE) s
abbrev XE (hot : Bool) (P : Program) (w : World) (K : PySem.W.Frag) (mg : Str → Option Value) (base : Heap) (N : List Str) (qual : Str) (sc : Scope) (f : Addr) (cdv : Value) (A : Around) (outer : List Env) (s : Shared) (H : Hp) (p : Addr × Obj) : Cx :=
  Cx.nox { cxOf CX0 P w K mg base N qual sc f cdv A outer s H NoE with calm := !hot, pn := [p] }
section
variable {P : Program} {w : World} {K : PySem.W.Frag} {mg : Str → Option Value} {base : Heap}
theorem inv_startE {hot : Bool} {N ps : List Str} {qual : Str} {scope : Scope} {f : Addr} {cd : Value} {A : Around} {outer : List Env} {s s1 : Shared} {H : Hp} {us : List Value} {vs : List V} {k : Nat}
    (S : FnScope N ps scope) {p : Addr × Obj} (hr : RoomE hot k A) (hpin : L2H.PinOk outer H s p) (e0 : Env0 P w K mg base A outer s H) (hl : vs.length = ps.length) (r : Vals vs us)
    (x : InCallC s s.heap.objs.size (bindL (envOfC qual scope s.heap.objs.size f cd).kindOf (ps.zip us) fun _ => none) (cellsFrom (s.heap.objs.size + 1) scope.names []) (bindC (envOfC qual scope s.heap.objs.size f cd).kindOf (ps.zip us) fun _ => none) s1) :
    Inv (XE hot P w K mg base N qual scope f cd A outer s H p) [] (L2.start N vs) H s1 := by
  cases hot with
  | true => exact (L2H.inv_startH (CX := CX0) (E := NoE) S hpin e0 hl r x).wish _
  | false =>
    have I : Inv (cxOf CX0 P w K mg base N qual scope f cd A outer s H NoE) [] (L2.start N vs) H s1 := inv_start S (hr.2 rfl) e0 hl r x
    have hk : ∀ b o, s.heap.get? b = some o → s1.heap.get? b = some o := by
      obtain ⟨h1, tk, rfl, hk⟩ := x.done
      exact hk
    have ok := I.ok
    refine ⟨⟨ok.mod, ok.kind, ok.glob, ok.blt, ok.above, ok.inj, ok.has, ok.cab, ok.hd, ok.frames, ok.stk, ok.exf, ok.bs, ok.bsz, ok.noex, ok.exfs, ok.funs, ok.frf⟩, I.os, I.bare, I.base, I.loc, I.cell, I.free, I.freeC, fun q hq => ?_, I.hok, I.len⟩
    have eq : q = p := by simpa using (show q ∈ [p] ++ ([] : List (Addr × Obj)) from hq)
    rw [eq]
    exact ⟨hk p.1 p.2 hpin.get, hpin.free, Nat.ne_of_lt (Heap.lt_size hpin.get), hpin.nofs, hpin.nocell⟩
theorem FnE.of {β : Type} {hot : Bool} {k : Nat} {x qual xp : Str} {st : Stmt} {f : Addr} {fd : FuncData} {N : List Str} {D : Addr} {O : Orp β} {y : Option β} {fb : Option (Out Unit Empty β)} {d : Option β}
    (F : Fun K x qual st f fd) (sc : FnScope N [xp] (defScope st)) (gm : mg x = some (.ref f)) (b : Binds K fd [xp] [])
    (body : ∀ (cdv : Value) (Ar : Around) (outer : List Env) (s : Shared) (H : Hp) (p : Addr × Obj), RoomE hot k (Ar.deeper (envOfC qual (defScope st) s.heap.objs.size f cdv)) → ExIn (XE hot P w K mg base N qual (defScope st) f cdv Ar outer s H p) p.1 D → ∀ (S : Hp),
      Run (XE hot P w K mg base N qual (defScope st) f cdv Ar outer s H p) S H (.val (rEx p.1) () :: List.replicate (N.length - 1) .any) (defBody st) (fun _ : Unit => List.replicate N.length .any) (fun e : Empty => nomatch e) O fb)
    (hd : ∀ y, d = some y → ∀ S H, O.r S H .non y []) (hm : ∀ z, y = some z → fb.bind (fin d) = some z) : FnE P w K mg base hot (k + 1) x D O y := by
  have kp := F.kp
  obtain ⟨oc, od, kV, doc, pm, an, cdv, ct, osl, rfl, lk, hcd⟩ := F.ex
  refine ⟨f, _, xp, gm, kp, b, fun A outer s H args Q p hr hpin hz hf e0 hb hsp => ?_⟩
  obtain ⟨S0, z, sb, _, e, q⟩ := hsp
  have KX : K.In s.heap := e0.mod.kin.keeps fun b o e => (e0.bs b o e).1
  have lim : s.heap.NoLimit := e0.mod.nolimit.keeps fun b o e => (e0.bs b o e).1
  have hkind : ∀ y ∈ ([xp].zip [Value.ref p.1]), (defScope st).names.lookup y.1 = some .local ∨ ((defScope st).names.lookup y.1 = some .cell ∧ ((cellsFrom (s.heap.objs.size + 1) (defScope st).names []).lookup y.1).isSome = true) := fun ⟨n, v⟩ hy => by
    rcases sc.par n (List.of_mem_zip hy).1 with q | q
    · exact .inl q
    · exact .inr ⟨q, PySem.W.cellsFrom_some _ _ _ (.inl q)⟩
  refine codeAny_call_function hr.1.depth (KX _ _ lk) rfl sc.co sc.gen rfl (PySem.W.codeRec_of KX hcd) (hb _ _ _ _ ?_)
  refine wpAny_newFunctionEnv_cells sc.kind hkind fun env he s1 x => ?_
  subst he
  refine ⟨lim.keeps x.toInCall.keep, codeAny_func ?_⟩
  have hr2 : RoomE hot k (A.deeper (envOfC qual (defScope st) s.heap.objs.size f cdv)) := ⟨hr.1.deeper _, hr.2⟩
  have I : Inv (XE hot P w K mg base N qual (defScope st) f cdv A outer s H p) [] (L2.start N [.ref p.1]) H s1 := inv_startE sc hr hpin e0 rfl (.cons rfl .nil) x
  obtain ⟨o, e1, e2⟩ := bind_some_iff (hm z e)
  have hgo := body cdv A outer s H p hr2 ⟨p.2, List.mem_cons_self, hz, hf⟩ S0 S0 H (L2.start N [.ref p.1]) { nx := fun _ H' => Q .non H', rt := Q } o ?_ e1 ?_ [] s1 I
  · refine wpAny_mono hgo (fun fl s' hs => ?_) fun e s' hs => hs.elim
    have fin : ∀ {σ' : L2.St} {H' : Hp} {v : V} {u : Value}, Inv (XE hot P w K mg base N qual (defScope st) f cdv A outer s H p) [] σ' H' s' → RelV v u → Q v H' → CE outer P w H s Q u s' :=
      fun {σ' H' v u} J rv q => ⟨v, H', J.os, J.bare, J.base, J.hok, rv, q⟩
    cases fl with
    | ret u =>
      obtain ⟨v, σ', H', J, rv, q⟩ := hs
      exact fin J rv q
    | next =>
      obtain ⟨σ', H', J, q⟩ := hs
      exact fin (v := V.non) (u := Value.none) J rfl q
    | brk =>
      obtain ⟨_, _, _, q⟩ := hs
      exact False.elim q
    | cont =>
      obtain ⟨_, _, _, q⟩ := hs
      exact False.elim q
  · exact entry_ok sb (vs := [.ref p.1]) (sl := [.val (rEx p.1) ()]) (N.length - 1) ⟨rfl, trivial⟩
  · cases o with
    | nx u => exact fun S' H' σ' E' _ => q .non S' H' [] E'.base (hd z e2 S' H') Fresh.nil
    | rt v => cases e2; exact fun v S' H' ps X r f => q v S' H' ps X r f
    | bk l => exact nomatch l
    | ct l => exact nomatch l
end
section
variable {X : Cx} {S0 H0 : Hp} {G : Cxt} {β : Type} {e : Expr} {pos p : Pos} {D ad : Addr}
theorem EvO.callE {hot : Bool} {x : Str} {k j : Nat} {O : Orp β} {y : Option β} (F : FnE X.prog X.w X.K X.mg X.base hot k x D O y) (hx : ExIn X ad D) (hr : RoomE hot j X.A) (ha : EvB X S0 H0 G e (rEx ad) (some ())) (hj : k ≤ j := by decide) (hg : Gl X x := by rfl) (hdb : (x == ("__debug__" : Str)) = false := by decide)
    (he : starEach [e] X.env = (false, eval e X.env) :: starEach [] X.env := by rfl) (hpl : (backTo pos (starEach [] X.env)).any (·.1) = false := by rfl) : EvO X S0 H0 G (.Call (.Name x p) [e] [] pos) O y := .mk fun S H σ Q z E hm kk => by
  obtain ⟨fa, fd, xp, h3, h4, h5, h6⟩ := F
  intro pins s I
  refine wpAny_Call_Name_kw (ld_glob I hg h3 ?_ hdb)
  have ha2 : wA X [e] σ H (fun vs H1 => ∃ S1, Ext S H S1 H1 ∧ vs = [.ref ad]) := wA_of (pa_cons (wE_ok e) pa_nil he) (ha S H σ _ () E rfl fun v S1 H1 X1 r1 => ⟨S1, X1, by cases (show v = .ref ad from r1); rfl⟩)
  refine PySem.W.callWith_K (h₀ := X.base) I.ok.mod.kin h4 (thn (ha2 pos pins s I) fun us s1 ⟨vs, H1, I1, r, S1, X1, ev⟩ => ⟨I1.kIn, ?_⟩) he hpl
  subst ev
  obtain ⟨u, rfl, ru⟩ := vals1 r
  cases (show u = Value.ref ad from ru)
  obtain ⟨oe, hm2, hz, hf⟩ := hx.ex
  have P1 := I1.pin (ad, oe) (List.mem_append_left _ hm2)
  have hpin : L2H.PinOk X.stack H1 s1 (ad, oe) := ⟨P1.1, P1.2.1, fun hm => (List.mem_cons.mp (I1.stkSub ad hm)).elim P1.2.2.1 P1.2.2.2.1, P1.2.2.2.2⟩
  have b := h5 s1 [.ref ad] I1.kIn rfl
  refine wpAny_call (codeAny_mono (h6 X.A X.stack s1 H1 ⟨[.ref ad], []⟩ Q (ad, oe) ⟨hr.1.mono hj, hr.2⟩ hpin hz hf I1.env0 b ⟨S1, z, X1.sb, rfl, hm, fun v S' H' ps X2 r f => kk v S' H' ps (X1.trans X2) r (f.grow X1.hp)⟩) fun r s' hq => ?_)
  cases r with
  | error e => exact hq.elim
  | ok fl =>
    cases fl with
    | ret u => exact I1.after hq
    | next => exact False.elim hq
    | brk => exact False.elim hq
    | cont => exact False.elim hq
end

/-! list.count and list.index, the elements bools -/
def bqk (k : Bool) (v : Value) : Bool := match v with
  | .bool n => n == k
  | _ => false
theorem bqk_at {A : Around} {s : Shared} {k : Bool} : ∀ {us : List Value} {ns : List Bool}, Vals (ns.map V.bl) us → ∀ y ∈ us, SeqAt.EqAt A s y (.bool k) (bqk k y)
  | _, [], .nil => fun y hy => by cases hy
  | _, n :: ns, .cons r t => fun y hy => by
    rcases List.mem_cons.mp hy with e | e
    · rw [e, (show _ = Value.bool n from r)]
      exact SeqAt.EqAt.bool_bool n k
    · exact bqk_at t y e
theorem bqk_count {k : Bool} : ∀ {us : List Value} {ns : List Bool}, Vals (ns.map V.bl) us → us.countP (bqk k) = ns.count k
  | _, [], .nil => rfl
  | _, n :: ns, .cons r t => by
    have ih := bqk_count (k := k) t
    rw [(show _ = Value.bool n from r), List.countP_cons, List.count_cons, ih] <;> rfl
def rCntB (K : PySem.W.Frag) : V → List V → Hp → VK → Prop := fun x xs H Q => ∃ (p : Addr) (ns : List Bool) (k : Bool), x = .ref p ∧ xs = [.bl k] ∧ SqL K H p (ns.map V.bl) ∧ Q (.int (ns.count k : Nat)) H
theorem mt_lcountB {X : Cx} : MtR X "list.count" (rCntB X.K) := by
  intro pins s σ H x xs v us Q I rx rxs h
  obtain ⟨p, ns, k, rfl, rfl, hs, q⟩ := h
  cases rx
  obtain ⟨u, rfl, ru⟩ := rxs.one
  obtain rfl : u = Value.bool k := ru
  obtain ⟨its, rv, ⟨⟨cls, dd, data, sl⟩, n, ho, hc, hdn, hd⟩, hlen⟩ := I.list hs
  simp only at hc hd
  subst hc hd
  refine call_meets PySem.F.slot_list_count ⟨_, ho, rfl⟩ PySem.F.entry_list_count (PySem.F.args_list_count_2 _ _)
    (SeqAt.list_countAt p its.toArray n dd sl (.bool k) (bqk k)) ⟨ho, fun y hy => bqk_at rv y (by simpa using hy), ?_⟩
  have ec : its.toArray.toList.countP (bqk k) = ns.count k := bqk_count rv
  refine ⟨.int (ns.count k : Nat), H, I.tok _, ⟨s.toks, ?_⟩, q⟩
  show Value.int ((its.toArray.toList.countP (bqk k) : Nat) : Int) s.toks = Value.int ((ns.count k : Nat) : Int) s.toks
  rw [ec]
def indexBO (xs : List Bool) (x : Bool) : Option Int := if x ∈ xs then some ((xs.idxOf x : Nat) : Int) else none
theorem flat_bls (xs : List Bool) : (xs.map V.bl).all flatV = true := by
  rw [List.all_eq_true]
  intro v hv
  obtain ⟨b, _, rfl⟩ := List.mem_map.mp hv
  rfl
section
variable {X : Cx} {S0 H0 S H S' H' : Hp} {G : Cxt} {σ : L2.St} {a b e : Expr}
theorem EvB.countBP {RL : Rp (List Bool)} [L : SqRp X.K RL rBool] {xs : List Bool} {x : Bool} {apos cpos : Pos} (ha : EvB X S0 H0 G a RL (some xs)) (hb : EvB X S0 H0 G b rBool (some x))
    (hty : ∀ {H : Hp} {v : V} {x : List Bool}, RL.r H v x → tyV X.K "list" v H := by first | exact fun ⟨_, _, e, q, _⟩ => by subst e; exact Or.inl ⟨rfl, _, Or.inl (Or.inl q)⟩ | exact fun ⟨_, _, e, q, _⟩ => by subst e; exact Or.inl ⟨rfl, _, q⟩)
    (hbase : attributeBase a "count" X.env (eval a X.env) = eval a X.env := by rfl)
    (hfew : ((backTo cpos (starEach [b] X.env)).all (fun x => !x.1) && (backToKw cpos (keywordEach [] X.env)).all (fun x => x.1.isSome)
      && decide (([b] : List Expr).length + ([] : List Keyword).length + (if ([] : List Keyword).isEmpty then 0 else 1) < 30)) = true := by rfl)
    (hline : (apos.endLine == cpos.line) = true := by rfl) (hst : starEach [b] X.env = (false, eval b X.env) :: starEach [] X.env := by rfl) (hplain : (backTo cpos (starEach [] X.env)).any (·.1) = false := by rfl) :
    EvB X S0 H0 G (.Call (.Attribute a "count" apos) [b] [] cpos) rInt (some ((xs.count x : Nat) : Int)) := .mk fun S H σ Q z E hm k => by
  cases hm
  refine wE_of (pe_bm PySem.F.plainAttrs_list PySem.F.slot_list_count PySem.F.type_list_count mt_lcountB (wE_ok a) (pa_cons (wE_ok b) pa_nil hst) hbase hfew hline hst hplain) (ha S H σ _ xs E rfl fun v S1 H1 X1 r1 => ?_)
  refine ⟨hty r1, hb S1 H1 σ _ x (E.mono X1) rfl fun w S2 H2 X2 r2 => ?_⟩
  obtain ⟨l, vs, rfl, q, pr, _⟩ := L.sq (RL.mono X2.hp r1)
  cases (show w = .bl x from r2)
  rw [bls_of pr] at q
  exact ⟨l, xs, x, rfl, rfl, q, k _ S2 H2 (X1.trans X2) rfl⟩
theorem EvB.indexBP {RL : Rp (List Bool)} [L : SqRp X.K RL rBool] {xs : List Bool} {x : Bool} {apos cpos : Pos} (ha : EvB X S0 H0 G a RL (some xs)) (hb : EvB X S0 H0 G b rBool (some x))
    (hty : ∀ {H : Hp} {v : V} {x : List Bool}, RL.r H v x → tyV X.K "list" v H := by first | exact fun ⟨_, _, e, q, _⟩ => by subst e; exact Or.inl ⟨rfl, _, Or.inl (Or.inl q)⟩ | exact fun ⟨_, _, e, q, _⟩ => by subst e; exact Or.inl ⟨rfl, _, q⟩)
    (hbase : attributeBase a "index" X.env (eval a X.env) = eval a X.env := by rfl)
    (hfew : ((backTo cpos (starEach [b] X.env)).all (fun x => !x.1) && (backToKw cpos (keywordEach [] X.env)).all (fun x => x.1.isSome)
      && decide (([b] : List Expr).length + ([] : List Keyword).length + (if ([] : List Keyword).isEmpty then 0 else 1) < 30)) = true := by rfl)
    (hline : (apos.endLine == cpos.line) = true := by rfl) (hst : starEach [b] X.env = (false, eval b X.env) :: starEach [] X.env := by rfl) (hplain : (backTo cpos (starEach [] X.env)).any (·.1) = false := by rfl) :
    EvB X S0 H0 G (.Call (.Attribute a "index" apos) [b] [] cpos) rInt (indexBO xs x) := .mk fun S H σ Q z E hm k => by
  unfold indexBO at hm
  split at hm
  · next hx =>
    cases hm
    refine wE_of (pe_bm PySem.F.plainAttrs_list PySem.F.slot_list_index PySem.F.type_list_index mt_index (wE_ok a) (pa_cons (wE_ok b) pa_nil hst) hbase hfew hline hst hplain) (ha S H σ _ xs E rfl fun v S1 H1 X1 r1 => ?_)
    refine ⟨hty r1, hb S1 H1 σ _ x (E.mono X1) rfl fun w S2 H2 X2 r2 => ?_⟩
    obtain ⟨l, vs, rfl, q, pr, _⟩ := L.sq (RL.mono X2.hp r1)
    cases (show w = .bl x from r2)
    rw [bls_of pr] at q
    have hlt := List.idxOf_lt_length_of_mem hx
    have h1 : xs[xs.idxOf x]? = some x := by rw [List.getElem?_eq_getElem hlt]; simp
    refine ⟨l, _, .bl x, xs.idxOf x, .bl x, rfl, rfl, q, rfl, flat_bls xs, by rw [List.getElem?_map, h1]; rfl, by simp [eqV], fun m z' hm' hz' => ?_, k _ S2 H2 (X1.trans X2) rfl⟩
    rw [List.getElem?_map] at hz'
    cases e1 : xs[m]? with
    | none => rw [e1] at hz'; cases hz'
    | some y =>
      rw [e1] at hz'
      cases hz'
      have hne : y ≠ x := fun e2 => by
        subst e2
        have := List.not_of_lt_findIdx (p := (· == y)) (xs := xs) (i := m) hm'
        rw [List.getElem?_eq_some_iff] at e1
        obtain ⟨hl, e1⟩ := e1
        rw [e1] at this
        simp at this
      simpa [eqV] using hne
  · cases hm
end

instance {a : Addr} : Flat (rEx a) := ⟨fun h => h⟩
def finR {ν μ : Type} : Out ν μ Unit → Option Unit
  | .rt _ => some ()
  | _ => none
theorem finR_of {ν μ : Type} {m : Option (Out ν μ Unit)} (h : m.bind finR = some ()) : m = some (.rt ()) := by
  obtain ⟨o, rfl, h2⟩ := bind_some_iff h
  cases o with
  | rt u => rfl
  | nx s => cases h2
  | bk l => cases h2
  | ct l => cases h2
theorem finR_rt {ν μ : Type} (u : Unit) : finR (.rt u : Out ν μ Unit) = some () := rfl
section
variable {X : Cx} {S0 H0 : Hp} {G : Cxt} {α : Type} {ss : List Stmt} {D : Addr}
theorem RB.letP {x : α} {c : α → Option Unit} (h : ∀ y, y = x → RB X S0 H0 G ss D (c y)) : RB X S0 H0 G ss D (letP x c) := .mk fun S H σ W Dn E tk hc hw => h x rfl S H σ W Dn E tk hc hw
end

def oNoE : Orp Empty := ⟨fun _ _ _ _ _ => False, fun _ _ h => h, ⟨fun _ _ _ => False, fun _ h => h⟩, fun h _ _ => h⟩
theorem boot_ValueErrorT : bootBuiltins "ValueError" = some (.type "ValueError") := by decide +kernel
section
variable {X : Cx} {S0 H0 : Hp} {G : Cxt} {pos : Pos}
theorem EvB.unitP {j} : EvB X S0 H0 G (.Constant .none j pos) rUnit (some ()) := .mk fun S H σ Q z E hm k => by
  cases hm
  exact EvB.non (R := rInt) S H σ Q none E rfl fun v S' H' X1 r => k v S' H' X1 r
theorem EvV.unitP {j} : EvV X S0 H0 G (.Constant .none j pos) rUnit (some ()) := EvB.unitP.val
end

theorem roomE_hot {k : Nat} {A : Around} {h : Option Value} (hr : Room k A) : RoomE true k (A.mark h) := ⟨⟨hr.dp, hr.un⟩, fun z => Bool.noConfusion z⟩
theorem roomE_calm {k : Nat} {A : Around} (hr : Room k A) : RoomE false k A := ⟨L2H.roomH_of hr, fun _ => hr.hd⟩
instance tupI4 : TupI (rsCons rInt (rsCons rInt (rsCons rInt (rsOne rInt)))) := ⟨fun x => [x.1, x.2.1, x.2.2.1, x.2.2.2], 4, fun ⟨v, ws, e, q, v2, ws2, e2, q2, v3, ws3, e3, q3, v4, e4, q4⟩ => ⟨by rw [e, e2, e3, e4]; cases q; cases q2; cases q3; cases q4; rfl, by simp⟩⟩
instance tupI5 : TupI (rsCons rInt (rsCons rInt (rsCons rInt (rsCons rInt (rsOne rInt))))) := ⟨fun x => [x.1, x.2.1, x.2.2.1, x.2.2.2.1, x.2.2.2.2], 5, fun ⟨v, ws, e, q, v2, ws2, e2, q2, v3, ws3, e3, q3, v4, ws4, e4, q4, v5, e5, q5⟩ => ⟨by rw [e, e2, e3, e4, e5]; cases q; cases q2; cases q3; cases q4; cases q5; rfl, by simp⟩⟩
instance tupI6 : TupI (rsCons rInt (rsCons rInt (rsCons rInt (rsCons rInt (rsCons rInt (rsOne rInt)))))) := ⟨fun x => [x.1, x.2.1, x.2.2.1, x.2.2.2.1, x.2.2.2.2.1, x.2.2.2.2.2], 6, fun ⟨v, ws, e, q, v2, ws2, e2, q2, v3, ws3, e3, q3, v4, ws4, e4, q4, v5, ws5, e5, q5, v6, e6, q6⟩ => ⟨by rw [e, e2, e3, e4, e5, e6]; cases q; cases q2; cases q3; cases q4; cases q5; cases q6; rfl, by simp⟩⟩
end Gc

namespace Gc
open PySem PySem.Spec PyProof.Rows L2
variable [Tn]
/-! ## 26. more rows that raise -/
instance : Flat rAny0 := ⟨fun _ => trivial⟩
section
variable {X : Cx} {S0 H0 : Hp} {G : Cxt} {e : Expr} {pos pos' : Pos} {ss : List Stmt} {D : Addr}
theorem RB.asg {c : Option Unit} (i : Nat) {x : Str} (hN : X.N.Nodup) (h : EvX X S0 H0 G e D c) (hi : X.N[i]? = some x := by rfl) (hx : Loc X.env.scope x := by first | exact .inl rfl | exact .inr rfl) (hs : swapsWith e (some (.Name x pos')) pos.line X.env = pure false := by rfl)
    (hf : X.fn x = true ∨ X.env.scope.names.lookup x = some .local := by first | exact .inl rfl | exact .inr rfl | assumption) : RB X S0 H0 G (.Assign [.Name x pos'] e pos :: ss) D c := .mk fun S H σ W Dn E tk hc hw =>
  wS_of (pss_cons (ps_set (i := i) hN hi hx (wE_ok e) hs hf) (wS_ok ss)) (h S H σ W _ E tk hc hw)
end
/-! what the end tells of classes -/
section
variable {K : PySem.W.Frag} {C D : Addr} {b : Bool}
theorem kit_true (h2 : PySem.W.isClsIn K C = true) (h3 : PySem.W.typeIn K (.ref C) = some (.type "type")) (h4 : PySem.W.subIn K (.ref D) (.ref C) = some true) : PySem.W.kitOne K (.ref D) (.ref C) = some true := by
  unfold PySem.W.kitOne
  split
  · rfl
  · unfold PySem.W.kitCls
    have h2' : (PySem.W.clsIn K C).isSome = true := h2
    dsimp only
    rw [h2', h3, if_pos (by rfl)]
    exact h4
theorem kit_false (h2 : PySem.W.isClsIn K C = true) (h3 : PySem.W.typeIn K (.ref C) = some (.type "type")) (h4 : PySem.W.subIn K (.ref D) (.ref C) = some false) (h5 : PySem.W.subIn K (.ref D) (.ref D) = some true) : PySem.W.kitOne K (.ref D) (.ref C) = some false := by
  unfold PySem.W.kitOne
  split
  · next e =>
    have e1 : Value.ref D = Value.ref C := beq_iff_eq.mp e
    have e2 : D = C := by injection e1
    subst e2
    rw [h5] at h4
    cases h4
  · unfold PySem.W.kitCls
    have h2' : (PySem.W.clsIn K C).isSome = true := h2
    dsimp only
    rw [h2', h3, if_pos (by rfl)]
    exact h4
theorem kit_bltn {U : String} (hm : PySem.W.kitMeta U = true) (h4 : PySem.W.subIn K (.ref D) (.type U) = some b) : PySem.W.kitOne K (.ref D) (.type U) = some b := by
  unfold PySem.W.kitOne
  split
  · next e =>
    have e1 : Value.ref D = Value.type U := beq_iff_eq.mp e
    cases e1
  · unfold PySem.W.kitCls
    dsimp only
    rw [if_pos hm]
    exact h4
theorem kitAny_t {t c : Value} {r : List Value} (h : PySem.W.kitOne K t c = some true) : PySem.W.kitAny K t (c :: r) = some true := by
  unfold PySem.W.kitAny
  rw [h]
theorem kitAny_f {t c : Value} {r : List Value} (h : PySem.W.kitOne K t c = some false) (h2 : PySem.W.kitAny K t r = some b) : PySem.W.kitAny K t (c :: r) = some b := by
  unfold PySem.W.kitAny
  rw [h]
  exact h2
theorem exm_of (h1 : PySem.W.subIn K (.ref C) (.type "BaseException") = some true) (h2 : PySem.W.isClsIn K C = true) (h3 : PySem.W.typeIn K (.ref C) = some (.type "type")) (h4 : PySem.W.subIn K (.ref D) (.ref C) = some b) : PySem.W.exmOne K (.ref D) (.ref C) = some b := by
  unfold PySem.W.exmOne PySem.W.kitCls
  have h2' : (PySem.W.clsIn K C).isSome = true := h2
  dsimp only
  rw [h1, if_pos (by rfl), h2', h3, if_pos (by rfl)]
  exact h4
end
end Gc

namespace Gc
open PySem PySem.Spec PyProof.Rows L2
variable [Tn]
/-! ## 27. the other way round, without the first -/
theorem rev0_range (m : Nat) : sliceRange (m : Int) 0 (-1) = (List.range m).map fun k => m - k := by
  unfold sliceRange
  have h1 : ¬ ((-1 : Int) > 0) := by decide
  by_cases h : (m : Int) > 0
  · have e : ((m : Int) - 0 - -1 - 1) / (- -1) = (m : Int) := by
      rw [show (- -1 : Int) = 1 by decide, Int.ediv_one]
      omega
    simp only [h1, if_false, h, if_true, e, Int.toNat_natCast]
    apply List.map_congr_left
    intro k hk
    have := List.mem_range.mp hk
    omega
  · have e : m = 0 := by omega
    subst e
    simp
theorem fm_congr {α β : Type} {f g : α → Option β} : ∀ {l : List α}, (∀ x ∈ l, f x = g x) → l.filterMap f = l.filterMap g
  | [], _ => rfl
  | x :: l, h => by
    have h0 := h x (List.mem_cons_self ..)
    have ih := fm_congr (l := l) fun y hy => h y (List.mem_cons_of_mem _ hy)
    rw [List.filterMap_cons, List.filterMap_cons, h0, ih]
theorem rev0_pick (items : Array Value) : slicePick items none (some 0) (some (-1)) = items.toList.tail.reverse.toArray := by
  obtain ⟨l⟩ := items
  cases l with
  | nil => rfl
  | cons x t =>
    unfold slicePick
    have hb : sliceBounds none (some 0) (some (-1)) (x :: t).toArray.size = ((t.length : Int), 0, -1) := by
      unfold sliceBounds
      simp only [List.size_toArray, List.length_cons, Option.getD_some]
      have h1 : ¬ ((-1 : Int) > 0) := by decide
      simp only [h1, if_false]
      have e1 : ((t.length + 1 : Nat) : Int) - 1 = (t.length : Int) := by omega
      have e2 : max (-1 : Int) (min (if (0 : Int) < 0 then 0 + ((t.length + 1 : Nat) : Int) else 0) (((t.length + 1 : Nat) : Int) - 1)) = 0 := by
        rw [if_neg (by decide)]
        omega
      rw [e2, e1]
    rw [hb]
    show ((sliceRange (t.length : Int) 0 (-1)).filterMap ((x :: t).toArray[·]?)).toArray = _
    rw [rev0_range]
    have e3 : ((List.range t.length).map fun k => t.length - k).filterMap ((x :: t).toArray[·]?) = ((List.range t.length).map fun k => t.length - 1 - k).filterMap (t.toArray[·]?) := by
      rw [List.filterMap_map, List.filterMap_map]
      apply fm_congr
      intro k hk
      have hk := List.mem_range.mp hk
      show (x :: t).toArray[t.length - k]? = t.toArray[t.length - 1 - k]?
      rw [show t.length - k = (t.length - 1 - k) + 1 by omega]
      simp
    have e4 := PySem.W.krv_all t.toArray
    rw [List.size_toArray] at e4
    rw [e3, PySem.W.krv_range, List.filterMap_reverse, e4]
    rfl
def tRev0 (K : PySem.W.Frag) (te : TE) : TE := fun σ H Q => te σ H fun x H1 => ∃ a xs, x = .ref a ∧ SqL K H1 a xs ∧ ∀ p, H1 p = none → Q (.ref p) (upd H1 p (.lst xs.tail.reverse))
theorem vals_tail : ∀ {xs : List V} {us : List Value}, Vals xs us → Vals xs.tail us.tail
  | _, _, .nil => .nil
  | _, _, .cons _ t => t
theorem pe_rev0 {X : Cx} {e : Expr} {te : TE} {k j : Nat} {p0 p1 p2 p3 pos : Pos} (he : PE X e te) : PE X (.Subscript e (.Slice none (some (.Constant (.int 0) j p0)) (some (.UnaryOp .USub (.Constant (.int 1) k p1) p2)) p3) pos) (tRev0 X.K te) := by
  refine ⟨fun pins s σ H Q I h => ?_⟩
  refine Subscript_ (thn (he.run pins s σ H _ I h) fun v s1 ⟨x, H1, I1, r1, q1⟩ => ?_)
  obtain ⟨a, xs, ex, hx, q⟩ := q1
  subst ex
  cases r1
  have hst : PO X (some (.UnaryOp .USub (.Constant (.int 1) k p1) p2)) (tPart (tUn (rU fun i => .int (-i)) (tC (.int 1)))) := po_some (pe_un un_neg pe_int)
  have hup : PO X (some (.Constant (.int 0) j p0)) (tPart (tC (.int 0))) := po_some pe_int
  refine wpAny_Slice (thn (po_none.run pins s1 σ H1 (fun o H2 => o = none ∧ H2 = H1) I1 ⟨rfl, rfl⟩) fun vl s2 ⟨l, H2, I2, pl, el, e2⟩ => ?_)
  subst el e2
  refine thn (hup.run pins s2 σ H2 (fun o H3 => o = some 0 ∧ H3 = H2) I2 ⟨0, rfl, rfl, rfl⟩) fun vu s3 ⟨u, H3, I3, pu, eu, e3⟩ => ?_
  subst eu e3
  refine thn (hst.run pins s3 σ H3 (fun o H4 => o = some (-1) ∧ H4 = H3) I3 ⟨1, rfl, -1, rfl, rfl, rfl⟩) fun vs s4 ⟨o, H4, I4, ps, eo, e4⟩ => ?_
  subst eo e4
  have I5 : Inv X pins σ H4 { s4 with heap := s4.heap.push { cls := .type "slice", data := .fields #[vl, vu, vs] } } := I4.kept (t' := s4.toks) fun b ob q => Heap.get?_push_of_some _ q
  obtain ⟨its, r, ht, hz⟩ := I5.list hx
  have hlen := r.length
  show wpAny (model X.prog X.w) X.A (subscriptTail e (.Slice none (some (.Constant (.int 0) j p0)) (some (.UnaryOp .USub (.Constant (.int 1) k p1) p2)) p3) (.ref a) (.ref s4.heap.objs.size)) (EP X pins σ Q) X.xe { s4 with heap := s4.heap.push { cls := .type "slice", data := .fields #[vl, vu, vs] } }
  refine tail_any (ops := [.ref a, .ref s4.heap.objs.size]) ht.isList.typeIs (PySem.slot_list_getitem.lookup) ?_ (by with_unfolding_all rfl)
  refine wpAny_getItem_list_slice ht.isList (Heap.IsSliceOf.new _ vl vu vs) pl pu ps (by decide) ?_ (by rw [List.size_toArray]; omega)
  rw [rev0_pick]
  have hz2 : xs.tail.length ≤ xs.length := by rw [List.length_tail]; omega
  refine ⟨.ref _, _, I5.laid (t' := s4.toks) (o := .lst xs.tail.reverse) (fun b ob q => Heap.get?_push_of_some _ q) (Nat.le_refl _) ?_, rfl, q _ (I5.hok.fresh (Nat.le_refl _))⟩
  exact ⟨by rw [List.length_reverse]; omega, _, 0, (vals_tail r).reverse, Heap.get?_push_size _ rfl⟩
theorem paired_tail {α β : Type} {F : α → β → Prop} : ∀ {l : List α} {m : List β}, Paired F l m → Paired F l.tail m.tail
  | _, _, .nil => .nil
  | _, _, .cons _ t => t
section
variable {X : Cx} {S0 H0 S H S' H' : Hp} {G : Cxt} {σ : L2.St} {α : Type} {a : Expr} {pos : Pos}
theorem EvO.rev0P {RL : Rp (List α)} {R : Rp α} [Flat R] [L : SqRp X.K RL R] {xs : List α} {k j : Nat} {p0 p1 p2 p3 : Pos} (ha : EvB X S0 H0 G a RL (some xs)) : EvO X S0 H0 G (.Subscript a (.Slice none (some (.Constant (.int 0) j p0)) (some (.UnaryOp .USub (.Constant (.int 1) k p1) p2)) p3) pos) (oL (oV R)) (some xs.tail.reverse) := .mk fun S H σ Q zs E hm kk => by
  cases hm
  refine wE_of (pe_rev0 (wE_ok a)) (ha S H σ _ xs E rfl fun v S1 H1 X1 r1 => ?_)
  obtain ⟨l, vs, rfl, q1, pr, l1⟩ := L.sq r1
  refine ⟨l, vs, rfl, q1, fun p hp => ?_⟩
  exact EvO.newL X1 hp (paired_rev (paired_tail (Paired.map_r (fun _ _ h => Flat.fl h) pr))) (by rw [List.length_reverse, List.length_tail]; omega) kk
end
end Gc

namespace Gc
open PySem PySem.Spec PyProof.Rows L2
variable [Tn]
/-! ## 28. one's own thing handed over for good -/
def cutH (H : Hp) (ps : List Addr) : Hp := fun b => if b ∈ ps then none else H b
theorem cutH_some {H : Hp} {ps : List Addr} {b : Addr} {o : HO} (h : cutH H ps b = some o) : b ∉ ps ∧ H b = some o := by
  unfold cutH at h
  split at h
  · cases h
  · next hb => exact ⟨hb, h⟩
theorem cutH_of {H : Hp} {ps : List Addr} {b : Addr} (h : b ∉ ps) : cutH H ps b = H b := by
  unfold cutH; rw [if_neg h]
theorem cutH_same {H : Hp} {ps : List Addr} : Same (cutH H ps) H := fun b o h => (cutH_some h).2
theorem Ext.cut {S H : Hp} {ps : List Addr} (sb : Same S H) : Ext S (cutH H ps) S H :=
  ⟨Same.refl S, cutH_same.k, fun a h _ => h, sb, fun P t => t.ext (Same.refl S) fun ps e => cutH_same P _ e⟩
theorem cutH_ne {H : Hp} {ps : List Addr} {a : Addr} (h : cutH H ps a ≠ none) : a ∉ ps := fun hm => h (by unfold cutH; rw [if_pos hm])
theorem Ext.uncut {S0 H0 S H S' H' : Hp} {ps : List Addr} (b : Ext S0 H0 S H) (n0 : ∀ a, H0 a ≠ none → a ∉ ps) (x : Ext S (cutH H ps) S' H') : Ext S0 H0 S' H' := by
  refine ⟨b.st.trans x.st, ⟨fun a o z n => ?_, fun a qs z => ?_⟩, fun a z1 z2 => ?_, x.sb, fun P t => ?_⟩
  · exact x.hp.kp a o (by rw [cutH_of (n0 a (by rw [z]; simp))]; exact b.hp.kp a o z n) n
  · obtain ⟨rs, e⟩ := b.hp.tab a qs z
    exact x.hp.tab a rs (by rw [cutH_of (n0 a (by rw [z]; simp))]; exact e)
  · exact x.nw a (b.nw a z1 z2) (by rw [cutH_of (n0 a z2)]; exact ne_keep b.hp z2)
  · exact x.tb P ((b.tb P t).ext (Same.refl S) fun ps e => by rw [cutH_of (n0 P t.at_)]; exact e)
/-- one slot owns, the others hold nothing -/
theorem EnvOk.one {α : Type} {O : Orp α} {v : V} {x : α} {ps : List Addr} {S H : Hp} {σ : L2.St} {n j : Nat} (sb : Same S H) (r : O.r S H v x ps) (nd : ps.Nodup) (fr : ∀ p ∈ ps, S p = none ∧ H p ≠ none) (hl : σ.length = n) (hj : j < n) :
    EnvOk S (cutH H ps) S H ((List.replicate n .any).set j (.ow O x)) (σ.set j (some v)) := by
  refine ⟨Ext.cut sb, by simp [hl], fun k => if k = j then ps else [], fun k s es => ?_, ⟨fun k p hp => ?_, fun k => ?_, fun k l p h1 h2 => ?_⟩⟩
  · rcases set_get es with ⟨rfl, rfl, _⟩ | ⟨ne, es⟩
    · exact ⟨some v, by rw [List.getElem?_set_self (by omega)], v, rfl, by simpa using r⟩
    · have hk : k < n := by
        have := (List.getElem?_eq_some_iff.mp es).1
        simpa using this
      have e2 : s = .any := by
        rw [List.getElem?_replicate, if_pos hk] at es
        exact (Option.some.inj es).symm
      subst e2
      have hk' : k < (σ.set j (some v)).length := by rw [List.length_set, hl]; exact hk
      refine ⟨_, List.getElem?_eq_getElem hk', ?_⟩
      show (if k = j then ps else []) = []
      rw [if_neg (fun z => ne z.symm)]
  · replace hp : p ∈ (if k = j then ps else []) := hp
    by_cases e : k = j
    · rw [if_pos e] at hp
      exact ⟨(fr p hp).1, (fr p hp).2, by unfold cutH; rw [if_pos hp], by rw [List.length_set, List.length_replicate, e]; exact hj⟩
    · rw [if_neg e] at hp; cases hp
  · show (if k = j then ps else []).Nodup
    split
    · exact nd
    · exact .nil
  · replace h1 : p ∈ (if k = j then ps else []) := h1
    replace h2 : p ∈ (if l = j then ps else []) := h2
    by_cases e1 : k = j
    · by_cases e2 : l = j
      · omega
      · rw [if_neg e2] at h2; cases h2
    · rw [if_neg e1] at h1; cases h1
theorem EnvOk.none {S0 H0 S H : Hp} {σ : L2.St} {n : Nat} (b : Ext S0 H0 S H) (hl : σ.length = n) : EnvOk S0 H0 S H (List.replicate n .any) σ := by
  refine ⟨b, by simp [hl], fun _ => [], fun k s es => ?_, ⟨fun k p hp => absurd hp (by simp), fun _ => .nil, fun _ _ _ h => absurd h (by simp)⟩⟩
  have hk : k < n := by
    have := (List.getElem?_eq_some_iff.mp es).1
    simpa using this
  rw [List.getElem?_replicate, if_pos hk] at es
  cases es
  have hk' : k < σ.length := by omega
  exact ⟨_, List.getElem?_eq_getElem hk', rfl⟩
/-- called with a thing that is nobody else's: what it leaves of that is not told -/
def spMv {α : Type} (O : Orp α) (f : α → Option Unit) : Sp := fun vs H Q _ => ∃ S v x ps, vs = [v] ∧ Same S H ∧ O.r S H v x ps ∧ ps.Nodup ∧ (∀ p ∈ ps, S p = none ∧ H p ≠ none) ∧ f x = some () ∧ ∀ S' H', Ext S (cutH H ps) S' H' → Q .non H'
def FnM (P : Program) (w : World) (K : PySem.W.Frag) (mg : Str → Option Value) (base : Heap) (k : Nat) (name : Str) {α : Type} (O : Orp α) (f : α → Option Unit) : Prop :=
  ∃ fa fd xp, FnOk P w K mg base CX0 k fa fd [xp] (spMv O f) ∧ mg name = some (.ref fa) ∧ PySem.W.keepIn K (.ref fa) = true ∧ Binds K fd [xp] []
section
variable {P : Program} {w : World} {K : PySem.W.Frag} {mg : Str → Option Value} {base : Heap}
theorem FnM.of {α : Type} {k : Nat} {x qual xp : Str} {st : Stmt} {f : Addr} {fd : FuncData} {N : List Str} {O : Orp α} {fm : α → Option Unit} {fb : α → Option (Out Unit Empty Unit)}
    (F : Fun K x qual st f fd) (sc : FnScope N [xp] (defScope st)) (gm : mg x = some (.ref f)) (b : Binds K fd [xp] []) (h0 : 0 < N.length)
    (body : ∀ (cdv : Value) (Ar : Around) (outer : List Env) (s : Shared) (H : Hp) (E : XK), Room k (Ar.deeper (envOfC qual (defScope st) s.heap.objs.size f cdv)) → ∀ (S0 H0 : Hp) z,
      Run (XF P w K mg base N qual (defScope st) f cdv Ar outer s H E) S0 H0 ((List.replicate N.length .any).set 0 (.ow O z)) (defBody st) (fun _ : Unit => List.replicate N.length .any) (fun e : Empty => nomatch e) (oV rUnit) (fb z))
    (hm : ∀ z, fm z = some () → fb z = some (.nx ())) : FnM P w K mg base (k + 1) x O fm := by
  refine ⟨f, fd, xp, ?_, gm, F.kp, b⟩
  refine F.ok sc (fun vs H Q E ⟨S, v, z, ps, e, _⟩ => by rw [e]; rfl) (fun cdv Ar outer s H vs Q E hr h => ?_)
  obtain ⟨S, v, z, ps, rfl, sb, r, nd, fr, e, q⟩ := h
  refine ⟨_, wS_ok _, ?_⟩
  refine body cdv Ar outer s H E hr S (cutH H ps) z S H _ _ _ ?_ (hm z e) ?_
  · have hst : L2.start N [v] = (List.replicate N.length (none : Option V)).set 0 (some v) := by
      unfold L2.start
      cases N with
      | nil => cases h0
      | cons y ys => simp [List.replicate_succ]
    rw [hst]
    exact EnvOk.one sb r nd fr (by simp) h0
  · exact fun S' H' σ' E' _ => q S' H' E'.base
end
section
variable {X : Cx} {S0 H0 S H S' H' : Hp} {G : Cxt} {σ : L2.St} {α β γ ν μ ρ : Type} {e : Expr} {pos pos' p p2 cpos : Pos} {ss : List Stmt} {Γ : ν → Cxt} {Λ : μ → Cxt} {O : Orp ρ}
/-- f(x): x is gone -/
theorem Run.mvP {x xn : Str} {k j : Nat} {O' : Orp α} {y : α} {f : α → Option Unit} {m : Option (Out ν μ ρ)} (i : Nat) (F : FnM X.prog X.w X.K X.mg X.base k x O' f) (hr : Room j X.A) (hk : Run X S0 H0 (G.set i .any) ss Γ Λ O m) (hj : k ≤ j := by decide)
    (hG : G[i]? = some (.ow O' y) := by rfl) (hN : X.N[i]? = some xn := by rfl) (hv : Vis X.env.scope xn := by first | exact Or.inl rfl | exact Or.inr (Or.inl rfl) | exact Or.inr (Or.inr rfl)) (hg : Gl X x := by rfl) (hdb : (x == ("__debug__" : Str)) = false := by decide)
    (hd : (xn == ("__debug__" : Str)) = false := by decide) (hcd : (xn == ("__classdict__" : Str)) = false := by decide)
    (he : starEach [.Name xn p2] X.env = (false, eval (.Name xn p2) X.env) :: starEach [] X.env := by rfl) (hpl : (backTo cpos (starEach [] X.env)).any (·.1) = false := by rfl)
    (hs : swapsWith (.Call (.Name x p) [.Name xn p2] [] cpos) none pos.line X.env = pure false := by rfl) :
    Run X S0 H0 G (.Expr (.Call (.Name x p) [.Name xn p2] [] cpos) pos :: ss) Γ Λ O ((f y).bind fun _ => m) := .mk fun S H σ D o E e' g => by
  obtain ⟨u, e1, e'⟩ := bind_some_iff e'
  obtain ⟨fa, fd, xp, h1, h3, h4, h5⟩ := F
  obtain ⟨fp, ok, Fp⟩ := E.ex
  obtain ⟨o', e3, v, eo, r⟩ := ok i _ hG
  subst eo
  have hi : i < G.length := (List.getElem?_eq_some_iff.mp hG).1
  refine wS_of (pss_cons (ps_expr (pe_call (E := NoE) h1 (hr.mono hj) hg h3 h4 h5 .nil (show Passes CX0 X NoE from fun _ _ _ _ _ _ _ h => h.elim) (pa_cons (pe_var hN hv hd hcd) pa_nil he) hdb he hpl) hs) (wS_ok ss)) ?_
  refine ⟨v, e3, ?_⟩
  show spMv O' f [v] H (fun _ H1 => wS X ss D σ H1) NoE
  refine ⟨S, v, y, fp i, rfl, E.base.sb, r, Fp.nd i, fun p hp => ⟨(Fp.at_ i p hp).1, (Fp.at_ i p hp).2.1⟩, e1, fun S' H' X1 => ?_⟩
  refine hk S' H' σ D o ?_ e' (g.mono X1.st)
  have n0 : ∀ a, H0 a ≠ none → a ∉ fp i := fun a h m => h (Fp.at_ i a m).2.2.1
  have other : ∀ j p, j ≠ i → p ∈ fp j → Kp H H' p := fun j p ne hp => ⟨fun o q nt => X1.hp.kp p o (by rw [cutH_of (fun z => ne (Fp.sep j i p hp z))]; exact q) nt⟩
  refine ⟨Ext.uncut E.base n0 X1, by simp [E.len], fun j => if j = i then [] else fp j, fun j s es => ?_, ⟨fun j p hp => ?_, fun j => ?_, fun j l p h1 h2 => ?_⟩⟩
  · rcases set_get es with ⟨rfl, rfl, _⟩ | ⟨ne, es⟩
    · exact ⟨some v, e3, by simp [SlotOk]⟩
    · obtain ⟨o, e1, q⟩ := ok j s es
      refine ⟨o, e1, ?_⟩
      simp only [if_neg (fun z => ne z.symm : ¬ j = i)]
      exact q.mono X1.st fun p hp => other j p (fun z => ne z.symm) hp
  · replace hp : p ∈ (if j = i then [] else fp j) := hp
    rw [List.length_set]
    by_cases ne : j = i
    · rw [if_pos ne] at hp; cases hp
    · rw [if_neg ne] at hp
      obtain ⟨h1, h2, h3, h4⟩ := Fp.at_ j p hp
      exact ⟨X1.nw p h1 (by rw [cutH_of (fun z => ne (Fp.sep j i p hp z))]; exact h2), X1.hp.ne (by rw [cutH_of (fun z => ne (Fp.sep j i p hp z))]; exact h2), h3, h4⟩
  · show (if j = i then [] else fp j).Nodup
    split
    · exact .nil
    · exact Fp.nd j
  · replace h1 : p ∈ (if j = i then [] else fp j) := h1
    replace h2 : p ∈ (if l = i then [] else fp l) := h2
    by_cases e1 : j = i
    · rw [if_pos e1] at h1; cases h1
    · rw [if_neg e1] at h1
      by_cases e2 : l = i
      · rw [if_pos e2] at h2; cases h2
      · rw [if_neg e2] at h2
        exact Fp.sep j l p h1 h2
def eachO {α : Type} (b : α → Option (Out Unit Empty Empty)) : List α → Option Unit
  | [] => some ()
  | x :: xs => (b x).bind fun _ => eachO b xs
theorem Els.cons_inv {O : Orp α} {S H : Hp} {us : List V} {x : α} {xs : List α} {qs : List Addr} (h : Els O S H us (x :: xs) qs) : ∃ v vs p1 p2, us = v :: vs ∧ qs = p1 ++ p2 ∧ O.r S H v x p1 ∧ Els O S H vs xs p2 := by
  cases h with
  | cons r t => exact ⟨_, _, _, _, rfl, rfl, r, t⟩
/-- each item of an own list is changed -/
theorem Run.forOwn {told one : Str} {n : Nat} {body : List Stmt} {xs : List α} {O' : Orp α} {bm : α → Option (Out Unit Empty Empty)} {m : Option (Out ν μ ρ)} (i j : Nat)
    (hb : ∀ S1 H1 x, Run X S1 H1 ((List.replicate n .any).set j (.ow O' x)) body (fun _ : Unit => List.replicate n .any) (fun e : Empty => nomatch e) oNoE (bm x))
    (hk : Run X S0 H0 (List.replicate n .any) ss Γ Λ O m) (hj : j < n) (hX : X.N.Nodup)
    (hp : PassesOwn (model X.prog X.w) X.A X.env X.xe)
    (hG : G[i]? = some (.ow (oL O') xs) := by rfl) (hn : G.length = n := by rfl) (hN : X.N[i]? = some told := by rfl) (hv : Vis X.env.scope told := by first | exact Or.inl rfl | exact Or.inr (Or.inl rfl) | exact Or.inr (Or.inr rfl))
    (hN2 : X.N[j]? = some one := by rfl) (hx : Loc X.env.scope one := by first | exact .inl rfl | exact .inr rfl)
    (hd : (told == ("__debug__" : Str)) = false := by decide) (hcd : (told == ("__classdict__" : Str)) = false := by decide)
    (hf : X.fn one = true ∨ X.env.scope.names.lookup one = some .local := by first | exact .inl rfl | exact .inr rfl) (hc : X.calm = true := by rfl) (hs : ∀ x, foldedSetIterable (.Name told p2) X.env x = pure x := by intro _; rfl) :
    Run X S0 H0 G (.For (.Name one p) (.Name told p2) body [] pos :: ss) Γ Λ O ((eachO bm xs).bind fun _ => m) := .mk fun S H σ D o E e' g => by
  obtain ⟨u, e1, e'⟩ := bind_some_iff e'
  obtain ⟨fp, ok, Fp⟩ := E.ex
  obtain ⟨o', e3, v, eo, l, us, qs, rfl, hl, eq, els, hz⟩ := ok i _ hG
  subst eo
  have hq : ∀ q, q ∈ fp i → S q = none ∧ H q ≠ none ∧ H0 q = none := fun q h => let ⟨a, b, c, _⟩ := Fp.at_ i q h; ⟨a, b, c⟩
  have nd := Fp.nd i
  rw [eq] at nd
  have n0 : ∀ a, H0 a ≠ none → a ∉ l :: qs := fun a h m => h (hq a (by rw [eq]; exact m)).2.2
  refine wS_of (pss_cons (ps_for hp hc (pi_list (pe_var hN hv hd hcd)) (pg_name hX hN2 hx hf) (wS_ok body) hs) (wS_ok ss)) ?_
  refine ⟨.ref l, e3, l, rfl, ⟨us, .inl (.inl hl)⟩, ?_⟩
  refine for_list (xs := us) (fun k σ' H' => ∃ S' rest ps, σ'.length = n ∧ Ext S (cutH H qs) S' H' ∧ Els O' S' H' (us.drop k) rest ps ∧ eachO bm rest = some () ∧ ps.Nodup ∧ (∀ q ∈ ps, q ∈ qs ∧ S' q = none ∧ H' q ≠ none)) ?_ ?_ ?_ ?_
  · exact ⟨S, xs, qs, by rw [E.len, hn], Ext.cut E.base.sb, els, e1, (List.nodup_cons.mp nd).2, fun q h => ⟨h, (hq q (by rw [eq]; exact List.mem_cons_of_mem _ h)).1, (hq q (by rw [eq]; exact List.mem_cons_of_mem _ h)).2.1⟩⟩
  · rintro k σ' H' _ ⟨S', rest, ps, _, X1, _⟩
    exact .inl (.inl (X1.hp.go (by rw [cutH_of (List.nodup_cons.mp nd).1]; exact hl)))
  · rintro k x σ' H' ex ⟨S', rest, ps, hσ, X1, t, er, nd2, hps⟩
    have hlt : k < us.length := (List.getElem?_eq_some_iff.mp ex).1
    have ed : us.drop k = x :: us.drop (k + 1) := by
      rw [List.drop_eq_getElem_cons hlt]
      congr 1
      exact (List.getElem?_eq_some_iff.mp ex).2
    rw [ed] at t
    cases t with
    | cons r t =>
    rename_i y p1 ys p2
    obtain ⟨ob, eb, er⟩ := bind_some_iff (show (bm y).bind (fun _ => eachO bm ys) = some () from er)
    have np1 : p1.Nodup := (List.nodup_append.mp nd2).1
    have np2 : p2.Nodup := (List.nodup_append.mp nd2).2.1
    have dj : ∀ q ∈ p2, q ∉ p1 := fun q h z => (List.nodup_append.mp nd2).2.2 q z q h rfl
    have E1 := EnvOk.one (j := j) X1.sb r np1 (fun q h => (hps q (List.mem_append_left _ h)).2) hσ hj
    refine hb S' (cutH H' p1) y S' H' _ _ ob E1 eb ?_
    have fin : ∀ S2 H2 σ2, EnvOk S' (cutH H' p1) S2 H2 (List.replicate n .any) σ2 → ∃ S' rest ps, σ2.length = n ∧ Ext S (cutH H qs) S' H2 ∧ Els O' S' H2 (us.drop (k + 1)) rest ps ∧ eachO bm rest = some () ∧ ps.Nodup ∧ (∀ q ∈ ps, q ∈ qs ∧ S' q = none ∧ H2 q ≠ none) := fun S2 H2 σ2 E2 => by
      have X2 := E2.base
      have up : ∀ a, a ∉ p1 → Kp H' H2 a := fun a ha => ⟨fun o q nt => X2.hp.kp a o (by rw [cutH_of ha]; exact q) nt⟩
      have sub : ∀ a, a ∉ qs → a ∉ p1 := fun a ha z => ha (hps a (List.mem_append_left _ z)).1
      refine ⟨S2, ys, p2, by rw [E2.len]; simp, Ext.uncut X1 (fun a h => sub a (cutH_ne h)) X2, t.mono X2.st fun q h => up q (dj q h), er, np2, fun q h => ?_⟩
      obtain ⟨h1, h2, h3⟩ := hps q (List.mem_append_right _ h)
      have h4 : cutH H' p1 q ≠ none := by rw [cutH_of (dj q h)]; exact h3
      exact ⟨h1, X2.nw q h2 h4, X2.hp.ne h4⟩
    cases ob with
    | nx s' => exact fun S2 H2 σ2 E2 _ => fin S2 H2 σ2 E2
    | ct s' => exact nomatch s'
    | bk s' => exact nomatch s'
    | rt s' => exact nomatch s'
  · rintro σ' H' ⟨S', rest, ps, hσ, X1, _⟩
    exact hk S' H' σ' D o (EnvOk.none (Ext.uncut E.base (fun a h m => n0 a h (List.mem_cons_of_mem _ m)) X1) hσ) e' (g.mono X1.st)
end
def finN {ν μ ρ : Type} : Out ν μ ρ → Option Unit
  | .nx _ => some ()
  | _ => none
theorem finN_of {μ ρ : Type} {m : Option (Out Unit μ ρ)} (h : m.bind finN = some ()) : m = some (.nx ()) := by
  obtain ⟨o, rfl, h2⟩ := bind_some_iff h
  cases o with
  | nx s => rfl
  | rt u => cases h2
  | bk l => cases h2
  | ct l => cases h2
end Gc

namespace Gc
open PySem PySem.Spec PyProof.Rows L2
variable [Tn]
/-! ## 29. sorted(range(n), key=lambda v: -xs[v]) -/
/-- 0 .. n - 1, by the numbers of xs downwards, alike ones in their order -/
def sortRK (n : Int) (xs : List Int) : Option (List Int) := if 0 ≤ n ∧ n ≤ xs.length ∧ xs.length ≤ sizeLine then some ((rangeL 0 n).mergeSort fun a b => decide (-(xs.getD a.toNat 0) ≤ -(xs.getD b.toNat 0))) else none
/-- the table P is known, out of the stable part -/
structure TbIn (P : Addr) (S H : Hp) : Prop where
  no : S P = none
  tb : Tb S H P
theorem TbIn.ext {P : Addr} {S H S' H' : Hp} (t : TbIn P S H) (x : Ext S H S' H') : TbIn P S' H' := ⟨x.nw P t.no t.tb.at_, x.tb P t.tb⟩
/-- arguments, and a table beside -/
def aTab {α : Type} (P : Addr) (A : Arp α) : Arp α :=
  ⟨fun S H vs x => TbIn P S H ∧ A.r S H vs x, fun h q => ⟨q.1.ext h, A.mono h q.2⟩, A.sl, fun h => A.ok h.2⟩
section
variable {X : Cx} {S0 H0 : Hp} {G : Cxt} {α β : Type} {a e : Expr} {pos p pos' : Pos}
theorem EvA.tab {P : Addr} {A : Arp α} {es : List Expr} {m : Option α} (t : TbIn P S0 H0) (h : EvA X S0 H0 G es A m) : EvA X S0 H0 G es (aTab P A) m := .mk fun S H σ Q x E hm k =>
  h S H σ Q x E hm fun vs S' H' X' r => k vs S' H' X' (show TbIn P S' H' ∧ A.r S' H' vs x from ⟨t.ext (E.base.trans X'), r⟩)
end
section
variable {P0 : Program} {w : World} {K : PySem.W.Frag} {mg : Str → Option Value} {base : Heap}
theorem fn_okT {α β : Type} {k : Nat} {x qual : Str} {st : Stmt} {f : Addr} {fd : FuncData} {N ps : List Str} {A : Arp α} {O : Orp β} {fm : α → Option β} {fb : α → Option (Out Unit Empty β)} {d : Option β} {P : Addr}
    (F : Fun K x qual st f fd) (sc : FnScope N ps (defScope st)) (hl : ∀ {S H vs z}, A.r S H vs z → vs.length = ps.length)
    (body : ∀ (cdv : Value) (Ar : Around) (outer : List Env) (s : Shared) (H : Hp) (E : XK), Room k (Ar.deeper (envOfC qual (defScope st) s.heap.objs.size f cdv)) → cdv = fd.code → ∀ (S : Hp) z, TbIn P S H →
      Run (XF P0 w K mg base N qual (defScope st) f cdv Ar outer s H E) S H (A.sl z ++ List.replicate (N.length - ps.length) .any) (defBody st) (fun _ : Unit => List.replicate N.length .any) (fun e : Empty => nomatch e) O (fb z))
    (hd : ∀ y, d = some y → ∀ S H, O.r S H .non y []) (hm : ∀ z y, fm z = some y → (fb z).bind (fin d) = some y) : FnOk P0 w K mg base CX0 (k + 1) f fd ps (spOf (aTab P A) O fm) := by
  obtain ⟨⟨oc, od, kV, doc, pm, an, cdv, ct, osl, rfl, lk, hcd⟩, kp⟩ := F
  refine fn_of lk hcd sc (fun vs H Q E ⟨S, z, y, sb, r, _⟩ => hl (show TbIn P S H ∧ A.r S H vs z from r).2) fun Ar outer s H vs Q E hr h => ?_
  obtain ⟨S, z, y, sb, ⟨ht, r⟩, e, q⟩ := h
  obtain ⟨o, e1, e2⟩ := bind_some_iff (hm z y e)
  refine ⟨_, (wS_ok (X := XF P0 w K mg base N qual (defScope st) f cdv Ar outer s H E) _).nox, ?_⟩
  refine body cdv Ar outer s H E hr rfl S z ht S H _ _ o ?_ e1 ?_
  · have h1 := hl r
    have := entry_ok sb (N.length - ps.length) (A.ok r)
    unfold L2.start
    rw [h1]
    exact this
  · cases o with
    | nx u => exact fun S' H' σ' E' _ => q .non S' H' [] E'.base (hd y e2 S' H') Fresh.nil
    | rt v => cases e2; exact fun v S' H' ps X r f => q v S' H' ps X r f
    | bk l => exact nomatch l
    | ct l => exact nomatch l
end
/-- the law, called with the script, its table empty -/
theorem law_spT {K : PySem.W.Frag} {m : List Int × Unit → Option Bool} {H : Hp} {a TP : Addr} {ns : List Int} (hT : H TP = some (.tbl #[])) (hq : SqL K H a (ns.map V.int)) (hl : ns.length ≤ 63) (hm : m (ns, ()) = some true) :
    spOf (aTab TP (aB (rSq K rInt) aNil)) (oV rBool) m [.ref a] H (fun v _ => v = .bl true) (fun _ _ _ => False) := by
  refine ⟨fun b => if b = TP then none else H b, (ns, ()), true, fun b o e => ?_, ⟨⟨if_pos rfl, #[], hT, True.intro, fun pos cv hc => ?_⟩, .ref a, [], rfl, ⟨a, ns.map V.int, rfl, hq, paired_of_ints ns, Nat.le_trans hl (by decide)⟩, rfl⟩, hm, fun v S' H' ps _ r _ => r.1⟩
  · replace e : (if b = TP then none else H b) = some o := e
    by_cases z : b = TP
    · rw [if_pos z] at e; cases e
    · rw [if_neg z] at e; exact e
  · simp [codeAmong] at hc
/-! ### the lambda is made -/
section
variable {X : Cx} {pins : List (Addr × Obj)} {σ : L2.St} {H S : Hp} {s : Shared}
theorem lam_mk {c P : Addr} {params : Arguments} {body : Expr} {scope : Scope} {pos : Pos} {E : Value → Shared → Prop} {Q : Value → Shared → Prop} (I : Inv X pins σ H s) (sb : Same S H) (TB : LamX.TabB X.base X.mg c P) (hcode : X.env.code = .ref c)
    (hT : TbIn P S H) (hq : X.env.qual ++ "<lambda>" = Tn.q) (hdef : defaultsOf params X.env = ([], [])) (hfree : ∀ y ∈ scope.names, y.2 = .free → ∃ c, X.env.cells.lookup y.1 = some c)
    (h : ∀ (f c' : Addr) (pm ctv : Value) (S1 H1 : Hp) (s' : Shared), Inv X pins σ H1 s' → Ext S H S1 H1 → (∀ b o, b ≠ P → s.heap.get? b = some o → s'.heap.get? b = some o) →
      s'.heap.get? f = some (PySem.W.kla_obj "<lambda>" Tn.q params body scope (cloFrom X.env.cells scope.names []) pm c' ctv) → H1 c' = some (LamX.CodeO c' Tn.q) → Q (.ref f) s') :
    wpAny (model X.prog X.w) X.A (eval (.Lambda params body scope pos) X.env) Q E s := by
  obtain ⟨sP, ps, hP, ht, ha⟩ := hT
  refine PySem.W.kla_eval hdef ?_
  rw [hq]
  have bP : s.heap.BuiltinsAt X.mg P := TB.bm.keeps I.bk
  have hP' : s.heap.get? P = some { cls := .none, data := .fields ps } := I.hok P _ hP
  cases hc : codeAmong pos ps.toList with
  | none =>
    refine PySem.W.kla_makeFunction (mg := X.mg) (c := c) (P := P) (ps := ps) (L2.closure_ok hfree) I.ok.glob (I.mod.glob.keeps I.bk) hcode (TB.code.keeps I.bk) hP' ht hc TB.gP bP fun c' ctv h' tk hx hge hlt hrec htb => ?_
    obtain ⟨c2, oc, vs, t, e2, hoc, hd, hv⟩ := hrec
    cases e2
    have hsz : s.heap.objs.size ≤ h'.objs.size := Nat.le_trans hge (Nat.le_of_lt hlt)
    have nC : H c' = none := I.hok.fresh hge
    have nP : P ≠ c' := ne_of_none hP nC
    have I1 := LamX.inv_table (t' := tk) (more := #[rawInt pos.line, rawInt pos.col, .ref c']) (h' := h'.push (PySem.W.kla_obj "<lambda>" Tn.q params body scope (cloFrom X.env.cells scope.names []) ((X.mg "__name__").getD .none) c' ctv)) I hP
      (fun b o hb e => Heap.get?_push_of_some _ (hx b o hb e)) (Heap.get?_push_of_some _ htb) hge ⟨oc, vs, t, Heap.get?_push_of_some _ hoc, hd, hv⟩
    have eL : (ps ++ #[rawInt pos.line, rawInt pos.col, .ref c']).toList = ps.toList ++ [rawInt pos.line, rawInt pos.col, .ref c'] := by simp
    have kpt : ∀ b o, H b = some o → b ≠ P → upd (upd H P (.tbl (ps ++ #[rawInt pos.line, rawInt pos.col, .ref c']))) c' (LamX.CodeO c' Tn.q) b = some o := fun b o e n => by
      rw [upd_ne (ne_of_none e nC), upd_ne n]; exact e
    have sC : S c' = none := sb.free nC
    refine h h'.objs.size c' ((X.mg "__name__").getD .none) ctv (upd S c' (LamX.CodeO c' Tn.q)) _ _ I1 ⟨Same.new sC, ⟨fun b o e n => kpt b o e fun z => ?_, fun b qs e => ?_⟩, fun b e n => ?_, fun b o e => ?_, fun P2 t2 => ?_⟩
      (fun b o hb e => Heap.get?_push_of_some _ (hx b o hb e)) (Heap.get?_push_size _ rfl) upd_same
    · rw [z, hP] at e
      exact n ps (Option.some.inj e).symm
    · by_cases z : b = P
      · rw [z]
        exact ⟨_, by rw [upd_ne nP, upd_same]⟩
      · exact ⟨qs, kpt b _ e z⟩
    · rw [upd_ne (fun z => n (by rw [z]; exact nC))]; exact e
    · by_cases z : b = c'
      · rw [z, upd_same] at e ⊢; exact e
      · rw [upd_ne z] at e
        exact kpt b o (sb b o e) fun z2 => by rw [z2, sP] at e; cases e
    · obtain ⟨ps2, e1, e2, e3⟩ := t2
      by_cases z : P2 = P
      · subst z
        cases hP.symm.trans e1
        refine ⟨_, by rw [upd_ne nP, upd_same], by rw [eL]; exact PySem.TriplesOk_snoc _ _ _ _ ht, fun p' cv hcv => ?_⟩
        rw [eL] at hcv
        rcases LamX.among_app _ ht hcv with z | z
        · obtain ⟨c0, e4, e5⟩ := e3 p' cv z
          exact ⟨c0, e4, Same.new sC _ _ e5⟩
        · refine ⟨c', z, ?_⟩
          rw [upd_same]
      · refine ⟨ps2, kpt _ _ e1 z, e2, fun p' cv hcv => ?_⟩
        obtain ⟨c0, e4, e5⟩ := e3 p' cv hcv
        exact ⟨c0, e4, Same.new sC _ _ e5⟩
  | some cv =>
    obtain ⟨c', e, hco⟩ := ha pos cv hc
    subst e
    refine PySem.W.kla_makeFunctionHit (mg := X.mg) (c := c) (P := P) (ps := ps) (L2.closure_ok hfree) I.ok.glob (I.mod.glob.keeps I.bk) hcode (TB.code.keeps I.bk) hP' ht hc bP fun ctv h' tk hx hsz => ?_
    have I1 : Inv X pins σ H { s with heap := h'.push (PySem.W.kla_obj "<lambda>" Tn.q params body scope (cloFrom X.env.cells scope.names []) ((X.mg "__name__").getD .none) c' ctv), toks := tk } := I.kept fun b o e => Heap.get?_push_of_some _ (hx b o e)
    exact h h'.objs.size c' ((X.mg "__name__").getD .none) ctv S H _ I1 (Ext.refl sb) (fun b o _ e => Heap.get?_push_of_some _ (hx b o e)) (Heap.get?_push_size _ rfl) (sb _ _ hco)
end
/-! ### sorted of a range with a key -/
section
variable {prog : Program} {w : World} {A : Around} {E : Value → Shared → Prop} {s : Shared}
theorem each_rng {n : Nat} {acc : Array Value} (h : ItemsOf (fun i v => ∃ t, v = .int (0 + i * 1) t) acc n) : PySem.W.EachIs (fun v (i : Int) => (∃ t, v = .int i t)) acc.toList (rangeL 0 n) := by
  have hl : acc.toList.length = (rangeL 0 n).length := by
    unfold rangeL
    rw [Array.length_toList, h.1, List.length_map, List.length_range]; omega
  refine PySem.W.EachIs.of_zip hl fun p hp => ?_
  obtain ⟨i, hi⟩ := List.getElem?_of_mem hp
  obtain ⟨h1, h2⟩ := List.getElem?_zip_eq_some.mp hi
  obtain ⟨t, e⟩ := h.2 i p.1 (by rw [← h1, Array.getElem?_toList])
  refine ⟨t, ?_⟩
  rw [e]
  congr 1
  unfold rangeL at h2
  rw [List.getElem?_map] at h2
  obtain ⟨k, e1, e2⟩ := Option.map_eq_some_iff.mp h2
  rw [List.getElem?_range] at e1
  · cases e1
    rw [← e2]; omega
  · have := (List.getElem?_eq_some_iff.mp e1).1
    simpa using this
theorem vals_of_each : ∀ {out : List Value} {ys : List Int}, PySem.W.EachIs (fun v (i : Int) => ∃ t, v = Value.int i t) out ys → Vals (ys.map V.int) out
  | _, _, .nil => .nil
  | _, _, .cons h t => .cons h (vals_of_each t)
theorem sorted_range_key {r : Addr} {n : Int} {t u v : Tok} {f : Addr} {key : Int → Int} {Q : Value → Shared → Prop} (hh : A.handled = none) (hr : IsRange s.heap r 0 n 1 t u v) (h0 : 0 ≤ n) (hn : n ≤ 2 ^ 24) (hu : A.units + 2 < cLine)
    (turn : ∀ (i : Int) (t : Tok), 0 ≤ i → i < n → ∀ (h : Heap) (tk : Nat), (∀ b o, s.heap.get? b = some o → h.get? b = some o) →
      wpAny (model prog w) A.in1.in1 (call (.ref f) [.int i t]) (PySem.W.KeyPure (.int (key i)) { s with heap := h, toks := tk }) (fun _ _ => False) { s with heap := h, toks := tk })
    (h : ∀ (h1 : Heap) (out : List Value) (c : Nat) (h' : Heap) (tk : Nat), (∀ b o, s.heap.get? b = some o → h1.get? b = some o) → (∀ b o, h1.get? b = some o → h'.get? b = some o) → h'.get? h1.objs.size = some (seqObj "list" (List.toArray out) c) →
      PySem.W.EachIs (fun v (i : Int) => ∃ t, v = .int i t) out ((rangeL 0 n).mergeSort fun a b => decide (key a ≤ key b)) → Q (.ref h1.objs.size) { s with heap := h', toks := tk }) :
    wpAny (model prog w) A (call (.builtin "sorted") [.ref r] [(Str.ofString "key", .ref f)]) Q E s := by
  have hnn : Builtin.Range.rangeSize 0 n 1 = (n.toNat : Nat) := by
    have := rangeSize_nat 0 n
    rw [show (n - 0) = n by omega] at this
    exact this
  have hsm : Builtin.Range.small 0 n 1 = true := small_one (by omega) (by omega) (by omega) (by omega)
  refine call_function_entry_kw kind_sorted plain_sorted entry_sorted (PyProof.Rows.ksk_s1 _ _) ?_
  unfold Builtin.«sorted»
  refine wpAny_bind (m := checkCount "sorted" 1 1 _) (wpAny_pure ?_)
  refine wpAny_bind (collect_range (A := A.in1) hh hr hsm hnn (by omega) fun h1 tk1 acc kp hi => ?_)
  have hl : acc.toList.length = n.toNat := by rw [Array.length_toList, hi.1]
  refine wpAny_bind (wpAny_newList ?_ (by rw [hl, sizeLine_eq]; omega))
  have each := each_rng hi
  rw [show ((n.toNat : Nat) : Int) = n by omega] at each
  have at0 : (h1.push (seqObj "list" acc.toList.toArray 0)).get? h1.objs.size = some (seqObj "list" acc.toList.toArray 0) := Heap.get?_push_size _ rfl
  have up : ∀ b o, s.heap.get? b = some o → (h1.push (seqObj "list" acc.toList.toArray 0)).get? b = some o := fun b o e => Heap.get?_push_of_some _ (kp b o e)
  refine wpAny_bind (wpAny_holding (wpAny_call_entry_kw slot_list_sort ⟨_, at0, rfl⟩ entry_list_sort ?_ (PyProof.Rows.ksk_l1 _ _)))
  show wpAny (model prog w) A.in1.in1 (Builtin.«list.sort» ⟨[.ref h1.objs.size], [(Str.ofString "key", .ref f)]⟩) _ _ _
  rw [PyProof.Rows.ksk_t1]
  have ne : ∀ b o, s.heap.get? b = some o → b ≠ h1.objs.size := fun b o e => Nat.ne_of_lt (Heap.lt_size (kp b o e))
  refine PySem.W.keyH_tree (kz := (rangeL 0 n).map fun i => .int (key i)) at0 (by rw [List.length_map]; exact each.length.symm) (by rw [hl, sizeLine_eq]; omega) (PySem.W.AllAlike.of fun _ _ => by simp [PySem.W.alike]) (PySem.W.Sortable.others fun _ => ⟨by simp, by simp⟩)
    (fun d hd => ?_) (PySem.W.keyH_turns (bs := rangeL 0 n) (k := fun i => .int (key i)) each fun v x hR hx h tk kp2 => ?_) fun h' tk out c kp2 hD ko => ⟨.none, rfl, wpAny_pure ⟨_, rfl, ?_⟩⟩
  · obtain ⟨i, _, rfl⟩ := List.mem_map.mp hd
    show A.units + 1 + 1 + 0 < cLine
    omega
  · obtain ⟨t, rfl⟩ := hR
    unfold rangeL at hx
    obtain ⟨k, hk, rfl⟩ := List.mem_map.mp hx
    have := List.mem_range.mp hk
    exact turn _ t (by omega) (by omega) h tk fun b o e => kp2 b o (ne b o e) (up b o e)
  · have e2 := PySem.W.keyedOut_each (fun i => PyData.int (key i)) ko each
    rw [PySem.W.dataLe_int] at e2
    exact h h1 out c h' tk kp (fun b o e => kp2 b o (Nat.ne_of_lt (Heap.lt_size e)) (Heap.get?_push_of_some _ e)) hD e2
end
/-! ### the lambda's body -/
/-- read where x is a list's cell and v an index: what the body tells of the number there -/
def LamB (body : Expr) (x v : Str) (key : Int → Int) : Prop := ∀ (prog : Program) (w : World) (A : Around) (env : Env) (s : Shared) (c l : Addr) (m : Str → Option Value) (its : Array Value) (i y : Int) (t ty : Tok) (Q E : Value → Shared → Prop),
  env.scope.kind = .function → env.kindOf x = some .free → env.cells.lookup x = some c → s.heap.IsCell c (some (.ref l)) → env.kindOf v = some .local → s.heap.Ns env.locals m → m v = some (.int i t) → s.heap.IsList l its → 0 ≤ i → i < 2 ^ 63 → its[i.toNat]? = some (.int y ty) →
  (∀ (t' : Tok) (tk : Nat), Q (.int (key y) t') { s with toks := tk }) → wpAny (model prog w) A (eval body env) Q E s
theorem lamB_at {x v : Str} {p1 p2 p3 : Pos} (hx : (x == ("__debug__" : Str)) = false := by decide) (hv : (v == ("__debug__" : Str)) = false := by decide) (hc : (x == ("__classdict__" : Str)) = false := by decide) : ∀ (prog : Program) (w : World) (A : Around) (env : Env) (s : Shared) (c l : Addr) (m : Str → Option Value) (its : Array Value) (i y : Int) (t ty : Tok) (Q E : Value → Shared → Prop),
  env.scope.kind = .function → env.kindOf x = some .free → env.cells.lookup x = some c → s.heap.IsCell c (some (.ref l)) → env.kindOf v = some .local → s.heap.Ns env.locals m → m v = some (.int i t) → s.heap.IsList l its → 0 ≤ i → i < 2 ^ 63 → its[i.toNat]? = some (.int y ty) →
  Q (.int y ty) s → wpAny (model prog w) A (eval (.Subscript (.Name x p1) (.Name v p2) p3) env) Q E s := by
  intro prog w A env s c l m its i y t ty Q E h1 h2 h3 h4 h5 h6 h7 h8 h9 h10 h11 q
  refine Subscript_ (wpAny_Name (wpAny_loadName_free h1 h2 h3 h4 ?_ hc) hx)
  refine wpAny_Name (wpAny_loadName_local h1 h5 h6 h7 ?_) hv
  exact item_listR h8 h9 h10 h11 q
theorem lamB_neg {x v : Str} {p1 p2 p3 p4 : Pos} (hx : (x == ("__debug__" : Str)) = false := by decide) (hv : (v == ("__debug__" : Str)) = false := by decide) (hc : (x == ("__classdict__" : Str)) = false := by decide) : LamB (.UnaryOp .USub (.Subscript (.Name x p1) (.Name v p2) p3) p4) x v fun y => -y := by
  intro prog w A env s c l m its i y t ty Q E h1 h2 h3 h4 h5 h6 h7 h8 h9 h10 h11 q
  refine wpAny_UnaryOp (lamB_at hx hv hc prog w A env s c l m its i y t ty _ E h1 h2 h3 h4 h5 h6 h7 h8 h9 h10 h11 ?_)
  exact neg_int (q _ _)
theorem lamB_sub {x v : Str} {p0 p1 p2 p3 p4 : Pos} {j : Nat} (hx : (x == ("__debug__" : Str)) = false := by decide) (hv : (v == ("__debug__" : Str)) = false := by decide) (hc : (x == ("__classdict__" : Str)) = false := by decide) : LamB (.BinOp (.Constant (.int 0) j p0) .Sub (.Subscript (.Name x p1) (.Name v p2) p3) p4) x v fun y => -y := by
  intro prog w A env s c l m its i y t ty Q E h1 h2 h3 h4 h5 h6 h7 h8 h9 h10 h11 q
  refine wpAny_BinOp (wpAny_Constant_int ?_)
  refine lamB_at hx hv hc prog w A env { s with toks := s.toks + 1 } c l m its i y t ty _ E h1 h2 h3 h4 h5 h6 h7 h8 h9 h10 h11 ?_
  refine PyProof.Rows.sub_int ?_
  rw [Int.zero_sub]
  exact q _ _
/-! ### the rule -/
inductive Lent {α : Type} : Slot → Rp α → α → Prop
  | ow {O : Orp α} {x : α} : Lent (.ow O x) O.fz x
  | bw {R : Rp α} {x : α} : Lent (.bw R x) R x
  | val {R : Rp α} {x : α} : Lent (.val R x) R x
theorem Lent.get {α : Type} {s : Slot} {R : Rp α} {x : α} {i : Nat} {S0 H0 S H : Hp} {G : Cxt} {σ : L2.St} (l : Lent s R x) (E : EnvOk S0 H0 S H G σ) (hG : G[i]? = some s) : ∃ v, σ[i]? = some (some v) ∧ R.r H v x := by
  obtain ⟨o, ps, e1, q, nd, fr⟩ := E.get hG
  cases l with
  | ow => obtain ⟨v, e2, r⟩ := q; subst e2; exact ⟨v, e1, Orp.frz _ r E.base.sb fun _ _ => Kp.eq rfl⟩
  | bw => obtain ⟨v, e2, r, _⟩ := q; subst e2; exact ⟨v, e1, Rp.mono _ E.base.hp r⟩
  | val => obtain ⟨v, e2, r, _⟩ := q; subst e2; exact ⟨v, e1, Rp.mono _ E.base.sb.k r⟩
/-- the lambda's scope: its parameter v, and x from around -/
structure LamSc (scope : Scope) (v x : Str) : Prop where
  kind : scope.kind = .function
  co : scope.isCoroutine = false
  gen : scope.isGenerator = false
  names : scope.names = [(v, .local), (x, .free)]
section
variable {X : Cx} {S0 H0 : Hp} {G : Cxt} {pos p pos' : Pos}
theorem EvO.sortLamP {n : Int} {xs : List Int} {c P : Addr} {sl : Slot} {RL : Rp (List Int)} [L : SqRp X.K RL rInt] {ne : Expr} {params : Arguments} {body : Expr} {scope : Scope} {lpos kpos rp rpos : Pos} {x v : Str} {j : Nat} (i : Nat) (T : TbIn P S0 H0) (TB : LamX.TabB X.base X.mg c P) (hcode : X.env.code = .ref c)
    (hm : X.mg "sorted" = none) (hm2 : X.mg "range" = none) (hr : Room j X.A) (hn : EvB X S0 H0 G ne rInt (some n)) (hl : Lent sl RL xs) (hb : LamB body x v fun y => -y) (hq : X.env.qual ++ "<lambda>" = Tn.q := by rfl) (hG : G[i]? = some sl := by rfl) (hN : X.N[i]? = some x := by rfl) (hcl : X.env.scope.names.lookup x = some .cell := by rfl)
    (hsc : LamSc scope v x := by exact ⟨rfl, rfl, rfl, rfl⟩) (hvx : v ≠ x := by decide) (hdef : defaultsOf params X.env = ([], []) := by rfl)
    (hbind : ∀ (q : Str) (cl : List (Str × Addr)) (pm cv ctv u : Value), bindArgs (PySem.W.kla_fn "<lambda>" q params body scope cl pm cv ctv) ⟨[u], []⟩ = pure [(v, u)] := by intros; rfl)
    (hc : X.calm = true := by rfl) (hg : Gl X "sorted" := by rfl) (hg2 : Gl X "range" := by rfl) (he2 : starEach [ne] X.env = (false, eval ne X.env) :: starEach [] X.env := by rfl)
    (he : backTo pos (starEach [.Call (.Name "range" rp) [ne] [] rpos] X.env) = (false, eval (.Call (.Name "range" rp) [ne] [] rpos) X.env) :: backTo pos (starEach [] X.env) := by rfl) (hpl : (backTo pos (starEach [.Call (.Name "range" rp) [ne] [] rpos] X.env)).any (·.1) = false := by rfl)
    (hall : (backToKw pos (keywordEach [⟨some (Str.ofString "key"), .Lambda params body scope lpos, kpos⟩] X.env)).all (·.1.isSome) = true := by rfl) (hnone : (backToKw pos (keywordEach [⟨some (Str.ofString "key"), .Lambda params body scope lpos, kpos⟩] X.env)).any (·.1.isNone) = false := by rfl)
    (hks : (backToKw pos (keywordEach [⟨some (Str.ofString "key"), .Lambda params body scope lpos, kpos⟩] X.env)).filterMap (·.1) = [Str.ofString "key"] := by rfl) :
    EvO X S0 H0 G (.Call (.Name "sorted" p) [.Call (.Name "range" rp) [ne] [] rpos] [⟨some (Str.ofString "key"), .Lambda params body scope lpos, kpos⟩] pos) (oL (oV rInt)) (sortRK n xs) := .mk fun S H σ Q zs E hm' kk => by
  unfold sortRK at hm'
  split at hm'
  · next hcnd =>
    obtain ⟨n1, n2, n3⟩ := hcnd
    cases hm'
    intro pins s I
    refine wpAny_Call_Name_kw (ld_blt I hg hm boot_sorted ?_ (by decide) (by decide))
    have rg : wpAny (model X.prog X.w) X.A (eval (.Call (.Name "range" rp) [ne] [] rpos) X.env) _ X.xe s := prg_1 hg2 hm2 (wE_ok ne) he2 pins s σ H (fun a b H1 => a = 0 ∧ b = n ∧ ∃ S1, Ext S H S1 H1) I
      (hn S H σ _ n E rfl fun w S1 H1 X1 r1 => ⟨n, r1, rfl, rfl, S1, X1⟩)
    refine PyProof.Rows.callWith_kw ?_ he hpl hall hnone
    rw [hks, he]
    show wpAny _ _ (spliced ((false, eval (.Call (.Name "range" rp) [ne] [] rpos) X.env) :: [])) _ _ s
    refine Calls.spliced_cons (thn rg fun u s1 ⟨r, a, b, t1, t2, t3, H1, eu, hrg, I1, ea, eb, S1, X1⟩ => Calls.spliced_nil ?_)
    subst eu
    rw [ea, eb] at hrg
    show wpAny _ _ (evalAll ((do let v ← eval (.Lambda params body scope lpos) X.env; standAt pos; pure v) :: [])) _ _ s1
    have E1 := E.mono X1
    obtain ⟨xv, ex, rx⟩ := hl.get E1 hG
    obtain ⟨c0, hc0⟩ := I1.ok.has x (.inl hcl)
    have hfree : ∀ y ∈ scope.names, y.2 = .free → ∃ c, X.env.cells.lookup y.1 = some c := fun y hy e => by
      rw [hsc.names] at hy
      rcases List.mem_cons.mp hy with z | z
      · rw [z] at e; cases e
      · rw [List.mem_singleton.mp z]
        exact ⟨c0, hc0⟩
    refine wpAny_evalAll_cons (wpAny_bind (lam_mk I1 X1.sb TB hcode (T.ext E1.base) hq hdef hfree fun f c' pm ctv S2 H2 s2 I2 X2 kp2 hf hco => ?_))
    refine wpAny_bind (wpAny_standAt (wpAny_pure (wpAny_evalAll_nil ?_)))
    -- the list and its cell
    obtain ⟨l, vs, exv, hsq, pr, hlen⟩ := L.sq rx
    subst exv
    have E2 := E1.mono X2
    have hsq2 : SqL X.K H2 l vs := X2.hp.seq hsq
    obtain ⟨its, rv, pl, hz⟩ := I2.list hsq2
    obtain ⟨m, hns, hlk⟩ := I2.loc
    obtain ⟨u, ru, lk⟩ := hlk i x _ hN ex (.inr (.inl hcl))
    obtain rfl : u = Value.ref l := ru
    have hcell : s2.heap.IsCell c0 (some (.ref l)) := by
      rcases lk with ⟨k1, _⟩ | ⟨_, c1, e1, z⟩
      · rw [show X.env.kindOf x = _ from hcl] at k1; cases k1
      · rw [hc0] at e1; cases e1; exact z
    have hrg2 : IsRange s2.heap r 0 n 1 t1 t2 t3 := by
      refine kp2 r _ (fun z => ?_) hrg
      obtain ⟨_, ps, hP, _, _⟩ := T.ext E1.base
      have h1 : s1.heap.get? P = some { cls := .none, data := .fields ps } := I1.hok P _ hP
      rw [← z] at h1
      cases hrg.symm.trans h1
    have hclo : cloFrom X.env.cells scope.names [] = [(x, c0)] := by
      rw [hsc.names]
      simp [cloFrom, hc0]
    rw [hclo] at hf
    show wpAny _ _ (PySem.call (.builtin "sorted") [.ref r] [(Str.ofString "key", .ref f)]) _ _ s2
    obtain ⟨⟨oc, vo, to, hoc, hdc, hvc⟩, _, _⟩ := I2.hok c' _ hco
    refine sorted_range_key (key := fun i => -(xs.getD i.toNat 0)) (I2.ok.hd hc) hrg2 n1 (by rw [sizeLine_eq] at n3; omega) (by have := hr.units; omega) (fun iv t h1 h2 h tk kp => ?_) fun h1 out c3 h' tk kp kpb at_ each => ?_
    · have hi : iv.toNat < xs.length := by omega
      obtain ⟨x1, g1, g2⟩ := paired_at pr (i := iv.toNat) (List.getElem?_eq_getElem hi)
      obtain ⟨w1, g3, g4⟩ := rv.get g1
      cases (show x1 = V.int xs[iv.toNat] from g2)
      obtain ⟨ty, rfl⟩ := g4
      refine wpAny_call (PySem.W.kla_callFunE (A := X.A.in1.in1) hr.depth (kp _ _ hf) rfl hsc.co hsc.gen rfl ⟨c', oc, vo, to, rfl, kp _ _ hoc, hdc, hvc⟩ ?_)
      rw [hbind]
      refine wpAny_pure (wpAny_newFunctionEnv (fun y hy => ?_) (fun y hy => ?_) (fun h₁ hns hsb => ⟨?_, ?_⟩) hsc.kind)
      · rw [hsc.names] at hy
        rcases List.mem_cons.mp hy with z | z
        · rw [z]; simp
        · rw [List.mem_singleton.mp z]; simp
      · rw [List.mem_singleton.mp hy, hsc.names]
        simp
      · have := (I2.nolimit.keeps kp).fresh _ hsb
        exact this
      · have kp3 : ∀ b o, h.get? b = some o → h₁.get? b = some o := fun b o e => hsb.extBut b o (Nat.ne_of_lt (Heap.lt_size e)) (Heap.get?_push_of_some _ e)
        refine PySem.W.kla_codeExpr ?_
        refine hb X.prog X.w _ _ _ c0 l _ its.toArray iv xs[iv.toNat] t ty _ _ hsc.kind ?_ ?_ ?_ ?_ hns ?_ ?_ h1 (by rw [sizeLine_eq] at n3; omega) (by rw [List.getElem?_toArray]; exact g3) fun t' tk' => ?_
        · show scope.names.lookup x = some .free
          rw [hsc.names, List.lookup_cons, show (x == v) = false from by simp [hvx.symm]]
          simp
        · show List.lookup x [(x, c0)] = some c0
          simp
        · obtain ⟨o, e1, e2⟩ := hcell
          exact ⟨o, kp3 _ _ (kp _ _ e1), e2⟩
        · show scope.names.lookup v = some .local
          rw [hsc.names]
          simp
        · simp
        · obtain ⟨o, e1, e2⟩ := pl.isList
          exact ⟨o, kp3 _ _ (kp _ _ e1), e2⟩
        · have e3 : xs.getD iv.toNat 0 = xs[iv.toNat] := by
            rw [List.getD_eq_getElem?_getD, List.getElem?_eq_getElem hi]; rfl
          rw [e3]
          exact ⟨h₁, _, rfl, kp3, .int _ _⟩
    · have I3 : Inv X pins σ H2 { s2 with heap := h1, toks := tk } := I2.kept kp
      have hfr : H2 h1.objs.size = none := I3.hok.fresh (Nat.le_refl _)
      have hv : Vals (((rangeL 0 n).mergeSort fun a b => decide (-(xs.getD a.toNat 0) ≤ -(xs.getD b.toNat 0))).map V.int) out := vals_of_each each
      have hlen2 : ((rangeL 0 n).mergeSort fun a b => decide (-(xs.getD a.toNat 0) ≤ -(xs.getD b.toNat 0))).length ≤ sizeLine := by
        rw [(List.mergeSort_perm _ _).length_eq]
        unfold rangeL
        rw [List.length_map, List.length_range, sizeLine_eq] at *
        omega
      refine ⟨.ref h1.objs.size, upd H2 h1.objs.size (.lst _), I3.laid (t' := tk) kpb (Nat.le_refl _) (show ObjOk X.prog X.w _ _ _ (.lst _) from ⟨?_, out, c3, hv, at_⟩), rfl, EvO.newL (X1.trans X2) hfr (paired_of_ints _) hlen2 kk⟩
      rw [List.length_map]
      exact hlen2
  · cases hm'
end
/-- xs.pop(), what it tells not used -/
def popS {α : Type} (xs : List α) : Option (List α) := if xs = [] then none else some xs.dropLast
theorem paired_dropLast {α β : Type} {F : α → β → Prop} {l : List α} {m : List β} (h : Paired F l m) : Paired F l.dropLast m.dropLast := by
  rw [List.dropLast_eq_take, List.dropLast_eq_take, paired_len h]
  exact paired_take _ h
section
variable {X : Cx} {S0 H0 : Hp} {G : Cxt} {α ν μ ρ : Type} {pos pos' : Pos} {ss : List Stmt} {Γ : ν → Cxt} {Λ : μ → Cxt} {O : Orp ρ}
theorem Run.popSP {R : Rp α} {xs zs : List α} {k : Option (Out ν μ ρ)} {apos cpos : Pos} (i : Nat) {x : Str} (hz : popS xs = some zs) (hk : Run X S0 H0 (G.set i (.ow (oL (oV R)) zs)) ss Γ Λ O k) (hG : G[i]? = some (.ow (oL (oV R)) xs) := by rfl) (hN : X.N[i]? = some x := by rfl) (hv : Vis X.env.scope x := by first | exact Or.inl rfl | exact Or.inr (Or.inl rfl) | exact Or.inr (Or.inr rfl))
    (hs : swapsWith (.Call (.Attribute (.Name x pos') "pop" apos) [] [] cpos) none pos.line X.env = pure false := by rfl)
    (hbase : attributeBase (.Name x pos') "pop" X.env (eval (.Name x pos') X.env) = eval (.Name x pos') X.env := by rfl)
    (hline : (apos.endLine == cpos.line) = true := by rfl)
    (hd : (x == ("__debug__" : Str)) = false := by decide) (hcd : (x == ("__classdict__" : Str)) = false := by decide) :
    Run X S0 H0 G (.Expr (.Call (.Attribute (.Name x pos') "pop" apos) [] [] cpos) pos :: ss) Γ Λ O k := .mk fun S H σ D o E e' g => by
  unfold popS at hz
  split at hz
  · cases hz
  · next hne =>
    cases hz
    obtain ⟨o', ps, e3, ⟨v, e4, r⟩, nd, fr⟩ := E.get hG
    subst e4
    obtain ⟨l, us, qs, rfl, hl, rfl, els, hz⟩ := r
    obtain ⟨pr, _⟩ := els.to
    refine wS_of (pss_cons (ps_expr (pe_bm0 PySem.F.plainAttrs_list PySem.F.slot_list_pop PySem.F.type_list_pop mt_pop (pe_var hN hv hd hcd) hbase hline) hs) (wS_ok ss)) ?_
    refine ⟨.ref l, e3, .inl ⟨rfl, _, .inl (.inl hl)⟩, ?_⟩
    have hp : us.length - 1 < us.length := by
      rw [paired_len pr]
      have := List.length_pos_iff.mpr hne
      omega
    refine ⟨l, us, us[us.length - 1], rfl, rfl, hl, List.getElem?_eq_getElem hp, ?_⟩
    exact hk S _ σ D o (E.putL (R' := R) (Ext.refl E.base.sb) hG e3 (paired_dropLast pr) (by rw [List.length_dropLast]; omega)) e' g
end
end Gc

namespace Gc
open PySem PySem.Spec PyProof.Rows L2
variable [Tn]
/-! ## 30. a list whose things are lent from the entry on: zip(xs, xs[1:]) -/
section
variable {X : Cx} {S0 H0 S H S' H' : Hp} {G : Cxt} {σ : L2.St} {α β : Type} {tg elt iter a b e : Expr} {pos p p2 tpos : Pos} {elts : List Expr} {kk : Nat}
def HL {α : Type} (K : PySem.W.Frag) (B S : Hp) (R : Rp α) (v : V) (xs : List α) : Prop := ∃ a vs, v = .ref a ∧ (SqL K B a vs ∨ SqL K S a vs) ∧ Paired (R.r B) vs xs ∧ xs.length ≤ sizeLine
abbrev EvHL (X : Cx) (S0 H0 : Hp) {α : Type} (G : Cxt) (e : Expr) (R : Rp α) (xs : List α) : Prop := Box (
  ∀ S H σ Q, EnvOk S0 H0 S H G σ → (∀ v S' H', Ext S H S' H' → HL X.K H0 S' R v xs → Q v H') → wE X e σ H Q)
theorem EvHL.of {RL : Rp (List α)} {R : Rp α} {xs : List α} [L : SqRp X.K RL R] (h : EvH X S0 H0 G a RL (some xs)) : EvHL X S0 H0 G a R xs := .mk fun S H σ Q E k =>
  h S H σ _ xs E rfl fun v S1 H1 X1 r1 => by
    obtain ⟨t, vs, rfl, q, pr, hl⟩ := L.sq r1
    exact k _ S1 H1 X1 ⟨t, vs, rfl, .inl q, pr, hl⟩
theorem EvHL.sl {R : Rp α} {xs : List α} {lo hi : Option Expr} {l u : Option Int} (h : EvHL X S0 H0 G a R xs) (hl : PoOk X S0 H0 G lo l) (hu : PoOk X S0 H0 G hi u) : EvHL X S0 H0 G (.Subscript a (.Slice lo hi none p2) pos) R (cutL xs l u) := .mk fun S H σ Q E k => by
  obtain ⟨tl, pl, kl⟩ := hl.po
  obtain ⟨tu, pu, ku⟩ := hu.po
  refine wE_of (pe_slice sl_list (wE_ok a) pl pu) (h S H σ _ E fun v S1 H1 X1 r1 => kl S1 H1 σ _ (E.mono X1) fun S2 H2 X2 => ku S2 H2 σ _ (E.mono (X1.trans X2)) fun S3 H3 X3 => ?_)
  obtain ⟨t, vs, rfl, q, pr, hz⟩ := r1
  have E3 := E.mono ((X1.trans X2).trans X3)
  have q3 : SqL X.K H3 t vs := by
    rcases q with q | q
    · exact Keep.seq E3.base.hp q
    · exact Same.seq X3.sb (Keep.seq (X2.st.trans X3.st).k q)
  refine ⟨t, vs, rfl, q3, fun p hp => ?_⟩
  have XV : Ext S3 H3 (upd S3 p (.lst (cutV vs l u))) (upd H3 p (.lst (cutV vs l u))) := Ext.val X3.sb hp
  exact k _ _ _ (((X1.trans X2).trans X3).trans XV) ⟨p, _, rfl, .inr (.inl (.inl upd_same)), paired_cut pr _ _, Nat.le_trans (cutL_length _ _) hz⟩
theorem ItS.zipHLP {R : Rp α} {R2 : Rp β} {xs : List α} {ys : List β} (hm : X.mg "zip" = none) (h : EvHL X S0 H0 G a R xs) (h2 : EvHL X S0 H0 G b R2 ys) (hg : Gl X "zip" := by rfl)
    (hs : starEach [a, b] X.env = (false, eval a X.env) :: starEach [b] X.env := by rfl) (hs2 : starEach [b] X.env = (false, eval b X.env) :: starEach [] X.env := by rfl) (hpl : (backTo pos (starEach [b] X.env)).any (·.1) = false := by rfl) :
    ItS X S0 H0 G (.Tuple elts kk tpos) (.Call (.Name "zip" p) [a, b] [] pos) (fun q : α × β => .tup [.bw R q.1, .bw R2 q.2]) (some (xs.zip ys)) := .mk fun S H σ Rk zs E hm' k => by
  cases hm'
  refine wI_of (pi_zip hg hm (pa_cons (wE_ok a) (pa_cons (wE_ok b) pa_nil hs2) hs) hs hpl) (h S H σ _ E fun v S1 H1 X1 r1 => h2 S1 H1 σ _ (E.mono X1) fun w S2 H2 X2 r2 => ?_)
  obtain ⟨t, vs, rfl, q, pr, hl⟩ := r1
  obtain ⟨t2, vs2, rfl, q2, pr2, hl2⟩ := r2
  have E2 := E.mono (X1.trans X2)
  have g1 : ∀ S' H', Same S2 S' → Same S' H' → Keep H0 H' → SqL X.K H' t vs := fun S' H' h1 h2 h3 => by
    rcases q with q | q
    · exact Keep.seq h3 q
    · exact Same.seq h2 (Same.seq (X2.st.trans h1) q)
  have g2 : ∀ S' H', Same S2 S' → Same S' H' → Keep H0 H' → SqL X.K H' t2 vs2 := fun S' H' h1 h2 h3 => by
    rcases q2 with q | q
    · exact Keep.seq h3 q
    · exact Same.seq h2 (Same.seq h1 q)
  exact ⟨t, t2, vs, vs2, rfl, g1 S2 H2 (Same.refl _) X2.sb E2.base.hp, g2 S2 H2 (Same.refl _) X2.sb E2.base.hp, k _ S2 H2 (X1.trans X2) (itz_ok (s := fun x => .bw R x) (t := fun x => .bw R2 x) hl (paired_len pr) (paired_len pr2) (fun S' H' a1 a2 a3 => ⟨g1 S' H' a1 a2 a3, g2 S' H' a1 a2 a3⟩) (fun i x v S' _ e1 e2 => (paired_get2 pr e2 e1)) (fun i x v S' _ e1 e2 => (paired_get2 pr2 e2 e1)))⟩
end
/-! a list within lists -/
section
variable {X : Cx} {S0 H0 : Hp} {G : Cxt} {α : Type} {a b : Expr} {pos : Pos}
theorem any_mem {K : PySem.W.Frag} {R : Rp α} [D : DatO K R] (x : α) (xs : List α) {i : Decidable (x ∈ xs)} : ((xs.map D.to).any fun z => PyData.eqv z (D.to x)) = decide (x ∈ xs) := by
  rw [Bool.eq_iff_iff, List.any_eq_true, decide_eq_true_eq]
  constructor
  · rintro ⟨z, hz, e⟩
    obtain ⟨y, hy, rfl⟩ := List.mem_map.mp hz
    rw [(D.inj y x).mp e] at hy
    exact hy
  · intro h
    exact ⟨D.to x, List.mem_map.mpr ⟨x, h, rfl⟩, (D.inj x x).mpr rfl⟩
theorem units65 {k : Nat} {A : Around} (r : Room k A) : A.units + 65 < cLine := by have := r.un; omega
theorem Cm.inDP {R : Rp α} {RL : Rp (List α)} [D : DatO X.K R] [D2 : DatO X.K RL] {x : α} {xs : List α} {i : Decidable (x ∈ xs)} (hr : X.A.units + 65 < cLine) (ha : EvB X S0 H0 G a R (some x)) (hb : EvB X S0 H0 G b RL (some xs)) (ht : ∀ ys, D2.to ys = .list (ys.map D.to) := by intro _; rfl) (hd : (decide (D.d ≤ 64) && decide (D2.d ≤ 64)) = true := by rfl) (hm : behindInMarks .In b = false := by with_unfolding_all rfl) :
    Cm X S0 H0 G (.Compare a [.In] [b] pos) (decide (x ∈ xs)) :=
  Cm.two ha hb (op_inD hr) hm fun S H Q v w sb r1 r2 k => by
    have hd : D.d ≤ 64 ∧ D2.d ≤ 64 := by simpa using hd
    refine ⟨_, xs.map D.to, D.dp r1, by rw [← ht]; exact D2.dp r2, ?_, ?_, by rw [any_mem]; exact k⟩
    · rw [SeqAt.shaped, D.lay r1, Bool.true_and, decide_eq_true_eq]; exact Nat.le_trans (D.dep x) hd.1
    · rw [← ht, SeqAt.shaped, D2.lay r2, Bool.true_and, decide_eq_true_eq]; exact Nat.le_trans (D2.dep xs) hd.2
theorem Cm.notinDP {R : Rp α} {RL : Rp (List α)} [D : DatO X.K R] [D2 : DatO X.K RL] {x : α} {xs : List α} {i : Decidable (x ∈ xs)} (hr : X.A.units + 65 < cLine) (ha : EvB X S0 H0 G a R (some x)) (hb : EvB X S0 H0 G b RL (some xs)) (ht : ∀ ys, D2.to ys = .list (ys.map D.to) := by intro _; rfl) (hd : (decide (D.d ≤ 64) && decide (D2.d ≤ 64)) = true := by rfl) (hm : behindInMarks .NotIn b = false := by with_unfolding_all rfl) :
    Cm X S0 H0 G (.Compare a [.NotIn] [b] pos) (!decide (x ∈ xs)) :=
  Cm.two ha hb (op_notInD hr) hm fun S H Q v w sb r1 r2 k => by
    have hd : D.d ≤ 64 ∧ D2.d ≤ 64 := by simpa using hd
    refine ⟨_, xs.map D.to, D.dp r1, by rw [← ht]; exact D2.dp r2, ?_, ?_, by rw [any_mem]; exact k⟩
    · rw [SeqAt.shaped, D.lay r1, Bool.true_and, decide_eq_true_eq]; exact Nat.le_trans (D.dep x) hd.1
    · rw [← ht, SeqAt.shaped, D2.lay r2, Bool.true_and, decide_eq_true_eq]; exact Nat.le_trans (D2.dep xs) hd.2
end
end Gc

namespace Gc
open PySem PySem.Spec PyProof.Rows L2
variable [Tn]
/-! ## 31. lists of numbers compared, sorted -/
theorem dataLt_rows (xs ys : List Int) : PySem.W.dataLt (.list (xs.map .int)) (.list (ys.map .int)) = decide (xs < ys) := by
  rw [PySem.W.dataLt_list]
  show PySem.W.rowLt (xs.map .int) (ys.map .int) = _
  rw [PySem.W.dataLt_ints]
/-- up, row by row -/
def sortLL (xs : List (List Int)) : List (List Int) := xs.mergeSort fun a b => decide (a ≤ b)
section
variable {X : Cx}
def rLtLD (K : PySem.W.Frag) : L2.R2 := fun x y H Q => ∃ ns ms : List Int, Dp K H x (.list (ns.map .int)) ∧ Dp K H y (.list (ms.map .int)) ∧ Q (.bl (decide (ns < ms))) H
theorem depth_ints (ns : List Int) : (PyData.list (ns.map .int)).depth ≤ 1 := by
  have : ∀ l : List Int, PyData.depthAll (l.map .int) = 0 := by
    intro l
    induction l with
    | nil => rfl
    | cons a l ih => rw [List.map_cons, PyData.depthAll, ih]; rfl
  rw [PyData.depth, this]
  exact Nat.le_refl _
theorem alike_ints : ∀ ns ms : List Int, PySem.W.alike (.list (ns.map .int)) (.list (ms.map .int)) = true := by
  have : ∀ ns ms : List Int, PySem.W.alikeAll (ns.map .int) (ms.map .int) = true := by
    intro ns
    induction ns with
    | nil => intro ms; simp [PySem.W.alikeAll]
    | cons a ns ih =>
      intro ms
      cases ms with
      | nil => simp [PySem.W.alikeAll]
      | cons b ms => simp [PySem.W.alikeAll, PySem.W.alike, ih ms]
  intro ns ms
  simp only [PySem.W.alike]
  exact this ns ms
theorem op_ltLD (hu : X.A.units + 64 < cLine) : OpR X (compareOp .Lt) (rLtLD X.K) := by
  intro pins s σ H x y v u Q I rx ry h
  obtain ⟨ns, ms, hd, he, q⟩ := h
  obtain ⟨as, r1⟩ := Dp.reads I _ x v hd rx
  obtain ⟨bs, r2⟩ := Dp.reads I _ y u he ry
  have d1 := depth_ints ns
  exact PySem.W.lt_data r1 r2 (alike_ints ns ms) (by simp) (by omega) ⟨.bl _, H, I, rfl, by rw [dataLt_rows]; exact q⟩
def rSortLL (K : PySem.W.Frag) : List V → Hp → VK → Prop := fun vs H Q => ∃ (a : Addr) (zs : List (V × List Int)), vs = [V.ref a] ∧ SqL K H a (zs.map (·.1)) ∧ (∀ z ∈ zs, Dp K H z.1 (.list (z.2.map .int))) ∧ zs.length ≤ sizeLine ∧
  ∀ p, H p = none → Q (.ref p) (upd H p (.lst ((zs.mergeSort fun a b => decide (a.2 ≤ b.2)).map (·.1))))
theorem each_vals : ∀ {zs : List (V × List Int)} {us : List Value}, Vals (zs.map (·.1)) us → PySem.W.EachIs (fun (u : Value) (z : V × List Int) => RelV z.1 u) us zs
  | [], _, .nil => .nil
  | _ :: _, _, .cons h t => .cons h (each_vals t)
theorem vals_each : ∀ {zs : List (V × List Int)} {us : List Value}, PySem.W.EachIs (fun (u : Value) (z : V × List Int) => RelV z.1 u) us zs → Vals (zs.map (·.1)) us
  | _, _, .nil => .nil
  | _, _, .cons h t => .cons h (vals_each t)
theorem each_reads {F : Value → (V × List Int) → Prop} : ∀ {zs : List (V × List Int)} {us : List Value}, PySem.W.EachIs (fun (u : Value) (z : V × List Int) => RelV z.1 u) us zs → (∀ z ∈ zs, ∀ u, RelV z.1 u → F u z) → PySem.W.EachIs F us zs
  | _, _, .nil, _ => .nil
  | _, _, .cons h t, f => .cons (f _ List.mem_cons_self _ h) (each_reads t fun z hz => f z (List.mem_cons_of_mem _ hz))
theorem cr_sortLL (hu : X.A.units + 64 < cLine) : CallR X (.builtin "sorted") (rSortLL X.K) := by
  intro pins s σ H vs us Q I r h
  obtain ⟨a, zs, rfl, hs, hd, hz, q⟩ := h
  obtain ⟨its, rv, hl, _⟩ := I.list hs
  rw [Vals.ref1 r]
  have e := each_vals rv
  refine PySem.W.sorted_data (enc := fun z : V × List Int => .list (z.2.map .int)) hl.isList e (each_reads e fun z hz u ru => Dp.reads I _ z.1 u (hd z hz) ru) (PySem.W.AllAlike.of fun _ _ => alike_ints _ _) (PySem.W.Sortable.others fun _ => ⟨by simp, by simp⟩) hz (fun b _ => by have := depth_ints b.2; omega) fun out ho eo => ?_
  obtain ⟨ep, he'⟩ := PyProof.Rows.sortedAll_at s.heap its out.toArray
  rw [PySem.W.dataLe_rows (fun z : V × List Int => z.2)] at eo
  refine ⟨.ref _, upd H (s.heap.objs.size + 1) (.lst ((zs.mergeSort fun a b => decide (a.2 ≤ b.2)).map (·.1))), I.laid (t' := s.toks) (fun _ _ => PyProof.Rows.sortedAll_old) (Nat.le_succ _) (show ObjOk X.prog X.w _ _ _ (.lst _) from ⟨?_, out, ep, vals_each eo, he'⟩), rfl, q _ (I.hok.fresh (Nat.le_succ _))⟩
  rw [List.length_map, (List.mergeSort_perm _ _).length_eq]
  exact hz
end
section
variable {X : Cx} {S0 H0 : Hp} {G : Cxt} {α : Type} {a b : Expr} {pos p : Pos}
theorem Cm.ltLP {R1 R2 : Rp (List Int)} [D1 : DatO X.K R1] [D2 : DatO X.K R2] {xs ys : List Int} {i : Decidable (xs < ys)} (hr : X.A.units + 64 < cLine) (ha : EvB X S0 H0 G a R1 (some xs)) (hb : EvB X S0 H0 G b R2 (some ys)) (h1 : ∀ zs, D1.to zs = .list (zs.map .int) := by intro _; rfl) (h2 : ∀ zs, D2.to zs = .list (zs.map .int) := by intro _; rfl) (hm : behindInMarks .Lt b = false := by with_unfolding_all rfl) :
    Cm X S0 H0 G (.Compare a [.Lt] [b] pos) (decide (xs < ys)) :=
  Cm.two ha hb (op_ltLD hr) hm fun S H Q v w sb r1 r2 k => by
    refine ⟨xs, ys, by rw [← h1]; exact D1.dp r1, by rw [← h2]; exact D2.dp r2, ?_⟩
    exact (fun (j : Decidable (xs < ys)) => (show Q (V.bl (@decide _ j)) H from Subsingleton.elim i j ▸ k)) _
/-- rows that stay, sorted -/
theorem EvO.sortLLP {R : Rp (List Int)} [D : DatO X.K R] {xs : List (List Int)} (hr : X.A.units + 64 < cLine) (hm : X.mg "sorted" = none) (ha : EvV X S0 H0 G a (rL R) (some xs)) (h1 : ∀ zs, D.to zs = .list (zs.map .int) := by intro _; rfl) (hg : Gl X "sorted" := by rfl) (he : starEach [a] X.env = (false, eval a X.env) :: starEach [] X.env := by rfl) :
    EvO X S0 H0 G (.Call (.Name "sorted" p) [a] [] pos) (oL (oV R)) (some (sortLL xs)) := .mk fun S H σ Q zs E hm' kk => by
  cases hm'
  refine wE_of (pe_callB (cr_sortLL hr) hg hm boot_sorted (pa_cons (wE_ok a) pa_nil he) (by decide) (by decide) he) (ha S H σ _ xs E rfl fun v S1 H1 ps X1 r1 f1 => ?_)
  obtain ⟨t, vs, rfl, q, pr, hl⟩ := r1.1
  have e1 : (vs.zip xs).map (·.1) = vs := List.map_fst_zip (by rw [paired_len pr]; exact Nat.le_refl _)
  have e2 : (vs.zip xs).map (·.2) = xs := List.map_snd_zip (by rw [paired_len pr]; exact Nat.le_refl _)
  have al : ∀ z ∈ vs.zip xs, R.r S1 z.1 z.2 := by
    have : ∀ {l : List V} {m : List (List Int)}, Paired (R.r S1) l m → ∀ z ∈ l.zip m, R.r S1 z.1 z.2 := by
      intro l m h
      induction h with
      | nil => intro z hz; exact absurd hz (by simp)
      | cons h t ih =>
        intro z hz
        rcases List.mem_cons.mp hz with e | e
        · rw [e]; exact h
        · exact ih z e
    exact this pr
  refine ⟨t, vs.zip xs, rfl, by rw [e1]; exact X1.sb.k.seq (.inl (.inl q)), fun z hz => by rw [← h1]; exact D.dp (R.mono X1.sb.k (al z hz)), ?_, fun l hn => ?_⟩
  · rw [List.length_zip, paired_len pr, Nat.min_self]; exact hl
  · have es : ((vs.zip xs).mergeSort fun a b => decide (a.2 ≤ b.2)).map (·.2) = sortLL xs := by
      unfold sortLL
      rw [List.map_mergeSort (s := fun a b : List Int => decide (a ≤ b)) (fun _ _ _ _ => rfl), e2]
    have pr2 : Paired (R.r S1) (((vs.zip xs).mergeSort fun a b => decide (a.2 ≤ b.2)).map (·.1)) (sortLL xs) := by
      rw [← es]
      have : ∀ l : List (V × List Int), (∀ z ∈ l, R.r S1 z.1 z.2) → Paired (R.r S1) (l.map (·.1)) (l.map (·.2)) := by
        intro l
        induction l with
        | nil => intro _; exact .nil
        | cons z l ih => intro h; exact .cons (h z List.mem_cons_self) (ih fun y hy => h y (List.mem_cons_of_mem _ hy))
      exact this _ fun z hz => al z ((List.mergeSort_perm _ _).mem_iff.mp hz)
    exact EvO.newL X1 hn pr2 (by unfold sortLL; rw [(List.mergeSort_perm _ _).length_eq]; exact hl) kk
end
/-! one, other = a, b -/
section
variable {X : Cx} {S0 H0 : Hp} {G : Cxt} {α β ν μ ρ : Type} {a b : Expr} {pos px py pt pt2 : Pos} {kt k2} {ss : List Stmt} {Γ : ν → Cxt} {Λ : μ → Cxt} {O : Orp ρ}
theorem Run.parP {R1 : Rp α} {R2 : Rp β} {y : α} {z : β} {m : Option (Out ν μ ρ)} (i j : Nat) {x x2 : Str} (hN : X.N.Nodup) (h : EvA X S0 H0 G [a, b] (aV R1 (aV R2 aNil)) (some (y, z, ()))) (hk : Run X S0 H0 ((G.set i (.val R1 y)).set j (.val R2 z)) ss Γ Λ O m)
    (hi : X.N[i]? = some x := by rfl) (hj : X.N[j]? = some x2 := by rfl) (hij : i ≠ j := by decide) (hx : X.env.scope.names.lookup x = some .local := by rfl) (hy : X.env.scope.names.lookup x2 = some .local := by rfl) (hc : X.calm = true := by rfl)
    (hw : swappedStores [.Tuple [.Name x px, .Name x2 py] kt pt] (.Tuple [a, b] k2 pt2) X.env = pure (some [x, x2]) := by rfl)
    (hs : swapsWithSole [.Tuple [.Name x px, .Name x2 py] kt pt] (.Tuple [a, b] k2 pt2) pos.line X.env = pure false := by rfl) :
    Run X S0 H0 G (.Assign [.Tuple [.Name x px, .Name x2 py] kt pt] (.Tuple [a, b] k2 pt2) pos :: ss) Γ Λ O m := .mk fun S H σ D o E e' g => by
  refine wS_of (pss_cons (ps_par hc hN hi hj hij hx hy (wA_ok _) hw hs) (wS_ok ss)) ?_
  refine h S H σ _ _ E rfl fun vs S1 H1 X1 r1 => ?_
  obtain ⟨v, ws, rfl, r2, w, ws2, rfl, r3, rfl⟩ := r1
  refine ⟨v, w, rfl, ?_⟩
  have E1 := E.setV i X1 r2
  have E2 := E1.setV j (Ext.refl X1.sb) r3
  exact hk S1 H1 _ D o E2 e' (g.mono X1.st)
end
end Gc

namespace Gc
open PySem PySem.Spec PyProof.Rows L2
variable [Tn]
/-! ## 32. tuples of unlike shapes behind a first word -/
/-- one of two lists of things -/
def rsOr {α β : Type} (A : Rps α) (B : Rps β) : Rps (α ⊕ β) :=
  ⟨fun S vs x => match x with | .inl a => A.r S vs a | .inr b => B.r S vs b, fun {S S' vs x} h q => by
    cases x with
    | inl a => exact A.mono h q
    | inr b => exact B.mono h q⟩
def orP {α β γ : Type} (f : α → Option γ) (g : β → Option γ) : α ⊕ β → Option γ
  | .inl a => f a
  | .inr b => g b
def noP {α γ : Type} : α → Option γ := fun _ => none
/-- the thing at place k, where the shape has it -/
structure PProj {α β : Type} (Rs : Rps α) (k : Nat) (R : Rp β) (f : α → Option β) : Prop where
  pj : ∀ {S : Hp} {vs : List V} {x : α} {y : β}, Rs.r S vs x → f x = some y → ∃ u, vs[k]? = some u ∧ R.r S u y
theorem PProj.no {α β : Type} {Rs : Rps α} {k : Nat} {R : Rp β} : PProj Rs k R noP := ⟨fun _ h => nomatch h⟩
theorem PProj.of {α β : Type} {Rs : Rps α} {k : Nat} {R : Rp β} {f : α → β} (p : Proj Rs k R f) : PProj Rs k R (fun x => some (f x)) := ⟨fun r h => by cases h; exact p.pj r⟩
theorem PProj.or {α β γ : Type} {A : Rps α} {B : Rps β} {k : Nat} {R : Rp γ} {f : α → Option γ} {g : β → Option γ} (p : PProj A k R f) (q : PProj B k R g) : PProj (rsOr A B) k R (orP f g) := ⟨fun {S vs x y} r h => by
  cases x with
  | inl a => exact p.pj r h
  | inr b => exact q.pj r h⟩
theorem PProj.tag {α β γ : Type} {R0 : Rp α} {Rs : Rps β} {k : Nat} {R : Rp γ} {f : β → Option γ} (p : PProj Rs k R f) : PProj (rsCons R0 Rs) (k + 1) R (fun x => f x.2) := ⟨fun ⟨v, ws, e, q, t⟩ h => by
  obtain ⟨u, h1, h2⟩ := p.pj t h
  exact ⟨u, by rw [e]; exact h1, h2⟩⟩
/-- what stands for x stands for f x -/
structure Imp {α β : Type} (R : Rp α) (R' : Rp β) (f : α → β) : Prop where
  to : ∀ {S : Hp} {v : V} {x : α}, R.r S v x → R'.r S v (f x)
structure Imps {α β : Type} (R : Rps α) (R' : Rps β) (f : α → β) : Prop where
  to : ∀ {S : Hp} {v : List V} {x : α}, R.r S v x → R'.r S v (f x)
theorem Imps.tup {α β : Type} {R : Rps α} {R' : Rps β} {f : α → β} (h : Imps R R' f) : Imp (rT R) (rT R') f := ⟨fun ⟨a, vs, e, q, r⟩ => ⟨a, vs, e, q, h.to r⟩⟩
theorem Imps.id {α : Type} {R : Rps α} : Imps R R (fun x => x) := ⟨fun h => h⟩
theorem Imps.inl {α β γ : Type} {R : Rps α} {A : Rps β} {B : Rps γ} {f : α → β} (h : Imps R A f) : Imps R (rsOr A B) (fun x => .inl (f x)) := ⟨fun r => h.to r⟩
theorem Imps.inr {α β γ : Type} {R : Rps α} {A : Rps β} {B : Rps γ} {f : α → γ} (h : Imps R B f) : Imps R (rsOr A B) (fun x => .inr (f x)) := ⟨fun r => h.to r⟩
theorem Imps.elim {α β γ : Type} {A : Rps α} {B : Rps β} {C : Rps γ} {f : α → γ} {g : β → γ} (h : Imps A C f) (k : Imps B C g) : Imps (rsOr A B) C (Sum.elim f g) := ⟨fun {S v x} r => by
  cases x with
  | inl a => exact h.to r
  | inr b => exact k.to r⟩
theorem Imps.tag {α β γ : Type} {R0 : Rp α} {R : Rps β} {R' : Rps γ} {f : β → γ} (h : Imps R R' f) : Imps (rsCons R0 R) (rsCons R0 R') (fun x => (x.1, f x.2)) := ⟨fun ⟨v, ws, e, q, t⟩ => ⟨v, ws, e, q, h.to t⟩⟩
theorem Imps.tag0 {α γ : Type} {R0 : Rp α} {R' : Rps γ} {f : Unit → γ} (h : Imps rsNil R' f) : Imps (rsOne R0) (rsCons R0 R') (fun x => (x, f ())) := ⟨fun ⟨v, e, q⟩ => ⟨v, [], e, q, h.to rfl⟩⟩
section
variable {X : Cx} {S0 H0 : Hp} {G : Cxt} {α β : Type} {a b e : Expr} {pos pos' p : Pos}
theorem EvV.imp {R : Rp α} {R' : Rp β} {f : α → β} {x : α} (i : Imp R R' f) (h : EvV X S0 H0 G e R (some x)) : EvV X S0 H0 G e R' (some (f x)) := .mk fun S H σ Q z E hm k => by
  cases hm
  exact h S H σ Q x E rfl fun v S' H' ps X' r fr => k v S' H' ps X' ⟨i.to r.1, r.2⟩ fr
theorem EvB.imp {R : Rp α} {R' : Rp β} {f : α → β} {x : α} (i : Imp R R' f) (h : EvB X S0 H0 G e R (some x)) : EvB X S0 H0 G e R' (some (f x)) := .mk fun S H σ Q z E hm k => by
  cases hm
  exact h S H σ Q x E rfl fun v S' H' X' r => k v S' H' X' (i.to r)
theorem EvB.utixP {Rs : Rps α} {R : Rp β} (k : Nat) {f : α → Option β} {x : α} {j} (pp : PProj Rs k R f) (ha : EvB X S0 H0 G a (rT Rs) (some x)) : EvB X S0 H0 G (.Subscript a (.Constant (.int (k : Int)) j pos') pos) R (f x) := .mk fun S H σ Q z E hm kk => by
  refine wE_of (pe_ix ix_tup (wE_ok a) pe_int (fun _ _ => rfl)) (ha S H σ _ x E rfl fun v S1 H1 X1 r1 => ?_)
  obtain ⟨t, vs, rfl, q, r⟩ := r1
  obtain ⟨u, e2, ru⟩ := pp.pj r hm
  exact ⟨t, vs, k, u, rfl, rfl, .inl (.inl q), atI_nat e2, kk u S1 H1 X1 ru⟩
/-! words -/
theorem inV_strs (x : Str) : ∀ xs : List Str, inV (.str x) (xs.map V.str) = decide (x ∈ xs)
  | [] => by simp [inV]
  | y :: ys => by
    have h := inV_strs x ys
    unfold inV at h ⊢
    rw [List.map_cons, List.any_cons, h]
    show ((y == x) || decide (x ∈ ys)) = decide (x ∈ y :: ys)
    by_cases e : y = x
    · subst e; simp
    · have e' : ¬ x = y := fun z => e z.symm
      simp [e, e']
theorem flat_strs (xs : List Str) : (xs.map V.str).all flatV = true := by
  rw [List.all_eq_true]; intro v hv; obtain ⟨i, _, rfl⟩ := List.mem_map.mp hv; rfl
theorem strs_of {S : Hp} : ∀ {vs : List V} {xs : List Str}, Paired (rStr.r S) vs xs → vs = xs.map V.str
  | _, _, .nil => rfl
  | _, _, .cons h t => by rw [List.map_cons, ← strs_of t, show _ = V.str _ from h.1]
class TupS {α : Type} (Rs : Rps α) where
  to : α → List Str
  ok : ∀ {S : Hp} {vs : List V} {x : α}, Rs.r S vs x → vs = (to x).map V.str
instance tupS1 : TupS (rsOne rStr) := ⟨fun x => [x], fun ⟨v, e, q⟩ => by rw [e, show v = _ from q.1]; rfl⟩
instance tupSS {α : Type} {Rs : Rps α} [T : TupS Rs] : TupS (rsCons rStr Rs) := ⟨fun x => x.1 :: T.to x.2, fun ⟨v, ws, e, q, t⟩ => by rw [e, show v = _ from q.1, T.ok t]; rfl⟩
theorem Cm.inSP {RL : Rp (List Str)} [L : SqRp X.K RL rStr] {x : Str} {xs : List Str} {i : Decidable (x ∈ xs)} (ha : EvB X S0 H0 G a rStr (some x)) (hb : EvB X S0 H0 G b RL (some xs)) (hm : behindInMarks .In b = false := by with_unfolding_all rfl) : Cm X S0 H0 G (.Compare a [.In] [b] pos) (decide (x ∈ xs)) :=
  Cm.two ha hb op_in_seq hm fun S H Q v w sb r1 r2 k => by
    obtain ⟨l, vs, rfl, q, pr, _⟩ := L.sq r2
    rw [show v = .str x from r1.1]
    rw [strs_of pr] at q
    exact ⟨l, _, rfl, .inl q, rfl, flat_strs xs, by rw [if_neg Bool.false_ne_true, inV_strs]; exact (fun (j : Decidable (x ∈ xs)) => (show Q (V.bl (@decide _ j)) H from Subsingleton.elim i j ▸ k)) _⟩
theorem Cm.intSP {Rs : Rps α} [T : TupS Rs] {x : Str} {y : α} {ys : List Str} {i : Decidable (x ∈ ys)} (ha : EvB X S0 H0 G a rStr (some x)) (hb : EvB X S0 H0 G b (rT Rs) (some y)) (hy : T.to y = ys := by rfl) (hm : behindInMarks .In b = false := by with_unfolding_all rfl) : Cm X S0 H0 G (.Compare a [.In] [b] pos) (decide (x ∈ ys)) :=
  Cm.two ha hb op_in_seq hm fun S H Q v w sb r1 r2 k => by
    obtain ⟨t, vs, rfl, q, r⟩ := r2
    have e1 := T.ok r
    subst e1 hy
    rw [show v = .str x from r1.1]
    exact ⟨t, _, rfl, .inr (.inl (.inl q)), rfl, flat_strs _, by rw [if_neg Bool.false_ne_true, inV_strs]; exact (fun (j : Decidable (x ∈ T.to y)) => (show Q (V.bl (@decide _ j)) H from Subsingleton.elim i j ▸ k)) _⟩
end
/-! ### data compared, no two shapes told apart -/
def pyNil {α : Type} : α → List PyData := fun _ => []
def pyOne {α : Type} (f : α → PyData) : α → List PyData := fun x => [f x]
def pyCons {α β : Type} (f : α → PyData) (g : β → List PyData) : α × β → List PyData := fun x => f x.1 :: g x.2
def pyOr {α β : Type} (f : α → List PyData) (g : β → List PyData) : α ⊕ β → List PyData
  | .inl a => f a
  | .inr b => g b
def pyT {α : Type} (f : α → List PyData) : α → PyData := fun x => .tuple (f x)
def pyL {α : Type} (f : α → PyData) : List α → PyData := fun x => .list (x.map f)
class DatE (K : PySem.W.Frag) {α : Type} (R : Rp α) (to : outParam (α → PyData)) where
  d : Nat
  dp : ∀ {H : Hp} {v : V} {x : α}, R.r H v x → Dp K H v (to x)
  lay : ∀ {H : Hp} {v : V} {x : α}, R.r H v x → (to x).canLay0 = true
  dep : ∀ x, (to x).depth ≤ d
class DatEs (K : PySem.W.Frag) {α : Type} (R : Rps α) (to : outParam (α → List PyData)) where
  d : Nat
  dp : ∀ {H : Hp} {v : List V} {x : α}, R.r H v x → DpAll K H v (to x)
  lay : ∀ {H : Hp} {v : List V} {x : α}, R.r H v x → PyData.canLayAll0 (to x) = true
  dep : ∀ x, PyData.depthAll (to x) ≤ d
section
variable {K : PySem.W.Frag} {α β : Type}
instance : DatE K rInt PyData.int := ⟨(datInt (K := K)).d, (datInt (K := K)).dp, (datInt (K := K)).lay, (datInt (K := K)).dep⟩
instance : DatE K rStr PyData.str := ⟨(datStr (K := K)).d, (datStr (K := K)).dp, (datStr (K := K)).lay, (datStr (K := K)).dep⟩
instance {R : Rp α} {f : α → PyData} [D : DatE K R f] : DatE K (rOpt R) (optTo f) where
  d := D.d
  dp := fun {H v x} h => by
    cases x with
    | none => cases (show v = .non from h); exact .non
    | some y => exact D.dp h.1
  lay := fun {H v x} h => by
    cases x with
    | none => simp [optTo, PyData.canLay0]
    | some y => exact D.lay h.1
  dep := fun x => by
    cases x with
    | none => simp [optTo, PyData.depth]
    | some y => exact D.dep y
instance : DatEs K rsNil pyNil := ⟨0, fun h => by cases (show _ = [] from h); exact .nil, fun _ => rfl, fun _ => Nat.le_refl 0⟩
instance {R : Rp α} {f : α → PyData} [D : DatE K R f] : DatEs K (rsOne R) (pyOne f) where
  d := D.d
  dp := fun ⟨v, e, q⟩ => by rw [e]; exact .cons (D.dp q) .nil
  lay := fun ⟨v, e, q⟩ => by simp [pyOne, PyData.canLayAll0, D.lay q]
  dep := fun x => by simpa [pyOne, PyData.depthAll] using D.dep x
instance {R : Rp α} {Rs : Rps β} {f : α → PyData} {g : β → List PyData} [D : DatE K R f] [E : DatEs K Rs g] : DatEs K (rsCons R Rs) (pyCons f g) where
  d := max D.d E.d
  dp := fun ⟨v, ws, e, q, t⟩ => by rw [e]; exact .cons (D.dp q) (E.dp t)
  lay := fun ⟨v, ws, e, q, t⟩ => by simp [pyCons, PyData.canLayAll0, D.lay q, E.lay t]
  dep := fun x => by
    have h1 := D.dep x.1
    have h2 := E.dep x.2
    simp [pyCons, PyData.depthAll]
    omega
instance {A : Rps α} {B : Rps β} {f : α → List PyData} {g : β → List PyData} [D : DatEs K A f] [E : DatEs K B g] : DatEs K (rsOr A B) (pyOr f g) where
  d := max D.d E.d
  dp := fun {H v x} h => by
    cases x with
    | inl a => exact D.dp h
    | inr b => exact E.dp h
  lay := fun {H v x} h => by
    cases x with
    | inl a => exact D.lay h
    | inr b => exact E.lay h
  dep := fun x => by
    cases x with
    | inl a => exact Nat.le_trans (D.dep a) (Nat.le_max_left _ _)
    | inr b => exact Nat.le_trans (E.dep b) (Nat.le_max_right _ _)
instance {Rs : Rps α} {f : α → List PyData} [D : DatEs K Rs f] : DatE K (rT Rs) (pyT f) where
  d := D.d + 1
  dp := fun ⟨a, vs, e, q, r⟩ => by rw [e]; exact .tup (.inl (.inl q)) (D.dp r)
  lay := fun ⟨a, vs, e, q, r⟩ => by simpa [pyT, PyData.canLay0] using D.lay r
  dep := fun x => by simpa [pyT, PyData.depth] using D.dep x
theorem dpAll_ofE {R : Rp α} {f : α → PyData} [D : DatE K R f] {H : Hp} : ∀ {vs : List V} {xs : List α}, Paired (R.r H) vs xs → DpAll K H vs (xs.map f)
  | _, _, .nil => .nil
  | _, _, .cons r t => .cons (D.dp r) (dpAll_ofE t)
theorem layAll_ofE (K : PySem.W.Frag) {R : Rp α} {f : α → PyData} [D : DatE K R f] {H : Hp} : ∀ {vs : List V} {xs : List α}, Paired (R.r H) vs xs → PyData.canLayAll0 (xs.map f) = true
  | _, _, .nil => rfl
  | _, _, .cons r t => by rw [List.map_cons, PyData.canLayAll0, D.lay r, layAll_ofE K t]; rfl
theorem depAll_ofE (K : PySem.W.Frag) {R : Rp α} {f : α → PyData} [D : DatE K R f] : ∀ xs : List α, PyData.depthAll (xs.map f) ≤ D.d
  | [] => Nat.zero_le _
  | x :: xs => by rw [List.map_cons, PyData.depthAll]; exact Nat.max_le.mpr ⟨D.dep x, depAll_ofE K xs⟩
instance {R : Rp α} {f : α → PyData} [D : DatE K R f] : DatE K (rL R) (pyL f) where
  d := D.d + 1
  dp := fun ⟨a, vs, e, q, p, _⟩ => by subst e; exact .lst (.inl (.inl q)) (dpAll_ofE p)
  lay := fun ⟨a, vs, e, q, p, _⟩ => by rw [pyL, PyData.canLay0]; exact layAll_ofE K p
  dep := fun x => by rw [pyL, PyData.depth]; exact Nat.succ_le_succ (depAll_ofE K x)
end
section
variable {X : Cx} {S0 H0 : Hp} {G : Cxt} {α β : Type} {a b e : Expr} {pos pos' p : Pos}
theorem Cm.eqEP {R1 : Rp α} {R2 : Rp β} {f : α → PyData} {g : β → PyData} [D1 : DatE X.K R1 f] [D2 : DatE X.K R2 g] {x : α} {y : β} (hr : X.A.units + 64 < cLine) (ha : EvB X S0 H0 G a R1 (some x)) (hb : EvB X S0 H0 G b R2 (some y)) (hd : (decide (D1.d ≤ 64) && decide (D2.d ≤ 64)) = true := by rfl) :
    Cm X S0 H0 G (.Compare a [.Eq] [b] pos) (PyData.eqv (f x) (g y)) :=
  Cm.two ha hb (op_eqD hr) (nomark _) fun S H Q v w sb r1 r2 k => by
    have hd : D1.d ≤ 64 ∧ D2.d ≤ 64 := by simpa using hd
    refine ⟨_, _, D1.dp r1, D2.dp r2, ?_, ?_, k⟩
    · rw [SeqAt.shaped, D1.lay r1, Bool.true_and, decide_eq_true_eq]; exact Nat.le_trans (D1.dep x) hd.1
    · rw [SeqAt.shaped, D2.lay r2, Bool.true_and, decide_eq_true_eq]; exact Nat.le_trans (D2.dep y) hd.2
theorem Cm.neEP {R1 : Rp α} {R2 : Rp β} {f : α → PyData} {g : β → PyData} [D1 : DatE X.K R1 f] [D2 : DatE X.K R2 g] {x : α} {y : β} (hr : X.A.units + 64 < cLine) (ha : EvB X S0 H0 G a R1 (some x)) (hb : EvB X S0 H0 G b R2 (some y)) (hd : (decide (D1.d ≤ 64) && decide (D2.d ≤ 64)) = true := by rfl) :
    Cm X S0 H0 G (.Compare a [.NotEq] [b] pos) (!PyData.eqv (f x) (g y)) :=
  Cm.two ha hb (op_neD hr) (nomark _) fun S H Q v w sb r1 r2 k => by
    have hd : D1.d ≤ 64 ∧ D2.d ≤ 64 := by simpa using hd
    refine ⟨_, _, D1.dp r1, D2.dp r2, ?_, ?_, k⟩
    · rw [SeqAt.shaped, D1.lay r1, Bool.true_and, decide_eq_true_eq]; exact Nat.le_trans (D1.dep x) hd.1
    · rw [SeqAt.shaped, D2.lay r2, Bool.true_and, decide_eq_true_eq]; exact Nat.le_trans (D2.dep y) hd.2
end
end Gc

namespace Gc
open PySem PySem.Spec PyProof.Rows L2
variable [Tn]
/-! ## 33. lists in lists of one's own: parts changed, names moved -/
/-- what stands at place k of a list or of a tuple -/
def AtP (H : Hp) (u : V) (k : Nat) (w : V) : Prop := ∃ a vs, u = .ref a ∧ (H a = some (.lst vs) ∨ H a = some (.tup vs)) ∧ vs[k]? = some w
inductive Pth (H : Hp) : V → List Nat → V → Prop
  | nil {v : V} : Pth H v [] v
  | cons {v w u : V} {k : Nat} {ks : List Nat} : AtP H v k w → Pth H w ks u → Pth H v (k :: ks) u
theorem Pth.snoc {H : Hp} {k : Nat} : ∀ {ks : List Nat} {v u : V}, Pth H v (ks ++ [k]) u → ∃ w, Pth H v ks w ∧ AtP H w k u
  | [], v, u, h => by
    cases h with
    | cons a t => cases t; exact ⟨v, .nil, a⟩
  | j :: ks, v, u, h => by
    cases h with
    | cons a t =>
      obtain ⟨w, h1, h2⟩ := Pth.snoc t
      exact ⟨w, .cons a h1, h2⟩
/-- e walks from slot i along the path -/
structure EvPt (X : Cx) (i : Nat) (e : Expr) (path : List Nat) : Prop where
  ev : ∀ {H : Hp} {σ : L2.St} {v u : V} {Q : V → Hp → Prop}, σ[i]? = some (some v) → Pth H v path u → Q u H → wE X e σ H Q
section
variable {X : Cx} {S0 H0 : Hp} {G : Cxt} {α β γ ν μ ρ : Type} {a b e f : Expr} {pos p pos' p2 : Pos} {ss : List Stmt} {Γ : ν → Cxt} {Λ : μ → Cxt} {O : Orp ρ}
theorem EvPt.nm {x : Str} (i : Nat) (hN : X.N[i]? = some x := by rfl) (hv : Vis X.env.scope x := by first | exact Or.inl rfl | exact Or.inr (Or.inl rfl) | exact Or.inr (Or.inr rfl))
    (hd : (x == ("__debug__" : Str)) = false := by decide) (hcd : (x == ("__classdict__" : Str)) = false := by decide) : EvPt X i (.Name x p) [] := ⟨fun e1 h q => by
  cases h
  exact wE_of (pe_var hN hv hd hcd) ⟨_, e1, q⟩⟩
theorem EvPt.sub {i : Nat} {path : List Nat} {k : Nat} {j} (h : EvPt X i e path) : EvPt X i (.Subscript e (.Constant (.int (k : Int)) j p) p2) (path ++ [k]) := ⟨fun e1 hp q => by
  obtain ⟨w, h1, a, vs, rfl, h3, h4⟩ := hp.snoc
  refine wE_of (pe_ix ix_seq (wE_ok e) pe_int (fun _ _ => rfl)) (h.ev e1 h1 ?_)
  rcases h3 with h3 | h3
  · exact .inl ⟨a, vs, (k : Int), _, rfl, rfl, .inl (.inl h3), atI_nat h4, q⟩
  · exact .inr (.inl ⟨a, vs, (k : Int), _, rfl, rfl, .inl (.inl h3), atI_nat h4, q⟩)⟩
/-- a list within a thing of one's own -/
structure FocP (O : Orp α) (path : List Nat) (R : Rp β) (get : α → Option (List β)) (put : α → List β → α) : Prop where
  f : ∀ {S H : Hp} {v : V} {x : α} {ps : List Addr} {ys : List β}, O.r S H v x ps → Same S H → ps.Nodup → get x = some ys → ∃ l us, Pth H v path (.ref l) ∧ l ∈ ps ∧ H l = some (.lst us) ∧ Paired (R.r S) us ys ∧ ys.length ≤ sizeLine ∧
    ∀ (H' : Hp) (us' : List V) (ys' : List β), (∀ p ∈ ps, p ≠ l → H' p = H p) → H' l = some (.lst us') → Paired (R.r S) us' ys' → ys'.length ≤ sizeLine → O.r S H' v (put x ys') ps
structure FocPs (Os : Orps α) (k : Nat) (path : List Nat) (R : Rp β) (get : α → Option (List β)) (put : α → List β → α) : Prop where
  f : ∀ {S H : Hp} {vs : List V} {x : α} {ps : List Addr} {ys : List β}, Os.r S H vs x ps → Same S H → ps.Nodup → get x = some ys → ∃ w l us, vs[k]? = some w ∧ Pth H w path (.ref l) ∧ l ∈ ps ∧ H l = some (.lst us) ∧ Paired (R.r S) us ys ∧ ys.length ≤ sizeLine ∧
    ∀ (H' : Hp) (us' : List V) (ys' : List β), (∀ p ∈ ps, p ≠ l → H' p = H p) → H' l = some (.lst us') → Paired (R.r S) us' ys' → ys'.length ≤ sizeLine → Os.r S H' vs (put x ys') ps
theorem FocP.here {R : Rp β} : FocP (oL (oV R)) [] R some (fun _ ys => ys) := ⟨fun {S H v x ps ys} ⟨l, us, qs, ev, q, ep, els, hz⟩ sb nd hg => by
  subst ev ep
  cases hg
  obtain ⟨pr, rfl⟩ := els.to
  exact ⟨l, us, .nil, List.mem_cons_self, q, pr, hz, fun H' us' ys' h1 h2 h3 h4 => ⟨l, us', [], rfl, h2, rfl, Els.of h3, h4⟩⟩⟩
theorem els_at {O : Orp α} {S H : Hp} : ∀ {vs : List V} {xs : List α} {qs : List Addr} {k : Nat} {x : α}, Els O S H vs xs qs → xs[k]? = some x → ∃ w q1 q2 q3, vs[k]? = some w ∧ O.r S H w x q2 ∧ qs = q1 ++ q2 ++ q3 ∧
    ∀ (H' : Hp) (y : α), O.r S H' w y q2 → (∀ p ∈ q1, H' p = H p) → (∀ p ∈ q3, H' p = H p) → Els O S H' vs (xs.set k y) qs
  | _, _, _, _, _, .nil, h => by simp at h
  | _, _, _, 0, x, .cons (v := v) (ps := ps) (qs := qs) r t, h => by
    simp at h; subst h
    exact ⟨v, [], ps, qs, rfl, r, by simp, fun H' y ry _ h3 => .cons ry (t.mono (Same.refl S) fun p hp => Kp.eq (h3 p hp))⟩
  | _, _, _, k + 1, x, .cons (v := v) (ps := ps) (qs := qs) r t, h => by
    obtain ⟨w, q1, q2, q3, h1, h2, h3, h4⟩ := els_at (k := k) t (by simpa using h)
    refine ⟨w, ps ++ q1, q2, q3, by simpa using h1, h2, by rw [h3]; simp, fun H' y ry g1 g3 => ?_⟩
    exact .cons (O.mono (Same.refl S) (fun p hp => Kp.eq (g1 p (List.mem_append_left _ hp))) r) (h4 H' y ry (fun p hp => g1 p (List.mem_append_right _ hp)) g3)
def putNth (put : α → List β → α) (k : Nat) (xs : List α) (ys : List β) : List α := match xs[k]? with
  | some x => xs.set k (put x ys)
  | none => xs
theorem FocP.at {O' : Orp α} {path : List Nat} {R : Rp β} {get : α → Option (List β)} {put : α → List β → α} (h : FocP O' path R get put) (k : Nat) : FocP (oL O') (k :: path) R (fun xs => (xs[k]?).bind get) (putNth put k) := ⟨fun {S H v xs ps ys} ⟨c, vs, qs, ev, q, ep, els, hz⟩ sb nd hg => by
  subst ev ep
  obtain ⟨x, e1, hg⟩ := bind_some_iff hg
  obtain ⟨w, q1, q2, q3, h1, h2, h3, h4⟩ := els_at els e1
  obtain ⟨hc, nd'⟩ := List.nodup_cons.mp nd
  rw [h3] at nd' hc
  obtain ⟨nd12, nd3, dj3⟩ := List.nodup_append.mp nd'
  obtain ⟨nd1, nd2, dj1⟩ := List.nodup_append.mp nd12
  obtain ⟨l, us, g1, g2, g3, g4, g5, g6⟩ := h.f h2 sb nd2 hg
  refine ⟨l, us, .cons ⟨c, vs, rfl, .inl q, h1⟩ g1, List.mem_cons_of_mem _ (by rw [h3]; exact List.mem_append_left _ (List.mem_append_right _ g2)), g3, g4, g5, fun H' us' ys' k1 k2 k3 k4 => ?_⟩
  have keep : ∀ p, p ∈ c :: qs → p ≠ l → H' p = H p := k1
  refine ⟨c, vs, qs, rfl, ?_, rfl, ?_, ?_⟩
  · rw [keep c List.mem_cons_self (fun z => hc (by rw [z]; exact List.mem_append_left _ (List.mem_append_right _ g2)))]; exact q
  · unfold putNth
    rw [e1]
    refine h4 H' _ (g6 H' us' ys' (fun p hp ne => keep p (List.mem_cons_of_mem _ (by rw [h3]; exact List.mem_append_left _ (List.mem_append_right _ hp))) ne) k2 k3 k4) (fun p hp => ?_) (fun p hp => ?_)
    · exact keep p (List.mem_cons_of_mem _ (by rw [h3]; exact List.mem_append_left _ (List.mem_append_left _ hp))) (fun z => dj1 p hp l g2 z)
    · exact keep p (List.mem_cons_of_mem _ (by rw [h3]; exact List.mem_append_right _ hp)) (fun z => dj3 l (List.mem_append_right _ g2) p hp z.symm)
  · unfold putNth
    rw [e1]
    simpa using hz⟩
theorem FocP.tup {Os : Orps α} {k : Nat} {path : List Nat} {R : Rp β} {get : α → Option (List β)} {put : α → List β → α} (h : FocPs Os k path R get put) : FocP (oT Os) (k :: path) R get put := ⟨fun {S H v x ps ys} ⟨c, vs, ev, q, r⟩ sb nd hg => by
  subst ev
  obtain ⟨w, l, us, h1, h2, h3, h4, h5, h6, h7⟩ := h.f r sb nd hg
  exact ⟨l, us, .cons ⟨c, vs, rfl, .inr (sb _ _ q), h1⟩ h2, h3, h4, h5, h6, fun H' us' ys' k1 k2 k3 k4 => ⟨c, vs, rfl, q, h7 H' us' ys' k1 k2 k3 k4⟩⟩⟩
theorem FocPs.z1 {O' : Orp α} {path : List Nat} {R : Rp β} {get : α → Option (List β)} {put : α → List β → α} (h : FocP O' path R get put) : FocPs (osOne O') 0 path R get put := ⟨fun {S H vs x ps ys} ⟨v, e, r⟩ sb nd hg => by
  subst e
  obtain ⟨l, us, g1, g2, g3, g4, g5, g6⟩ := h.f r sb nd hg
  exact ⟨v, l, us, rfl, g1, g2, g3, g4, g5, fun H' us' ys' k1 k2 k3 k4 => ⟨v, rfl, g6 H' us' ys' k1 k2 k3 k4⟩⟩⟩
theorem FocPs.z0 {O' : Orp α} {Os : Orps γ} {path : List Nat} {R : Rp β} {get : α → Option (List β)} {put : α → List β → α} (h : FocP O' path R get put) : FocPs (osCons O' Os) 0 path R (fun x => get x.1) (fun x ys => (put x.1 ys, x.2)) := ⟨fun {S H vs x ps ys} ⟨v, ws, p1, p2, e, r, t, ep⟩ sb nd hg => by
  subst e ep
  obtain ⟨nd1, nd2, dj⟩ := List.nodup_append.mp nd
  obtain ⟨l, us, g1, g2, g3, g4, g5, g6⟩ := h.f r sb nd1 hg
  exact ⟨v, l, us, rfl, g1, List.mem_append_left _ g2, g3, g4, g5, fun H' us' ys' k1 k2 k3 k4 => ⟨v, ws, p1, p2, rfl, g6 H' us' ys' (fun p hp => k1 p (List.mem_append_left _ hp)) k2 k3 k4, Os.mono (Same.refl S) (fun p hp => Kp.eq (k1 p (List.mem_append_right _ hp) (fun z => dj l g2 p hp z.symm))) t, rfl⟩⟩⟩
theorem FocPs.s {O' : Orp γ} {Os : Orps α} {k : Nat} {path : List Nat} {R : Rp β} {get : α → Option (List β)} {put : α → List β → α} (h : FocPs Os k path R get put) : FocPs (osCons O' Os) (k + 1) path R (fun x => get x.2) (fun x ys => (x.1, put x.2 ys)) := ⟨fun {S H vs x ps ys} ⟨v, ws, p1, p2, e, r, t, ep⟩ sb nd hg => by
  subst e ep
  obtain ⟨nd1, nd2, dj⟩ := List.nodup_append.mp nd
  obtain ⟨w, l, us, g0, g1, g2, g3, g4, g5, g6⟩ := h.f t sb nd2 hg
  exact ⟨w, l, us, g0, g1, List.mem_append_right _ g2, g3, g4, g5, fun H' us' ys' k1 k2 k3 k4 => ⟨v, ws, p1, p2, rfl, O'.mono (Same.refl S) (fun p hp => Kp.eq (k1 p (List.mem_append_left _ hp) (fun z => dj p hp l g2 z))) r, g6 H' us' ys' (fun p hp => k1 p (List.mem_append_right _ hp)) k2 k3 k4, rfl⟩⟩⟩
theorem FocP.opt {O' : Orp α} {path : List Nat} {R : Rp β} {get : α → Option (List β)} {put : α → List β → α} (h : FocP O' path R get put) : FocP (oOpt O') path R (fun o => o.bind get) (fun o ys => o.map fun x => put x ys) := ⟨fun {S H v o ps ys} r sb nd hg => by
  obtain ⟨x, e, hg⟩ := bind_some_iff hg
  subst e
  obtain ⟨l, us, g1, g2, g3, g4, g5, g6⟩ := h.f r.1 sb nd hg
  exact ⟨l, us, g1, g2, g3, g4, g5, fun H' us' ys' k1 k2 k3 k4 => ⟨g6 H' us' ys' k1 k2 k3 k4, r.2⟩⟩⟩
theorem FocP.inl {O1 : Orp α} {O2 : Orp γ} {path : List Nat} {R : Rp β} {get : α → Option (List β)} {put : α → List β → α} (h : FocP O1 path R get put) : FocP (oOr O1 O2) path R (fun o => (getL o).bind get) (fun o ys => match o with | .inl x => .inl (put x ys) | .inr x => .inr x) := ⟨fun {S H v o ps ys} r sb nd hg => by
  cases o with
  | inl x => exact h.f (x := x) r sb nd hg
  | inr x => cases hg⟩
theorem FocP.inr {O1 : Orp γ} {O2 : Orp α} {path : List Nat} {R : Rp β} {get : α → Option (List β)} {put : α → List β → α} (h : FocP O2 path R get put) : FocP (oOr O1 O2) path R (fun o => (getR o).bind get) (fun o ys => match o with | .inl x => .inl x | .inr x => .inr (put x ys)) := ⟨fun {S H v o ps ys} r sb nd hg => by
  cases o with
  | inl x => cases hg
  | inr x => exact h.f (x := x) r sb nd hg⟩
theorem env_pth {S H S1 H1 : Hp} {σ : L2.St} {O' : Orp α} {x : α} {path : List Nat} {get : α → Option (List β)} {put : α → List β → α} {R : Rp β} {i : Nat} {v : V} {ys : List β} (F : FocP O' path R get put) (E : EnvOk S0 H0 S H G σ) (X1 : Ext S H S1 H1) (hG : G[i]? = some (.ow O' x)) (ev : σ[i]? = some (some v)) (hg : get x = some ys) :
    ∃ l us, Pth H1 v path (.ref l) ∧ H1 l = some (.lst us) ∧ Paired (R.r S1) us ys ∧ ys.length ≤ sizeLine ∧ (S = S1 → H = H1 → Pth H v path (.ref l)) ∧
      (∀ us' zs, Paired (R.r S1) us' zs → zs.length ≤ sizeLine → EnvOk S0 H0 S1 (upd H1 l (.lst us')) (G.set i (.ow O' (put x zs))) σ) := by
  obtain ⟨o, ps, e1, ⟨v', e2, r⟩, nd, fr⟩ := E.get hG
  rw [e1] at ev
  cases ev
  cases e2
  have r1 : O'.r S1 H1 v x ps := O'.mono X1.st (fun p hp => Same.at_ne X1.hp (fr p hp).2.1) r
  obtain ⟨l, us, h1, h2, h3, h4, h5, h6⟩ := F.f r1 X1.sb nd hg
  have s1l : S1 l = none := X1.nw l (fr l h2).1 (fr l h2).2.1
  refine ⟨l, us, h1, h3, h4, h5, fun _ eH => by rw [eH]; exact h1, fun us' zs pr hz => ?_⟩
  refine E.mutX X1 hG (fun w ps' e8 r8 nd8 fr8 => ?_) (Same.refl _) (fun _ h _ => h) (fun a oo es => by rw [upd_ne (ne_of_none es s1l)]; exact X1.sb a oo es)
  rw [e1] at e8
  cases e8
  obtain ⟨l', us2, g1, g2, g3, g4, g5, g6⟩ := F.f r8 X1.sb nd8 hg
  have same : ∀ {path : List Nat} {w u1 u2 : V}, Pth H1 w path u1 → Pth H1 w path u2 → u1 = u2 := by
    intro path
    induction path with
    | nil => intro w u1 u2 a b; cases a; cases b; rfl
    | cons k ks ih =>
      intro w u1 u2 a b
      cases a with
      | cons a1 a2 =>
        cases b with
        | cons b1 b2 =>
          obtain ⟨c1, vs1, z1, z2, z3⟩ := a1
          obtain ⟨c2, vs2, y1, y2, y3⟩ := b1
          rw [z1] at y1
          cases y1
          have : vs1 = vs2 := by rcases z2 with z2 | z2 <;> rcases y2 with y2 | y2 <;> (rw [z2] at y2; cases y2; try rfl)
          subst this
          rw [z3] at y3
          cases y3
          exact ih a2 b2
  have el := same h1 g1
  cases el
  refine ⟨ps', g6 (upd H1 l (.lst us')) us' zs (fun p hp ne => upd_ne ne) upd_same pr hz, nd8, fun p hp => ?_, fun a oo na ea => ?_⟩
  · obtain ⟨_, _, _, b1, b2⟩ := fr8 p hp
    refine ⟨.inl hp, b1, ?_⟩
    by_cases c : p = l
    · rw [c, upd_same]; simp
    · rw [upd_ne c]; exact b2
  · rw [upd_ne (fun ep => na (by rw [ep]; exact g2))]; exact ea
/-- x[..]..[..].append(e) -/
theorem Run.appPth {O' : Orp α} {x0 : α} {path : List Nat} {get : α → Option (List β)} {put : α → List β → α} {R : Rp β} {z : β} {k : α → Option (Out ν μ ρ)} {apos cpos : Pos} (i : Nat) (F : FocP O' path R get put) (P : EvPt X i f path) (he : EvV X S0 H0 G e R (some z)) (hk : ∀ y, Run X S0 H0 (G.set i (.ow O' y)) ss Γ Λ O (k y))
    (hG : G[i]? = some (.ow O' x0) := by rfl)
    (hs : swapsWith (.Call (.Attribute f "append" apos) [e] [] cpos) none pos.line X.env = pure false := by rfl)
    (hbase : attributeBase f "append" X.env (eval f X.env) = eval f X.env := by rfl)
    (hfew : ((backTo cpos (starEach [e] X.env)).all (fun x => !x.1) && (backToKw cpos (keywordEach [] X.env)).all (fun x => x.1.isSome)
      && decide (([e] : List Expr).length + ([] : List Keyword).length + (if ([] : List Keyword).isEmpty then 0 else 1) < 30)) = true := by rfl)
    (hline : (apos.endLine == cpos.line) = true := by rfl) (hst : starEach [e] X.env = (false, eval e X.env) :: starEach [] X.env := by rfl) (hplain : (backTo cpos (starEach [] X.env)).any (·.1) = false := by rfl) :
    Run X S0 H0 G (.Expr (.Call (.Attribute f "append" apos) [e] [] cpos) pos :: ss) Γ Λ O (((get x0).bind fun ys => (appO ys z).bind fun zs => some (put x0 zs)).bind k) := .mk fun S H σ D o E e' g => by
  obtain ⟨y, e1, e'⟩ := bind_some_iff e'
  obtain ⟨ys, e2, e1⟩ := bind_some_iff e1
  obtain ⟨zs, e3, e1⟩ := bind_some_iff e1
  cases e1
  unfold appO at e3
  split at e3
  · next hlen =>
    cases e3
    obtain ⟨o1, ps, f1, ⟨v, f2, r⟩, nd, fr⟩ := E.get hG
    subst f2
    obtain ⟨l, us, h1, h3, h4, h5, _, h6⟩ := env_pth F E (Ext.refl E.base.sb) hG f1 e2
    refine wS_of (pss_cons (ps_expr (pe_bm PySem.F.plainAttrs_list PySem.F.slot_list_append PySem.F.type_list_append mt_append (wE_ok f) (pa_cons (wE_ok e) pa_nil hst) hbase hfew hline hst hplain) hs) (wS_ok ss)) ?_
    refine P.ev f1 h1 ?_
    refine ⟨.inl ⟨rfl, _, .inl (.inl h3)⟩, he S H σ _ z E rfl fun u S1 H1 rs X1 r1 f1' => ?_⟩
    obtain ⟨l', us', g1, g3, g4, g5, _, g6⟩ := env_pth F E X1 hG f1 e2
    have el : l' = l := by
      have h1' : Pth H1 v path (.ref l) := by
        clear h6 g6 g1 g3 g4 g5
        have up : ∀ {path : List Nat} {w u : V}, Pth H w path u → Pth H1 w path u := by
          intro path
          induction path with
          | nil => intro w u a; cases a; exact .nil
          | cons k ks ih =>
            intro w u a
            cases a with
            | cons a1 a2 =>
              obtain ⟨c1, vs1, z1, z2, z3⟩ := a1
              refine .cons ⟨c1, vs1, z1, ?_, z3⟩ (ih a2)
              rcases z2 with z2 | z2
              · exact .inl (X1.hp.go z2)
              · exact .inr (X1.hp.go z2)
        exact up h1
      have same : ∀ {path : List Nat} {w u1 u2 : V}, Pth H1 w path u1 → Pth H1 w path u2 → u1 = u2 := by
        intro path
        induction path with
        | nil => intro w u1 u2 a b; cases a; cases b; rfl
        | cons k ks ih =>
          intro w u1 u2 a b
          cases a with
          | cons a1 a2 =>
            cases b with
            | cons b1 b2 =>
              obtain ⟨c1, vs1, z1, z2, z3⟩ := a1
              obtain ⟨c2, vs2, y1, y2, y3⟩ := b1
              rw [z1] at y1
              cases y1
              have : vs1 = vs2 := by rcases z2 with z2 | z2 <;> rcases y2 with y2 | y2 <;> (rw [z2] at y2; cases y2; try rfl)
              subst this
              rw [z3] at y3
              cases y3
              exact ih a2 b2
      have := same g1 h1'
      cases this
      rfl
    subst el
    refine ⟨l', us', u, rfl, rfl, g3, by rw [paired_len g4]; exact hlen, ?_⟩
    exact hk (put x0 (ys ++ [z])) S1 _ σ D o (g6 (us' ++ [u]) (ys ++ [z]) (paired_app g4 (.cons r1.1 .nil)) (by rw [List.length_append]; exact hlen)) e' (g.mono X1.st)
  · cases e3
/-- one's own thing under another name; the first name is gone -/
theorem env_move {S H : Hp} {σ : L2.St} {O' : Orp α} {y : α} {i j : Nat} {v : V} (E : EnvOk S0 H0 S H G σ) (hij : i ≠ j) (hi : i < G.length) (hG : G[j]? = some (.ow O' y)) (ev : σ[j]? = some (some v)) :
    EnvOk S0 H0 S H ((G.set i (.ow O' y)).set j .any) (σ.set i (some v)) := by
  obtain ⟨fp, ok, F⟩ := E.ex
  obtain ⟨o1, e1, v', e2, r⟩ := ok j _ hG
  rw [e1] at ev
  cases ev
  cases e2
  have hj : j < G.length := (List.getElem?_eq_some_iff.mp hG).1
  have hl := E.len
  refine ⟨E.base, by simp [hl], fun k => if k = i then fp j else if k = j then [] else fp k, fun k s es => ?_, ⟨fun k p hp => ?_, fun k => ?_, fun k l p h1 h2 => ?_⟩⟩
  · rcases set_get es with ⟨rfl, rfl, _⟩ | ⟨ne, es⟩
    · refine ⟨some v, by rw [List.getElem?_set_ne hij]; exact e1, ?_⟩
      show (if j = i then fp j else if j = j then [] else fp j) = []
      rw [if_neg (fun z => hij z.symm), if_pos rfl]
    · rcases set_get es with ⟨rfl, rfl, _⟩ | ⟨ne2, es⟩
      · refine ⟨some v, by rw [List.getElem?_set_self (by omega)], v, rfl, ?_⟩
        simp only [if_true]
        exact r
      · obtain ⟨o, f1, f2⟩ := ok k s es
        refine ⟨o, by rw [List.getElem?_set_ne ne2]; exact f1, ?_⟩
        simp only [if_neg (fun z => ne2 z.symm : ¬ k = i), if_neg (fun z => ne z.symm : ¬ k = j)]
        exact f2
  · replace hp : p ∈ (if k = i then fp j else if k = j then [] else fp k) := hp
    rw [List.length_set, List.length_set]
    by_cases c1 : k = i
    · rw [if_pos c1] at hp
      obtain ⟨a, b, c, d⟩ := F.at_ j p hp
      exact ⟨a, b, c, by omega⟩
    · rw [if_neg c1] at hp
      by_cases c2 : k = j
      · rw [if_pos c2] at hp; cases hp
      · rw [if_neg c2] at hp; exact F.at_ k p hp
  · show (if k = i then fp j else if k = j then [] else fp k).Nodup
    split
    · exact F.nd j
    · split
      · exact .nil
      · exact F.nd k
  · replace h1 : p ∈ (if k = i then fp j else if k = j then [] else fp k) := h1
    replace h2 : p ∈ (if l = i then fp j else if l = j then [] else fp l) := h2
    have src : ∀ m, p ∈ (if m = i then fp j else if m = j then [] else fp m) → (m = i ∧ p ∈ fp j) ∨ (m ≠ i ∧ m ≠ j ∧ p ∈ fp m) := fun m h => by
      by_cases c1 : m = i
      · rw [if_pos c1] at h; exact .inl ⟨c1, h⟩
      · rw [if_neg c1] at h
        by_cases c2 : m = j
        · rw [if_pos c2] at h; cases h
        · rw [if_neg c2] at h; exact .inr ⟨c1, c2, h⟩
    rcases src k h1 with ⟨a1, a2⟩ | ⟨a1, a2, a3⟩ <;> rcases src l h2 with ⟨b1, b2⟩ | ⟨b1, b2, b3⟩
    · rw [a1, b1]
    · exact absurd (F.sep l j p b3 a2) b2
    · exact absurd (F.sep k j p a3 b2) a2
    · exact F.sep k l p a3 b3
/-- x = y, and y is not asked for any more -/
theorem Run.mvN {O' : Orp α} {y : α} {m : Option (Out ν μ ρ)} {x z : Str} (i j : Nat) (hN : X.N.Nodup) (hk : Run X S0 H0 ((G.set i (.ow O' y)).set j .any) ss Γ Λ O m)
    (hG : G[j]? = some (.ow O' y) := by rfl) (hij : (i == j) = false := by rfl) (hlt : decide (i < G.length) = true := by rfl) (hi : X.N[i]? = some x := by rfl) (hx : Loc X.env.scope x := by first | exact .inl rfl | exact .inr rfl)
    (hj : X.N[j]? = some z := by rfl) (hv : Vis X.env.scope z := by first | exact Or.inl rfl | exact Or.inr (Or.inl rfl) | exact Or.inr (Or.inr rfl))
    (hd : (z == ("__debug__" : Str)) = false := by decide) (hcd : (z == ("__classdict__" : Str)) = false := by decide)
    (hs : swapsWith (.Name z p2) (some (.Name x pos')) pos.line X.env = pure false := by rfl) (hf : X.fn x = true ∨ X.env.scope.names.lookup x = some .local := by first | exact .inl rfl | exact .inr rfl | assumption) :
    Run X S0 H0 G (.Assign [.Name x pos'] (.Name z p2) pos :: ss) Γ Λ O m := .mk fun S H σ D o E e' g => by
  obtain ⟨o1, ps, f1, ⟨v, f2, r⟩, nd, fr⟩ := E.get hG
  subst f2
  refine wS_of (pss_cons (ps_set (i := i) hN hi hx (pe_var hj hv hd hcd) hs hf) (wS_ok ss)) ⟨v, f1, ?_⟩
  exact hk S H _ D o (env_move E (by simpa using hij) (of_decide_eq_true hlt) hG f1) e' g
end
end Gc

namespace Gc
open PySem PySem.Spec PyProof.Rows L2
variable [Tn]
/-! ## 34. what the first heap tells besides: no hooks, no limit of figures -/
structure Bs (h : Heap) : Prop where
  seer : h.NoSeer
  dig : ∃ mc, h.Ns cStatics mc ∧ mc "sys.int_max_str_digits" = none
theorem Bs.keeps {h h' : Heap} (B : Bs h) (hk : ∀ b o, h.get? b = some o → h'.get? b = some o) : Bs h' :=
  ⟨B.seer.keeps hk, B.dig.elim fun mc q => ⟨mc, q.1.keepsP hk, q.2⟩⟩
section
variable {h : Heap} {T : Hp} {a : Addr} {vs : List Value}
/-- a namespace is not hidden with a list -/
theorem hid_ns (ha : h.get? a = some { cls := .type "list", data := .seq vs.toArray }) (hA : ∀ b, T b ≠ none → b = a) {b : Addr} {m : Str → Option Value} (q : h.Ns b m) : (hidT h T).Ns b m := by
  obtain ⟨o, es, ep, e, d, r⟩ := q
  refine ⟨o, es, ep, hidT_get e ?_, d, r⟩
  cases t : T b with
  | none => rfl
  | some u =>
    have eb := hA b (by rw [t]; simp)
    rw [eb, ha] at e
    cases e
    exact nomatch (show Data.seq vs.toArray _ = Data.dict es ep from d)
theorem hid_bs (ha : h.get? a = some { cls := .type "list", data := .seq vs.toArray }) (hA : ∀ b, T b ≠ none → b = a) (B : Bs h) : Bs (hidT h T) := by
  have N := @hid_ns _ h T a vs ha hA
  obtain ⟨⟨⟨c1, c2, c3⟩, ⟨m1, m2, m3⟩, ⟨i1, i2, i3⟩, ⟨g, bm, ob, g1, g2, g3, g4, g5⟩⟩, ⟨d1, d2, d3⟩⟩ := B
  refine ⟨⟨⟨c1, N c2, c3⟩, ⟨m1, N m2, m3⟩, ⟨i1, N i2, i3⟩, ⟨g, bm, ob, N g1, g2, hidT_get g3 ?_, g4, g5⟩⟩, ⟨d1, N d2, d3⟩⟩
  cases t : T bm with
  | none => rfl
  | some u =>
    have eb := hA bm (by rw [t]; simp)
    rw [eb, ha] at g3
    cases g3
    exact nomatch (show (Value.type "list") = .type "module" from g4)
end
/-- the law is called: its promise may lean on what the first heap tells -/
theorem law_callS {P : Program} {w : World} {K : PySem.W.Frag} {mg mb : Str → Option Value} {k : Nat} {fa a : Addr} {fd : FuncData} {x : Str} {sp : Sp} {s1 : Shared} {vs : List Value} {ns : List Int}
    (kin : K.In s1.heap) (gns : s1.heap.Ns mainGlobals mg) (bns : s1.heap.Ns builtinsNs mb) (bbs : ∀ z : Str, z ≠ "__name__" → mb z = bootBuiltins z) (lim : s1.heap.NoLimit) (gen0 : s1.gens = #[])
    (obj : s1.heap.get? a = some { cls := .type "list", data := .seq vs.toArray }) (its : IntsAre vs ns) (len : ns.length ≤ sizeLine) (room : Room k callerA) (B : Bs s1.heap)
    (F : ∀ base : Heap, K.In base → base.Ns mainGlobals mg → Bs base → FnOk P w K mg base CX0 k fa fd [x] sp) (bind : ∀ (s : Shared) (u : Value), BindsTo s fd ⟨[u], []⟩ [(x, u)])
    (keep : ∀ T : Hp, Only T → SqL K T a (ns.map V.int) → sp [.ref a] T (fun v _ => v = .bl true) NoE) :
    codeAny (model P w) callerA (.call (.ref fa) ⟨[.ref a], []⟩) (fun r s2 => r = .ok (.ret (.bool true)) ∧ OldK s1.heap s2.heap ∧ s2.os = s1.os ∧ AllBare s2.gens) s1 := by
  have pv := vals_ints its
  have go : ∀ T : Hp, Only T → SqL K T a (ns.map V.int) → HOk P w T s1.heap → (∀ b, T b ≠ none → b = a) → (T a ≠ none → K.lookup a = none) →
      codeAny (model P w) callerA (.call (.ref fa) ⟨[.ref a], []⟩) (fun r s2 => r = .ok (.ret (.bool true)) ∧ OldK s1.heap s2.heap ∧ s2.os = s1.os ∧ AllBare s2.gens) s1 := fun T only seq hok one kno => by
    have N := @hid_ns _ s1.heap T a vs obj one
    have kin2 : K.In (hidT s1.heap T) := fun b o e => by
      refine hidT_get (kin b o e) ?_
      cases t : T b with
      | none => rfl
      | some u =>
        have eb := one b (by rw [t]; simp)
        rw [eb] at t e
        rw [kno (by rw [t]; simp)] at e
        cases e
    have M : Mod K mg (hidT s1.heap T) := ⟨kin2, N gns, ⟨mb, N bns, bbs⟩, lim.elim fun mc q => ⟨mc, N q.1, q.2⟩⟩
    have env : Env0 P w K mg (hidT s1.heap T) callerA [] s1 T :=
      { frames := rfl, mod := M, bs := fun b o e => of_hidT e, bsz := Nat.le_of_eq (hidT_size ..), funs := trivial, frf := (fun b m => nomatch m), hok := hok, bare := .of_eq gen0 }
    have R := (F _ kin2 (N gns) (hid_bs obj one B)).run callerA [] s1 T ⟨[.ref a], []⟩ [.ref a] [.ref a] _ NoE room env (bind s1 (.ref a)) (.cons rfl .nil) (keep T only seq)
    refine codeAny_mono R fun r s2 q => ?_
    match r, q with
    | .error e, q => exact q.elim
    | .ok .next, q => exact q.elim
    | .ok .brk, q => exact q.elim
    | .ok .cont, q => exact q.elim
    | .ok (.ret u), q =>
      obtain ⟨v, T2, os, bare, un, hok2, rel, ev⟩ := q
      rw [show v = .bl true from ev] at rel
      rw [show u = Value.bool true from rel]
      refine ⟨rfl, OldK.of_keep fun b o e => ?_, os, bare⟩
      rcases only b with t | ⟨ob, xs, t⟩
      · exact un.keep b o e t (fun m => nomatch (show b ∈ ([] : List Addr) from m)) (fun m => nomatch (show b ∈ ([] : List Addr) from m))
      · have f1 := (hok b _ t).1
        have f2 := (hok2 b _ (un.frzs b ob _ t)).1
        rw [e] at f1
        cases f1
        exact f2
  cases lk : K.lookup a with
  | some o =>
    have e := kin a o lk
    rw [obj] at e
    cases e
    exact go (fun _ => none) (fun _ => .inl rfl) (.inr ⟨_, vs.toArray, _, lk, rfl, rfl, rfl, by rw [List.size_toArray, its.length]; exact len, by simpa using pv⟩) (fun b u z => nomatch (show (none : Option HO) = some u from z)) (fun b z => absurd rfl z) fun z => absurd rfl z
  | none =>
    have at_ : ∀ b, b ≠ a → (if b = a then some (HO.frz { cls := .type "list", data := .seq vs.toArray } (.lst (ns.map V.int))) else none) = none := fun b ne => if_neg ne
    refine go (fun b => if b = a then some (HO.frz { cls := .type "list", data := .seq vs.toArray } (.lst (ns.map V.int))) else none) (fun b => ?_) (.inl (.inr ⟨{ cls := .type "list", data := .seq vs.toArray }, if_pos rfl⟩)) (fun b u z => ?_) (fun b z => ?_) fun _ => lk
    · rcases Classical.em (b = a) with eb | nb
      · exact .inr ⟨_, _, if_pos eb⟩
      · exact .inl (at_ b nb)
    · rcases Classical.em (b = a) with eb | nb
      · cases (if_pos eb).symm.trans z
        rw [eb]
        exact ⟨obj, by rw [List.length_map]; exact len, vs, _, pv, obj⟩
      · cases (at_ b nb).symm.trans z
    · exact Classical.byContradiction fun nb => z (at_ b nb)
theorem walk_ofS {l : PySem.W.OpenLaw} {n k : Nat} {q : Program} {loose : List Str} {XP : (Str → Option Value) → Heap → Prop} {YP : World → Heap → Prop} {d : DefRec} {K : Params → PySem.W.Frag} {sp : World → Sp} {x : Str}
    (most : l.most = some n) (line : n ≤ sizeLine) (dfl : d.params.defaults = []) (room : Room k callerA) (imp : importsNone q = true)
    (kin : ∀ (w : World) (h : Heap), YP w h → (K w.params).In h)
    (F : ∀ (w : World) (mg : Str → Option Value) (fa : Addr) (h : Heap), (K w.params).In h → h.Ns mainGlobals mg → mg d.name = some (.ref fa) →
      ∃ fd : FuncData, (∀ (s : Shared) (u : Value), BindsTo s fd ⟨[u], []⟩ [(x, u)]) ∧
        ∀ base : Heap, (K w.params).In base → base.Ns mainGlobals mg → Bs base → FnOk l.prog w (K w.params) mg base CX0 k fa fd [x] (sp w))
    (keep : ∀ (w : World) (T : Hp) (a : Addr) (ns : List Int), ns.length ≤ n → Only T → SqL (K w.params) T a (ns.map V.int) → sp w [.ref a] T (fun v _ => v = .bl true) NoE) :
    PySem.W.WalkO q loose XP YP l.row.toRowW d [] (fun f vs => PySem.call f vs) :=
  Att.attach_call most dfl fun w s0 s1 mg mb fa o pm cd doc a vs ns G Y ho hd hcd name obj its len gen0 => by
    obtain ⟨fd, bind, F2⟩ := F w mg fa _ (kin w _ Y) G.T.g name
    exact law_callS (kin w _ Y) G.T.g G.T.b G.T.builtins G.T.nolimit gen0 obj its (Nat.le_trans len line) room ⟨G.T.seer imp, G.T.nodigits⟩ F2 bind fun T hO hS => keep w T a ns len hO hS
/-! ### the long division -/
/-- the frame that runs is a def's -/
def Frm (l : List Env) : Prop := ∃ e t, l = e :: t ∧ e.scope.isGenerator = false ∧ e.scope.isCoroutine = false ∧ e.builtins = builtinsNs ∧ e.globals = mainGlobals
section
variable {X : Cx} {S0 H0 : Hp} {G : Cxt} {a b e : Expr} {pos : Pos}
structure Far (X : Cx) : Prop where
  bs : Bs X.base
  tree : X.prog.given.tree = none
  room : Room 40 X.A
theorem far_room (I : Far X) (fr : Frm X.stack) {pins : List (Addr × Obj)} {σ : L2.St} {H : Hp} {s : Shared} (J : Inv X pins σ H s) : PylongRoom (model X.prog X.w) X.A s := by
  obtain ⟨en, t, e1, e2, e3, e4, e5⟩ := fr
  have dp := I.room.dp
  exact PylongRoom.of (J.mod.nolimit.keeps J.bk) (by show X.A.depth + 100 < _; omega) (SeerAt.of (I.bs.seer.keeps J.bk) I.tree (J.ok.frames.trans (by rw [e1])) e2 e3 e4 e5)
theorem op_fdivL (I : Far X) (fr : Frm X.stack) : OpR X (binaryOp .FloorDiv) (rI (fun _ j => j ≠ 0) fun i j => .int (i.fdiv j)) := by
  intro pins s σ H x y v u Q J rx ry h
  obtain ⟨i, j, rfl, rfl, hc, q⟩ := h
  obtain ⟨t, rfl⟩ := rx
  obtain ⟨t', rfl⟩ := ry
  exact PyProof.Rows.floordiv_int hc ⟨.int (i.fdiv j), H, J.tok _, ⟨_, rfl⟩, q⟩ (.inr (far_room I fr J))
def fdivLO (x y : Int) : Option Int := if y ≠ 0 then some (x.fdiv y) else none
theorem fdivLO_eq {x y : Int} (h : 0 < y) : fdivLO x y = some (x / y) := by
  unfold fdivLO; rw [if_pos (by omega), Int.fdiv_eq_ediv_of_nonneg x (by omega)]
theorem EvB.fdivFP {x y : Int} (I : Far X) (ha : EvB X S0 H0 G a rInt (some x)) (hb : EvB X S0 H0 G b rInt (some y)) (fr : Frm X.stack := by exact ⟨_, _, rfl, rfl, rfl, rfl, rfl⟩) : EvB X S0 H0 G (.BinOp a .FloorDiv b pos) rInt (fdivLO x y) :=
  (EvB.opI fdivLO (op_fdivL I fr) (fun i j k h => by
    unfold fdivLO at h
    split at h
    · next c => exact ⟨c, (Option.some.inj h).symm⟩
    · cases h) ha hb).to fun z h => h
end
end Gc

namespace Gc
open PySem PySem.Spec PySem.Calls PySem.NumText PyProof.Rows L2
/-! ## 35. texts -/
theorem wp_long {M : Model} {A : Around} {E : Value → Shared → Prop} {z : Shared} {Q : Value → Shared → Prop} {v : Value} {cs : List Nat} {n : Int} (nd : z.heap.NoDigits)
    (long : ¬ (cs.takeWhile (· != 0)).length ≤ 640) (val : (int_private% "readNumeral") 4300 10 (cs.takeWhile (· != 0)) = (int_private% "Numeral.value") n)
    (whole : ((cs.takeWhile (· != 0)).length == cs.length) = true) (k : Q (.int n z.toks) { z with toks := z.toks + 1 }) : wpAny M A ((int_private% "intFromText") v cs 10) Q E z := by
  obtain ⟨mc, h1, h2⟩ := nd
  have lim : ∀ (Q2 : Nat → Shared → Prop), Q2 4300 z → wpAny M A Builtin.intMaxStrDigits Q2 E z := fun Q2 q => by
    unfold Builtin.intMaxStrDigits
    refine wpAny_bind (wpAny_nsGet h1 ?_)
    rw [h2]
    exact wpAny_pure q
  repeat (any_goals (first
    | assumption
    | (with_reducible refine wpAny_ite_false (decide_eq_false long) ?_)
    | (with_reducible refine lim _ ?_)
    | (with_reducible refine wpAny_ite_true (decide_eq_true whole) ?_)
    | wp_step))
  rw [val]
  dsimp only
  repeat (any_goals (first
    | exact k
    | (with_reducible refine wpAny_ite_true (decide_eq_true whole) ?_)
    | wp_step))
structure Hd (p : Prop) : Prop where
  out : p
/-- int(text), of more than 640 signs too -/
theorem meets_long {x : Str} {u : Tok} {n : Int} (long : ¬ (numSeenOf x).length ≤ 640) (hn : PySem.intText? x = some n) (hx : x.length ≤ sizeLine) :
    Meets (Builtin.«int.__new__» ⟨[.type "int", .str x u], []⟩) (fun _ R z => z.heap.NoDigits ∧ R (.ok (.ret (.int n z.toks))) { z with toks := z.toks + 1 }) := fun prog w A R z hq => by
  have key : ∀ (M : Model) (A : Around) (E : Value → Shared → Prop) (z : Shared) (Q : Value → Shared → Prop), z.heap.NoDigits → Q (.int n z.toks) { z with toks := z.toks + 1 } →
      wpAny M A (Builtin.«int.__new__» ⟨[.type "int", .str x u], []⟩) (fun fin z2 => ∃ v, fin = .done (.ret v) ∧ Q v z2) E z := fun M A E z Q nd k => by
    have g1 := F.conv_sub_int
    have g2 := F.madeHere_int
    have g3 := PySem.W.KIN.str_int
    have g4 := PySem.W.KIN.str_idx
    have g5 := PySem.W.KIN.str_trunc
    have g6 : typeOf (.str x u) = pure (.type "str") := rfl
    have hr : (int_private% "readNumeral") 4300 10 (numSeenOf x) = (int_private% "Numeral.value") n ∧ ((numSeenOf x).length == (numTextOf x).length) = true := by
      rcases read4300 x hx with ⟨m, q1, q2, q3⟩ | ⟨q1, _⟩
      · rw [hn] at q1
        cases q1
        exact ⟨q3, q2⟩
      · rw [hn] at q1
        cases q1
    have hk := Hd.mk (And.intro long hr)
    have nd := Hd.mk nd
    clear hr hn hx long
    repeat (any_goals (first
      | assumption
      | ((with_reducible show wpAny _ _ ((int_private% "intFromText") _ _ _) _ _ _); refine wp_long nd.out hk.out.1 hk.out.2.1 hk.out.2.2 ?_)
      | wp_step))
    all_goals first | exact ⟨_, rfl, k⟩ | skip
  exact wpAny_mono (key _ A.in1 _ z (fun v z2 => R (.ok (.ret v)) z2) hq.1 hq.2) (fun fin z2 h => by obtain ⟨v, rfl, hv⟩ := h; exact hv) fun _ _ e => e
end Gc

namespace Gc
open PySem PySem.Spec PyProof.Rows L2
variable [Tn]
/-! ## 36. texts: figures, places, signs -/
/-- one sign -/
def rCh : Rp Nat := ⟨fun _ v c => v = .str ⟨#[c]⟩ ∧ c < 1114112, fun _ h => h⟩
def chS (c : Nat) : Str := ⟨#[c]⟩
theorem strOk_iff {x : Str} : PyData.strOk x = true ↔ ∀ c ∈ x.cps.toList, c < 1114112 := by
  unfold PyData.strOk
  rw [← Array.all_toList, List.all_eq_true]
  exact ⟨fun h c hc => of_decide_eq_true (h c hc), fun h c hc => decide_eq_true (h c hc)⟩
theorem strOk_ofString (s : String) : PyData.strOk (Str.ofString s) = true := by
  rw [strOk_iff]
  show ∀ c ∈ TL.tl (Str.ofString s), c < 1114112
  rw [TL.tl_ofString s]
  intro c hc
  obtain ⟨d, _, rfl⟩ := List.mem_map.mp hc
  have := d.valid
  unfold Char.toNat
  rcases this with h | ⟨_, h⟩ <;> omega
theorem strOk_chS {c : Nat} (h : c < 1114112) : PyData.strOk (chS c) = true := by
  rw [strOk_iff]
  intro d hd
  rw [show d = c by simpa [chS] using hd]; exact h
theorem strOk_cut {x : Str} (lo hi : Option Int) (h : PyData.strOk x = true) : PyData.strOk (cutS x lo hi) = true := by
  rw [strOk_iff] at *
  intro c hc
  exact h c (List.mem_of_mem_drop (List.mem_of_mem_take (by simpa [cutS] using hc)))
theorem strOk_cat {x y : Str} (h : PyData.strOk x = true) (k : PyData.strOk y = true) : PyData.strOk (x ++ y) = true := by
  rw [strOk_iff] at *
  intro c hc
  rw [show (x ++ y).cps.toList = x.cps.toList ++ y.cps.toList from TL.tl_append x y] at hc
  rcases List.mem_append.mp hc with q | q
  · exact h c q
  · exact k c q
def strO (i : Int) : Option Str := if i.natAbs < 10 ^ 4300 then some (Str.ofString (toString i)) else none
def numSgn (x : Str) : Prop := ∀ c ∈ x.cps.toList, c = 45 ∨ (48 ≤ c ∧ c ≤ 57)
instance (x : Str) : Decidable (numSgn x) := inferInstanceAs (Decidable (∀ c ∈ x.cps.toList, c = 45 ∨ (48 ≤ c ∧ c ≤ 57)))
def intSO (x : Str) : Option Int := if x.length ≤ sizeLine ∧ numSgn x then PySem.intText? x else none
def lenSO (x : Str) : Option Int := if x.length ≤ sizeLine then some (x.length : Int) else none
def cutSO (x : Str) (lo hi : Option Int) : Option Str := if x.length ≤ sizeLine then some (cutS x lo hi) else none
def atSO (x : Str) (i : Int) : Option Nat := if x.length ≤ sizeLine then atI x.cps.toList i else none
def catSO (x y : Str) : Option Str := if x.length + y.length ≤ sizeLine then some (x ++ y) else none
def sgnO (x : Str) : Option (List Nat) := if x.length ≤ sizeLine then some x.cps.toList else none
section
variable {X : Cx} {S0 H0 : Hp} {G : Cxt} {a b e tg : Expr} {pos pos' p p2 : Pos}
theorem nd_of {X : Cx} (I : Far X) {pins : List (Addr × Obj)} {σ : L2.St} {H : Hp} {s : Shared} (J : Inv X pins σ H s) : s.heap.NoDigits := (I.bs.keeps J.bk).dig
theorem call_strL (I : Far X) : CallR X (.type "str") (fun xs H Q => ∃ i, xs = [.int i] ∧ i.natAbs < 10 ^ 4300 ∧ Q (.str (toString i)) H) := by
  intro pins s σ H xs us Q J r h
  obtain ⟨i, rfl, hz, q⟩ := h
  obtain ⟨u, rfl, t, rfl⟩ := vals1 r
  exact PyProof.Rows.str_of_int_or I.room.hd (nd_of I J) (fun _ => ⟨.str _, H, J.tok _, ⟨_, rfl⟩, q⟩) fun g => absurd hz (Nat.not_lt.mpr g)
theorem call_intL (I : Far X) : CallR X (.type "int") (fun xs H Q => ∃ a n, xs = [.str a] ∧ PySem.intText? a = some n ∧ a.length ≤ sizeLine ∧ numSgn a ∧ Q (.int n) H) := by
  intro pins s σ H xs us Q J r h
  obtain ⟨x, n, rfl, hn, hl, hs, q⟩ := h
  obtain ⟨u, rfl, t, rfl⟩ := vals1 r
  by_cases c : x.length ≤ 640
  · exact PySem.W.KIN.call_text hn c ⟨.int n, H, J.tok _, ⟨_, rfl⟩, q⟩
  · refine call_int_1 (meets_long (fun c2 => c ?_) hn hl) ⟨nd_of I J, typeIs_int _ _ _, ⟨.int n, H, J.tok _, ⟨_, rfl⟩, q⟩⟩
    obtain ⟨e1, e2⟩ := PySem.numText_signs hs
    rw [e2] at c2
    exact Nat.le_trans (Nat.le_of_eq Array.length_toList.symm) c2
/-! figures of a number -/
theorem EvB.strP {i : Int} (I : Far X) (hm : X.mg "str" = none) (ha : EvB X S0 H0 G a rInt (some i)) (hg : Gl X "str" := by rfl) (he : starEach [a] X.env = (false, eval a X.env) :: starEach [] X.env := by rfl) :
    EvB X S0 H0 G (.Call (.Name "str" p) [a] [] pos) rStr (strO i) := .mk fun S H σ Q z E hm' k => by
  unfold strO at hm'
  split at hm'
  · next hz =>
    cases hm'
    exact wE_of (pe_callTy (call_strL I) hg hm boot_strT (pa_cons (wE_ok a) pa_nil he) (by decide) (by decide) he) (ha S H σ _ i E rfl fun v S1 H1 X1 r1 => ⟨i, congrArg (· :: []) r1, hz, k _ S1 H1 X1 ⟨rfl, strOk_ofString _⟩⟩)
  · cases hm'
theorem EvB.intSP {x : Str} (I : Far X) (hm : X.mg "int" = none) (ha : EvB X S0 H0 G a rStr (some x)) (hg : Gl X "int" := by rfl) (he : starEach [a] X.env = (false, eval a X.env) :: starEach [] X.env := by rfl) :
    EvB X S0 H0 G (.Call (.Name "int" p) [a] [] pos) rInt (intSO x) := .mk fun S H σ Q z E hm' k => by
  unfold intSO at hm'
  split at hm'
  · next hz => exact wE_of (pe_callTy (call_intL I) hg hm boot_intT (pa_cons (wE_ok a) pa_nil he) (by decide) (by decide) he) (ha S H σ _ x E rfl fun v S1 H1 X1 r1 => ⟨x, z, congrArg (· :: []) r1.1, hm', hz.1, hz.2, k _ S1 H1 X1 rfl⟩)
  · cases hm'
theorem EvB.lenSP {x : Str} (hm : X.mg "len" = none) (ha : EvB X S0 H0 G a rStr (some x)) (hg : Gl X "len" := by rfl) (he : starEach [a] X.env = (false, eval a X.env) :: starEach [] X.env := by rfl) :
    EvB X S0 H0 G (.Call (.Name "len" p) [a] [] pos) rInt (lenSO x) := .mk fun S H σ Q z E hm' k => by
  unfold lenSO at hm'
  split at hm'
  · next hz =>
    cases hm'
    exact wE_of (pe_callB call_len_str hg hm boot_lenG (pa_cons (wE_ok a) pa_nil he) (by decide) (by decide) he) (ha S H σ _ x E rfl fun v S1 H1 X1 r1 => ⟨x, congrArg (· :: []) r1.1, hz, k _ S1 H1 X1 rfl⟩)
  · cases hm'
theorem EvB.slSP {x : Str} {lo hi : Option Expr} {l u : Option Int} (ha : EvB X S0 H0 G a rStr (some x)) (hl : PoOk X S0 H0 G lo l) (hu : PoOk X S0 H0 G hi u) : EvB X S0 H0 G (.Subscript a (.Slice lo hi none p2) pos) rStr (cutSO x l u) := .mk fun S H σ Q z E hm k => by
  unfold cutSO at hm
  split at hm
  · next hz =>
    cases hm
    obtain ⟨tl, pl, kl⟩ := hl.po
    obtain ⟨tu, pu, ku⟩ := hu.po
    refine wE_of (pe_slice sl_str (wE_ok a) pl pu) (ha S H σ _ x E rfl fun v S1 H1 X1 r1 => kl S1 H1 σ _ (E.mono X1) fun S2 H2 X2 => ku S2 H2 σ _ (E.mono (X1.trans X2)) fun S3 H3 X3 => ?_)
    exact ⟨x, r1.1, hz, k _ S3 H3 ((X1.trans X2).trans X3) ⟨rfl, strOk_cut _ _ r1.2⟩⟩
  · cases hm
theorem EvB.ixSP {x : Str} {i : Int} (ha : EvB X S0 H0 G a rStr (some x)) (hb : EvB X S0 H0 G b rInt (some i)) (hs : PlainIx b := by exact fun _ _ => rfl) : EvB X S0 H0 G (.Subscript a b pos) rCh (atSO x i) :=
  (EvB.two (F := fun x i => atSO x i) ha hb (pe_ix ix_str (wE_ok a) (wE_ok b) hs) fun S H Q v w x i z sb r1 r2 hz k => by
    unfold atSO at hz
    split at hz
    · next hl => exact ⟨x, i, z, r1.1, r2, hl, hz, k _ S H (Ext.refl sb) ⟨rfl, strOk_iff.mp r1.2 z (by
        obtain ⟨j, _, e⟩ := bind_some_iff hz
        exact List.mem_of_getElem? e)⟩⟩
    · cases hz).to fun z h => h
theorem EvB.catSP {x y : Str} (ha : EvB X S0 H0 G a rStr (some x)) (hb : EvB X S0 H0 G b rStr (some y)) : EvB X S0 H0 G (.BinOp a .Add b pos) rStr (catSO x y) :=
  (EvB.two (F := fun x y => catSO x y) ha hb (pe_op op_add_str (wE_ok a) (wE_ok b)) fun S H Q v w x y z sb r1 r2 hz k => by
    unfold catSO at hz
    split at hz
    · next hl => cases hz; exact ⟨x, y, r1.1, r2.1, hl, k _ S H (Ext.refl sb) ⟨rfl, strOk_cat r1.2 r2.2⟩⟩
    · cases hz).to fun z h => h
theorem EvB.chP {c : Nat} (h : EvB X S0 H0 G a rCh (some c)) : EvB X S0 H0 G a rStr (some (chS c)) := .mk fun S H σ Q z E hm k => by
  cases hm
  exact h S H σ Q c E rfl fun v S1 H1 X1 r => k v S1 H1 X1 ⟨r.1, strOk_chS r.2⟩
theorem Cm.inCP {c : Nat} {x : Str} {i : Decidable (c ∈ x.cps.toList)} (ha : EvB X S0 H0 G a rCh (some c)) (hb : EvB X S0 H0 G b rStr (some x)) (hm : behindInMarks .In b = false := by with_unfolding_all rfl) : Cm X S0 H0 G (.Compare a [.In] [b] pos) (decide (c ∈ x.cps.toList)) :=
  Cm.two ha hb op_in_sign hm fun S H Q v w sb r1 r2 k => ⟨c, x, r1.1, r2.1, (fun (j : Decidable (c ∈ x.cps.toList)) => (show Q (V.bl (@decide _ j)) H from Subsingleton.elim i j ▸ k)) _⟩
theorem Cm.notinCP {c : Nat} {x : Str} {i : Decidable (c ∈ x.cps.toList)} (ha : EvB X S0 H0 G a rCh (some c)) (hb : EvB X S0 H0 G b rStr (some x)) (hm : behindInMarks .NotIn b = false := by with_unfolding_all rfl) : Cm X S0 H0 G (.Compare a [.NotIn] [b] pos) (!decide (c ∈ x.cps.toList)) :=
  Cm.two ha hb op_notIn_sign hm fun S H Q v w sb r1 r2 k => ⟨c, x, r1.1, r2.1, (fun (j : Decidable (c ∈ x.cps.toList)) => (show Q (V.bl (!@decide _ j)) H from Subsingleton.elim i j ▸ k)) _⟩
theorem its_ok {K : PySem.W.Frag} {B S1 : Hp} {x : Str} (hl : x.length ≤ sizeLine) (hx : PyData.strOk x = true) : ItOk K B (Its x) S1 (fun c => .one (.val rCh c)) x.cps.toList where
  len := by rw [Array.length_toList]; exact hl
  go := fun S' H' h1 h2 h3 i c e => by
    have hlt : i < x.cps.size := by
      have := (List.getElem?_eq_some_iff.mp e).1
      rwa [Array.length_toList] at this
    refine ⟨hlt, fun v H'' y => ?_⟩
    obtain ⟨rfl, d, e2, rfl⟩ := y
    have : d = c := by
      rw [← Array.getElem?_toList, e] at e2
      exact (Option.some.inj e2).symm
    subst this
    exact ⟨S', Ext.refl h2, ⟨rfl, strOk_iff.mp hx d (List.mem_of_getElem? e)⟩⟩
  stop := fun S' H' h1 h2 h3 i e => by
    rw [Array.length_toList] at e
    exact e
theorem ItS.sgnP {x : Str} (h : EvB X S0 H0 G e rStr (some x)) : ItS X S0 H0 G tg e (fun c => .one (.val rCh c)) (sgnO x) := .mk fun S H σ Rk ys E hm k => by
  unfold sgnO at hm
  split at hm
  · next hl =>
    cases hm
    exact wI_of (pi_str (wE_ok e)) (h S H σ _ x E rfl fun v S1 H1 X1 r1 => ⟨x, r1.1, k _ S1 H1 X1 (its_ok hl r1.2)⟩)
  · cases hm
theorem ItC.sgnP {x : Str} (h : EvB X S0 H0 G e rStr (some x)) : ItC X S0 H0 G tg e (fun c => .one (.val rCh c)) (sgnO x) := .mk fun S H σ Rk ys E hm k => by
  unfold sgnO at hm
  split at hm
  · next hl =>
    cases hm
    exact wI_of (pi_str (wE_ok e)) (h S H σ _ x E rfl fun v S1 H1 X1 r1 => ⟨x, r1.1, k _ S1 H1 X1 (its_ok hl r1.2)⟩)
  · cases hm
instance : Flat rCh := ⟨fun h => h⟩
/-- a name of the module that stands for a text -/
theorem EvB.globSP {x y : Str} {t : Tok} (hm : X.mg x = some (.str y t)) (hok : PyData.strOk y = true := by decide +kernel) (hg : Gl X x := by rfl) (hd : (x == ("__debug__" : Str)) = false := by decide) : EvB X S0 H0 G (.Name x pos) rStr (some y) := .mk fun S H σ Q z E e1 k => by
  cases e1
  exact wE_of (pe_glob (v := .str y) hg hm ⟨t, rfl⟩ hd) (k _ S H (Ext.refl E.base.sb) ⟨rfl, hok⟩)
end
end Gc

namespace Gc
open PySem PySem.Spec PyProof.Rows L2
variable [Tn]
/-! ## 37. things of any shape: data -/
mutual
inductive PyR (S : Hp) : V → PyData → Prop
  | int {i : Int} : PyR S (.int i) (.int i)
  | bl {b : Bool} : PyR S (.bl b) (.bool b)
  | non : PyR S .non .none
  | str {x : Str} : PyData.strOk x = true → PyR S (.str x) (.str x)
  | tup {a : Addr} {vs : List V} {ds : List PyData} : S a = some (.tup vs) → PyRs S vs ds → PyR S (.ref a) (.tuple ds)
  | lst {a : Addr} {vs : List V} {ds : List PyData} : S a = some (.lst vs) → PyRs S vs ds → ds.length ≤ sizeLine → PyR S (.ref a) (.list ds)
inductive PyRs (S : Hp) : List V → List PyData → Prop
  | nil : PyRs S [] []
  | cons {v : V} {d : PyData} {vs : List V} {ds : List PyData} : PyR S v d → PyRs S vs ds → PyRs S (v :: vs) (d :: ds)
end
mutual
theorem PyR.mono {S S' : Hp} (h : Keep S S') : ∀ {v : V} {d : PyData}, PyR S v d → PyR S' v d
  | _, _, .int => .int
  | _, _, .bl => .bl
  | _, _, .non => .non
  | _, _, .str k => .str k
  | _, _, .tup e r => .tup (h.go e) (PyRs.mono h r)
  | _, _, .lst e r l => .lst (h.go e) (PyRs.mono h r) l
theorem PyRs.mono {S S' : Hp} (h : Keep S S') : ∀ {vs : List V} {ds : List PyData}, PyRs S vs ds → PyRs S' vs ds
  | _, _, .nil => .nil
  | _, _, .cons r t => .cons (PyR.mono h r) (PyRs.mono h t)
end
mutual
theorem PyR.dp {K : PySem.W.Frag} {S : Hp} : ∀ {v : V} {d : PyData}, PyR S v d → Dp K S v d
  | _, _, .int => .int _
  | _, _, .bl => .bl _
  | _, _, .non => .non
  | _, _, .str k => .str _
  | _, _, .tup e r => .tup (.inl (.inl e)) (PyRs.dp r)
  | _, _, .lst e r l => .lst (.inl (.inl e)) (PyRs.dp r)
theorem PyRs.dp {K : PySem.W.Frag} {S : Hp} : ∀ {vs : List V} {ds : List PyData}, PyRs S vs ds → DpAll K S vs ds
  | _, _, .nil => .nil
  | _, _, .cons r t => .cons (PyR.dp r) (PyRs.dp t)
end
mutual
theorem PyR.lay {S : Hp} : ∀ {v : V} {d : PyData}, PyR S v d → d.canLay0 = true
  | _, _, .int => rfl
  | _, _, .bl => rfl
  | _, _, .non => rfl
  | _, _, .str k => k
  | _, _, .tup e r => by rw [PyData.canLay0]; exact PyRs.lay r
  | _, _, .lst e r l => by rw [PyData.canLay0]; exact PyRs.lay r
theorem PyRs.lay {S : Hp} : ∀ {vs : List V} {ds : List PyData}, PyRs S vs ds → PyData.canLayAll0 ds = true
  | _, _, .nil => rfl
  | _, _, .cons r t => by rw [PyData.canLayAll0, PyR.lay r, PyRs.lay t]; rfl
end
theorem PyRs.paired {S : Hp} : ∀ {vs : List V} {ds : List PyData}, PyRs S vs ds → Paired (PyR S) vs ds
  | _, _, .nil => .nil
  | _, _, .cons r t => .cons r (PyRs.paired t)
theorem PyRs.of {S : Hp} : ∀ {vs : List V} {ds : List PyData}, Paired (PyR S) vs ds → PyRs S vs ds
  | _, _, .nil => .nil
  | _, _, .cons r t => .cons r (PyRs.of t)
theorem depthAll_le {n : Nat} : ∀ {ds : List PyData}, PyData.depthAll ds ≤ n ↔ ∀ d ∈ ds, d.depth ≤ n
  | [] => by simp [PyData.depthAll]
  | d :: ds => by
    rw [PyData.depthAll, Nat.max_le, depthAll_le (ds := ds)]
    simp
def rPy : Rp PyData := ⟨fun S v d => PyR S v d ∧ d.depth ≤ 20, fun h ⟨r, q⟩ => ⟨r.mono h, q⟩⟩
theorem up_py {S : Hp} : ∀ {vs : List V} {ds : List PyData}, PyRs S vs ds → PyData.depthAll ds ≤ 20 → Paired (rPy.r S) vs ds
  | _, _, .nil, _ => .nil
  | _, _, .cons r t, h => by
    rw [PyData.depthAll] at h
    exact .cons ⟨r, by omega⟩ (up_py t (by omega))
/-! out of data -/
def unI : PyData → Option Int
  | .int i => some i
  | _ => none
def unB : PyData → Option Bool
  | .bool b => some b
  | _ => none
def unS : PyData → Option Str
  | .str x => some x
  | _ => none
def unL {α : Type} (f : PyData → Option α) : PyData → Option (List α)
  | .list ds => mapO f ds
  | _ => none
def unT {α : Type} (g : List PyData → Option α) : PyData → Option α
  | .tuple ds => g ds
  | _ => none
def unOne {α : Type} (f : PyData → Option α) : List PyData → Option α
  | [d] => f d
  | _ => none
def unCons {α β : Type} (f : PyData → Option α) (g : List PyData → Option β) : List PyData → Option (α × β)
  | d :: ds => (f d).bind fun x => (g ds).bind fun y => some (x, y)
  | [] => none
def unO {α : Type} (f : PyData → Option α) : PyData → Option (Option α)
  | .none => some none
  | d => (f d).map some
def unY : PyData → Option PyData := some
def partsY : PyData → Option (List PyData)
  | .list ds => some ds
  | .tuple ds => some ds
  | _ => none
def itemY (d : PyData) (i : Int) : Option PyData := (partsY d).bind fun ds => atI ds i
def lenY (d : PyData) : Option Int := (partsY d).map fun ds => (ds.length : Int)
def isNoneY : PyData → Bool
  | .none => true
  | _ => false
structure UnY {α : Type} (R : Rp α) (un : PyData → Option α) : Prop where
  to : ∀ {S : Hp} {v : V} {d : PyData} {x : α}, rPy.r S v d → un d = some x → R.r S v x
structure UnYs {α : Type} (R : Rps α) (un : List PyData → Option α) : Prop where
  to : ∀ {S : Hp} {vs : List V} {ds : List PyData} {x : α}, PyRs S vs ds → PyData.depthAll ds ≤ 20 → un ds = some x → R.r S vs x
theorem UnY.int : UnY rInt unI := ⟨fun {S v d x} ⟨r, _⟩ h => by cases r <;> cases h; rfl⟩
theorem UnY.bool : UnY rBool unB := ⟨fun {S v d x} ⟨r, _⟩ h => by cases r <;> cases h; rfl⟩
theorem UnY.str : UnY rStr unS := ⟨fun {S v d x} ⟨r, _⟩ h => by
  cases r with
  | str k => cases h; exact ⟨rfl, k⟩
  | _ => cases h⟩
theorem UnY.py : UnY rPy unY := ⟨fun {S v d x} r h => by cases h; exact r⟩
theorem mapO_len {α β : Type} {f : α → Option β} : ∀ {xs : List α} {ys : List β}, mapO f xs = some ys → ys.length = xs.length
  | [], ys, h => by cases h; rfl
  | x :: xs, ys, h => by
    obtain ⟨y, e1, h⟩ := bind_some_iff (show (f x).bind (fun y => (mapO f xs).bind fun ys => some (y :: ys)) = some ys from h)
    obtain ⟨zs, e2, h⟩ := bind_some_iff h
    cases h
    simp [mapO_len e2]
theorem UnY.lst {α : Type} {R : Rp α} {f : PyData → Option α} (u : UnY R f) : UnY (rL R) (unL f) := ⟨fun {S v d xs} ⟨r, q⟩ h => by
  cases r with
  | @lst a vs ds e t l =>
    have q : PyData.depthAll ds + 1 ≤ 20 := q
    have key : ∀ {vs : List V} {ds : List PyData}, Paired (rPy.r S) vs ds → ∀ {xs : List α}, mapO f ds = some xs → Paired (R.r S) vs xs := by
      intro vs ds t
      induction t with
      | nil => intro xs h; cases h; exact .nil
      | cons r t ih =>
        intro xs h
        obtain ⟨y, e1, h⟩ := bind_some_iff (show (f _).bind (fun y => (mapO f _).bind fun ys => some (y :: ys)) = some xs from h)
        obtain ⟨zs, e2, h⟩ := bind_some_iff h
        cases h
        exact .cons (u.to r e1) (ih e2)
    exact ⟨a, vs, rfl, e, key (up_py t (by omega)) h, by rw [mapO_len (show mapO f ds = some xs from h)]; exact l⟩
  | _ => cases h⟩
theorem UnY.tup {α : Type} {Rs : Rps α} {g : List PyData → Option α} (u : UnYs Rs g) : UnY (rT Rs) (unT g) := ⟨fun {S v d x} ⟨r, q⟩ h => by
  cases r with
  | @tup a vs ds e t =>
    have q : PyData.depthAll ds + 1 ≤ 20 := q
    exact ⟨a, vs, rfl, e, u.to t (by omega) h⟩
  | _ => cases h⟩
theorem UnYs.one {α : Type} {R : Rp α} {f : PyData → Option α} (u : UnY R f) : UnYs (rsOne R) (unOne f) := ⟨fun {S vs ds x} r q h => by
  cases r with
  | nil => cases h
  | cons r t =>
    cases t with
    | nil => exact ⟨_, rfl, u.to ⟨r, by rw [PyData.depthAll] at q; omega⟩ h⟩
    | cons _ _ => cases h⟩
theorem UnYs.cons {α β : Type} {R : Rp α} {Rs : Rps β} {f : PyData → Option α} {g : List PyData → Option β} (u : UnY R f) (us : UnYs Rs g) : UnYs (rsCons R Rs) (unCons f g) := ⟨fun {S vs ds x} r q h => by
  cases r with
  | nil => cases h
  | cons r t =>
    obtain ⟨y, e1, h⟩ := bind_some_iff (show (f _).bind (fun x => (g _).bind fun y => some (x, y)) = some x from h)
    obtain ⟨z, e2, h⟩ := bind_some_iff h
    cases h
    rw [PyData.depthAll] at q
    exact ⟨_, _, rfl, u.to ⟨r, by omega⟩ e1, us.to t (by omega) e2⟩⟩
theorem UnY.opt {α : Type} {R : Rp α} {f : PyData → Option α} (u : UnY R f) (h0 : f .none = none) : UnY (rOpt R) (unO f) := ⟨fun {S v d x} r h => by
  have ne : d ≠ .none → unO f d = (f d).map some := fun n => by cases d <;> first | exact absurd rfl n | rfl
  by_cases n : d = .none
  · subst n
    cases h
    obtain ⟨r, _⟩ := r
    cases r
    rfl
  · rw [ne n] at h
    cases e : f d with
    | none => rw [e] at h; cases h
    | some y =>
      rw [e] at h
      cases h
      refine ⟨u.to r e, fun z => ?_⟩
      obtain ⟨r, _⟩ := r
      subst z
      cases r
      exact n rfl⟩
/-! into data -/
structure InY {α : Type} (R : Rp α) (f : α → PyData) (n : Nat) : Prop where
  to : ∀ {S : Hp} {v : V} {x : α}, R.r S v x → PyR S v (f x) ∧ (f x).depth ≤ n
structure InYs {α : Type} (R : Rps α) (f : α → List PyData) (n : Nat) : Prop where
  to : ∀ {S : Hp} {vs : List V} {x : α}, R.r S vs x → PyRs S vs (f x) ∧ PyData.depthAll (f x) ≤ n
theorem InY.int : InY rInt PyData.int 0 := ⟨fun {S v x} h => by cases (show v = .int x from h); exact ⟨.int, Nat.le_refl 0⟩⟩
theorem InY.bool : InY rBool PyData.bool 0 := ⟨fun {S v x} h => by cases (show v = .bl x from h); exact ⟨.bl, Nat.le_refl 0⟩⟩
theorem InY.str : InY rStr PyData.str 0 := ⟨fun {S v x} h => by rw [h.1]; exact ⟨.str h.2, Nat.le_refl 0⟩⟩
def noneY : Unit → PyData := fun _ => .none
theorem InY.unit : InY rUnit noneY 0 := ⟨fun {S v x} h => by cases (show v = .non from h); exact ⟨.non, Nat.le_refl 0⟩⟩
theorem InY.py : InY rPy (fun d => d) 20 := ⟨fun h => h⟩
theorem InY.lst {α : Type} {R : Rp α} {f : α → PyData} {n : Nat} (i : InY R f n) : InY (rL R) (pyL f) (n + 1) := ⟨fun {S v xs} ⟨a, vs, e, q, p, l⟩ => by
  subst e
  have key : ∀ {vs : List V} {xs : List α}, Paired (R.r S) vs xs → PyRs S vs (xs.map f) ∧ PyData.depthAll (xs.map f) ≤ n := by
    intro vs xs p
    induction p with
    | nil => exact ⟨.nil, Nat.zero_le _⟩
    | cons r t ih =>
      obtain ⟨h1, h2⟩ := i.to r
      exact ⟨.cons h1 ih.1, by rw [List.map_cons, PyData.depthAll]; exact Nat.max_le.mpr ⟨h2, ih.2⟩⟩
  obtain ⟨h1, h2⟩ := key p
  exact ⟨.lst q h1 (by rw [List.length_map]; exact l), by show PyData.depthAll (xs.map f) + 1 ≤ n + 1; omega⟩⟩
theorem InY.tup {α : Type} {Rs : Rps α} {f : α → List PyData} {n : Nat} (i : InYs Rs f n) : InY (rT Rs) (pyT f) (n + 1) := ⟨fun {S v x} ⟨a, vs, e, q, r⟩ => by
  subst e
  obtain ⟨h1, h2⟩ := i.to r
  exact ⟨.tup q h1, by show PyData.depthAll (f x) + 1 ≤ n + 1; omega⟩⟩
theorem InYs.one {α : Type} {R : Rp α} {f : α → PyData} {n : Nat} (i : InY R f n) : InYs (rsOne R) (pyOne f) n := ⟨fun {S vs x} ⟨v, e, r⟩ => by
  subst e
  obtain ⟨h1, h2⟩ := i.to r
  exact ⟨.cons h1 .nil, by simp [pyOne, PyData.depthAll]; exact h2⟩⟩
theorem InYs.cons {α β : Type} {R : Rp α} {Rs : Rps β} {f : α → PyData} {g : β → List PyData} {n m : Nat} (i : InY R f n) (j : InYs Rs g m) : InYs (rsCons R Rs) (pyCons f g) (max n m) := ⟨fun {S vs x} ⟨v, ws, e, r, t⟩ => by
  subst e
  obtain ⟨h1, h2⟩ := i.to r
  obtain ⟨h3, h4⟩ := j.to t
  exact ⟨.cons h1 h3, by show max (f x.1).depth (PyData.depthAll (g x.2)) ≤ max n m; omega⟩⟩
theorem InY.opt {α : Type} {R : Rp α} {f : α → PyData} {n : Nat} (i : InY R f n) : InY (rOpt R) (optTo f) n := ⟨fun {S v x} h => by
  cases x with
  | none => cases (show v = .non from h); exact ⟨.non, Nat.zero_le _⟩
  | some y => exact i.to h.1⟩
def orY {α β : Type} (f : α → PyData) (g : β → PyData) : α ⊕ β → PyData
  | .inl a => f a
  | .inr b => g b
theorem InY.or {α β : Type} {R : Rp α} {R' : Rp β} {f : α → PyData} {g : β → PyData} {n m : Nat} (i : InY R f n) (j : InY R' g m) : InY (rOr R R') (orY f g) (max n m) := ⟨fun {S v x} h => by
  cases x with
  | inl a => obtain ⟨h1, h2⟩ := i.to h; exact ⟨h1, by show (f a).depth ≤ _; omega⟩
  | inr b => obtain ⟨h1, h2⟩ := j.to h; exact ⟨h1, by show (g b).depth ≤ _; omega⟩⟩
theorem InY.imp {α : Type} {R : Rp α} {f : α → PyData} {n : Nat} (i : InY R f n) (h : n ≤ 20) : Imp R rPy f := ⟨fun r => let ⟨h1, h2⟩ := i.to r; ⟨h1, Nat.le_trans h2 h⟩⟩
/-! .. of no depth known -/
structure InR {α : Type} (R : Rp α) (f : α → PyData) : Prop where
  to : ∀ {S : Hp} {v : V} {x : α}, R.r S v x → PyR S v (f x)
structure InRs {α : Type} (R : Rps α) (f : α → List PyData) : Prop where
  to : ∀ {S : Hp} {vs : List V} {x : α}, R.r S vs x → PyRs S vs (f x)
theorem InR.of {α : Type} {R : Rp α} {f : α → PyData} {n : Nat} (i : InY R f n) : InR R f := ⟨fun h => (i.to h).1⟩
theorem InR.py : InR rPy (fun d => d) := ⟨fun h => h.1⟩
theorem InR.lst {α : Type} {R : Rp α} {f : α → PyData} (i : InR R f) : InR (rL R) (pyL f) := ⟨fun {S v xs} ⟨a, vs, e, q, p, l⟩ => by
  subst e
  have key : ∀ {vs : List V} {xs : List α}, Paired (R.r S) vs xs → PyRs S vs (xs.map f) := by
    intro vs xs p
    induction p with
    | nil => exact .nil
    | cons r t ih => exact .cons (i.to r) ih
  exact .lst q (key p) (by rw [List.length_map]; exact l)⟩
theorem InR.tup {α : Type} {Rs : Rps α} {f : α → List PyData} (i : InRs Rs f) : InR (rT Rs) (pyT f) := ⟨fun {S v x} ⟨a, vs, e, q, r⟩ => by
  subst e
  exact .tup q (i.to r)⟩
theorem InRs.one {α : Type} {R : Rp α} {f : α → PyData} (i : InR R f) : InRs (rsOne R) (pyOne f) := ⟨fun {S vs x} ⟨v, e, r⟩ => by
  subst e
  exact .cons (i.to r) .nil⟩
theorem InRs.cons {α β : Type} {R : Rp α} {Rs : Rps β} {f : α → PyData} {g : β → List PyData} (i : InR R f) (j : InRs Rs g) : InRs (rsCons R Rs) (pyCons f g) := ⟨fun {S vs x} ⟨v, ws, e, r, t⟩ => by
  subst e
  exact .cons (i.to r) (j.to t)⟩
theorem InR.opt {α : Type} {R : Rp α} {f : α → PyData} (i : InR R f) : InR (rOpt R) (optTo f) := ⟨fun {S v x} h => by
  cases x with
  | none => cases (show v = .non from h); exact .non
  | some y => exact i.to h.1⟩
def dpO (d : PyData) : Option PyData := if d.depth ≤ 20 then some d else none
section
variable {X : Cx} {S0 H0 : Hp} {G : Cxt} {α : Type} {a b e : Expr} {pos pos' p p1 : Pos}
theorem EvB.inYD {R : Rp α} {f : α → PyData} {x : α} (i : InR R f) (h : EvB X S0 H0 G e R (some x)) : EvB X S0 H0 G e rPy (dpO (f x)) := .mk fun S H σ Q z E hm k => by
  unfold dpO at hm
  split at hm
  · next hd => cases hm; exact h S H σ Q x E rfl fun v S' H' X' r => k v S' H' X' ⟨i.to r, hd⟩
  · cases hm
theorem EvV.inYD {R : Rp α} {f : α → PyData} {x : α} (i : InR R f) (h : EvV X S0 H0 G e R (some x)) : EvV X S0 H0 G e rPy (dpO (f x)) := .mk fun S H σ Q z E hm k => by
  unfold dpO at hm
  split at hm
  · next hd => cases hm; exact h S H σ Q x E rfl fun v S' H' ps X' r fr => k v S' H' ps X' ⟨⟨i.to r.1, hd⟩, r.2⟩ fr
  · cases hm
theorem EvB.inY {R : Rp α} {f : α → PyData} {x : α} {n : Nat} (i : InY R f n) (h : EvB X S0 H0 G e R (some x)) (hn : n ≤ 20 := by decide) : EvB X S0 H0 G e rPy (some (f x)) := EvB.imp (i.imp hn) h
theorem EvV.inY {R : Rp α} {f : α → PyData} {x : α} {n : Nat} (i : InY R f n) (h : EvV X S0 H0 G e R (some x)) (hn : n ≤ 20 := by decide) : EvV X S0 H0 G e rPy (some (f x)) := EvV.imp (i.imp hn) h
theorem EvB.unY {R : Rp α} {un : PyData → Option α} {d : PyData} (u : UnY R un) (h : EvB X S0 H0 G e rPy (some d)) : EvB X S0 H0 G e R (un d) := .mk fun S H σ Q z E hm k =>
  h S H σ Q d E rfl fun v S' H' X' r => k v S' H' X' (u.to r hm)
theorem EvV.unY {R : Rp α} {un : PyData → Option α} {d : PyData} (u : UnY R un) (h : EvV X S0 H0 G e rPy (some d)) : EvV X S0 H0 G e R (un d) := .mk fun S H σ Q z E hm k =>
  h S H σ Q d E rfl fun v S' H' ps X' r f => k v S' H' ps X' ⟨u.to r.1 hm, r.2⟩ f
/-- the parts of a list or of a tuple -/
theorem partsY_r {S : Hp} {v : V} {d : PyData} {ds : List PyData} (h : rPy.r S v d) (e : partsY d = some ds) : ∃ a vs, v = .ref a ∧ (S a = some (.lst vs) ∨ S a = some (.tup vs)) ∧ Paired (rPy.r S) vs ds := by
  obtain ⟨r, q⟩ := h
  cases r with
  | @lst a vs ds2 e1 t l =>
    cases e
    have q : PyData.depthAll ds + 1 ≤ 20 := q
    exact ⟨a, vs, rfl, .inl e1, up_py t (by omega)⟩
  | @tup a vs ds2 e1 t =>
    cases e
    have q : PyData.depthAll ds + 1 ≤ 20 := q
    exact ⟨a, vs, rfl, .inr e1, up_py t (by omega)⟩
  | _ => cases e
theorem EvB.ixY {d : PyData} {i : Int} (ha : EvB X S0 H0 G a rPy (some d)) (hb : EvB X S0 H0 G b rInt (some i)) (hs : PlainIx b := by exact fun _ _ => rfl) : EvB X S0 H0 G (.Subscript a b pos) rPy (itemY d i) :=
  (EvB.two (F := fun d i => itemY d i) ha hb (pe_ix ix_seq (wE_ok a) (wE_ok b) hs) fun S H Q v w x i z sb r1 r2 hz k => by
    obtain ⟨ds, e1, hz⟩ := bind_some_iff hz
    obtain ⟨t, vs, rfl, q, pr⟩ := partsY_r r1 e1
    obtain ⟨u, hu, ru⟩ := atI_paired pr hz
    rcases q with q | q
    · exact .inl ⟨t, vs, i, u, rfl, r2, .inl (.inl q), hu, k u S H (Ext.refl sb) ru⟩
    · exact .inr (.inl ⟨t, vs, i, u, rfl, r2, .inl (.inl q), hu, k u S H (Ext.refl sb) ru⟩)).to fun z h => h
theorem EvV.ixY {d : PyData} {i : Int} (ha : EvV X S0 H0 G a rPy (some d)) (hb : EvB X S0 H0 G b rInt (some i)) (hs : PlainIx b := by exact fun _ _ => rfl) : EvV X S0 H0 G (.Subscript a b pos) rPy (itemY d i) := .mk fun S H σ Q z E hm k => by
  obtain ⟨ds, e1, hz⟩ := bind_some_iff hm
  refine wE_of (pe_ix ix_seq (wE_ok a) (wE_ok b) hs) (ha S H σ _ d E rfl fun v S1 H1 ps X1 r1 f1 => hb S1 H1 σ _ i (E.mono X1) rfl fun w S2 H2 X2 r2 => ?_)
  obtain ⟨t, vs, rfl, q, pr⟩ := partsY_r (rPy.mono X2.st.k r1.1) e1
  obtain ⟨u, hu, ru⟩ := atI_paired pr hz
  have kk : ∀ u, rPy.r S2 u z → Q u H2 := fun u ru => k u S2 H2 [] (X1.trans X2) ⟨ru, rfl⟩ Fresh.nil
  rcases q with q | q
  · exact .inl ⟨t, vs, i, u, rfl, r2, .inl (.inl (X2.sb _ _ q)), hu, kk u ru⟩
  · exact .inr (.inl ⟨t, vs, i, u, rfl, r2, .inl (.inl (X2.sb _ _ q)), hu, kk u ru⟩)
theorem EvB.lenYP {d : PyData} (hm : X.mg "len" = none) (ha : EvB X S0 H0 G a rPy (some d)) (hg : Gl X "len" := by rfl) (he : starEach [a] X.env = (false, eval a X.env) :: starEach [] X.env := by rfl) :
    EvB X S0 H0 G (.Call (.Name "len" p) [a] [] pos) rInt (lenY d) := .mk fun S H σ Q z E hm' k => by
  obtain ⟨ds, e1, hz⟩ : ∃ ds, partsY d = some ds ∧ z = (ds.length : Int) := by
    unfold lenY at hm'
    cases e : partsY d with
    | none => rw [e] at hm'; cases hm'
    | some ds => rw [e] at hm'; cases hm'; exact ⟨ds, rfl, rfl⟩
  subst hz
  refine wE_of (pe_callB call_len_seq hg hm boot_lenG (pa_cons (wE_ok a) pa_nil he) (by decide) (by decide) he) (ha S H σ _ d E rfl fun v S1 H1 X1 r1 => ?_)
  obtain ⟨t, vs, rfl, q, pr⟩ := partsY_r r1 e1
  rcases q with q | q
  · exact ⟨t, vs, rfl, .inl (.inl (.inl q)), by rw [paired_len pr]; exact k _ S1 H1 X1 rfl⟩
  · exact ⟨t, vs, rfl, .inr (.inl (.inl q)), by rw [paired_len pr]; exact k _ S1 H1 X1 rfl⟩
theorem Cm.eqYP {x y : PyData} (hr : X.A.units + 64 < cLine) (ha : EvB X S0 H0 G a rPy (some x)) (hb : EvB X S0 H0 G b rPy (some y)) : Cm X S0 H0 G (.Compare a [.Eq] [b] pos) (PyData.eqv x y) :=
  Cm.two ha hb (op_eqD hr) (nomark _) fun S H Q v w sb r1 r2 k => by
    refine ⟨_, _, r1.1.dp, r2.1.dp, ?_, ?_, k⟩
    · rw [SeqAt.shaped, r1.1.lay, Bool.true_and, decide_eq_true_eq]; exact Nat.le_trans r1.2 (by decide)
    · rw [SeqAt.shaped, r2.1.lay, Bool.true_and, decide_eq_true_eq]; exact Nat.le_trans r2.2 (by decide)
theorem Cm.neYP {x y : PyData} (hr : X.A.units + 64 < cLine) (ha : EvB X S0 H0 G a rPy (some x)) (hb : EvB X S0 H0 G b rPy (some y)) : Cm X S0 H0 G (.Compare a [.NotEq] [b] pos) (!PyData.eqv x y) :=
  Cm.two ha hb (op_neD hr) (nomark _) fun S H Q v w sb r1 r2 k => by
    refine ⟨_, _, r1.1.dp, r2.1.dp, ?_, ?_, k⟩
    · rw [SeqAt.shaped, r1.1.lay, Bool.true_and, decide_eq_true_eq]; exact Nat.le_trans r1.2 (by decide)
    · rw [SeqAt.shaped, r2.1.lay, Bool.true_and, decide_eq_true_eq]; exact Nat.le_trans r2.2 (by decide)
theorem Cm.isNoY {d : PyData} {j} (ha : EvB X S0 H0 G a rPy (some d)) : Cm X S0 H0 G (.Compare a [.Is] [.Constant .none j pos'] pos) (isNoneY d) :=
  Cm.two ha (EvB.nonQ (R := rUnit)) op_isN (nomark _) fun S H Q v w sb r1 r2 k => by
    refine ⟨r2, ?_⟩
    obtain ⟨r, _⟩ := r1
    cases r <;> exact k
theorem Cm.notNoY {d : PyData} {j} (ha : EvB X S0 H0 G a rPy (some d)) : Cm X S0 H0 G (.Compare a [.IsNot] [.Constant .none j pos'] pos) (!isNoneY d) :=
  Cm.two ha (EvB.nonQ (R := rUnit)) op_notN (nomark _) fun S H Q v w sb r1 r2 k => by
    refine ⟨r2, ?_⟩
    obtain ⟨r, _⟩ := r1
    cases r <;> exact k
def tyY : PyData → String
  | .int _ => "int"
  | .bool _ => "bool"
  | .str _ => "str"
  | .none => "NoneType"
  | .list _ => "list"
  | .tuple _ => "tuple"
  | .dict _ => "dict"
def isiY (U : String) (d : PyData) : Bool := (kitB (tyY d) U).getD false
theorem tyx_py {K : PySem.W.Frag} {H : Hp} {v : V} {d : PyData} (h : rPy.r H v d) : TyX K H v (.type (tyY d)) := by
  obtain ⟨r, _⟩ := h
  cases r with
  | int => exact .base (.int _)
  | bl => exact .base (.bl _)
  | non => exact .base .non
  | str k => exact .base (.str _)
  | tup e t => exact .base (.tup e)
  | lst e t l => exact .base (.lst e)
theorem EvB.isiYP {d : PyData} (n : Str) (U : String) {p1 : Pos} (hm : X.mg "isinstance" = none) (hmT : X.mg n = none) (hv : bootBuiltins n = some (.type U)) (ha : EvB X S0 H0 G a rPy (some d)) (hk : ∀ d, (kitB (tyY d) U).isSome = true := by intro d; cases d <;> rfl) (hg : Gl X "isinstance" := by rfl) (hgT : Gl X n := by rfl)
    (he : starEach [a, .Name n p1] X.env = (false, eval a X.env) :: starEach [.Name n p1] X.env := by rfl) (he2 : starEach [.Name n p1] X.env = (false, eval (.Name n p1) X.env) :: starEach [] X.env := by rfl) (hpl : (backTo pos (starEach [.Name n p1] X.env)).any (·.1) = false := by rfl)
    (hn : n ≠ "__name__" := by decide) (hd : (n == ("__debug__" : Str)) = false := by decide) :
    EvB X S0 H0 G (.Call (.Name "isinstance" p) [a, .Name n p1] [] pos) rBool (some (isiY U d)) := .mk fun S H σ Q z E hm' k => by
  cases hm'
  have hk := hk d
  unfold isiY at k
  cases e : kitB (tyY d) U with
  | none => rw [e] at hk; cases hk
  | some r =>
    rw [e] at k
    refine wE_of (pe_callB call_isi hg hm boot_isi (pa_cons (wE_ok a) (pa_cons (pe_bltn (v := .ty U) (u := .type U) hgT hmT hv rfl hn hd) pa_nil he2) he) (by decide) (by decide) he hpl) (ha S H σ _ d E rfl fun v S1 H1 X1 r1 => ?_)
    exact ⟨v, .ty U, .type (tyY d), .type U, r, rfl, .ty U, tyx_py r1, kit_ty e, k _ S1 H1 X1 rfl⟩
end
end Gc

namespace Gc
open PySem PySem.Spec PyProof.Rows L2
variable [Tn]
/-! ## 38. three names at once -/
section
variable {X : Cx} {S0 H0 : Hp} {G : Cxt} {α β γ ν μ ρ : Type} {a b e : Expr} {pos p pos' : Pos} {ss : List Stmt} {Γ : ν → Cxt} {Λ : μ → Cxt} {O : Orp ρ}
/-- a, b, c = e, a tuple of things that stay -/
theorem Run.tup3P {R1 : Rp α} {R2 : Rp β} {R3 : Rp γ} {z : α × β × γ} {m : Option (Out ν μ ρ)} {es : List Expr} {x1} (i j n : Nat) (he : EvV X S0 H0 G e (rT (rsCons R1 (rsCons R2 (rsOne R3)))) (some z))
    (hg : PG X (.Tuple es x1 pos') (gTup X.K 3 (gCons (gName i) (gCons (gName j) (gCons (gName n) gNil))))) (hk : Run X S0 H0 (((G.set i (.val R1 z.1)).set j (.val R2 z.2.1)).set n (.val R3 z.2.2)) ss Γ Λ O m)
    (hs : swapsWithSole [.Tuple es x1 pos'] e pos.line X.env = pure false := by rfl) (hw : swappedStores [.Tuple es x1 pos'] e X.env = pure none := by rfl)
    (h1 : (assignEach [.Tuple es x1 pos'] X.env).map (·.2) = [assign (.Tuple es x1 pos') X.env] := by rfl) : Run X S0 H0 G (.Assign [.Tuple es x1 pos'] e pos :: ss) Γ Λ O m := .mk fun S H σ D o E e' g => by
  refine wS_of (pss_cons (ps_asg (wE_ok e) hg hs hw h1) (wS_ok ss)) (he S H σ _ z E rfl fun v S1 H1 ps X1 r1 f1 => ?_)
  obtain ⟨t, vs, rfl, q, v1, w1, rfl, q1, v2, w2, rfl, q2, v3, rfl, q3⟩ := r1.1
  refine ⟨t, _, rfl, .inl (.inl (X1.sb _ _ q)), rfl, v1, _, rfl, v2, _, rfl, v3, _, rfl, rfl, ?_⟩
  exact hk S1 H1 _ D o (((((E.setV i X1 q1).setV j (Ext.refl X1.sb) q2)).setV n (Ext.refl X1.sb) q3)) e' (g.mono X1.st)
/-- the first part of a tuple raises -/
theorem EvX.tupF {D : Addr} {c : Option Unit} {es : List Expr} {x1} (h : EvX X S0 H0 G a D c) (hs : starEach (a :: es) X.env = (false, eval a X.env) :: starEach es X.env := by rfl) : EvX X S0 H0 G (.Tuple (a :: es) x1 pos) D c := .mk fun S H σ W Q E tk hc hw =>
  wE_of (pe_tup (pa_cons (wE_ok a) (wA_ok es) hs)) (h S H σ W _ E tk hc hw)
/-- a, b = e, where e raises -/
theorem RB.asgT {D : Addr} {c : Option Unit} {es : List Expr} {x1} {k : Nat} {gs} (h : EvX X S0 H0 G e D c) (hg : PG X (.Tuple es x1 pos') (gTup X.K k gs))
    (hs : swapsWithSole [.Tuple es x1 pos'] e pos.line X.env = pure false := by rfl) (hw : swappedStores [.Tuple es x1 pos'] e X.env = pure none := by rfl)
    (h1 : (assignEach [.Tuple es x1 pos'] X.env).map (·.2) = [assign (.Tuple es x1 pos') X.env] := by rfl) : RB X S0 H0 G (.Assign [.Tuple es x1 pos'] e pos :: ss) D c := .mk fun S H σ W Dn E tk hc hw' =>
  wS_of (pss_cons (ps_asg (wE_ok e) hg hs hw h1) (wS_ok ss)) (h S H σ W _ E tk hc hw')
end
end Gc

namespace Gc
open PySem PySem.Spec PyProof.Rows L2
variable [Tn]
/-! ## 39. lists and tuples of data, made of data -/
def listY (d : PyData) : Option (List PyData) := (partsY d).bind fun ds => if ds.length ≤ sizeLine then some ds else none
section
variable {X : Cx} {S0 H0 : Hp} {G : Cxt} {α : Type} {a b e : Expr} {pos pos' p p1 : Pos}
/-- tuple(a list of data) -/
theorem EvV.tupY {ds : List PyData} (hm : X.mg "tuple" = none) (ha : EvV X S0 H0 G a (rL rPy) (some ds)) (hg : Gl X "tuple" := by rfl) (he : starEach [a] X.env = (false, eval a X.env) :: starEach [] X.env := by rfl) :
    EvV X S0 H0 G (.Call (.Name "tuple" p) [a] [] pos) rPy (dpO (.tuple ds)) := .mk fun S H σ Q z E hm' k => by
  unfold dpO at hm'
  split at hm'
  · next hd =>
    cases hm'
    refine wE_of (pe_tupleOf hg hm (wE_ok a) he) (ha S H σ _ ds E rfl fun v S1 H1 ps X1 r1 f1 => ?_)
    obtain ⟨t, vs, rfl, q, pr, hl⟩ := r1.1
    refine .inl ⟨t, vs, rfl, .inl (.inl (X1.sb _ _ q)), fun l hn => ?_⟩
    have X2 : Ext S1 H1 (upd S1 l (.tup vs)) (upd H1 l (.tup vs)) := Ext.val X1.sb hn
    refine k (.ref l) _ _ [] (X1.trans X2) ⟨⟨.tup upd_same (PyRs.of (Paired.map_r (fun _ _ h => (rPy.mono X2.st h).1) pr)), hd⟩, rfl⟩ ⟨.nil, fun q hq => absurd hq (by simp)⟩
  · cases hm'
/-- list(data): the parts anew -/
theorem EvO.listY {d : PyData} (hm : X.mg "list" = none) (ha : EvV X S0 H0 G a rPy (some d)) (hg : Gl X "list" := by rfl) (he : starEach [a] X.env = (false, eval a X.env) :: starEach [] X.env := by rfl) :
    EvO X S0 H0 G (.Call (.Name "list" p) [a] [] pos) (oL (oV rPy)) (listY d) := .mk fun S H σ Q z E hm' k => by
  unfold Gc.listY at hm'
  obtain ⟨ds, e1, hm'⟩ := bind_some_iff hm'
  split at hm'
  · next hz =>
    cases hm'
    refine wE_of (pe_callTy call_list_of hg hm boot_listT (pa_cons (wE_ok a) pa_nil he) (by decide) (by decide) he) (ha S H σ _ d E rfl fun v S1 H1 ps X1 r1 f1 => ?_)
    obtain ⟨t, vs, rfl, q, pr⟩ := partsY_r r1.1 e1
    refine ⟨t, vs, rfl, ?_, fun l hn => EvO.newL X1 hn pr hz k⟩
    rcases q with q | q
    · exact .inl (.inl (.inl (X1.sb _ _ q)))
    · exact .inr (.inl (.inl (X1.sb _ _ q)))
  · cases hm'
end
section
variable {X : Cx} {S0 H0 : Hp} {G : Cxt} {α β : Type} {tg elt iter : Expr}
/-- [elt for tg in iter], where elt calls a def that wants the table -/
theorem LcOk.allT {P : Addr} (tb : TbIn P S0 H0) {mk : α → Item} {set : α → Cxt → Cxt} {g : TG} {is : List Nat} {scope : Scope} (own : List (Str × Nat)) {O : Orp β} {f : α → Option β} {m1 : Option (List α)}
    (hi : ItC X S0 H0 G tg iter mk m1) (ok : BlkOk X.N X.env.scope scope own)
    (hg : ∀ (s : Shared) (H : Hp) (C : Addr) (cl : List (Str × Addr)) (fp : List Addr), PG (X.blk s H scope (compEnvC scope cl C X.env) fp) tg g) (tk : TgK X.K g mk set is)
    (he : ∀ x (s : Shared) (H : Hp) (C : Addr) (cl : List (Str × Addr)) (fp : List Addr) (S0' H0' : Hp), TbIn P S0' H0' → EvO (X.blk s H scope (compEnvC scope cl C X.env) fp) S0' H0' (set x (wipeG (G.map lnd) (own.map (·.2)))) elt O (f x))
    (hsub : ∀ i ∈ is, i ∈ own.map (·.2) := by decide) : LcOk X S0 H0 G elt tg iter [] scope O (m1.bind fun xs => mapO f xs) :=
  ⟨own, g, tYes, fun σ H Q => ∀ (s : Shared) (H' : Hp) (C : Addr) (cl : List (Str × Addr)) (fp : List Addr), wE (X.blk s H' scope (compEnvC scope cl C X.env) fp) elt σ H Q, ok, hg,
    fun s H C cl fp => pts_nil, fun s H C cl fp => ⟨fun pins s' σ' H' Q' I h => h s H C cl fp pins s' I⟩, fun S H σ Q ys E hm k => by
    obtain ⟨xs, e1, hm⟩ := bind_some_iff hm
    rw [mapO_filO] at hm
    refine hi S H σ _ xs E e1 fun J S1 H1 X1 iok => fun D hD => ?_
    refine lc_main tk hsub (E.mono X1) iok hD (fun x S' H' σ' Q z E' hz k => by cases hz; exact k S' H' (Ext.refl E'.base.sb)) (fun x S' H' σ' Q z E' hz k s H C cl fp => he x s H C cl fp S1 H1 (tb.ext (E.mono X1).base) S' H' σ' Q z E' hz k) hm fun S' H' ps X2 r f => ?_
    exact k _ S' H' ps (X1.trans X2) r (f.grow X1.hp)⟩
end
theorem itt_ok {K : PySem.W.Frag} {B S1 : Hp} {a : Addr} {vs : List V} {α : Type} {mk : α → Item} {xs : List α} (hlen : xs.length ≤ sizeLine) (hl : vs.length = xs.length) (hq : ∀ S' H', Same S1 S' → Same S' H' → Keep B H' → SqT K H' a vs)
    (hi : ∀ (i : Nat) x v S' H', Same S1 S' → Same S' H' → Keep B H' → xs[i]? = some x → vs[i]? = some v → ItemV K B S' H' v (mk x)) : ItOk K B (Itt K a) S1 mk xs where
  len := hlen
  go := fun S' H' h1 h2 h3 i x e => by
    have hlt : i < vs.length := by rw [hl]; exact (List.getElem?_eq_some_iff.mp e).1
    refine ⟨⟨vs, vs[i], hq S' H' h1 h2 h3, List.getElem?_eq_getElem hlt⟩, fun v H'' y => ?_⟩
    obtain ⟨rfl, f⟩ := y
    exact ⟨S', Ext.refl h2, hi i x v S' H'' h1 h2 h3 e (f _ (hq S' H'' h1 h2 h3))⟩
  stop := fun S' H' h1 h2 h3 i e => ⟨vs, hq S' H' h1 h2 h3, by rw [hl]; exact e⟩
section
variable {X : Cx} {S0 H0 : Hp} {G : Cxt} {tg e : Expr}
theorem pyr_list {S : Hp} {v : V} {ds : List PyData} (r : rPy.r S v (.list ds)) : ∃ a vs, v = .ref a ∧ S a = some (.lst vs) ∧ Paired (rPy.r S) vs ds := by
  obtain ⟨r, hd⟩ := r
  cases r with
  | lst e q l =>
    rw [PyData.depth] at hd
    exact ⟨_, _, rfl, e, up_py q (by omega)⟩
theorem pyr_tup {S : Hp} {v : V} {ds : List PyData} (r : rPy.r S v (.tuple ds)) : ∃ a vs, v = .ref a ∧ S a = some (.tup vs) ∧ Paired (rPy.r S) vs ds := by
  obtain ⟨r, hd⟩ := r
  cases r with
  | tup e q =>
    rw [PyData.depth] at hd
    exact ⟨_, _, rfl, e, up_py q (by omega)⟩
/-- over data, a list or a tuple -/
theorem ItC.pyP {d : PyData} (h : EvV X S0 H0 G e rPy (some d)) : ItC X S0 H0 G tg e (fun x => .one (.val rPy x)) (Gc.listY d) := .mk fun S H σ Rk xs E hm k => by
  unfold Gc.listY at hm
  obtain ⟨ds, e1, hm⟩ := bind_some_iff hm
  split at hm
  · next hz =>
    cases hm
    cases d with
    | list us =>
      cases e1
      refine wI_of (pi_list (wE_ok e)) (h S H σ _ _ E rfl fun v S1 H1 ps X1 r1 f1 => ?_)
      obtain ⟨t, vs, rfl, q, pr⟩ := pyr_list r1.1
      exact ⟨t, rfl, ⟨vs, .inl (.inl (X1.sb _ _ q))⟩, k _ S1 H1 X1 (itl_ok hz (paired_len pr) (fun S' H' h1 h2 _ => .inl (.inl (h2 _ _ (h1 _ _ q)))) fun i x v S' H' h1 _ _ e1 e2 => rPy.mono h1.k (paired_get2 pr e2 e1))⟩
    | tuple us =>
      cases e1
      refine wI_of (pi_tup (wE_ok e)) (h S H σ _ _ E rfl fun v S1 H1 ps X1 r1 f1 => ?_)
      obtain ⟨t, vs, rfl, q, pr⟩ := pyr_tup r1.1
      exact ⟨t, rfl, ⟨vs, .inl (.inl (X1.sb _ _ q))⟩, k _ S1 H1 X1 (itt_ok hz (paired_len pr) (fun S' H' h1 h2 _ => .inl (.inl (h2 _ _ (h1 _ _ q)))) fun i x v S' H' h1 _ _ e1 e2 => rPy.mono h1.k (paired_get2 pr e2 e1))⟩
    | int i => cases e1
    | bool i => cases e1
    | none => cases e1
    | str i => cases e1
    | dict i => cases e1
  · cases hm
end
end Gc

namespace Gc
open PySem PySem.Spec PyProof.Rows L2
variable [Tn]
/-! ## 40. a thing of one shape as a thing of another, part by part -/
theorem Imp.refl {α : Type} {R : Rp α} : Imp R R (fun x => x) := ⟨fun h => h⟩
theorem Imp.noneP {α : Type} {R : Rp α} : Imp rUnit (rOpt R) (fun _ => (none : Option α)) := ⟨fun h => h⟩
theorem Imp.someP {α β : Type} {R : Rp α} {R' : Rp β} [N : NonN R'] {f : α → β} (h : Imp R R' f) : Imp R (rOpt R') (fun x => some (f x)) := ⟨fun r => ⟨h.to r, N.nn (h.to r)⟩⟩
theorem Imp.optP {α β : Type} {R : Rp α} {R' : Rp β} {f : α → β} (h : Imp R R' f) : Imp (rOpt R) (rOpt R') (Option.map f) := ⟨fun {S v x} r => by
  cases x with
  | none => exact r
  | some y => exact ⟨h.to r.1, r.2⟩⟩
theorem Imps.oneP {α β : Type} {R : Rp α} {R' : Rp β} {f : α → β} (h : Imp R R' f) : Imps (rsOne R) (rsOne R') f := ⟨fun ⟨v, e, q⟩ => ⟨v, e, h.to q⟩⟩
theorem Imps.consP {α β γ δ : Type} {R : Rp α} {R' : Rp β} {Rs : Rps γ} {Rs' : Rps δ} {f : α → β} {g : γ → δ} (h : Imp R R' f) (k : Imps Rs Rs' g) : Imps (rsCons R Rs) (rsCons R' Rs') (fun x => (f x.1, g x.2)) := ⟨fun ⟨v, ws, e, q, t⟩ => ⟨v, ws, e, h.to q, k.to t⟩⟩
theorem paired_imp {α β : Type} {R : Rp α} {R' : Rp β} {f : α → β} (h : Imp R R' f) {S : Hp} : ∀ {vs : List V} {xs : List α}, Paired (R.r S) vs xs → Paired (R'.r S) vs (xs.map f)
  | _, _, .nil => .nil
  | _, _, .cons r t => .cons (h.to r) (paired_imp h t)
theorem Imp.lstP {α β : Type} {R : Rp α} {R' : Rp β} {f : α → β} (h : Imp R R' f) : Imp (rL R) (rL R') (List.map f) := ⟨fun ⟨a, vs, e, q, p, l⟩ => ⟨a, vs, e, q, paired_imp h p, by rw [List.length_map]; exact l⟩⟩
end Gc

namespace Gc
open PySem PySem.Spec PyProof.Rows L2
variable [Tn]
/-! ## 41. one's own thing handed over for good, and something told: y = f(e, x, rest) -/
/-- arguments that only what stays tells of -/
class ValA {α : Type} (A : Arp α) : Prop where
  va : ∀ {S H H' : Hp} {vs : List V} {x : α}, A.r S H vs x → A.r S H' vs x
instance : ValA aNil := ⟨fun h => h⟩
instance {α β : Type} {R : Rp α} {A : Arp β} [T : ValA A] : ValA (aV R A) := ⟨fun ⟨v, ws, e, q, t⟩ => ⟨v, ws, e, q, T.va t⟩⟩
/-- an argument of which nothing is told -/
def aAny {β : Type} (A : Arp β) : Arp β :=
  ⟨fun S H vs x => ∃ v ws, vs = v :: ws ∧ A.r S H ws x, fun h ⟨v, ws, e, t⟩ => ⟨v, ws, e, A.mono h t⟩, fun x => .any :: A.sl x, fun ⟨v, ws, e, t⟩ => by subst e; exact ⟨trivial, A.ok t⟩⟩
def spMR {α β γ δ : Type} (R0 : Rp α) (A : Arp γ) (O : Orp β) (O' : Orp δ) (f : α → β → γ → Option δ) : Sp := fun vs H Q _ =>
  ∃ S u v ws z x c y ps, vs = u :: v :: ws ∧ Same S H ∧ R0.r S u z ∧ O.r S H v x ps ∧ Fresh (cutH H ps) S H ps ∧ A.r S (cutH H ps) ws c ∧ f z x c = some y ∧
    ∀ w S' H' qs, Ext S (cutH H ps) S' H' → O'.r S' H' w y qs → Fresh (cutH H ps) S' H' qs → Q w H'
def FnMR (P : Program) (w : World) (K : PySem.W.Frag) (mg : Str → Option Value) (base : Heap) (k : Nat) (name : Str) {α β γ δ : Type} (R0 : Rp α) (A : Arp γ) (O : Orp β) (O' : Orp δ) (f : α → β → γ → Option δ) : Prop :=
  ∃ fa fd xs, FnOk P w K mg base CX0 k fa fd xs (spMR R0 A O O' f) ∧ mg name = some (.ref fa) ∧ PySem.W.keepIn K (.ref fa) = true ∧ Binds K fd xs []
theorem same_cut {S H : Hp} {ps : List Addr} (sb : Same S H) (fr : ∀ p ∈ ps, S p = none) : Same S (cutH H ps) := fun b o h => by
  rw [cutH_of fun m => by rw [fr b m] at h; cases h]
  exact sb b o h
section
variable {P : Program} {w : World} {K : PySem.W.Frag} {mg : Str → Option Value} {base : Heap}
theorem FnMR.of {α β γ δ : Type} {k : Nat} {x qual : Str} {st : Stmt} {f : Addr} {fd : FuncData} {N xs : List Str} {R0 : Rp α} {A : Arp γ} {O : Orp β} {O' : Orp δ} {fm : α → β → γ → Option δ} {fb : α → β → γ → Option (Out Unit Empty δ)}
    (F : Fun K x qual st f fd) (sc : FnScope N xs (defScope st)) (gm : mg x = some (.ref f)) (b : Binds K fd xs []) (hl : ∀ {S H vs z}, A.r S H vs z → vs.length + 2 = xs.length)
    (body : ∀ (cdv : Value) (Ar : Around) (outer : List Env) (s : Shared) (H : Hp) (E : XK), Room k (Ar.deeper (envOfC qual (defScope st) s.heap.objs.size f cdv)) → ∀ (S0 H0 : Hp) z y c,
      Run (XF P w K mg base N qual (defScope st) f cdv Ar outer s H E) S0 H0 ((.val R0 z :: .ow O y :: A.sl c) ++ List.replicate (N.length - xs.length) .any) (defBody st) (fun _ : Unit => List.replicate N.length .any) (fun e : Empty => nomatch e) O' (fb z y c))
    (hm : ∀ z y c r, fm z y c = some r → (fb z y c).bind (fin none) = some r) : FnMR P w K mg base (k + 1) x R0 A O O' fm := by
  refine ⟨f, fd, xs, ?_, gm, F.kp, b⟩
  refine F.ok sc (fun vs H Q E ⟨S, u, v, ws, z, y, c, r, ps, e, _, _, _, _, a, _⟩ => by rw [e]; exact hl a) (fun cdv Ar outer s H vs Q E hr h => ?_)
  obtain ⟨S, u, v, ws, z, y, c, r, ps, rfl, sb, r0, ro, fr, ra, e, q⟩ := h
  obtain ⟨o, e1, e2⟩ := bind_some_iff (hm z y c r e)
  refine ⟨_, wS_ok _, ?_⟩
  refine body cdv Ar outer s H E hr S (cutH H ps) z y c S H _ _ o ?_ e1 ?_
  · have sc2 : Same S (cutH H ps) := same_cut sb fun p hp => (fr.2 p hp).2.1
    have h1 : (u :: v :: ws).length = xs.length := hl ra
    have E0 := entry_ok sc2 (N.length - xs.length) ((aV R0 (aAny A)).ok (S := S) (H := cutH H ps) (vs := u :: v :: ws) (x := (z, c)) ⟨u, v :: ws, rfl, r0, v, ws, rfl, ra⟩)
    have E1 := E0.set 1 (Ext.cut sb) ro fr
    unfold L2.start
    rw [h1]
    exact E1
  · cases o with
    | nx u => cases e2
    | rt v => cases e2; exact fun v S' H' ps X r f => q v S' H' ps X r f
    | bk l => exact nomatch l
    | ct l => exact nomatch l
end
/-- without the slot i and what it owns -/
theorem EnvOk.gone {S0 H0 S H : Hp} {G : Cxt} {σ : L2.St} {α : Type} {O : Orp α} {y : α} {i : Nat} (E : EnvOk S0 H0 S H G σ) (hG : G[i]? = some (.ow O y)) :
    ∃ v ps, σ[i]? = some (some v) ∧ O.r S H v y ps ∧ Fresh (cutH H ps) S H ps ∧ EnvOk S0 H0 S (cutH H ps) (G.set i .any) σ := by
  obtain ⟨fp, ok, Fp⟩ := E.ex
  obtain ⟨o', e3, v, eo, r⟩ := ok i _ hG
  subst eo
  have n0 : ∀ a, H0 a ≠ Option.none → a ∉ fp i := fun a h m => h (Fp.at_ i a m).2.2.1
  have sc2 : Same S (cutH H (fp i)) := same_cut E.base.sb fun p hp => (Fp.at_ i p hp).1
  have X1 : Ext S (cutH H (fp i)) S (cutH H (fp i)) := Ext.refl sc2
  refine ⟨v, fp i, e3, r, ⟨Fp.nd i, fun p hp => ⟨by unfold cutH; rw [if_pos hp], (Fp.at_ i p hp).1, (Fp.at_ i p hp).2.1⟩⟩, ?_⟩
  have other : ∀ j p, j ≠ i → p ∈ fp j → Kp H (cutH H (fp i)) p := fun j p ne hp => ⟨fun o q nt => X1.hp.kp p o (by rw [cutH_of (fun z => ne (Fp.sep j i p hp z))]; exact q) nt⟩
  refine ⟨Ext.uncut E.base n0 X1, by simp [E.len], fun j => if j = i then [] else fp j, fun j s es => ?_, ⟨fun j p hp => ?_, fun j => ?_, fun j l p h1 h2 => ?_⟩⟩
  · rcases set_get es with ⟨rfl, rfl, _⟩ | ⟨ne, es⟩
    · exact ⟨some v, e3, by simp [SlotOk]⟩
    · obtain ⟨o, e1, q⟩ := ok j s es
      refine ⟨o, e1, ?_⟩
      simp only [if_neg (fun z => ne z.symm : ¬ j = i)]
      exact q.mono X1.st fun p hp => other j p (fun z => ne z.symm) hp
  · replace hp : p ∈ (if j = i then [] else fp j) := hp
    rw [List.length_set]
    by_cases ne : j = i
    · rw [if_pos ne] at hp; cases hp
    · rw [if_neg ne] at hp
      obtain ⟨h1, h2, h3, h4⟩ := Fp.at_ j p hp
      exact ⟨h1, by rw [cutH_of (fun z => ne (Fp.sep j i p hp z))]; exact h2, h3, h4⟩
  · show (if j = i then [] else fp j).Nodup
    split
    · exact .nil
    · exact Fp.nd j
  · replace h1 : p ∈ (if j = i then [] else fp j) := h1
    replace h2 : p ∈ (if l = i then [] else fp l) := h2
    by_cases e1 : j = i
    · rw [if_pos e1] at h1; cases h1
    · by_cases e2 : l = i
      · rw [if_pos e2] at h2; cases h2
      · rw [if_neg e1] at h1; rw [if_neg e2] at h2; exact Fp.sep j l p h1 h2
section
variable {X : Cx} {S0 H0 : Hp} {G : Cxt} {α β γ δ ν μ ρ : Type} {e : Expr} {pos pos' p p2 cpos : Pos} {ss : List Stmt} {es : List Expr} {Γ : ν → Cxt} {Λ : μ → Cxt} {O : Orp ρ}
/-- y = f(e, x, rest): x is gone (or told anew, as y) -/
theorem Run.asgMR {fn xn yn : Str} {k j : Nat} {R0 : Rp α} {A : Arp γ} [VA : ValA A] {O1 : Orp β} {O2 : Orp δ} {f : α → β → γ → Option δ} {z : α} {y : β} {c : γ} {r : δ} {m : Option (Out ν μ ρ)} (i t : Nat)
    (F : FnMR X.prog X.w X.K X.mg X.base k fn R0 A O1 O2 f) (hr : Room j X.A) (hN : X.N.Nodup) (ha : EvV X S0 H0 G e R0 (some z)) (hes : EvA X S0 H0 G es A (some c)) (hf : f z y c = some r)
    (hk : Run X S0 H0 ((G.set i .any).set t (.ow O2 r)) ss Γ Λ O m) (hj : k ≤ j := by decide) (hG : G[i]? = some (.ow O1 y) := by rfl)
    (hNi : X.N[i]? = some xn := by rfl) (hv : Vis X.env.scope xn := by first | exact Or.inl rfl | exact Or.inr (Or.inl rfl) | exact Or.inr (Or.inr rfl)) (hNt : X.N[t]? = some yn := by rfl) (hy : Loc X.env.scope yn := by first | exact .inl rfl | exact .inr rfl)
    (hg : Gl X fn := by rfl) (hdb : (fn == ("__debug__" : Str)) = false := by decide) (hd : (xn == ("__debug__" : Str)) = false := by decide) (hcd : (xn == ("__classdict__" : Str)) = false := by decide)
    (he1 : starEach (e :: .Name xn p2 :: es) X.env = (false, eval e X.env) :: starEach (.Name xn p2 :: es) X.env := by rfl) (he2 : starEach (.Name xn p2 :: es) X.env = (false, eval (.Name xn p2) X.env) :: starEach es X.env := by rfl)
    (hpl : (backTo cpos (starEach (.Name xn p2 :: es) X.env)).any (·.1) = false := by rfl)
    (hs : swapsWith (.Call (.Name fn p) (e :: .Name xn p2 :: es) [] cpos) (some (.Name yn pos')) pos.line X.env = pure false := by rfl) (hfn : X.fn yn = true ∨ X.env.scope.names.lookup yn = some .local := by first | exact .inl rfl | exact .inr rfl | assumption) :
    Run X S0 H0 G (.Assign [.Name yn pos'] (.Call (.Name fn p) (e :: .Name xn p2 :: es) [] cpos) pos :: ss) Γ Λ O m := .mk fun S H σ D o E e' g => by
  obtain ⟨fa, fd, xs, h1, h3, h4, h5⟩ := F
  refine wS_of (pss_cons (ps_set (i := t) hN hNt hy (pe_call (E := NoE) h1 (hr.mono hj) hg h3 h4 h5 .nil (show Passes CX0 X NoE from fun _ _ _ _ _ _ _ h => h.elim) (pa_cons (wE_ok e) (pa_cons (pe_var hNi hv hd hcd) (wA_ok es) he2) he1) hdb he1 hpl) hs hfn) (wS_ok ss)) ?_
  refine ha S H σ _ z E rfl fun u S1 H1 qs X1 r1 f1 => ?_
  have E1 := E.mono X1
  obtain ⟨v, ps1, ev, _⟩ := E1.gone hG
  refine ⟨v, ev, ?_⟩
  refine hes S1 H1 σ _ c E1 rfl fun ws S2 H2 X2 r2 => ?_
  have E2 := E1.mono X2
  obtain ⟨v2, ps, ev2, ro, fr, Ec⟩ := E2.gone hG
  rw [ev] at ev2
  cases ev2
  show spMR R0 A O1 O2 f ((u :: v :: ws) ++ []) H2 _ NoE
  rw [List.append_nil]
  refine ⟨S2, u, v, ws, z, y, c, r, ps, rfl, E2.base.sb, R0.mono X2.st.k r1.1, ro, fr, VA.va r2, hf, fun w' S' H' qs' X3 r3 f3 => ?_⟩
  exact hk S' H' _ D o (Ec.set t X3 r3 f3) e' (g.mono ((X1.trans X2).st.trans X3.st))
end
end Gc

namespace Gc
open PySem L2
/-! ## the mirrors' mathematics -/
@[simp] theorem bnd_nx {ν ν' μ ρ : Type} (k : ν → Option (Out ν' μ ρ)) (s : ν) : bnd k (.nx s) = k s := Eq.trans rfl rfl
@[simp] theorem bnd_rt {ν ν' μ ρ : Type} (k : ν → Option (Out ν' μ ρ)) (s : ρ) : bnd k (.rt s) = some (.rt s) := Eq.trans rfl rfl
@[simp] theorem bnd_bk {ν ν' μ ρ : Type} (k : ν → Option (Out ν' μ ρ)) (s : μ) : bnd k (.bk s) = some (.bk s) := Eq.trans rfl rfl
@[simp] theorem bnd_ct {ν ν' μ ρ : Type} (k : ν → Option (Out ν' μ ρ)) (s : μ) : bnd k (.ct s) = some (.ct s) := Eq.trans rfl rfl
@[simp] theorem exitO_rt {ν' μ ρ : Type} (s : ρ) : (exitO (.rt s) : Option (Out ν' μ ρ)) = some (.rt s) := Eq.trans rfl rfl
@[simp] theorem exitO_bk {ν' μ ρ : Type} (s : μ) : (exitO (.bk s) : Option (Out ν' μ ρ)) = some (.bk s) := Eq.trans rfl rfl
@[simp] theorem exitO_ct {ν' μ ρ : Type} (s : μ) : (exitO (.ct s) : Option (Out ν' μ ρ)) = some (.ct s) := Eq.trans rfl rfl
@[simp] theorem fin_rt {ν μ ρ : Type} (d : Option ρ) (x : ρ) : fin d (.rt x : Out ν μ ρ) = some x := Eq.trans rfl rfl
@[simp] theorem fin_nx {ν μ ρ : Type} (d : Option ρ) (x : ν) : fin d (.nx x : Out ν μ ρ) = d := Eq.trans rfl rfl
@[simp] theorem letP_eq {α β : Type} (x : α) (k : α → Option β) : letP x k = k x := Eq.trans rfl rfl
/-- not by sight: the kernel is to rewrite here, not to compare -/
theorem bs {α β : Type} (x : α) (f : α → Option β) : (some x).bind f = f x := Eq.trans (Option.bind_some x f) rfl
/-! loops -/
theorem forO_nil {α ν μ ρ : Type} (b : α → ν → Option (Out ν ν ρ)) (s : ν) : (forO b [] s : Option (Out ν μ ρ)) = some (.nx s) := rfl
theorem forO_nx {α ν μ ρ : Type} {b : α → ν → Option (Out ν ν ρ)} {x : α} {xs : List α} {s s' : ν} (h : b x s = some (.nx s')) : (forO b (x :: xs) s : Option (Out ν μ ρ)) = forO b xs s' := by
  show (b x s).bind _ = _; rw [h]; rfl
theorem forO_ct {α ν μ ρ : Type} {b : α → ν → Option (Out ν ν ρ)} {x : α} {xs : List α} {s s' : ν} (h : b x s = some (.ct s')) : (forO b (x :: xs) s : Option (Out ν μ ρ)) = forO b xs s' := by
  show (b x s).bind _ = _; rw [h]; rfl
theorem forO_bk {α ν μ ρ : Type} {b : α → ν → Option (Out ν ν ρ)} {x : α} {xs : List α} {s s' : ν} (h : b x s = some (.bk s')) : (forO b (x :: xs) s : Option (Out ν μ ρ)) = some (.nx s') := by
  show (b x s).bind _ = _; rw [h]; rfl
theorem forO_rt {α ν μ ρ : Type} {b : α → ν → Option (Out ν ν ρ)} {x : α} {xs : List α} {s : ν} {r : ρ} (h : b x s = some (.rt r)) : (forO b (x :: xs) s : Option (Out ν μ ρ)) = some (.rt r) := by
  show (b x s).bind _ = _; rw [h]; rfl
/-- each turn goes on -/
theorem forO_fold {α ν μ ρ : Type} {b : α → ν → Option (Out ν ν ρ)} (g : ν → α → ν) : ∀ (xs : List α) (s : ν), (∀ x ∈ xs, ∀ s, b x s = some (.nx (g s x))) → (forO b xs s : Option (Out ν μ ρ)) = some (.nx (xs.foldl g s))
  | [], s, _ => rfl
  | x :: xs, s, h => by rw [forO_nx (h x List.mem_cons_self s), forO_fold g xs (g s x) fun y hy => h y (List.mem_cons_of_mem _ hy)]; rfl
/-- .. with an invariant -/
theorem forO_foldI {α ν μ ρ : Type} {b : α → ν → Option (Out ν ν ρ)} (g : ν → α → ν) (I : ν → Prop) : ∀ (xs : List α) (s : ν), I s → (∀ x ∈ xs, ∀ s, I s → b x s = some (.nx (g s x)) ∧ I (g s x)) → (forO b xs s : Option (Out ν μ ρ)) = some (.nx (xs.foldl g s)) ∧ I (xs.foldl g s)
  | [], s, i, _ => ⟨rfl, i⟩
  | x :: xs, s, i, h => by
    obtain ⟨h1, h2⟩ := h x List.mem_cons_self s i
    rw [forO_nx h1]
    exact forO_foldI g I xs (g s x) h2 fun y hy => h y (List.mem_cons_of_mem _ hy)
/-- the state is said by the part taken -/
theorem forO_inv {α ν μ ρ : Type} {b : α → ν → Option (Out ν ν ρ)} (I : List α → ν → Prop) (xs : List α) {s : ν} (h0 : I [] s) (h : ∀ pre x post s, xs = pre ++ x :: post → I pre s → ∃ s', b x s = some (.nx s') ∧ I (pre ++ [x]) s') : ∃ s', (forO b xs s : Option (Out ν μ ρ)) = some (.nx s') ∧ I xs s' := by
  have go : ∀ (ys pre : List α) (s : ν), xs = pre ++ ys → I pre s → ∃ s', (forO b ys s : Option (Out ν μ ρ)) = some (.nx s') ∧ I xs s' := by
    intro ys
    induction ys with
    | nil => intro pre s e i; rw [List.append_nil] at e; subst e; exact ⟨s, rfl, i⟩
    | cons y ys ih =>
      intro pre s e i
      obtain ⟨s', h1, h2⟩ := h pre y ys s e i
      rw [forO_nx h1]
      exact ih (pre ++ [y]) s' (by rw [e]; simp) h2
  exact go xs [] s rfl h0
/-- a loop that looks at each item and keeps nothing -/
theorem forO_all {α μ ρ : Type} {b : α → Unit → Option (Out Unit Unit ρ)} {xs : List α} (h : ∀ x ∈ xs, b x () = some (.nx ())) : (forO b xs () : Option (Out Unit μ ρ)) = some (.nx ()) := by
  rw [forO_fold (fun _ _ => ()) xs () fun x hx s => h x hx]
/-- a loop that hands back v at the first item for which it should -/
theorem forO_find {α μ ρ : Type} {b : α → Unit → Option (Out Unit Unit ρ)} (p : α → Bool) (v : α → ρ) : ∀ {xs : List α}, (∀ x ∈ xs, b x () = some (if p x = true then .rt (v x) else .nx ())) → (forO b xs () : Option (Out Unit μ ρ)) = some (match xs.find? p with | some x => .rt (v x) | none => .nx ())
  | [], _ => rfl
  | x :: xs, h => by
    have hx := h x List.mem_cons_self
    by_cases c : p x = true
    · rw [if_pos c] at hx; rw [forO_rt hx, List.find?_cons_of_pos c]
    · rw [if_neg c] at hx; rw [forO_nx hx, List.find?_cons_of_neg c]; exact forO_find p v fun y hy => h y (List.mem_cons_of_mem _ hy)
/-! comprehensions -/
theorem mapO_eq {α β : Type} {f : α → Option β} (g : α → β) : ∀ {xs : List α}, (∀ x ∈ xs, f x = some (g x)) → mapO f xs = some (xs.map g)
  | [], _ => rfl
  | x :: xs, h => by
    show (f x).bind _ = _
    rw [h x List.mem_cons_self, mapO_eq g fun y hy => h y (List.mem_cons_of_mem _ hy)]; rfl
theorem filO_eq {α β : Type} {c : α → Option Bool} {f : α → Option β} (p : α → Bool) (g : α → β) : ∀ {xs : List α}, (∀ x ∈ xs, c x = some (p x)) → (∀ x ∈ xs, p x = true → f x = some (g x)) → filO c f xs = some ((xs.filter p).map g)
  | [], _, _ => rfl
  | x :: xs, h, k => by
    show (c x).bind _ = _
    rw [h x List.mem_cons_self]
    show (if p x = true then _ else _) = _
    by_cases e : p x = true
    · rw [if_pos e, k x List.mem_cons_self e, filO_eq p g (fun y hy => h y (List.mem_cons_of_mem _ hy)) (fun y hy => k y (List.mem_cons_of_mem _ hy)), List.filter_cons_of_pos e]; rfl
    · rw [if_neg e, filO_eq p g (fun y hy => h y (List.mem_cons_of_mem _ hy)) (fun y hy => k y (List.mem_cons_of_mem _ hy)), List.filter_cons_of_neg e]
/-! ranges, places -/
def natL (n : Nat) : List Int := (List.range n).map fun k : Nat => (k : Int)
theorem rngO_nat {n : Nat} (h : n ≤ 16777216) : rngO 0 (n : Int) = some (natL n) := by
  unfold rngO natL rangeL
  rw [if_pos ⟨by omega, by omega, by omega, by omega, by omega⟩]
  simp
theorem mem_natL {n : Nat} {x : Int} : x ∈ natL n ↔ ∃ k : Nat, k < n ∧ x = k := by
  unfold natL
  rw [List.mem_map]
  constructor
  · rintro ⟨k, h, rfl⟩; exact ⟨k, List.mem_range.mp h, rfl⟩
  · rintro ⟨k, h, rfl⟩; exact ⟨k, List.mem_range.mpr h, rfl⟩
theorem natL_length (n : Nat) : (natL n).length = n := by simp [natL]
theorem natL_map {β : Type} (f : Int → β) (n : Nat) : (natL n).map f = (List.range n).map fun k : Nat => f k := by unfold natL; rw [List.map_map]; rfl
theorem mapO_range {β : Type} {f : Int → Option β} (g : Nat → β) {n : Nat} (h : ∀ k : Nat, k < n → f (k : Int) = some (g k)) : mapO f (natL n) = some ((List.range n).map g) := by
  rw [mapO_eq (fun x => g x.toNat) fun x hx => ?_, natL_map]
  · simp
  · obtain ⟨k, hk, rfl⟩ := mem_natL.mp hx; rw [h k hk]; simp
theorem filO_range {β : Type} {c : Int → Option Bool} {f : Int → Option β} (p : Nat → Bool) (g : Nat → β) {n : Nat} (h : ∀ k : Nat, k < n → c (k : Int) = some (p k)) (h2 : ∀ k : Nat, k < n → p k = true → f (k : Int) = some (g k)) : filO c f (natL n) = some (((List.range n).filter p).map g) := by
  rw [filO_eq (fun x => p x.toNat) (fun x => g x.toNat) (fun x hx => ?_) (fun x hx hp => ?_)]
  · unfold natL; rw [List.filter_map, List.map_map]; simp [Function.comp_def]
  · obtain ⟨k, hk, rfl⟩ := mem_natL.mp hx; rw [h k hk]; simp
  · obtain ⟨k, hk, rfl⟩ := mem_natL.mp hx; rw [h2 k hk (by simpa using hp)]; simp
theorem ixN_nat {n k : Nat} (h : k < n) : ixN n (k : Int) = some k := by
  unfold ixN; rw [if_pos (by omega), if_pos (by omega)]; simp
theorem atI_lt {α : Type} {xs : List α} {k : Nat} (h : k < xs.length) : atI xs (k : Int) = some xs[k] := by
  unfold atI; rw [ixN_nat h]; simp [h]
theorem atI_getD {xs : List Int} {k : Nat} (h : k < xs.length) : atI xs (k : Int) = some (xs.getD k 0) := by
  rw [atI_lt h, List.getD_eq_getElem?_getD, List.getElem?_eq_getElem h]; rfl
theorem atI_int {xs : List Int} {i : Int} (h0 : 0 ≤ i) (h : i < xs.length) : atI xs i = some (xs.getD i.toNat 0) := by
  obtain ⟨k, rfl⟩ := Int.eq_ofNat_of_zero_le h0
  rw [atI_getD (by omega)]; simp
theorem atI_last {xs : List Int} (h : 0 < xs.length) : atI xs (-1) = some (xs.getD (xs.length - 1) 0) := by
  unfold atI ixN
  rw [if_neg (by omega), if_pos (by omega)]
  have e : (-1 + (xs.length : Int)).toNat = xs.length - 1 := by omega
  show xs[(-1 + (xs.length : Int)).toNat]? = _
  rw [e, List.getD_eq_getElem?_getD, List.getElem?_eq_getElem (by omega)]; rfl
theorem setO_nat {α : Type} {xs : List α} {k : Nat} {x : α} (h : k < xs.length) : setO xs (k : Int) x = some (xs.set k x) := by
  unfold setO; rw [ixN_nat h]; rfl
theorem appO_eq {α : Type} {xs : List α} {x : α} (h : xs.length < 16777216) : appO xs x = some (xs ++ [x]) := by
  unfold appO; rw [if_pos (by rw [sizeLine_eq]; exact h)]
theorem catO_eq {α : Type} {xs ys : List α} (h : xs.length + ys.length ≤ 16777216) : catO xs ys = some (xs ++ ys) := by
  unfold catO; rw [if_pos (by rw [sizeLine_eq]; exact h)]
theorem repO_eq {α : Type} {xs : List α} {k : Nat} (hk : k ≤ 16777216) (h : xs.length * k ≤ 16777216) : repO xs (k : Int) = some (List.replicate k xs).flatten := by
  unfold repO; rw [if_pos ⟨by omega, by omega, by rw [sizeLine_eq]; simpa using h⟩]; rfl
theorem rep_one {α : Type} (x : α) : ∀ k : Nat, (List.replicate k [x]).flatten = List.replicate k x
  | 0 => rfl
  | k + 1 => by rw [List.replicate_succ, List.replicate_succ, List.flatten_cons, rep_one x k]; rfl
theorem insO_eq {α : Type} {xs : List α} {k : Nat} {x : α} (h : xs.length < 16777216) (hk : k < 16777216) : insO xs (k : Int) x = some (xs.take k ++ [x] ++ xs.drop k) := by
  unfold insO; rw [if_pos ⟨by rw [sizeLine_eq]; exact h, by omega, by omega⟩]; rfl
/-! arithmetic -/
theorem modO_eq {x y : Int} (h : 0 < y) : modO x y = some (x % y) := modO_pos h
theorem fdivO_eq {x y : Int} (h : 0 < y) (h2 : y.natAbs < 2 ^ 8999) : fdivO x y = some (x / y) := by
  have h3 : DivOk y := ⟨by omega, Nat.lt_trans ((Nat.log2_lt (by omega)).mpr h2) (by decide)⟩
  unfold fdivO
  rw [if_pos h3, Int.fdiv_eq_ediv_of_nonneg x (by omega)]
theorem fdivO_gen {x y : Int} (h : y ≠ 0) (h2 : y.natAbs < 2 ^ 8999) : fdivO x y = some (x.fdiv y) := by
  have h3 : DivOk y := ⟨h, Nat.lt_trans ((Nat.log2_lt (by omega)).mpr h2) (by decide)⟩
  unfold fdivO
  exact if_pos h3
theorem fdivO_small {x y : Int} (h : 0 < y) (h2 : y < 1073741824) : fdivO x y = some (x / y) := fdivO_eq h (Nat.lt_of_lt_of_le (show y.natAbs < 2 ^ 30 by omega) (Nat.pow_le_pow_right (by decide) (by decide)))
theorem log2_lt_of {x : Int} {n : Nat} (h : x.natAbs < 2 ^ n) (hn : 0 < n) : x.natAbs.log2 < n := by
  by_cases e : x.natAbs = 0
  · rw [e]; simpa using hn
  · exact (Nat.log2_lt e).mpr h
/-- products of bounded numbers -/
theorem mulO_eq {x y : Int} (a b : Nat) (hx : x.natAbs < 2 ^ a) (hy : y.natAbs < 2 ^ b) (ha : 0 < a := by decide) (hb : 0 < b := by decide) (h : a + b ≤ 1000000 := by decide) : mulO x y = some (x * y) := by
  unfold mulO
  rw [if_pos (.inl (by have := log2_lt_of hx ha; have := log2_lt_of hy hb; omega))]
theorem mulO_l {x y : Int} (h1 : -18446744073709551616 < x) (h2 : x < 18446744073709551616) : mulO x y = some (x * y) := by
  unfold mulO; rw [if_pos (.inr (.inl ⟨by simpa using h1, by simpa using h2⟩))]
theorem mulO_r {x y : Int} (h1 : -18446744073709551616 < y) (h2 : y < 18446744073709551616) : mulO x y = some (x * y) := by
  unfold mulO; rw [if_pos (.inr (.inr ⟨by simpa using h1, by simpa using h2⟩))]
theorem shl1_nat {k : Nat} (h : k ≤ 1000000) : shlO 1 (k : Int) = some ((2 ^ k : Nat) : Int) := by
  unfold shlO; rw [if_pos ⟨by omega, by omega, by decide⟩]; simp
theorem shr_nat (a k : Nat) : shrO (a : Int) (k : Int) = some ((a >>> k : Nat) : Int) := by
  unfold shrO; rw [if_pos (by omega), Nat.shiftRight_eq_div_pow]; simp
theorem band_nat (a b : Nat) : Builtin.bitAnd (a : Int) (b : Int) = ((a &&& b : Nat) : Int) := PySem.W.os_band a b
theorem bor_nat (a b : Nat) : Builtin.bitOr (a : Int) (b : Int) = ((a ||| b : Nat) : Int) := by rw [bitOr_nn (by omega) (by omega)]; simp
/-- while, by what is left -/
theorem whileO_spec {ν μ ρ : Type} {c : ν → Option Bool} {b : ν → Option (Out ν ν ρ)} (I : ν → Prop) (m : ν → Nat) (s : ν) (h0 : I s)
    (h : ∀ s, I s → (c s = some false) ∨ (c s = some true ∧ ∃ s', b s = some (.nx s') ∧ I s' ∧ m s' < m s)) : ∃ s', (whileO c b s : Option (Out ν μ ρ)) = some (.nx s') ∧ I s' ∧ c s' = some false := by
  have go : ∀ (n : Nat) (s : ν), I s → m s < n → ∃ s', (whileF c b n s : Option (Out ν μ ρ)) = some (.nx s') ∧ I s' ∧ c s' = some false := by
    intro n
    induction n with
    | zero => intro s _ hm; exact absurd hm (by omega)
    | succ n ih =>
      intro s i hm
      rcases h s i with h1 | ⟨h1, s', h2, h3, h4⟩
      · exact ⟨s, by rw [whileF, h1]; rfl, i, h1⟩
      · obtain ⟨s2, e, q⟩ := ih s' h3 (by omega)
        exact ⟨s2, by rw [whileF, h1, h2]; exact e, q⟩
  obtain ⟨s', e, q⟩ := go (m s + 1) s h0 (by omega)
  exact ⟨s', whileO_of e, q⟩
end Gc

namespace Gc
open PySem L2
theorem forO_ex {α ν μ ρ : Type} {b : α → ν → Option (Out ν ν ρ)} (I : ν → Prop) : ∀ (xs : List α) (s : ν), I s → (∀ x ∈ xs, ∀ s, I s → ∃ s', b x s = some (.nx s') ∧ I s') → ∃ s', (forO b xs s : Option (Out ν μ ρ)) = some (.nx s') ∧ I s'
  | [], s, i, _ => ⟨s, rfl, i⟩
  | x :: xs, s, i, h => by
    obtain ⟨s', h1, h2⟩ := h x List.mem_cons_self s i
    rw [forO_nx h1]
    exact forO_ex I xs s' h2 fun y hy => h y (List.mem_cons_of_mem _ hy)
theorem mapO_ex {α β : Type} {f : α → Option β} (P : β → Prop) : ∀ {xs : List α}, (∀ x ∈ xs, ∃ y, f x = some y ∧ P y) → ∃ ys, mapO f xs = some ys ∧ ys.length = xs.length ∧ ∀ y ∈ ys, P y
  | [], _ => ⟨[], rfl, rfl, by simp⟩
  | x :: xs, h => by
    obtain ⟨y, e, p⟩ := h x List.mem_cons_self
    obtain ⟨ys, e2, l, p2⟩ := mapO_ex P fun y hy => h y (List.mem_cons_of_mem _ hy)
    refine ⟨y :: ys, ?_, by simp [l], fun z hz => ?_⟩
    · show (f x).bind _ = _; rw [e, e2]; rfl
    · rcases List.mem_cons.mp hz with rfl | hz
      · exact p
      · exact p2 z hz
def natR (a n : Nat) : List Int := (List.range n).map fun k : Nat => ((a + k : Nat) : Int)
theorem rngO_from {a b : Nat} (h : b ≤ 16777216) (ha : a ≤ 16777216) : rngO (a : Int) (b : Int) = some (natR a (b - a)) := by
  unfold rngO natR rangeL
  rw [if_pos ⟨by omega, by omega, by omega, by omega, by omega⟩]
  rw [show ((b : Int) - (a : Int)).toNat = b - a by omega]
  congr 1
theorem mem_natR {a n : Nat} {x : Int} : x ∈ natR a n ↔ ∃ k : Nat, k < n ∧ x = ((a + k : Nat) : Int) := by
  unfold natR
  rw [List.mem_map]
  constructor
  · rintro ⟨k, h, rfl⟩; exact ⟨k, List.mem_range.mp h, rfl⟩
  · rintro ⟨k, h, rfl⟩; exact ⟨k, List.mem_range.mpr h, rfl⟩
theorem natR_length (a n : Nat) : (natR a n).length = n := by simp [natR]
theorem mem_getD {xs : List Int} {k : Nat} (h : k < xs.length) : xs.getD k 0 ∈ xs := by
  rw [List.getD_eq_getElem?_getD, List.getElem?_eq_getElem h]; exact List.getElem_mem h
theorem getD_map_range {β : Type} (g : Nat → Int) {n k : Nat} (h : k < n) : ((List.range n).map g).getD k 0 = g k := by
  rw [List.getD_eq_getElem?_getD, List.getElem?_map, List.getElem?_range h]; rfl
theorem list_ext_getD {xs ys : List Int} (hl : xs.length = ys.length) (h : ∀ k, k < xs.length → xs.getD k 0 = ys.getD k 0) : xs = ys := by
  apply List.ext_getElem hl
  intro k h1 h2
  have := h k h1
  rwa [List.getD_eq_getElem?_getD, List.getD_eq_getElem?_getD, List.getElem?_eq_getElem h1, List.getElem?_eq_getElem h2] at this
theorem range_map_getD (xs : List Int) : (List.range xs.length).map (fun k => xs.getD k 0) = xs := by
  apply list_ext_getD (by simp)
  intro k hk
  rw [getD_map_range (β := Int) _ (by simpa using hk)]
/-! great numbers -/
/-- below 2 ^ n in size -/
def Bd (n : Nat) (x : Int) : Prop := x.natAbs < 2 ^ n
theorem Bd.mono {x : Int} {a b : Nat} (h : Bd a x) (hab : a ≤ b) : Bd b x := Nat.lt_of_lt_of_le h (Nat.pow_le_pow_right (by decide) hab)
theorem Bd.mulO {x y : Int} {a b : Nat} (hx : Bd a x) (hy : Bd b y) (ha : 0 < a := by decide) (hb : 0 < b := by decide) (h : a + b ≤ 1000000 := by decide) : mulO x y = some (x * y) := mulO_eq a b hx hy ha hb h
theorem Bd.neg {x : Int} {a : Nat} (h : Bd a x) : Bd a (-x) := by unfold Bd at *; rw [Int.natAbs_neg]; exact h
theorem Bd.add {x y : Int} {a : Nat} (h : Bd a x) (k : Bd a y) : Bd (a + 1) (x + y) := by
  unfold Bd at *; rw [Nat.pow_succ]; have := Int.natAbs_add_le x y; omega
theorem Bd.sub {x y : Int} {a : Nat} (h : Bd a x) (k : Bd a y) : Bd (a + 1) (x - y) := by
  rw [Int.sub_eq_add_neg]; exact h.add k.neg
def E60 : Int := 1000000000000000000000000000000000000000000000000000000000000
theorem e60 : (10 : Int) ^ 60 = E60 := by decide +kernel
theorem E60_pos : 0 < E60 := by decide +kernel
def E130 : Int := 10 ^ 130
theorem E130_abs : Bd 432 E130 := by
  have h : E130.natAbs < 2 ^ 432 := by decide +kernel
  exact h
theorem big130 {β : Type} (k : Int → Option β) : (powO (10 ^ 50) 2).bind (fun z => (mulO z (10 ^ 30)).bind k) = k E130 := by
  have e1 : powO (10 ^ 50) 2 = some (10 ^ 100) := by
    have h : (0 : Int) ≤ 2 ∧ (Builtin.Int.intBits (10 ^ 50) : Int) * 2 ≤ 2 ^ 27 := by decide +kernel
    have h2 : ((10 : Int) ^ 50) ^ (2 : Int).toNat = 10 ^ 100 := by decide +kernel
    unfold powO
    rw [if_pos h, h2]
  have e2 : mulO (10 ^ 100) (10 ^ 30) = some E130 := by
    have h1 : ((10 : Int) ^ 100).natAbs < 2 ^ 400 := by decide +kernel
    have h2 : ((10 : Int) ^ 30).natAbs < 2 ^ 400 := by decide +kernel
    have h3 : (10 : Int) ^ 100 * 10 ^ 30 = E130 := by decide +kernel
    rw [mulO_eq 400 400 h1 h2, h3]
  rw [e1, bs, e2, bs]
theorem natAbs_mul_lt {x y : Int} {a b : Nat} (hx : x.natAbs < 2 ^ a) (hy : y.natAbs < 2 ^ b) : (x * y).natAbs < 2 ^ (a + b) := by
  rw [Int.natAbs_mul, Nat.pow_add]
  exact Nat.mul_lt_mul'' hx hy
theorem Bd.mul {x y : Int} {a b : Nat} (hx : Bd a x) (hy : Bd b y) : Bd (a + b) (x * y) := natAbs_mul_lt hx hy
theorem natAbs_mono {x : Int} {a b : Nat} (hx : x.natAbs < 2 ^ a) (h : a ≤ b) : x.natAbs < 2 ^ b := Nat.lt_of_lt_of_le hx (Nat.pow_le_pow_right (by decide) h)
theorem Bd.of {x : Int} (B : Nat) {a : Nat} (h0 : -(B : Int) ≤ x) (h1 : x ≤ B) (hB : B < 2 ^ a) : Bd a x := by unfold Bd; omega
/-! numbers from nought on -/
def up (ks : List Nat) : List Int := ks.map fun k : Nat => (k : Int)
theorem up_len (ks : List Nat) : (up ks).length = ks.length := by simp [up]
theorem up_app (ks js : List Nat) : up (ks ++ js) = up ks ++ up js := by simp [up]
theorem natL_up (n : Nat) : natL n = up (List.range n) := rfl
theorem atI_up {ks : List Nat} {p : Nat} (h : p < ks.length) : atI (up ks) (p : Int) = some ((ks.getD p 0 : Nat) : Int) := by
  rw [atI_lt (by rw [up_len]; exact h)]
  simp [up, List.getD_eq_getElem?_getD, h]
theorem up_getD (ks : List Nat) (p : Nat) : (up ks).getD p 0 = ((ks.getD p 0 : Nat) : Int) := by
  unfold up
  rw [List.getD_eq_getElem?_getD, List.getD_eq_getElem?_getD, List.getElem?_map]
  cases ks[p]? <;> rfl
theorem mem_getDN {ks : List Nat} {p : Nat} (h : p < ks.length) : ks.getD p 0 ∈ ks := by
  rw [List.getD_eq_getElem?_getD, List.getElem?_eq_getElem h]; exact List.getElem_mem h
theorem mapO_up {β : Type} {f : Int → Option β} (g : Nat → β) {ks : List Nat} (h : ∀ k ∈ ks, f (k : Int) = some (g k)) : mapO f (up ks) = some (ks.map g) := by
  unfold up
  induction ks with
  | nil => rfl
  | cons k ks ih =>
    show (f (k : Int)).bind _ = _
    rw [h k List.mem_cons_self, bs, ih fun j hj => h j (List.mem_cons_of_mem _ hj), bs]; rfl
theorem filO_up {β : Type} {c : Int → Option Bool} {f : Int → Option β} (p : Nat → Bool) (g : Nat → β) {ks : List Nat} (h : ∀ k ∈ ks, c (k : Int) = some (p k)) (h2 : ∀ k ∈ ks, p k = true → f (k : Int) = some (g k)) : filO c f (up ks) = some ((ks.filter p).map g) := by
  unfold up
  induction ks with
  | nil => rfl
  | cons k ks ih =>
    have i := ih (fun j hj => h j (List.mem_cons_of_mem _ hj)) (fun j hj => h2 j (List.mem_cons_of_mem _ hj))
    show (c (k : Int)).bind _ = _
    rw [h k List.mem_cons_self, bs]
    by_cases e : p k = true
    · rw [if_pos e, h2 k List.mem_cons_self e, bs, i, bs, List.filter_cons_of_pos e]; rfl
    · rw [if_neg e, i, List.filter_cons_of_neg e]
theorem bit_test (g k : Nat) : decide (Builtin.bitAnd ((g >>> k : Nat) : Int) 1 = 1) = g.testBit k := by
  have e : Builtin.bitAnd ((g >>> k : Nat) : Int) 1 = (((g >>> k) &&& 1 : Nat) : Int) := band_nat (g >>> k) 1
  rw [e, Nat.testBit_eq_decide_div_mod_eq, Nat.and_one_is_mod, Nat.shiftRight_eq_div_pow]
  apply decide_eq_decide.mpr
  omega
theorem shr_bit {g : Nat} {k : Nat} : (shrO (g : Int) (k : Int)).bind (fun z => some (decide (Builtin.bitAnd z 1 = 1))) = some (g.testBit k) := by
  rw [shr_nat, bs, bit_test]
theorem sum_up (ks : List Nat) : (up ks).sum = ((ks.sum : Nat) : Int) := by
  unfold up
  induction ks with
  | nil => rfl
  | cons k ks ih => rw [List.map_cons, List.sum_cons, List.sum_cons, ih]; omega
end Gc

namespace Gc
open PySem L2
def bitsN (n g : Nat) : List Nat := (List.range n).filter g.testBit
def bitsL (n g : Nat) : List Int := (bitsN n g).map fun k : Nat => (k : Int)
theorem bitsN_len (n g : Nat) : (bitsN n g).length ≤ n := by unfold bitsN; exact Nat.le_trans (List.length_filter_le _ _) (by simp)
theorem bitsL_len (n g : Nat) : (bitsL n g).length ≤ n := by unfold bitsL; rw [List.length_map]; exact bitsN_len n g
theorem bitsN_succ (n g : Nat) : bitsN (n + 1) g = bitsN n g ++ (if g.testBit n = true then [n] else []) := by
  unfold bitsN
  rw [List.range_succ, List.filter_append]
  congr 1
  by_cases h : g.testBit n = true <;> simp [h]
theorem bitsN_stop {g n : Nat} (h : g < 2 ^ n) : ∀ d, bitsN (n + d) g = bitsN n g
  | 0 => rfl
  | d + 1 => by
    rw [show n + (d + 1) = (n + d) + 1 from rfl, bitsN_succ, bitsN_stop h d]
    have : g.testBit (n + d) = false := Nat.testBit_lt_two_pow (Nat.lt_of_lt_of_le h (Nat.pow_le_pow_right (by decide) (by omega)))
    simp [this]
theorem bitsN_eq {g n m : Nat} (h : g < 2 ^ n) (h2 : g < 2 ^ m) : bitsN n g = bitsN m g := by
  rcases Nat.le_total n m with q | q
  · obtain ⟨d, rfl⟩ := Nat.exists_eq_add_of_le q; exact (bitsN_stop h d).symm
  · obtain ⟨d, rfl⟩ := Nat.exists_eq_add_of_le q; exact bitsN_stop h2 d
theorem mem_bitsN {n g k : Nat} : k ∈ bitsN n g ↔ k < n ∧ g.testBit k = true := by unfold bitsN; rw [List.mem_filter, List.mem_range]
def orN (a : Nat) (ks : List Nat) : Nat := ks.foldl (fun a k => a ||| 2 ^ k) a
theorem orN_testBit (i : Nat) : ∀ (ks : List Nat) (a : Nat), (orN a ks).testBit i = (a.testBit i || decide (i ∈ ks))
  | [], a => by simp [orN]
  | k :: ks, a => by
    show (orN (a ||| 2 ^ k) ks).testBit i = _
    rw [orN_testBit i ks, Nat.testBit_or, Nat.testBit_two_pow]
    by_cases e : k = i
    · subst e; simp
    · have e' : ¬ i = k := fun z => e z.symm
      simp [e, e']
theorem orN_bits {g n : Nat} {ks : List Nat} (hg : g < 2 ^ n) (h : ∀ i, i ∈ ks ↔ i ∈ bitsN n g) : orN 0 ks = g := by
  apply Nat.eq_of_testBit_eq
  intro i
  rw [orN_testBit, Nat.zero_testBit, Bool.false_or]
  by_cases hi : i < n
  · by_cases c : g.testBit i = true
    · rw [c]; exact decide_eq_true ((h i).mpr (mem_bitsN.mpr ⟨hi, c⟩))
    · have : ¬ i ∈ ks := fun q => c (mem_bitsN.mp ((h i).mp q)).2
      simp [this]; simpa using c
  · have c : g.testBit i = false := Nat.testBit_lt_two_pow (Nat.lt_of_lt_of_le hg (Nat.pow_le_pow_right (by decide) (by omega)))
    have : ¬ i ∈ ks := fun q => hi (mem_bitsN.mp ((h i).mp q)).1
    simp [this, c]
theorem or_fin : ∀ a : Fin 64, ∀ k : Fin 6, a.val.testBit k.val = false → a.val ||| 2 ^ k.val = a.val + 2 ^ k.val ∧ a.val + 2 ^ k.val < 64 := by decide +kernel
theorem orN_sum : ∀ {js : List Nat} {a : Nat}, a < 64 → (∀ k ∈ js, k < 6 ∧ a.testBit k = false) → js.Nodup → orN a js = a + (js.map fun k => 2 ^ k).sum ∧ orN a js < 64
  | [], a, ha, _, _ => ⟨by simp [orN], ha⟩
  | k :: js, a, ha, h, nd => by
    obtain ⟨h1, h2⟩ := h k List.mem_cons_self
    obtain ⟨e1, e2⟩ := or_fin ⟨a, ha⟩ ⟨k, h1⟩ h2
    dsimp only at e1 e2
    obtain ⟨n1, n2⟩ := List.nodup_cons.mp nd
    have e3 := orN_sum (js := js) (a := a ||| 2 ^ k) (by omega) (fun j hj => by
      obtain ⟨q1, q2⟩ := h j (List.mem_cons_of_mem _ hj)
      refine ⟨q1, ?_⟩
      rw [Nat.testBit_or, q2, Nat.testBit_two_pow]
      have : ¬ k = j := fun z => n1 (z ▸ hj)
      simp [this]) n2
    show orN (a ||| 2 ^ k) js = _ ∧ orN (a ||| 2 ^ k) js < 64
    refine ⟨?_, e3.2⟩
    rw [e3.1, List.map_cons, List.sum_cons]
    omega
/-- the group of the hands at the places of a part -/
def oldN (ks : List Nat) (part : Nat) : Nat := orN 0 ((bitsN ks.length part).map fun p => ks.getD p 0)
theorem bitsN_nodup (n g : Nat) : (bitsN n g).Nodup := by unfold bitsN; exact List.Pairwise.filter _ List.nodup_range
theorem getD_inj {ks : List Nat} (nd : ks.Nodup) {i j : Nat} (hi : i < ks.length) (hj : j < ks.length) (e : ks.getD i 0 = ks.getD j 0) : i = j := by
  rw [List.getD_eq_getElem?_getD, List.getD_eq_getElem?_getD, List.getElem?_eq_getElem hi, List.getElem?_eq_getElem hj] at e
  have e : ks[i] = ks[j] := e
  have pw := List.pairwise_iff_getElem.mp nd
  rcases Nat.lt_trichotomy i j with q | q | q
  · exact absurd e (pw i j hi hj q)
  · exact q
  · exact absurd e.symm (pw j i hj hi q)
theorem old_nodup {ks : List Nat} (nd : ks.Nodup) (part : Nat) : ((bitsN ks.length part).map fun p => ks.getD p 0).Nodup := by
  unfold List.Nodup
  rw [List.pairwise_map]
  refine List.Pairwise.imp_of_mem (R := (· ≠ ·)) (fun {i j} hi hj ne e => ?_) (bitsN_nodup ks.length part)
  exact ne (getD_inj nd (mem_bitsN.mp hi).1 (mem_bitsN.mp hj).1 e)
theorem old_mem {ks : List Nat} {part k : Nat} (h : k ∈ (bitsN ks.length part).map fun p => ks.getD p 0) : k ∈ ks := by
  obtain ⟨p, hp, rfl⟩ := List.mem_map.mp h
  exact mem_getDN (mem_bitsN.mp hp).1
theorem oldN_sum {ks : List Nat} (nd : ks.Nodup) (h6 : ∀ k ∈ ks, k < 6) (part : Nat) : oldN ks part = (((bitsN ks.length part).map fun p => ks.getD p 0).map fun k => 2 ^ k).sum := by
  have := (orN_sum (js := (bitsN ks.length part).map fun p => ks.getD p 0) (a := 0) (by decide) (fun k hk => ⟨h6 k (old_mem hk), by simp⟩) (old_nodup nd part)).1
  unfold oldN
  omega
theorem orN_lt {n : Nat} : ∀ {js : List Nat} {a : Nat}, a < 2 ^ n → (∀ k ∈ js, k < n) → orN a js < 2 ^ n
  | [], a, ha, _ => ha
  | k :: js, a, ha, h => by
    show orN (a ||| 2 ^ k) js < _
    exact orN_lt (Nat.or_lt_two_pow ha (Nat.pow_lt_pow_right (by decide) (h k List.mem_cons_self))) fun j hj => h j (List.mem_cons_of_mem _ hj)
theorem oldN_lt {ks : List Nat} {n : Nat} (h : ∀ k ∈ ks, k < n) (part : Nat) : oldN ks part < 2 ^ n := orN_lt (Nat.two_pow_pos n) fun k hk => h k (old_mem hk)
theorem pow6 {n : Nat} (h : n ≤ 6) : 2 ^ n ≤ 64 := Nat.pow_le_pow_right (n := 2) (by decide) h
/-- the table by an order -/
def byN (t : List Int) (ks : List Nat) : List Int := (List.range (2 ^ ks.length)).map fun part => t.getD (oldN ks part) 0
theorem byN_len (t : List Int) (ks : List Nat) : (byN t ks).length = 2 ^ ks.length := by simp [byN]
theorem orN_le {m : Nat} {js : List Nat} (h : ∀ k ∈ js, m.testBit k = true) : orN 0 js ≤ m := by
  have e : orN 0 js &&& m = orN 0 js := by
    apply Nat.eq_of_testBit_eq
    intro i
    rw [Nat.testBit_and, orN_testBit, Nat.zero_testBit, Bool.false_or]
    by_cases c : i ∈ js
    · simp [c, h i c]
    · simp [c]
  rw [← e]; exact Nat.and_le_right
theorem oldN_le (n m part : Nat) : oldN (bitsN n m) part ≤ m := orN_le fun k hk => (mem_bitsN.mp (old_mem hk)).2
def behN (t : List Int) (n g : Nat) : List Int := (List.range (2 ^ (bitsN n (2 ^ n - 1 - g)).length)).map fun part => t.getD (g + oldN (bitsN n (2 ^ n - 1 - g)) part) 0 - t.getD g 0
theorem behN_len (t : List Int) (n g : Nat) : (behN t n g).length = 2 ^ (bitsN n (2 ^ n - 1 - g)).length := by simp [behN]
def mir (t : List Int) : List Int := (List.range t.length).map fun g => t.getD (t.length - 1) 0 - t.getD (t.length - 1 - g) 0
theorem mir_len (t : List Int) : (mir t).length = t.length := by simp [mir]
theorem mir_mir {t : List Int} (h : 0 < t.length) (h0 : t.getD 0 0 = 0) : mir (mir t) = t := by
  apply list_ext_getD (by rw [mir_len, mir_len])
  intro k hk
  rw [mir_len, mir_len] at hk
  have e : ∀ j, j < t.length → (mir t).getD j 0 = t.getD (t.length - 1) 0 - t.getD (t.length - 1 - j) 0 := fun j hj => getD_map_range (β := Int) _ hj
  have e2 : (mir (mir t)).getD k 0 = (mir t).getD (t.length - 1) 0 - (mir t).getD (t.length - 1 - k) 0 := by
    have := getD_map_range (β := Int) (fun g => (mir t).getD ((mir t).length - 1) 0 - (mir t).getD ((mir t).length - 1 - g) 0) (n := (mir t).length) (k := k) (by rw [mir_len]; exact hk)
    rw [mir_len] at this
    unfold mir at this ⊢
    simpa using this
  rw [e2, e _ (by omega), e _ (by omega), show t.length - 1 - (t.length - 1) = 0 by omega, h0, show t.length - 1 - (t.length - 1 - k) = k by omega]
  omega
theorem intBits_pow (n : Nat) : Builtin.Int.intBits ((2 ^ n : Nat) : Int) = n + 1 := by
  unfold Builtin.Int.intBits
  have h : (((2 ^ n : Nat) : Int) == 0) = false := by
    rw [beq_eq_false_iff_ne]
    have := Nat.two_pow_pos n
    omega
  rw [h]
  show ((2 ^ n : Nat) : Int).natAbs.log2 + 1 = n + 1
  rw [Int.natAbs_natCast, Nat.log2_two_pow]
/-- what a row gives a group -/
def givesN (row : List Int) (g : Nat) : Int := ((bitsN row.length g).map fun k => row.getD k 0).sum
def lessN (t row : List Int) : List Int := (List.range t.length).map fun g => t.getD g 0 - givesN row g
theorem lessN_len (t row : List Int) : (lessN t row).length = t.length := by simp [lessN]
theorem gives_neg (row : List Int) (g : Nat) : givesN (row.map fun x => -x) g = - givesN row g := by
  unfold givesN
  rw [List.length_map]
  have h : ∀ ks : List Nat, (ks.map fun k => (row.map fun x => -x).getD k 0).sum = -(ks.map fun k => row.getD k 0).sum := by
    intro ks
    induction ks with
    | nil => rfl
    | cons k ks ih =>
      rw [List.map_cons, List.map_cons, List.sum_cons, List.sum_cons, ih]
      have e : (row.map fun x => -x).getD k 0 = - row.getD k 0 := by
        rw [List.getD_eq_getElem?_getD, List.getD_eq_getElem?_getD, List.getElem?_map]
        cases row[k]? <;> simp
      rw [e]; omega
  exact h _
theorem ins_mem {ks : List Nat} {q x i : Nat} : i ∈ ks.take q ++ [x] ++ ks.drop q ↔ i = x ∨ i ∈ ks := by
  constructor
  · intro h
    rcases List.mem_append.mp h with h | h
    · rcases List.mem_append.mp h with h | h
      · exact .inr (List.mem_of_mem_take h)
      · exact .inl (by simpa using h)
    · exact .inr (List.mem_of_mem_drop h)
  · rintro (rfl | h)
    · simp
    · rw [← List.take_append_drop q ks] at h
      rcases List.mem_append.mp h with h | h
      · simp [h]
      · simp [h]
theorem ins_nodup {ks : List Nat} {q x : Nat} (nd : ks.Nodup) (hx : x ∉ ks) : (ks.take q ++ [x] ++ ks.drop q).Nodup := by
  have h : (ks.take q ++ [x] ++ ks.drop q).Perm (x :: ks) := by
    have h1 : (ks.take q ++ [x] ++ ks.drop q).Perm ([x] ++ ks.take q ++ ks.drop q) := List.Perm.append_right _ List.perm_append_comm
    rw [List.append_assoc, List.append_assoc, List.take_append_drop] at h1
    rw [List.append_assoc]
    exact h1
  exact h.nodup_iff.mpr (List.nodup_cons.mpr ⟨hx, nd⟩)
theorem oldN_testBit (ks : List Nat) (m i : Nat) : (oldN ks m).testBit i = true ↔ ∃ p, p < ks.length ∧ m.testBit p = true ∧ ks.getD p 0 = i := by
  unfold oldN
  rw [orN_testBit, Nat.zero_testBit, Bool.false_or, decide_eq_true_eq, List.mem_map]
  constructor
  · rintro ⟨p, hp, e⟩; exact ⟨p, (mem_bitsN.mp hp).1, (mem_bitsN.mp hp).2, e⟩
  · rintro ⟨p, h1, h2, e⟩; exact ⟨p, mem_bitsN.mpr ⟨h1, h2⟩, e⟩
theorem idx_get {ks : List Nat} {h : Nat} (hm : h ∈ ks) : ks.idxOf h < ks.length ∧ ks.getD (ks.idxOf h) 0 = h := by
  have h1 : ks.idxOf h < ks.length := List.idxOf_lt_length_of_mem hm
  refine ⟨h1, ?_⟩
  rw [List.getD_eq_getElem?_getD, List.getElem?_eq_getElem h1]
  simp
theorem idx_up (ks : List Nat) (h : Nat) : (up ks).idxOf (h : Int) = ks.idxOf h := by
  unfold up
  induction ks with
  | nil => rfl
  | cons k ks ih =>
    rw [List.map_cons, List.idxOf_cons, List.idxOf_cons, ih]
    have : ((k : Int) == (h : Int)) = (k == h) := by
      by_cases e : k = h
      · subst e; simp
      · have e' : ¬ (k : Int) = (h : Int) := by omega
        rw [beq_eq_false_iff_ne.mpr e, beq_eq_false_iff_ne.mpr e']
    rw [this]
theorem mem_up {ks : List Nat} {h : Nat} : (h : Int) ∈ up ks ↔ h ∈ ks := by
  unfold up
  rw [List.mem_map]
  constructor
  · rintro ⟨k, hk, e⟩; have : k = h := by omega
    exact this ▸ hk
  · intro hk; exact ⟨h, hk, rfl⟩
def inv (ks : List Nat) : List Nat := (List.range ks.length).map fun h => ks.idxOf h
theorem back_eq {t : List Int} {ks : List Nat} {n : Nat} (hl : ks.length = n) (hn : n ≤ 6) (ht : t.length = 2 ^ n) (h : ∀ i, i ∈ ks ↔ i < n) : byN (byN t ks) (inv ks) = t := by
  have hil : (inv ks).length = n := by unfold inv; simp [hl]
  have hig : ∀ p, p < n → (inv ks).getD p 0 = ks.idxOf p := fun p hp => by
    unfold inv
    rw [List.getD_eq_getElem?_getD, List.getElem?_map, List.getElem?_range (by omega)]; rfl
  have him : ∀ k ∈ inv ks, k < n := fun k hk => by
    unfold inv at hk
    obtain ⟨j, hj, rfl⟩ := List.mem_map.mp hk
    have := (idx_get (ks := ks) ((h j).mpr (by rw [List.mem_range] at hj; omega))).1
    omega
  apply list_ext_getD (by rw [byN_len, hil, ht])
  intro part hp
  rw [byN_len, hil] at hp
  have e1 : (byN (byN t ks) (inv ks)).getD part 0 = (byN t ks).getD (oldN (inv ks) part) 0 := getD_map_range (β := Int) _ (by rw [hil]; exact hp)
  have e2 : (byN t ks).getD (oldN (inv ks) part) 0 = t.getD (oldN ks (oldN (inv ks) part)) 0 := getD_map_range (β := Int) _ (by rw [hl]; exact oldN_lt him part)
  rw [e1, e2]
  congr 1
  apply Nat.eq_of_testBit_eq
  intro i
  apply Bool.eq_iff_iff.mpr
  rw [oldN_testBit]
  constructor
  · rintro ⟨p, hp1, hp2, e⟩
    obtain ⟨q, hq1, hq2, e'⟩ := (oldN_testBit _ _ _).mp hp2
    rw [hil] at hq1
    rw [hig q hq1] at e'
    subst e'
    rw [(idx_get ((h q).mpr hq1)).2] at e
    exact e ▸ hq2
  · intro hb
    have hi : i < n := by
      rcases Nat.lt_or_ge i n with q | q
      · exact q
      · have := Nat.testBit_lt_two_pow (Nat.lt_of_lt_of_le hp (Nat.pow_le_pow_right (n := 2) (by decide) q))
        rw [hb] at this; cases this
    obtain ⟨h1, h2⟩ := idx_get ((h i).mpr hi)
    exact ⟨ks.idxOf i, h1, (oldN_testBit _ _ _).mpr ⟨i, by omega, hb, hig i hi⟩, h2⟩
theorem at0 {α : Type} (x y : α) : atI [x, y] 0 = some x := rfl
theorem at1 {α : Type} (x y : α) : atI [x, y] 1 = some y := rfl
def rowtN (row : List Int) : List Int := (List.range (2 ^ row.length)).map fun g => givesN row g
theorem rowtN_len (row : List Int) : (rowtN row).length = 2 ^ row.length := by simp [rowtN]
def addN (a b : List Int) : List Int := (List.range a.length).map fun g => a.getD g 0 + b.getD g 0
theorem addN_len (a b : List Int) : (addN a b).length = a.length := by simp [addN]
end Gc

namespace Gc
open PySem L2
/-! ## counts of hands -/
def pc (g : Nat) : Nat := g % 2 + g / 2 % 2 + g / 4 % 2 + g / 8 % 2 + g / 16 % 2 + g / 32 % 2
theorem pc_fin : ∀ g : Fin 64, (bitsN 6 g.val).length = pc g.val := by decide +kernel
theorem pc_bits {n g : Nat} (hn : n ≤ 6) (hg : g < 2 ^ n) : (bitsN n g).length = pc g := by
  have h6 := pow6 hn
  rw [bitsN_eq hg (show g < 2 ^ 6 by omega)]
  exact pc_fin ⟨g, by omega⟩
theorem pc_le (g : Nat) : pc g ≤ 6 := by unfold pc; omega
theorem pc_mod_fin : ∀ a b : Fin 64, pc (a.val ||| b.val) + pc (a.val &&& b.val) = pc a.val + pc b.val ∧ pc (a.val &&& b.val) ≤ pc a.val ∧ pc (a.val &&& b.val) ≤ pc b.val := by decide +kernel
theorem pc_mod {a b : Nat} (ha : a < 64) (hb : b < 64) : pc (a ||| b) + pc (a &&& b) = pc a + pc b ∧ pc (a &&& b) ≤ pc a ∧ pc (a &&& b) ≤ pc b := pc_mod_fin ⟨a, ha⟩ ⟨b, hb⟩
theorem pc_sq_fin : ∀ a b : Fin 64, (a.val &&& b.val = a.val ∧ a.val ||| b.val = b.val) ∨ (a.val &&& b.val = b.val ∧ a.val ||| b.val = a.val) ∨ pc a.val * pc a.val + pc b.val * pc b.val + 2 ≤ pc (a.val ||| b.val) * pc (a.val ||| b.val) + pc (a.val &&& b.val) * pc (a.val &&& b.val) := by decide +kernel
theorem pc_sq {a b : Nat} (ha : a < 64) (hb : b < 64) : (a &&& b = a ∧ a ||| b = b) ∨ (a &&& b = b ∧ a ||| b = a) ∨ pc a * pc a + pc b * pc b + 2 ≤ pc (a ||| b) * pc (a ||| b) + pc (a &&& b) * pc (a &&& b) := pc_sq_fin ⟨a, ha⟩ ⟨b, hb⟩
/-! ## sums -/
def sumTo : Nat → (Nat → Int) → Int
  | 0, _ => 0
  | n + 1, f => sumTo n f + f n
theorem sumTo_congr {f g : Nat → Int} : ∀ {n : Nat}, (∀ i, i < n → f i = g i) → sumTo n f = sumTo n g
  | 0, _ => rfl
  | n + 1, h => by
    show sumTo n f + f n = sumTo n g + g n
    rw [sumTo_congr fun i hi => h i (by omega), h n (by omega)]
theorem sumTo_zero : ∀ (n : Nat), sumTo n (fun _ => 0) = 0
  | 0 => rfl
  | n + 1 => by show sumTo n _ + 0 = 0; rw [sumTo_zero n]; rfl
theorem sumTo_add (f g : Nat → Int) : ∀ (n : Nat), sumTo n (fun i => f i + g i) = sumTo n f + sumTo n g
  | 0 => rfl
  | n + 1 => by show sumTo n _ + (f n + g n) = (sumTo n f + f n) + (sumTo n g + g n); rw [sumTo_add f g n]; omega
theorem sumTo_at (k : Nat) (x : Int) : ∀ (n : Nat), sumTo n (fun i => if i = k then x else 0) = if k < n then x else 0
  | 0 => by simp [sumTo]
  | n + 1 => by
    show sumTo n _ + (if n = k then x else 0) = _
    rw [sumTo_at k x n]
    by_cases h1 : n = k
    · subst h1; simp
    · by_cases h2 : k < n
      · rw [if_pos h2, if_neg h1, if_pos (by omega)]; omega
      · rw [if_neg h2, if_neg h1, if_neg (by omega)]; omega
theorem bits_sum (f : Nat → Int) (g : Nat) : ∀ n : Nat, ((bitsN n g).map f).sum = sumTo n (fun i => if g.testBit i = true then f i else 0)
  | 0 => rfl
  | n + 1 => by
    rw [bitsN_succ, List.map_append, List.sum_append, bits_sum f g n]
    show _ = sumTo n _ + _
    congr 1
    show _ = if g.testBit n = true then f n else 0
    by_cases h : g.testBit n = true
    · rw [if_pos h, if_pos h]; simp
    · rw [if_neg h, if_neg h]; rfl
theorem givesN_sum (row : List Int) (g : Nat) : givesN row g = sumTo row.length (fun i => if g.testBit i = true then row.getD i 0 else 0) := bits_sum _ g row.length
theorem givesN_zero (row : List Int) : givesN row 0 = 0 := by
  rw [givesN_sum, sumTo_congr (g := fun _ => 0) fun i _ => by simp, sumTo_zero]
theorem givesN_add1 {row : List Int} {g k : Nat} (hk : k < row.length) (h : g.testBit k = false) : givesN row (g ||| 2 ^ k) = givesN row g + row.getD k 0 := by
  rw [givesN_sum, givesN_sum]
  have e : sumTo row.length (fun i => if (g ||| 2 ^ k).testBit i = true then row.getD i 0 else 0) = sumTo row.length (fun i => (if g.testBit i = true then row.getD i 0 else 0) + (if i = k then row.getD k 0 else 0)) := by
    apply sumTo_congr
    intro i _
    rw [Nat.testBit_or, Nat.testBit_two_pow]
    by_cases e : i = k
    · subst e; simp [h]
    · have e' : ¬ k = i := fun z => e z.symm
      simp [e, e']
  rw [e, sumTo_add, sumTo_at, if_pos hk]
/-! ## tables that fall -/
def FallsF (f : Nat → Int) (n : Nat) : Prop := ∀ a b, a < 2 ^ n → b < 2 ^ n → f (a ||| b) + f (a &&& b) ≤ f a + f b
def Falls (t : List Int) (n : Nat) : Prop := FallsF (fun g => t.getD g 0) n
theorem FallsF.add {f g : Nat → Int} {n : Nat} (hf : FallsF f n) (hg : FallsF g n) : FallsF (fun x => f x + g x) n := fun a b ha hb => by
  have := hf a b ha hb; have := hg a b ha hb; show _ + _ + (_ + _) ≤ _ + _ + (_ + _); omega
theorem FallsF.mul {f : Nat → Int} {n : Nat} {c : Int} (hc : 0 ≤ c) (hf : FallsF f n) : FallsF (fun x => c * f x) n := fun a b ha hb => by
  have := Int.mul_le_mul_of_nonneg_left (hf a b ha hb) hc
  rw [Int.mul_add, Int.mul_add] at this
  exact this
theorem FallsF.zero (n : Nat) : FallsF (fun _ => 0) n := fun _ _ _ _ => by simp
theorem or_lt {n a b : Nat} (ha : a < 2 ^ n) (hb : b < 2 ^ n) : a ||| b < 2 ^ n := Nat.or_lt_two_pow ha hb
theorem and_lt {n a b : Nat} (ha : a < 2 ^ n) : a &&& b < 2 ^ n := Nat.lt_of_le_of_lt Nat.and_le_left ha
theorem FallsF.congr {f g : Nat → Int} {n : Nat} (h : ∀ a, a < 2 ^ n → f a = g a) (hf : FallsF f n) : FallsF g n := fun a b ha hb => by
  have := hf a b ha hb
  rwa [h _ (or_lt ha hb), h _ (and_lt ha), h a ha, h b hb] at this
theorem falls_min {n : Nat} (hn : n ≤ 6) (P m : Nat) : FallsF (fun g => ((min (pc (g &&& P)) m : Nat) : Int)) n := fun a b ha hb => by
  have h6 := pow6 hn
  have ha' : a &&& P < 64 := Nat.lt_of_le_of_lt Nat.and_le_left (by omega)
  have hb' : b &&& P < 64 := Nat.lt_of_le_of_lt Nat.and_le_left (by omega)
  obtain ⟨h1, h2, h3⟩ := pc_mod ha' hb'
  have e1 : (a &&& P) ||| (b &&& P) = (a ||| b) &&& P := by
    apply Nat.eq_of_testBit_eq; intro i; simp only [Nat.testBit_and, Nat.testBit_or]
    cases a.testBit i <;> cases b.testBit i <;> cases P.testBit i <;> rfl
  have e2 : (a &&& P) &&& (b &&& P) = (a &&& b) &&& P := by
    apply Nat.eq_of_testBit_eq; intro i; simp only [Nat.testBit_and]
    cases a.testBit i <;> cases b.testBit i <;> cases P.testBit i <;> rfl
  rw [e1, e2] at h1
  rw [e2] at h2 h3
  show ((min (pc ((a ||| b) &&& P)) m : Nat) : Int) + ((min (pc ((a &&& b) &&& P)) m : Nat) : Int) ≤ ((min (pc (a &&& P)) m : Nat) : Int) + ((min (pc (b &&& P)) m : Nat) : Int)
  omega
def bitI (g h : Nat) : Int := if g.testBit h = true then 1 else 0
theorem falls_bit (n h : Nat) (x : Int) : FallsF (fun g => x * bitI g h) n := fun a b _ _ => by
  show x * bitI (a ||| b) h + x * bitI (a &&& b) h ≤ x * bitI a h + x * bitI b h
  unfold bitI
  rw [Nat.testBit_or, Nat.testBit_and]
  cases a.testBit h <;> cases b.testBit h <;> simp
theorem falls_noise {n : Nat} (hn : n ≤ 6) {r : Nat → Int} {far : Int} (h : ∀ g, g < 2 ^ n → 0 ≤ r g ∧ r g < far) : FallsF (fun g => r g - far * (pc g : Int) * (pc g : Int)) n := fun a b ha hb => by
  have h6 := pow6 hn
  show r (a ||| b) - far * (pc (a ||| b) : Int) * (pc (a ||| b) : Int) + (r (a &&& b) - far * (pc (a &&& b) : Int) * (pc (a &&& b) : Int)) ≤ r a - far * (pc a : Int) * (pc a : Int) + (r b - far * (pc b : Int) * (pc b : Int))
  rcases pc_sq (a := a) (b := b) (by omega) (by omega) with ⟨e1, e2⟩ | ⟨e1, e2⟩ | q
  · rw [e1, e2]; omega
  · rw [e1, e2]; omega
  · have h1 := h _ (or_lt ha hb)
    have h2 := h _ (and_lt (b := b) ha)
    have h3 := h a ha
    have h4 := h b hb
    have q' : (pc a : Int) * pc a + (pc b : Int) * pc b + 2 ≤ (pc (a ||| b) : Int) * pc (a ||| b) + (pc (a &&& b) : Int) * pc (a &&& b) := by exact_mod_cast q
    have hm := Int.mul_le_mul_of_nonneg_left q' (show 0 ≤ far by omega)
    rw [Int.mul_add, Int.mul_add, Int.mul_add] at hm
    simp only [Int.mul_assoc]
    omega
/-- what makes a table of n hands -/
structure Tab (n : Nat) (t : List Int) : Prop where
  len : t.length = 2 ^ n
  zero : t.getD 0 0 = 0
/-! ## loops that add at each place -/
theorem upd_loop {ρ μ : Type} {b : Int → List Int → Option (Out (List Int) (List Int) ρ)} {m : Nat} (d : Nat → Int) {s : List Int} (hs : s.length = m)
    (h : ∀ k, k < m → ∀ s : List Int, s.length = m → b (k : Int) s = some (.nx (s.set k (s.getD k 0 + d k)))) :
    (forO b (natL m) s : Option (Out (List Int) μ ρ)) = some (.nx ((List.range m).map fun k => s.getD k 0 + d k)) := by
  obtain ⟨s', e, h1, h2, h3⟩ := forO_inv (μ := μ) (ρ := ρ) (b := b) (fun pre s' => s'.length = m ∧ (∀ k, k < pre.length → s'.getD k 0 = s.getD k 0 + d k) ∧ ∀ k, pre.length ≤ k → s'.getD k 0 = s.getD k 0) (natL m) (s := s) ⟨hs, fun k hk => absurd hk (by simp), fun _ _ => rfl⟩ (fun pre x post s' hx ⟨h1, h2, h3⟩ => by
    have hpl : pre.length < m := by have := congrArg List.length hx; rw [natL_length] at this; simp at this; omega
    have hxx : x = (pre.length : Int) := by
      have h := congrArg (fun l => l[pre.length]?) hx
      simp [natL, List.getElem?_map, List.getElem?_range hpl] at h
      exact h.symm
    subst hxx
    refine ⟨_, h _ hpl s' h1, by rw [List.length_set]; exact h1, fun k hk => ?_, fun k hk => ?_⟩
    · rw [List.length_append, List.length_singleton] at hk
      by_cases e : k = pre.length
      · subst e
        rw [List.getD_eq_getElem?_getD, List.getElem?_set_self (by omega), h3 _ (Nat.le_refl _)]; rfl
      · rw [List.getD_eq_getElem?_getD, List.getElem?_set_ne (by omega), ← List.getD_eq_getElem?_getD]
        exact h2 k (by omega)
    · rw [List.length_append, List.length_singleton] at hk
      rw [List.getD_eq_getElem?_getD, List.getElem?_set_ne (by omega), ← List.getD_eq_getElem?_getD]
      exact h3 k (by omega))
  rw [natL_length] at h2
  rw [e]
  congr 2
  apply list_ext_getD (by simp [h1])
  intro k hk
  rw [h2 k (by omega), getD_map_range (β := Int) _ (by omega)]
/-- a loop that appends -/
theorem app_loop {ρ μ : Type} {b : Int → List Int → Option (Out (List Int) (List Int) ρ)} {m : Nat} (d : Nat → Int) {xs : List Int} (s0 : List Int) (hx : xs.length = m)
    (h : ∀ k, k < m → ∀ s : List Int, s.length = s0.length + k → b (xs.getD k 0) s = some (.nx (s ++ [d k]))) :
    (forO b xs s0 : Option (Out (List Int) μ ρ)) = some (.nx (s0 ++ (List.range m).map d)) := by
  obtain ⟨s', e, h1⟩ := forO_inv (μ := μ) (ρ := ρ) (b := b) (fun pre s' => s' = s0 ++ (List.range pre.length).map d) xs (s := s0) (by simp) (fun pre x post s' hxs h1 => by
    have hpl : pre.length < m := by rw [← hx, hxs]; simp
    have hxx : x = xs.getD pre.length 0 := by rw [hxs, List.getD_eq_getElem?_getD]; simp
    subst h1
    rw [hxx]
    refine ⟨_, h _ hpl _ (by simp), ?_⟩
    rw [List.length_append, List.length_singleton, List.range_succ, List.map_append, List.append_assoc]; rfl)
  rw [e, h1, hx]
theorem upd_tab {n : Nat} {s : List Int} {d : Nat → Int} (T : Tab n s) (F : Falls s n) (hd : FallsF d n) (h0 : d 0 = 0) : Tab n ((List.range (2 ^ n)).map fun k => s.getD k 0 + d k) ∧ Falls ((List.range (2 ^ n)).map fun k => s.getD k 0 + d k) n := by
  refine ⟨⟨by simp, ?_⟩, FallsF.congr (fun a ha => ?_) (F.add hd)⟩
  · rw [getD_map_range (β := Int) _ (Nat.two_pow_pos n), T.zero, h0]; rfl
  · rw [getD_map_range (β := Int) _ ha]
theorem upd_bd {m a : Nat} {s : List Int} {d : Nat → Int} (hs : s.length = m) (h : ∀ x ∈ s, Bd a x) (hd : ∀ k, k < m → Bd a (d k)) : ∀ x ∈ (List.range m).map fun k => s.getD k 0 + d k, Bd (a + 1) x := by
  intro x hx
  obtain ⟨k, hk, rfl⟩ := List.mem_map.mp hx
  have hk' : k < m := List.mem_range.mp hk
  exact (h _ (mem_getD (by omega))).add (hd k hk')
theorem bitand1 (g k : Nat) : Builtin.bitAnd ((g >>> k : Nat) : Int) 1 = bitI g k := by
  have e : Builtin.bitAnd ((g >>> k : Nat) : Int) 1 = (((g >>> k) &&& 1 : Nat) : Int) := band_nat (g >>> k) 1
  rw [e, Nat.and_one_is_mod, Nat.shiftRight_eq_div_pow]
  unfold bitI
  rw [Nat.testBit_eq_decide_div_mod_eq]
  rcases Nat.mod_two_eq_zero_or_one (g / 2 ^ k) with q | q <;> simp [q]
theorem zeros_tab (n : Nat) : Tab n ((natL (2 ^ n)).map fun (_ : Int) => (0 : Int)) ∧ Falls ((natL (2 ^ n)).map fun (_ : Int) => (0 : Int)) n := by
  have e : ((natL (2 ^ n)).map fun (_ : Int) => (0 : Int)) = (List.range (2 ^ n)).map fun _ => (0 : Int) := by unfold natL; rw [List.map_map]; rfl
  have g : ∀ k, ((List.range (2 ^ n)).map fun _ => (0 : Int)).getD k 0 = 0 := fun k => by
    rw [List.getD_eq_getElem?_getD, List.getElem?_map]
    cases (List.range (2 ^ n))[k]? <;> rfl
  rw [e]
  exact ⟨⟨by simp, g 0⟩, FallsF.congr (fun a _ => (g a).symm) (FallsF.zero n)⟩
theorem scale_tab {n : Nat} {s : List Int} {c : Int} (T : Tab n s) (F : Falls s n) (hc : 0 ≤ c) : Tab n (s.map fun x => c * x) ∧ Falls (s.map fun x => c * x) n := by
  have g : ∀ k, (s.map fun x => c * x).getD k 0 = c * s.getD k 0 := fun k => by
    rw [List.getD_eq_getElem?_getD, List.getD_eq_getElem?_getD, List.getElem?_map]
    cases s[k]? <;> simp
  exact ⟨⟨by rw [List.length_map]; exact T.len, by rw [g, T.zero, Int.mul_zero]⟩, FallsF.congr (fun a _ => (g a).symm) (F.mul hc)⟩
def E40 : Int := 10 ^ 40
theorem e40 : (10 : Int) ^ 40 = E40 := rfl
theorem E40_pos : 0 < E40 := by decide +kernel
theorem E40_bd : E40.toNat < 2 ^ 133 := by decide +kernel
def E59 : Int := 10 ^ 59
theorem e59 : (10 : Int) ^ 59 = E59 := rfl
theorem E59_pos : 1000 < E59 := by decide +kernel
theorem E59_bd : E59.toNat < 2 ^ 197 := by decide +kernel
theorem E60_bd : E60.toNat < 2 ^ 200 := by decide +kernel
theorem E60_big : 1000 < E60 := by decide +kernel
theorem three (a b c k : Int) : atI [a, b, c] (k % 3) = some a ∨ atI [a, b, c] (k % 3) = some b ∨ atI [a, b, c] (k % 3) = some c := by
  rcases (show k % 3 = 0 ∨ k % 3 = 1 ∨ k % 3 = 2 by omega) with q | q | q <;> rw [q]
  · exact .inl rfl
  · exact .inr (.inl rfl)
  · exact .inr (.inr rfl)
theorem two (a b k : Int) : atI [a, b] (k % 2) = some a ∨ atI [a, b] (k % 2) = some b := by
  rcases (show k % 2 = 0 ∨ k % 2 = 1 by omega) with q | q <;> rw [q]
  · exact .inl rfl
  · exact .inr rfl
theorem big130' {β : Type} (cost : Int) (k : Int → Option β) (hb : Bd 300 cost) : (powO (10 ^ 50) 2).bind (fun z => (mulO cost z).bind fun z1 => (mulO z1 (10 ^ 30)).bind k) = k (E130 * cost) := by
  have e1 : powO (10 ^ 50) 2 = some (10 ^ 100) := by
    have h : (0 : Int) ≤ 2 ∧ (Builtin.Int.intBits (10 ^ 50) : Int) * 2 ≤ 2 ^ 27 := by decide +kernel
    have h2 : ((10 : Int) ^ 50) ^ (2 : Int).toNat = 10 ^ 100 := by decide +kernel
    unfold powO
    rw [if_pos h, h2]
  have b1 : Bd 400 ((10 : Int) ^ 100) := by
    have h : ((10 : Int) ^ 100).natAbs < 2 ^ 400 := by decide +kernel
    exact h
  have b2 : Bd 100 ((10 : Int) ^ 30) := by
    have h : ((10 : Int) ^ 30).natAbs < 2 ^ 100 := by decide +kernel
    exact h
  have h3 : (10 : Int) ^ 100 * 10 ^ 30 = E130 := by decide +kernel
  rw [e1, bs, hb.mulO b1, bs, (hb.mul b1).mulO b2, bs, Int.mul_assoc, h3, Int.mul_comm]
theorem E130_pos : 0 ≤ E130 := by decide +kernel
/-- a loop, by how many items are taken -/
theorem forO_idx {ν ρ μ : Type} {b : Int → ν → Option (Out ν ν ρ)} (I : Nat → ν → Prop) (xs : List Int) {s : ν} (h0 : I 0 s) (h : ∀ j s, j < xs.length → I j s → ∃ s', b (xs.getD j 0) s = some (.nx s') ∧ I (j + 1) s') : ∃ s', (forO b xs s : Option (Out ν μ ρ)) = some (.nx s') ∧ I xs.length s' :=
  forO_inv (fun pre s => I pre.length s) xs h0 fun pre x post s hx hi => by
    have hpl : pre.length < xs.length := by rw [hx]; simp
    have hxx : xs.getD pre.length 0 = x := by rw [hx, List.getD_eq_getElem?_getD]; simp
    obtain ⟨s', e, i'⟩ := h pre.length s hpl hi
    rw [hxx] at e
    exact ⟨s', e, by rw [List.length_append]; exact i'⟩
theorem natL_getD {n k : Nat} (h : k < n) : (natL n).getD k 0 = (k : Int) := getD_map_range (β := Int) _ h
/-! ## orders -/
structure Perm (n : Nat) (ks : List Nat) : Prop where
  len : ks.length = n
  nd : ks.Nodup
  mem : ∀ i, i ∈ ks ↔ i < n
theorem Perm.getD_lt {n : Nat} {ks : List Nat} (P : Perm n ks) {j : Nat} (h : j < n) : ks.getD j 0 < n := (P.mem _).mp (mem_getDN (by rw [P.len]; exact h))
/-- the group of the first hands of an order -/
def pm (ks : List Nat) (j : Nat) : Nat := orN 0 (ks.take j)
theorem pm_zero (ks : List Nat) : pm ks 0 = 0 := rfl
theorem orN_append (a : Nat) (xs ys : List Nat) : orN a (xs ++ ys) = orN (orN a xs) ys := by unfold orN; rw [List.foldl_append]
theorem pm_succ {ks : List Nat} {j : Nat} (h : j < ks.length) : pm ks (j + 1) = pm ks j ||| 2 ^ (ks.getD j 0) := by
  unfold pm
  rw [List.take_succ, List.getD_eq_getElem?_getD, List.getElem?_eq_getElem h]
  show orN 0 (ks.take j ++ [ks[j]]) = _
  rw [orN_append]; rfl
theorem pm_testBit (ks : List Nat) (j i : Nat) : (pm ks j).testBit i = decide (i ∈ ks.take j) := by
  unfold pm; rw [orN_testBit, Nat.zero_testBit, Bool.false_or]
theorem Perm.pm_lt {n : Nat} {ks : List Nat} (P : Perm n ks) (j : Nat) : pm ks j < 2 ^ n := orN_lt (Nat.two_pow_pos n) fun k hk => (P.mem k).mp (List.mem_of_mem_take hk)
theorem Perm.pm_new {n : Nat} {ks : List Nat} (P : Perm n ks) {j : Nat} (h : j < n) : (pm ks j).testBit (ks.getD j 0) = false := by
  rw [pm_testBit]
  apply decide_eq_false
  intro hm
  obtain ⟨i, hi, e⟩ := List.mem_take_iff_getElem.mp hm
  have hij : i < j := by omega
  have := getD_inj P.nd (i := i) (j := j) (by omega) (by rw [P.len]; exact h) (by rw [List.getD_eq_getElem?_getD, List.getElem?_eq_getElem (by omega)]; exact e)
  omega
theorem Perm.pm_all {n : Nat} {ks : List Nat} (P : Perm n ks) : pm ks n = 2 ^ n - 1 := by
  apply Nat.eq_of_testBit_eq
  intro i
  rw [pm_testBit, Nat.testBit_two_pow_sub_one, ← P.len, List.take_length]
  exact decide_eq_decide.mpr (by rw [P.mem, P.len])
theorem Perm.pm_plus {n : Nat} {ks : List Nat} (P : Perm n ks) (hn : n ≤ 6) {j : Nat} (h : j < n) : pm ks j + 2 ^ (ks.getD j 0) = pm ks (j + 1) := by
  have h6 := pow6 hn
  have h1 := P.pm_lt j
  have h2 := P.getD_lt h
  rw [pm_succ (by rw [P.len]; exact h)]
  exact (or_fin ⟨pm ks j, by omega⟩ ⟨ks.getD j 0, by omega⟩ (P.pm_new h)).1.symm
/-- what hands add in an order -/
def greedy (t : List Int) (ks : List Nat) : List Int := (List.range ks.length).map fun h => t.getD (pm ks (ks.idxOf h + 1)) 0 - t.getD (pm ks (ks.idxOf h)) 0
theorem greedy_len (t : List Int) (ks : List Nat) : (greedy t ks).length = ks.length := by simp [greedy]
theorem Perm.idx {n : Nat} {ks : List Nat} (P : Perm n ks) {j : Nat} (h : j < n) : ks.idxOf (ks.getD j 0) = j := by
  have hm := mem_getDN (ks := ks) (p := j) (by rw [P.len]; exact h)
  obtain ⟨h1, h2⟩ := idx_get hm
  exact getD_inj P.nd h1 (by rw [P.len]; exact h) h2
theorem Perm.greedy_at {n : Nat} {ks : List Nat} (P : Perm n ks) (t : List Int) {j : Nat} (h : j < n) : (greedy t ks).getD (ks.getD j 0) 0 = t.getD (pm ks (j + 1)) 0 - t.getD (pm ks j) 0 := by
  unfold greedy
  rw [getD_map_range (β := Int) _ (by rw [P.len]; exact P.getD_lt h), P.idx h]
/-- a list that is so at each of the order's hands is that one -/
theorem Perm.greedy_of {n : Nat} {ks : List Nat} (P : Perm n ks) {t s : List Int} (hl : s.length = n) (h : ∀ j, j < n → s.getD (ks.getD j 0) 0 = t.getD (pm ks (j + 1)) 0 - t.getD (pm ks j) 0) : s = greedy t ks := by
  apply list_ext_getD (by rw [greedy_len, P.len]; exact hl)
  intro k hk
  have hm : k ∈ ks := (P.mem k).mpr (by omega)
  obtain ⟨h1, h2⟩ := idx_get hm
  have h3 := h (ks.idxOf k) (by rw [← P.len]; exact h1)
  have h4 := P.greedy_at t (j := ks.idxOf k) (by rw [← P.len]; exact h1)
  rw [h2] at h3 h4
  rw [h3, h4]
/-- a falling table gives each group no more than it costs, in any order -/
theorem Perm.under {n : Nat} {ks : List Nat} (P : Perm n ks) {t : List Int} (T : Tab n t) (F : Falls t n) : ∀ S, S < 2 ^ n → givesN (greedy t ks) S ≤ t.getD S 0 := by
  have key : ∀ j, j ≤ n → ∀ S, S < 2 ^ n → givesN (greedy t ks) (S &&& pm ks j) ≤ t.getD (S &&& pm ks j) 0 ∧ givesN (greedy t ks) (pm ks j) = t.getD (pm ks j) 0 := by
    intro j
    induction j with
    | zero => intro _ S _; rw [pm_zero, Nat.and_zero, givesN_zero, T.zero]; exact ⟨Int.le_refl _, rfl⟩
    | succ j ih =>
      intro hj S hS
      obtain ⟨h1, h2⟩ := ih (by omega) S hS
      have hlt : j < n := by omega
      have hk := P.getD_lt hlt
      have hnew := P.pm_new hlt
      have hat := P.greedy_at t hlt
      have hl : (greedy t ks).length = n := by rw [greedy_len, P.len]
      have hsucc := pm_succ (ks := ks) (j := j) (by rw [P.len]; exact hlt)
      have hg : givesN (greedy t ks) (pm ks (j + 1)) = t.getD (pm ks (j + 1)) 0 := by
        rw [hsucc, givesN_add1 (by omega) hnew, ← hsucc, h2, hat]; omega
      refine ⟨?_, hg⟩
      by_cases c : S.testBit (ks.getD j 0) = true
      · have e1 : S &&& pm ks (j + 1) = (S &&& pm ks j) ||| 2 ^ (ks.getD j 0) := by
          rw [hsucc]
          apply Nat.eq_of_testBit_eq; intro i
          simp only [Nat.testBit_and, Nat.testBit_or, Nat.testBit_two_pow]
          generalize ks.getD j 0 = q at c
          by_cases e : q = i
          · rw [e] at c; simp [c, e]
          · simp [e]
        have hn2 : (S &&& pm ks j).testBit (ks.getD j 0) = false := by rw [Nat.testBit_and, hnew]; simp
        have f := F (S &&& pm ks (j + 1)) (pm ks j) (and_lt hS) (P.pm_lt j)
        have e2 : (S &&& pm ks (j + 1)) ||| pm ks j = pm ks (j + 1) := by
          rw [e1, hsucc]
          apply Nat.eq_of_testBit_eq; intro i
          simp only [Nat.testBit_and, Nat.testBit_or, Nat.testBit_two_pow]
          cases S.testBit i <;> cases (pm ks j).testBit i <;> simp
        have e3 : (S &&& pm ks (j + 1)) &&& pm ks j = S &&& pm ks j := by
          rw [hsucc]
          apply Nat.eq_of_testBit_eq; intro i
          simp only [Nat.testBit_and, Nat.testBit_or, Nat.testBit_two_pow]
          cases S.testBit i <;> cases (pm ks j).testBit i <;> simp
        rw [e2, e3] at f
        have f' : t.getD (pm ks (j + 1)) 0 + t.getD (S &&& pm ks j) 0 ≤ t.getD (S &&& pm ks (j + 1)) 0 + t.getD (pm ks j) 0 := f
        have hgv : givesN (greedy t ks) (S &&& pm ks (j + 1)) = givesN (greedy t ks) (S &&& pm ks j) + (t.getD (pm ks (j + 1)) 0 - t.getD (pm ks j) 0) := by
          rw [e1, givesN_add1 (by omega) hn2, hat]
        omega
      · have e1 : S &&& pm ks (j + 1) = S &&& pm ks j := by
          rw [hsucc]
          apply Nat.eq_of_testBit_eq; intro i
          simp only [Nat.testBit_and, Nat.testBit_or, Nat.testBit_two_pow]
          generalize ks.getD j 0 = q at c
          by_cases e : q = i
          · rw [e] at c; simp [c]
          · simp [e]
        rw [e1]; exact h1
  intro S hS
  have := (key n (Nat.le_refl n) S hS).1
  rw [P.pm_all, Nat.and_two_pow_sub_one_of_lt_two_pow hS] at this
  exact this
theorem Perm.gives_pm {n : Nat} {ks : List Nat} (P : Perm n ks) {t : List Int} (T : Tab n t) : ∀ j, j ≤ n → givesN (greedy t ks) (pm ks j) = t.getD (pm ks j) 0
  | 0, _ => by rw [pm_zero, givesN_zero, T.zero]
  | j + 1, hj => by
    have hl : (greedy t ks).length = n := by rw [greedy_len, P.len]
    have hlt : j < n := by omega
    have hsucc := pm_succ (ks := ks) (j := j) (by rw [P.len]; exact hlt)
    have := P.getD_lt hlt
    rw [hsucc, givesN_add1 (by omega) (P.pm_new hlt), ← hsucc, P.gives_pm T j (by omega), P.greedy_at t hlt]; omega
/-! ## how far over -/
def ovStep (t s : List Int) (st : Int × Int) (k : Nat) : Int × Int := if st.2 < givesN s k - t.getD k 0 then ((k : Int), givesN s k - t.getD k 0) else st
def overN (t s : List Int) : Int × Int := (List.range t.length).foldl (ovStep t s) (0, 0)
theorem over_spec (t s : List Int) : 0 ≤ (overN t s).2 ∧ (∀ k, k < t.length → givesN s k - t.getD k 0 ≤ (overN t s).2) ∧ ((overN t s).2 = 0 ∨ ∃ k, k < t.length ∧ (overN t s) = ((k : Int), givesN s k - t.getD k 0)) := by
  have key : ∀ m, 0 ≤ ((List.range m).foldl (ovStep t s) (0, 0)).2 ∧ (∀ k, k < m → givesN s k - t.getD k 0 ≤ ((List.range m).foldl (ovStep t s) (0, 0)).2) ∧ (((List.range m).foldl (ovStep t s) (0, 0)).2 = 0 ∨ ∃ k, k < m ∧ ((List.range m).foldl (ovStep t s) (0, 0)) = ((k : Int), givesN s k - t.getD k 0)) := by
    intro m
    induction m with
    | zero => exact ⟨Int.le_refl _, fun k hk => absurd hk (by omega), .inl rfl⟩
    | succ m ih =>
      obtain ⟨h1, h2, h3⟩ := ih
      rw [List.range_succ, List.foldl_append]
      show 0 ≤ (ovStep t s ((List.range m).foldl (ovStep t s) (0, 0)) m).2 ∧ (∀ k, k < m + 1 → givesN s k - t.getD k 0 ≤ (ovStep t s ((List.range m).foldl (ovStep t s) (0, 0)) m).2) ∧ ((ovStep t s ((List.range m).foldl (ovStep t s) (0, 0)) m).2 = 0 ∨ ∃ k, k < m + 1 ∧ (ovStep t s ((List.range m).foldl (ovStep t s) (0, 0)) m) = ((k : Int), givesN s k - t.getD k 0))
      generalize (List.range m).foldl (ovStep t s) (0, 0) = st at h1 h2 h3
      unfold ovStep
      split
      · next c =>
        refine ⟨by show 0 ≤ givesN s m - t.getD m 0; omega, fun k hk => ?_, .inr ⟨m, by omega, rfl⟩⟩
        show _ ≤ givesN s m - t.getD m 0
        by_cases e : k = m
        · subst e; exact Int.le_refl _
        · have := h2 k (by omega); omega
      · next c =>
        refine ⟨h1, fun k hk => ?_, ?_⟩
        · by_cases e : k = m
          · subst e; omega
          · exact h2 k (by omega)
        · rcases h3 with h | ⟨k, hk, e⟩
          · exact .inl h
          · exact .inr ⟨k, by omega, e⟩
  exact key t.length
theorem sumTo_le {f : Nat → Int} {B : Int} : ∀ {n : Nat}, (∀ i, i < n → 0 ≤ f i ∧ f i ≤ B) → 0 ≤ sumTo n f ∧ sumTo n f ≤ n * B
  | 0, _ => by simp [sumTo]
  | n + 1, h => by
    have := sumTo_le (n := n) fun i hi => h i (by omega)
    have h2 := h n (by omega)
    have e : ((n + 1 : Nat) : Int) * B = n * B + B := by rw [Int.natCast_add, Int.add_mul]; simp
    rw [e]
    show 0 ≤ sumTo n f + f n ∧ sumTo n f + f n ≤ _
    omega
theorem sumTo_one {f : Nat → Int} : ∀ {n : Nat}, (∀ i, i < n → 0 ≤ f i) → ∀ i, i < n → f i ≤ sumTo n f
  | 0, _, i, hi => absurd hi (by omega)
  | n + 1, h, i, hi => by
    have hs : 0 ≤ sumTo n f := by
      have key : ∀ m, m ≤ n → 0 ≤ sumTo m f := by
        intro m
        induction m with
        | zero => intro _; exact Int.le_refl _
        | succ m ih => intro hm; have := ih (by omega); have := h m (by omega); show 0 ≤ sumTo m f + f m; omega
      exact key n (Nat.le_refl n)
    have h2 := h n (by omega)
    show f i ≤ sumTo n f + f n
    by_cases e : i = n
    · subst e; omega
    · have := sumTo_one (n := n) (fun i hi => h i (by omega)) i (by omega); omega
theorem exists_bit {n g : Nat} (hg : g < 2 ^ n) (h0 : g ≠ 0) : ∃ i, i < n ∧ g.testBit i = true := by
  obtain ⟨i, hi⟩ := Nat.exists_testBit_of_ne_zero h0
  refine ⟨i, ?_, hi⟩
  rcases Nat.lt_or_ge i n with q | q
  · exact q
  · have := Nat.testBit_lt_two_pow (Nat.lt_of_lt_of_le hg (Nat.pow_le_pow_right (n := 2) (by decide) q))
    rw [hi] at this; cases this
theorem givesN_pos {row : List Int} {g : Nat} {B : Int} (h : ∀ x ∈ row, 1 ≤ x ∧ x ≤ B) (hg : g < 2 ^ row.length) (h0 : g ≠ 0) : 1 ≤ givesN row g ∧ givesN row g ≤ row.length * B := by
  obtain ⟨i, hi, hb⟩ := exists_bit hg h0
  rw [givesN_sum]
  have hf : ∀ i, i < row.length → 0 ≤ (if g.testBit i = true then row.getD i 0 else 0) ∧ (if g.testBit i = true then row.getD i 0 else 0) ≤ B := fun i hi => by
    have := h _ (mem_getD hi)
    split <;> omega
  refine ⟨?_, (sumTo_le hf).2⟩
  have := sumTo_one (f := fun i => if g.testBit i = true then row.getD i 0 else 0) (fun i hi => (hf i hi).1) i hi
  rw [if_pos hb] at this
  have h1 := h _ (mem_getD hi)
  omega
theorem set_getD_self {s : List Int} {k : Nat} {x : Int} (h : k < s.length) : (s.set k x).getD k 0 = x := by
  rw [List.getD_eq_getElem?_getD, List.getElem?_set_self h]; rfl
theorem set_getD_ne {s : List Int} {k j : Nat} {x : Int} (h : k ≠ j) : (s.set k x).getD j 0 = s.getD j 0 := by
  rw [List.getD_eq_getElem?_getD, List.getElem?_set_ne h, ← List.getD_eq_getElem?_getD]
theorem givesN_set {s : List Int} {k : Nat} (x : Int) (g : Nat) (hk : k < s.length) : givesN (s.set k x) g = givesN s g + (if g.testBit k = true then x - s.getD k 0 else 0) := by
  rw [givesN_sum, givesN_sum, List.length_set]
  have e : sumTo s.length (fun i => if g.testBit i = true then (s.set k x).getD i 0 else 0) = sumTo s.length (fun i => (if g.testBit i = true then s.getD i 0 else 0) + (if i = k then (if g.testBit k = true then x - s.getD k 0 else 0) else 0)) := by
    apply sumTo_congr
    intro i _
    by_cases e : i = k
    · subst e
      rw [set_getD_self hk, if_pos rfl]
      split <;> omega
    · rw [set_getD_ne (fun z => e z.symm), if_neg e]; omega
  rw [e, sumTo_add, sumTo_at, if_pos hk]
theorem gives_all (s : List Int) : givesN s (2 ^ s.length - 1) = s.sum := by
  rw [givesN_sum, sumTo_congr (g := fun i => s.getD i 0) fun i hi => by rw [Nat.testBit_two_pow_sub_one, decide_eq_true hi, if_pos rfl]]
  induction s with
  | nil => rfl
  | cons x xs ih =>
    rw [List.sum_cons, ← ih]
    have key : ∀ m, sumTo (m + 1) (fun i => (x :: xs).getD i 0) = x + sumTo m (fun i => xs.getD i 0) := by
      intro m
      induction m with
      | zero => show 0 + x = x + 0; omega
      | succ m ih => rw [show sumTo (m + 1 + 1) (fun i => (x :: xs).getD i 0) = sumTo (m + 1) (fun i => (x :: xs).getD i 0) + (x :: xs).getD (m + 1) 0 from rfl, ih]; show x + _ + xs.getD m 0 = x + (_ + xs.getD m 0); omega
    exact key xs.length
theorem and_pow (g k : Nat) : (g &&& 2 ^ k = 2 ^ k) ↔ g.testBit k = true := by
  constructor
  · intro h
    have := congrArg (fun x => x.testBit k) h
    simpa [Nat.testBit_and, Nat.testBit_two_pow] using this
  · intro h
    apply Nat.eq_of_testBit_eq; intro i
    rw [Nat.testBit_and, Nat.testBit_two_pow]
    by_cases e : k = i
    · subst e; simp [h]
    · simp [e]
theorem and_pow0 (g k : Nat) : (g &&& 2 ^ k = 0) ↔ g.testBit k = false := by
  constructor
  · intro h
    have := congrArg (fun x => x.testBit k) h
    simpa [Nat.testBit_and, Nat.testBit_two_pow] using this
  · intro h
    apply Nat.eq_of_testBit_eq; intro i
    rw [Nat.testBit_and, Nat.testBit_two_pow, Nat.zero_testBit]
    by_cases e : k = i
    · subst e; simp [h]
    · simp [e]
/-- a loop that gathers, where a test says so -/
theorem gather {ρ μ : Type} {b : Int → List Int → Option (Out (List Int) (List Int) ρ)} {m : Nat} (p : Nat → Bool) (f : Nat → Int) (hm : m ≤ 16777216)
    (h : ∀ k, k < m → ∀ s : List Int, s.length ≤ k → b (k : Int) s = some (.nx (if p k = true then s ++ [f k] else s))) :
    (forO b (natL m) [] : Option (Out (List Int) μ ρ)) = some (.nx (((List.range m).filter p).map f)) := by
  obtain ⟨s, e, h1⟩ := forO_idx (μ := μ) (ρ := ρ) (b := b) (fun j s => s = ((List.range j).filter p).map f) (natL m) (s := []) rfl (fun j s hj hs => by
    rw [natL_length] at hj
    rw [natL_getD hj]
    have hl : s.length ≤ j := by rw [hs, List.length_map]; exact Nat.le_trans (List.length_filter_le _ _) (by simp)
    refine ⟨_, h j hj s hl, ?_⟩
    rw [List.range_succ, List.filter_append, List.map_append, ← hs]
    by_cases c : p j = true
    · rw [if_pos c]; simp [c]
    · rw [if_neg c]; simp [c])
  rw [natL_length] at h1
  rw [e, h1]
end Gc

namespace Gc
open PySem L2
/-! ## searches -/
def retO {τ μ : Type} : Option τ → Out Unit μ (Option τ)
  | some r => .rt (some r)
  | none => .nx ()
theorem forO_ret {α τ μ : Type} {b : α → Unit → Option (Out Unit Unit (Option τ))} (h : α → Option τ) : ∀ {xs : List α}, (∀ x ∈ xs, b x () = some (retO (h x))) → (forO b xs () : Option (Out Unit μ (Option τ))) = some (retO (xs.findSome? h))
  | [], _ => rfl
  | x :: xs, hh => by
    have hx := hh x (List.mem_cons_self ..)
    have ih := forO_ret (μ := μ) h (xs := xs) fun y hy => hh y (List.mem_cons_of_mem _ hy)
    rw [List.findSome?_cons]
    cases e : h x with
    | some r => rw [e] at hx; exact forO_rt (show b x () = some (.rt (some r)) from hx)
    | none => rw [e] at hx; rw [forO_nx (show b x () = some (.nx ()) from hx)]; exact ih
theorem bnd_ret {τ μ : Type} (o : Option τ) : bnd (fun (_ : Unit) => some (.nx ())) (retO o : Out Unit μ (Option τ)) = (some (retO o) : Option (Out Unit μ (Option τ))) := by cases o <;> rfl
theorem fin_ret {τ μ ν : Type} (o : Option τ) : (bnd (fun (_ : Unit) => some (.rt none)) (retO o : Out Unit μ (Option τ)) : Option (Out ν μ (Option τ))).bind (fin none) = some o := by cases o <;> rfl
theorem forO_cat {α β ρ μ : Type} {b : α → List β → Option (Out (List β) (List β) ρ)} (h : α → List β) (B : Nat) : ∀ {xs : List α} {s : List β}, s.length + B * xs.length ≤ 16777216 → (∀ x ∈ xs, (h x).length ≤ B) → (∀ x ∈ xs, ∀ s : List β, s.length + B ≤ 16777216 → b x s = some (.nx (s ++ h x))) → (forO b xs s : Option (Out (List β) μ ρ)) = some (.nx (s ++ xs.flatMap h))
  | [], s, _, _, _ => by rw [List.flatMap_nil, List.append_nil]; rfl
  | x :: xs, s, hl, hB, hb => by
    rw [List.length_cons, Nat.mul_add, Nat.mul_one] at hl
    have h1 := hB x (List.mem_cons_self ..)
    rw [forO_nx (hb x (List.mem_cons_self ..) s (by omega)), forO_cat h B (by rw [List.length_append]; omega) (fun y hy => hB y (List.mem_cons_of_mem _ hy)) (fun y hy => hb y (List.mem_cons_of_mem _ hy)), List.flatMap_cons, List.append_assoc]
/-! ## breaks -/
theorem find_filter {α β : Type} (p : α → Bool) (h : α → Option β) : ∀ xs : List α, (xs.filter p).findSome? h = xs.findSome? fun x => if p x = true then h x else none
  | [] => rfl
  | x :: xs => by
    rw [List.filter_cons]
    cases e : p x with
    | true => rw [if_pos rfl, List.findSome?_cons, List.findSome?_cons, find_filter p h xs, e, if_pos rfl]
    | false => rw [if_neg (by decide), find_filter p h xs, List.findSome?_cons, e, if_neg (by decide)]
theorem head_filter {α β : Type} (p : α → Bool) (f : α → β) : ∀ xs : List α, ((xs.filter p).map f).head? = xs.findSome? fun x => if p x = true then some (f x) else none
  | [] => rfl
  | x :: xs => by
    rw [List.filter_cons, List.findSome?_cons]
    cases e : p x with
    | true => rw [if_pos rfl]; rfl
    | false => rw [if_neg (by decide), if_neg (by decide)]; exact head_filter p f xs
theorem head_flat {α β : Type} (f : α → List β) : ∀ xs : List α, (xs.flatMap f).head? = xs.findSome? fun x => (f x).head?
  | [] => rfl
  | x :: xs => by
    rw [List.flatMap_cons, List.findSome?_cons]
    cases e : f x with
    | nil => rw [List.nil_append]; exact head_flat f xs
    | cons y ys => rfl
theorem flat_filter {α β : Type} (p q : α → Bool) (f : α → β) (h : ∀ x, p x = true → q x = true) : ∀ xs : List α, ((xs.filter q).flatMap fun x => if p x = true then [f x] else []) = (xs.filter p).map f
  | [] => rfl
  | x :: xs => by
    rw [List.filter_cons, List.filter_cons]
    cases e : p x with
    | true => rw [h x e, if_pos rfl, if_pos rfl, List.flatMap_cons, flat_filter p q f h xs, e, if_pos rfl]; rfl
    | false =>
      cases e2 : q x with
      | true => rw [if_pos rfl, if_neg (by decide), List.flatMap_cons, flat_filter p q f h xs, e, if_neg (by decide)]; rfl
      | false => rw [if_neg (by decide), if_neg (by decide), flat_filter p q f h xs]
theorem filter_six {n : Nat} (p : Nat → Bool) (hn : n ≤ 6) : (List.range n).filter p = (List.range 6).filter fun i => decide (i < n) && p i := by
  obtain ⟨d, hd⟩ := Nat.le.dest hn
  rw [← hd]
  clear hd
  induction d with
  | zero => rw [Nat.add_zero]; exact List.filter_congr fun i hi => by rw [decide_eq_true (List.mem_range.mp hi), Bool.true_and]
  | succ d ih => rw [← Nat.add_assoc, List.range_succ, List.filter_append, ← ih, List.filter_cons, decide_eq_false (by omega), Bool.false_and, if_neg (by decide)]; simp
theorem from_six : ∀ i : Fin 6, natR (i.val + 1) (6 - (i.val + 1)) = up ((List.range 6).filter fun j => decide (i.val < j)) := by decide +kernel
def gapN (t : List Int) (g i j : Nat) : Int := t.getD (g ||| 2 ^ i) 0 + t.getD (g ||| 2 ^ j) 0 - t.getD (g ||| (2 ^ i ||| 2 ^ j)) 0 - t.getD g 0
def isBrk (t : List Int) (n : Nat) (s : Int) (g i j : Nat) : Bool := ((decide (i < n) && !g.testBit i) && (decide (j < n) && !g.testBit j)) && (decide (i < j) && decide (s * gapN t g i j < 0))
def brkA (t : List Int) (n : Nat) (s : Int) (g i : Nat) : List (Int × Int × Int) := ((List.range 6).filter fun j => isBrk t n s g i j).map fun j : Nat => ((g : Int), (i : Int), (j : Int))
def brkG (t : List Int) (n : Nat) (s : Int) (g : Nat) : List (Int × Int × Int) := (List.range 6).flatMap (brkA t n s g)
def brks (t : List Int) (n : Nat) (s : Int) : List (Int × Int × Int) := (List.range (2 ^ n)).flatMap (brkG t n s)
theorem brkA_len (t : List Int) (n : Nat) (s : Int) (g i : Nat) : (brkA t n s g i).length ≤ 6 := by
  unfold brkA
  rw [List.length_map]
  exact Nat.le_trans (List.length_filter_le _ _) (by decide)
theorem brkG_len (t : List Int) (n : Nat) (s : Int) (g : Nat) : (brkG t n s g).length ≤ 36 := by
  have := brkA_len t n s g
  unfold brkG
  simp only [show List.range 6 = [0, 1, 2, 3, 4, 5] from rfl, List.flatMap_cons, List.flatMap_nil, List.length_append, List.length_nil]
  have h0 := this 0
  have h1 := this 1
  have h2 := this 2
  have h3 := this 3
  have h4 := this 4
  have h5 := this 5
  omega
theorem brks_mem {t : List Int} {n : Nat} {s : Int} {z : Int × Int × Int} (hn : n ≤ 6) : z ∈ brks t n s ↔ ∃ g i j, g < 2 ^ n ∧ isBrk t n s g i j = true ∧ z = ((g : Int), (i : Int), (j : Int)) := by
  unfold brks brkG brkA
  constructor
  · intro h
    obtain ⟨g, hg, h⟩ := List.mem_flatMap.mp h
    obtain ⟨i, hi, h⟩ := List.mem_flatMap.mp h
    obtain ⟨j, hj, rfl⟩ := List.mem_map.mp h
    exact ⟨g, i, j, List.mem_range.mp hg, (List.mem_filter.mp hj).2, rfl⟩
  · rintro ⟨g, i, j, hg, hb, rfl⟩
    have hb' := hb
    unfold isBrk at hb'
    rw [Bool.and_eq_true, Bool.and_eq_true, Bool.and_eq_true, Bool.and_eq_true, decide_eq_true_eq, decide_eq_true_eq] at hb'
    exact List.mem_flatMap.mpr ⟨g, List.mem_range.mpr hg, List.mem_flatMap.mpr ⟨i, List.mem_range.mpr (by omega), List.mem_map.mpr ⟨j, List.mem_filter.mpr ⟨List.mem_range.mpr (by omega), hb⟩, rfl⟩⟩⟩
theorem brks_head (t : List Int) {n : Nat} (s : Int) (hn : n ≤ 6) : (brks t n s).head? = (List.range (2 ^ n)).findSome? fun g => ((List.range n).filter fun i => !g.testBit i).findSome? fun i => ((List.range n).filter fun j => !g.testBit j).findSome? fun j => if (decide (i < j) && decide (s * gapN t g i j < 0)) = true then some ((g : Int), (i : Int), (j : Int)) else none := by
  unfold brks
  rw [head_flat]
  congr 1
  funext g
  unfold brkG
  rw [head_flat, filter_six _ hn, find_filter]
  congr 1
  funext i
  unfold brkA
  rw [head_filter, find_filter]
  cases e : (decide (i < n) && !g.testBit i) with
  | false =>
    rw [if_neg (by decide)]
    rw [show (fun x => if isBrk t n s g i x = true then some ((g : Int), (i : Int), (x : Int)) else none) = fun _ => none by funext x; unfold isBrk; rw [e, Bool.false_and, Bool.false_and, if_neg (by decide)]]
    rfl
  | true =>
    rw [if_pos rfl]
    congr 1
    funext j
    unfold isBrk
    rw [e, Bool.true_and]
    cases (decide (j < n) && !g.testBit j) <;> cases (decide (i < j) && decide (s * gapN t g i j < 0)) <;> rfl
theorem two_lt {n i j : Nat} (hn : n ≤ 6) (hi : i < 6) (hj : j < 6) : (2 ^ i ||| 2 ^ j < 2 ^ n) ↔ i < n ∧ j < n := by
  have : ∀ n : Fin 7, ∀ i j : Fin 6, (2 ^ i.val ||| 2 ^ j.val < 2 ^ n.val) ↔ i.val < n.val ∧ j.val < n.val := by decide +kernel
  exact this ⟨n, by omega⟩ ⟨i, hi⟩ ⟨j, hj⟩
theorem two_off (g i j : Nat) : (g &&& (2 ^ i ||| 2 ^ j) = 0) ↔ g.testBit i = false ∧ g.testBit j = false := by
  rw [Nat.and_or_distrib_left, Nat.or_eq_zero_iff, and_pow0, and_pow0]
/-! ## from each place to all pairs -/
def LocF (f : Nat → Int) (n : Nat) : Prop := ∀ g i j, g < 2 ^ n → i < n → j < n → i ≠ j → g.testBit i = false → g.testBit j = false → f (g ||| 2 ^ i ||| 2 ^ j) + f g ≤ f (g ||| 2 ^ i) + f (g ||| 2 ^ j)
theorem pow_lt {n i : Nat} (h : i < n) : 2 ^ i < 2 ^ n := Nat.pow_lt_pow_right (by decide) h
theorem mod_step {a k : Nat} (h : a.testBit k = true) : a % 2 ^ (k + 1) = a % 2 ^ k ||| 2 ^ k := by
  apply Nat.eq_of_testBit_eq
  intro i
  rw [Nat.testBit_or, Nat.testBit_mod_two_pow, Nat.testBit_mod_two_pow, Nat.testBit_two_pow]
  by_cases e : k = i
  · subst e; simp [h]
  · have : decide (i < k + 1) = decide (i < k) := by simp; omega
    rw [this]; simp [e]
theorem mod_same {a k : Nat} (h : a.testBit k = false) : a % 2 ^ (k + 1) = a % 2 ^ k := by
  apply Nat.eq_of_testBit_eq
  intro i
  rw [Nat.testBit_mod_two_pow, Nat.testBit_mod_two_pow]
  by_cases e : k = i
  · subst e; simp [h]
  · have : decide (i < k + 1) = decide (i < k) := by simp; omega
    rw [this]
theorem or_pow_self {g k : Nat} (h : g.testBit k = true) : g ||| 2 ^ k = g := by
  apply Nat.eq_of_testBit_eq
  intro i
  rw [Nat.testBit_or, Nat.testBit_two_pow]
  by_cases e : k = i
  · subst e; simp [h]
  · simp [e]
theorem LocF.more {f : Nat → Int} {n : Nat} (H : LocF f n) {s t i : Nat} (hs : s < 2 ^ n) (ht : t < 2 ^ n) (hi : i < n) (hsi : s.testBit i = false) (hti : t.testBit i = false) : ∀ k, k ≤ n → f ((s ||| t % 2 ^ k) ||| 2 ^ i) + f s ≤ f (s ||| 2 ^ i) + f (s ||| t % 2 ^ k)
  | 0, _ => by simp [Nat.mod_one]
  | k + 1, hk => by
    have ih := LocF.more H hs ht hi hsi hti k (by omega)
    cases e : t.testBit k with
    | false => rw [mod_same e]; exact ih
    | true =>
      rw [mod_step e, ← Nat.or_assoc]
      have hlt : s ||| t % 2 ^ k < 2 ^ n := or_lt hs (Nat.lt_of_le_of_lt (Nat.mod_le _ _) ht)
      have hoff : (s ||| t % 2 ^ k).testBit i = false := by rw [Nat.testBit_or, hsi, Nat.testBit_mod_two_pow, hti]; simp
      cases e2 : (s ||| t % 2 ^ k).testBit k with
      | true => rw [or_pow_self e2]; exact ih
      | false =>
        have hne : k ≠ i := fun z => by subst z; rw [e] at hti; cases hti
        have := H _ k i hlt (by omega) hi hne e2 hoff
        omega
theorem LocF.falls {f : Nat → Int} {n : Nat} (H : LocF f n) : FallsF f n := fun a b ha hb => by
  have key : ∀ k, k ≤ n → f (b ||| a % 2 ^ k) + f (a &&& b) ≤ f b + f ((a &&& b) ||| a % 2 ^ k) := by
    intro k
    induction k with
    | zero => intro _; simp [Nat.mod_one]
    | succ k ih =>
      intro hk
      have ih := ih (by omega)
      have hm : a % 2 ^ k < 2 ^ n := Nat.lt_of_le_of_lt (Nat.mod_le _ _) ha
      cases e : a.testBit k with
      | false => rw [mod_same e]; exact ih
      | true =>
        rw [mod_step e, ← Nat.or_assoc, ← Nat.or_assoc]
        cases e2 : b.testBit k with
        | true =>
          rw [or_pow_self (g := b ||| a % 2 ^ k) (by rw [Nat.testBit_or, e2]; rfl), or_pow_self (g := (a &&& b) ||| a % 2 ^ k) (by rw [Nat.testBit_or, Nat.testBit_and, e, e2]; rfl)]
          exact ih
        | false =>
          have o1 : ((a &&& b) ||| a % 2 ^ k).testBit k = false := by rw [Nat.testBit_or, Nat.testBit_and, e, e2, Nat.testBit_mod_two_pow]; simp
          have o2 : (b ||| a % 2 ^ k).testBit k = false := by rw [Nat.testBit_or, e2, Nat.testBit_mod_two_pow]; simp
          have l1 : (a &&& b) ||| a % 2 ^ k < 2 ^ n := or_lt (and_lt ha) hm
          have l2 : b ||| a % 2 ^ k < 2 ^ n := or_lt hb hm
          have := H.more l1 l2 (i := k) (by omega) o1 o2 n (Nat.le_refl _)
          rw [Nat.mod_eq_of_lt l2] at this
          rw [show ((a &&& b) ||| a % 2 ^ k) ||| (b ||| a % 2 ^ k) = b ||| a % 2 ^ k from ?_] at this
          · omega
          · apply Nat.eq_of_testBit_eq
            intro i
            rw [Nat.testBit_or, Nat.testBit_or, Nat.testBit_or, Nat.testBit_and]
            cases a.testBit i <;> cases b.testBit i <;> cases (a % 2 ^ k).testBit i <;> rfl
  have := key n (Nat.le_refl _)
  rw [Nat.mod_eq_of_lt ha] at this
  rw [show (a &&& b) ||| a = a from ?_, Nat.or_comm] at this
  · have e : f (a ||| b) + f (a &&& b) ≤ f b + f a := this
    omega
  · apply Nat.eq_of_testBit_eq
    intro i
    rw [Nat.testBit_or, Nat.testBit_and]
    cases a.testBit i <;> cases b.testBit i <;> rfl
theorem or_or (g i j : Nat) : (g ||| 2 ^ i) ||| (g ||| 2 ^ j) = g ||| (2 ^ i ||| 2 ^ j) := by
  apply Nat.eq_of_testBit_eq
  intro x
  simp only [Nat.testBit_or]
  cases g.testBit x <;> cases (2 ^ i).testBit x <;> cases (2 ^ j).testBit x <;> rfl
theorem falls_brks {t : List Int} {n : Nat} (hn : n ≤ 6) (h : brks t n 1 = []) : Falls t n := by
  apply LocF.falls
  have key : ∀ g i j, g < 2 ^ n → i < n → j < n → i < j → g.testBit i = false → g.testBit j = false → t.getD (g ||| (2 ^ i ||| 2 ^ j)) 0 + t.getD g 0 ≤ t.getD (g ||| 2 ^ i) 0 + t.getD (g ||| 2 ^ j) 0 := by
    intro g i j hg hi hj hij bi bj
    by_cases z : 1 * gapN t g i j < 0
    · have : ((g : Int), (i : Int), (j : Int)) ∈ brks t n 1 := (brks_mem hn).mpr ⟨g, i, j, hg, by unfold isBrk; rw [bi, bj, decide_eq_true hi, decide_eq_true hj, decide_eq_true hij, decide_eq_true z]; rfl, rfl⟩
      rw [h] at this
      cases this
    · unfold gapN at z; omega
  intro g i j hg hi hj hij bi bj
  rw [Nat.or_assoc]
  rcases Nat.lt_or_gt_of_ne hij with h1 | h1
  · exact key g i j hg hi hj h1 bi bj
  · have := key g j i hg hj hi h1 bj bi
    rw [Nat.or_comm (2 ^ j)] at this
    show t.getD (g ||| (2 ^ i ||| 2 ^ j)) 0 + t.getD g 0 ≤ t.getD (g ||| 2 ^ i) 0 + t.getD (g ||| 2 ^ j) 0
    omega
theorem brks_falls {t : List Int} {n : Nat} (hn : n ≤ 6) (F : Falls t n) : brks t n 1 = [] := by
  apply List.eq_nil_iff_forall_not_mem.mpr
  intro z hz
  obtain ⟨g, i, j, hg, hb, -⟩ := (brks_mem hn).mp hz
  unfold isBrk at hb
  rw [Bool.and_eq_true, Bool.and_eq_true, Bool.and_eq_true, Bool.and_eq_true, Bool.and_eq_true, decide_eq_true_eq, decide_eq_true_eq, decide_eq_true_eq, decide_eq_true_eq, Bool.not_eq_true', Bool.not_eq_true'] at hb
  obtain ⟨⟨⟨h1, h2⟩, h3, h4⟩, h5, h6⟩ := hb
  have := F (g ||| 2 ^ i) (g ||| 2 ^ j) (or_lt hg (pow_lt h1)) (or_lt hg (pow_lt h3))
  rw [or_or] at this
  rw [show (g ||| 2 ^ i) &&& (g ||| 2 ^ j) = g from ?_] at this
  · unfold gapN at h6
    have e : t.getD (g ||| (2 ^ i ||| 2 ^ j)) 0 + t.getD g 0 ≤ t.getD (g ||| 2 ^ i) 0 + t.getD (g ||| 2 ^ j) 0 := this
    omega
  · apply Nat.eq_of_testBit_eq
    intro x
    rw [Nat.testBit_and, Nat.testBit_or, Nat.testBit_or, Nat.testBit_two_pow, Nat.testBit_two_pow]
    by_cases e : i = x
    · have : ¬ j = x := by omega
      subst e; simp [h2, this]
    · cases g.testBit x <;> simp [e]
end Gc

namespace Gc
open PySem L2
/-! ## rooms, and shares raised -/
/-- the gaps of the groups that a test picks -/
def gapsN (t s : List Int) (n : Nat) (p : Nat → Bool) : List Int := ((List.range (2 ^ n)).filter p).map fun g => t.getD g 0 - givesN s g
theorem gaps_min {t s : List Int} {n g0 : Nat} {p : Nat → Bool} (h0 : g0 < 2 ^ n) (hp : p g0 = true) : ∃ m, minL (gapsN t s n p) = some m ∧ (∃ g, g < 2 ^ n ∧ p g = true ∧ m = t.getD g 0 - givesN s g) ∧ ∀ g, g < 2 ^ n → p g = true → m ≤ t.getD g 0 - givesN s g := by
  have hm : t.getD g0 0 - givesN s g0 ∈ gapsN t s n p := List.mem_map.mpr ⟨g0, List.mem_filter.mpr ⟨List.mem_range.mpr h0, hp⟩, rfl⟩
  cases e : minL (gapsN t s n p) with
  | none =>
    cases q : gapsN t s n p with
    | nil => rw [q] at hm; cases hm
    | cons x xs => rw [q] at e; cases e
  | some m =>
    obtain ⟨h1, h2⟩ := minL_spec e
    obtain ⟨g, hg, eg⟩ := List.mem_map.mp h1
    obtain ⟨hg1, hg2⟩ := List.mem_filter.mp hg
    exact ⟨m, rfl, ⟨g, List.mem_range.mp hg1, hg2, eg.symm⟩, fun g hg hpg => h2 _ (List.mem_map.mpr ⟨g, List.mem_filter.mpr ⟨List.mem_range.mpr hg, hpg⟩, rfl⟩)⟩
def UnderN (t s : List Int) (n : Nat) : Prop := ∀ g, g < 2 ^ n → givesN s g ≤ t.getD g 0
/-- how much more a hand may be given -/
def roomN (t s : List Int) (n k : Nat) : Int := (minL (gapsN t s n fun g => g.testBit k)).getD 0
theorem room_spec {t s : List Int} {n k : Nat} (hk : k < n) : minL (gapsN t s n fun g => g.testBit k) = some (roomN t s n k) ∧ (∃ g, g < 2 ^ n ∧ g.testBit k = true ∧ roomN t s n k = t.getD g 0 - givesN s g) ∧ ∀ g, g < 2 ^ n → g.testBit k = true → roomN t s n k ≤ t.getD g 0 - givesN s g := by
  obtain ⟨m, e, h1, h2⟩ := gaps_min (t := t) (s := s) (p := fun g => g.testBit k) (Nat.pow_lt_pow_right (by decide) hk) Nat.testBit_two_pow_self
  have er : roomN t s n k = m := by unfold roomN; rw [e]; rfl
  rw [er]
  exact ⟨e, h1, h2⟩
/-- one hand raised as far as its room and its bound let -/
def raise1 (t b : List Int) (n : Nat) (s : List Int) (k : Nat) : List Int := s.set k (s.getD k 0 + min (roomN t s n k) (b.getD k 0 - s.getD k 0))
def raiseN (t b : List Int) (n : Nat) (ks : List Nat) (s : List Int) : List Int := ks.foldl (raise1 t b n) s
theorem raise1_len (t b : List Int) (n : Nat) (s : List Int) (k : Nat) : (raise1 t b n s k).length = s.length := by unfold raise1; rw [List.length_set]
theorem raiseN_len (t b : List Int) (n : Nat) : ∀ (ks : List Nat) (s : List Int), (raiseN t b n ks s).length = s.length
  | [], _ => rfl
  | k :: ks, s => by
    show (raiseN t b n ks (raise1 t b n s k)).length = _
    rw [raiseN_len t b n ks, raise1_len]
/-- shares between those at the start and the bounds, under the table, the hands told fixed -/
structure Raised (t s0 b : List Int) (n : Nat) (did : List Nat) (s : List Int) : Prop where
  len : s.length = n
  under : UnderN t s n
  lo : ∀ k, k < n → s0.getD k 0 ≤ s.getD k 0
  hi : ∀ k, k < n → s.getD k 0 ≤ b.getD k 0
  fix : ∀ k ∈ did, s.getD k 0 = b.getD k 0 ∨ ∃ g, g < 2 ^ n ∧ g.testBit k = true ∧ givesN s g = t.getD g 0
theorem Raised.step {t s0 b s : List Int} {n k : Nat} {did : List Nat} (R : Raised t s0 b n did s) (hk : k < n) : Raised t s0 b n (did ++ [k]) (raise1 t b n s k) := by
  obtain ⟨e, ⟨g0, h1, h2, h3⟩, h4⟩ := room_spec (t := t) (s := s) hk
  have hl := R.len
  have r0 : 0 ≤ roomN t s n k := by rw [h3]; have := R.under g0 h1; omega
  have b0 := R.hi k hk
  have hg : ∀ g, givesN (raise1 t b n s k) g = givesN s g + if g.testBit k = true then min (roomN t s n k) (b.getD k 0 - s.getD k 0) else 0 := fun g => by
    unfold raise1
    rw [givesN_set _ _ (by omega)]
    split <;> omega
  have hself : (raise1 t b n s k).getD k 0 = s.getD k 0 + min (roomN t s n k) (b.getD k 0 - s.getD k 0) := by unfold raise1; rw [set_getD_self (by omega)]
  have hne : ∀ j, k ≠ j → (raise1 t b n s k).getD j 0 = s.getD j 0 := fun j hj => by unfold raise1; rw [set_getD_ne hj]
  refine ⟨by rw [raise1_len]; exact hl, fun g hgl => ?_, fun j hj => ?_, fun j hj => ?_, fun j hj => ?_⟩
  · rw [hg]
    have := R.under g hgl
    cases c : g.testBit k with
    | true => rw [if_pos rfl]; have := h4 g hgl c; omega
    | false => rw [if_neg (by decide)]; omega
  · have := R.lo j hj
    by_cases c : k = j
    · subst c; rw [hself]; omega
    · rw [hne j c]; exact this
  · have := R.hi j hj
    by_cases c : k = j
    · subst c; rw [hself]; omega
    · rw [hne j c]; exact this
  · by_cases c : j = k
    · subst c
      rw [hself]
      by_cases d : b.getD j 0 - s.getD j 0 ≤ roomN t s n j
      · left; omega
      · right
        refine ⟨g0, h1, h2, ?_⟩
        rw [hg, if_pos h2]
        omega
    · rcases List.mem_append.mp hj with hj | hj
      · rcases R.fix j hj with f | ⟨g, f1, f2, f3⟩
        · left; rw [hne j fun z => c z.symm]; exact f
        · right
          refine ⟨g, f1, f2, ?_⟩
          rw [hg]
          cases z : g.testBit k with
          | true => rw [if_pos rfl]; have := h4 g f1 z; omega
          | false => rw [if_neg (by decide)]; omega
      · exact absurd (List.mem_singleton.mp hj) c
theorem Raised.all {t s0 b : List Int} {n : Nat} : ∀ {ks did : List Nat} {s : List Int}, Raised t s0 b n did s → (∀ k ∈ ks, k < n) → Raised t s0 b n (did ++ ks) (raiseN t b n ks s)
  | [], did, s, R, _ => by rw [List.append_nil]; exact R
  | k :: ks, did, s, R, h => by
    have := Raised.all (R.step (h k (List.mem_cons_self ..))) fun j hj => h j (List.mem_cons_of_mem _ hj)
    rw [List.append_assoc] at this
    exact this
theorem Raised.start {t s b : List Int} {n : Nat} (hl : s.length = n) (hu : UnderN t s n) (hb : ∀ k, k < n → s.getD k 0 ≤ b.getD k 0) : Raised t s b n [] s := ⟨hl, hu, fun _ _ => Int.le_refl _, hb, fun _ h => by cases h⟩
theorem over_none {t s : List Int} {n : Nat} (ht : t.length = 2 ^ n) (hu : UnderN t s n) : (overN t s).2 = 0 := by
  obtain ⟨h1, h2, h3⟩ := over_spec t s
  rcases h3 with h3 | ⟨k, hk, e⟩
  · exact h3
  · have := hu k (by omega)
    rw [e] at h1 ⊢
    dsimp only at h1 ⊢
    omega
theorem lowered_under {t s : List Int} {n : Nat} {w : Int} (hs : s.length = n) (h0 : t.getD 0 0 = 0) (hw : 0 ≤ w) (h : ∀ g, g < 2 ^ n → givesN s g - t.getD g 0 ≤ w) : UnderN t (s.map fun x => x - w) n := by
  intro g hg
  by_cases z : g = 0
  · subst z; rw [givesN_zero, h0]; decide
  · obtain ⟨i, hi, bi⟩ := exists_bit hg z
    have e : givesN (s.map fun x => x - w) g + sumTo n (fun i => if g.testBit i = true then w else 0) = givesN s g := by
      rw [givesN_sum, givesN_sum, List.length_map, hs, ← sumTo_add]
      apply sumTo_congr
      intro j hj
      have : (s.map fun x => x - w).getD j 0 = s.getD j 0 - w := by
        rw [List.getD_eq_getElem?_getD, List.getD_eq_getElem?_getD, List.getElem?_map, List.getElem?_eq_getElem (by omega)]; rfl
      rw [this]
      split <;> omega
    have := sumTo_one (n := n) (f := fun i => if g.testBit i = true then w else 0) (fun j _ => by split <;> omega) i hi
    simp only [bi, if_true] at this
    have := h g hg
    omega
end Gc

namespace Gc
open PySem L2
/-! ## how much raised shares come to -/
theorem sum_to {s : List Int} {n : Nat} (hs : s.length = n) : s.sum = sumTo n fun i => s.getD i 0 := by
  rw [← gives_all s, givesN_sum, hs]
  apply sumTo_congr
  intro i hi
  rw [Nat.testBit_two_pow_sub_one, decide_eq_true hi, if_pos rfl]
theorem sumTo_mono {f g : Nat → Int} : ∀ {n : Nat}, (∀ i, i < n → f i ≤ g i) → sumTo n f ≤ sumTo n g
  | 0, _ => Int.le_refl _
  | n + 1, h => by
    have := sumTo_mono (n := n) fun i hi => h i (by omega)
    have := h n (by omega)
    show sumTo n f + f n ≤ sumTo n g + g n
    omega
theorem sum_out {s : List Int} {n : Nat} (hs : s.length = n) (g : Nat) : s.sum = givesN s g + sumTo n fun i => if g.testBit i = true then 0 else s.getD i 0 := by
  rw [sum_to hs, givesN_sum, hs, ← sumTo_add]
  apply sumTo_congr
  intro i _
  split <;> omega
theorem under_sum {t s b : List Int} {n g : Nat} (hs : s.length = n) (hb : b.length = n) (hu : UnderN t s n) (hle : ∀ k, k < n → s.getD k 0 ≤ b.getD k 0) (hg : g < 2 ^ n) : s.sum ≤ t.getD g 0 + b.sum - givesN b g := by
  have h1 := sum_out hs g
  have h2 := sum_out hb g
  have h3 := hu g hg
  have h4 : (sumTo n fun i => if g.testBit i = true then 0 else s.getD i 0) ≤ sumTo n fun i => if g.testBit i = true then 0 else b.getD i 0 := sumTo_mono fun i hi => by
    have := hle i hi
    split <;> omega
  omega
theorem gives_or_and {row : List Int} (a b : Nat) : givesN row (a ||| b) + givesN row (a &&& b) = givesN row a + givesN row b := by
  rw [givesN_sum, givesN_sum, givesN_sum, givesN_sum, ← sumTo_add, ← sumTo_add]
  apply sumTo_congr
  intro i _
  rw [Nat.testBit_or, Nat.testBit_and]
  cases a.testBit i <;> cases b.testBit i <;> simp
theorem tight_or {t s : List Int} {n a b : Nat} (F : Falls t n) (hu : UnderN t s n) (ha : a < 2 ^ n) (hb : b < 2 ^ n) (ta : givesN s a = t.getD a 0) (tb : givesN s b = t.getD b 0) : givesN s (a ||| b) = t.getD (a ||| b) 0 ∧ givesN s (a &&& b) = t.getD (a &&& b) 0 := by
  have h1 : t.getD (a ||| b) 0 + t.getD (a &&& b) 0 ≤ t.getD a 0 + t.getD b 0 := F a b ha hb
  have h2 := gives_or_and (row := s) a b
  have h3 := hu _ (or_lt ha hb)
  have h4 := hu _ (and_lt (b := b) ha)
  omega
theorem Raised.tight {t s0 b s : List Int} {n : Nat} {did : List Nat} (T : Tab n t) (F : Falls t n) (R : Raised t s0 b n did s) (hall : ∀ k, k < n → k ∈ did) : ∃ G, G < 2 ^ n ∧ givesN s G = t.getD G 0 ∧ ∀ k, k < n → G.testBit k = false → s.getD k 0 = b.getD k 0 := by
  have key : ∀ m, m ≤ n → ∃ G, G < 2 ^ n ∧ givesN s G = t.getD G 0 ∧ ∀ k, k < m → G.testBit k = false → s.getD k 0 = b.getD k 0 := by
    intro m
    induction m with
    | zero => intro _; exact ⟨0, Nat.two_pow_pos n, by rw [givesN_zero, T.zero], fun k hk => absurd hk (by omega)⟩
    | succ m ih =>
      intro hm
      obtain ⟨G, h1, h2, h3⟩ := ih (by omega)
      rcases R.fix m (hall m (by omega)) with f | ⟨g, g1, g2, g3⟩
      · refine ⟨G, h1, h2, fun k hk hb => ?_⟩
        by_cases e : k = m
        · subst e; exact f
        · exact h3 k (by omega) hb
      · refine ⟨G ||| g, or_lt h1 g1, (tight_or F R.under h1 g1 h2 g3).1, fun k hk hb => ?_⟩
        rw [Nat.testBit_or, Bool.or_eq_false_iff] at hb
        by_cases e : k = m
        · subst e; rw [g2] at hb; cases hb.2
        · exact h3 k (by omega) hb.1
  exact key n (Nat.le_refl _)
theorem Raised.sum {t s0 b s : List Int} {n : Nat} {did : List Nat} (T : Tab n t) (F : Falls t n) (hb : b.length = n) (R : Raised t s0 b n did s) (hall : ∀ k, k < n → k ∈ did) : (∃ g, g < 2 ^ n ∧ s.sum = t.getD g 0 + b.sum - givesN b g) ∧ ∀ g, g < 2 ^ n → s.sum ≤ t.getD g 0 + b.sum - givesN b g := by
  refine ⟨?_, fun g hg => under_sum R.len hb R.under R.hi hg⟩
  obtain ⟨G, h1, h2, h3⟩ := R.tight T F hall
  refine ⟨G, h1, ?_⟩
  have e1 := sum_out R.len G
  have e2 := sum_out hb G
  have e3 : (sumTo n fun i => if G.testBit i = true then 0 else s.getD i 0) = sumTo n fun i => if G.testBit i = true then 0 else b.getD i 0 := sumTo_congr fun i hi => by
    cases c : G.testBit i with
    | true => rfl
    | false => rw [if_neg (by decide), if_neg (by decide)]; exact h3 i hi c
  omega
theorem Raised.still {t s0 b s : List Int} {n : Nat} {did : List Nat} (R : Raised t s0 b n did s) (hall : ∀ k, k < n → k ∈ did) : ∀ {ks : List Nat}, (∀ k ∈ ks, k < n) → raiseN t b n ks s = s
  | [], _ => rfl
  | k :: ks, hk => by
    have hk0 := hk k (List.mem_cons_self ..)
    have e : raise1 t b n s k = s := by
      obtain ⟨e, ⟨g0, h1, h2, h3⟩, h4⟩ := room_spec (t := t) (s := s) hk0
      have r0 : 0 ≤ roomN t s n k := by rw [h3]; have := R.under g0 h1; omega
      have b0 := R.hi k hk0
      have z : min (roomN t s n k) (b.getD k 0 - s.getD k 0) = 0 := by
        rcases R.fix k (hall k hk0) with f | ⟨g, f1, f2, f3⟩
        · omega
        · have := h4 g f1 f2; omega
      have hl := R.len
      unfold raise1
      rw [z, Int.add_zero]
      apply list_ext_getD (by rw [List.length_set])
      intro j hj
      rw [List.length_set] at hj
      by_cases c : k = j
      · subst c; rw [set_getD_self (by omega)]
      · rw [set_getD_ne c]
    show raiseN t b n ks (raise1 t b n s k) = s
    rw [e]
    exact R.still hall fun j hj => hk j (List.mem_cons_of_mem _ hj)
theorem under_less {t s r : List Int} {n : Nat} (hs : s.length = n) (hr : r.length = n) (hu : UnderN t s n) (h : ∀ k, k < n → r.getD k 0 ≤ s.getD k 0) : UnderN t r n := fun g hg => by
  have h1 := hu g hg
  rw [givesN_sum, hs] at h1
  rw [givesN_sum, hr]
  have := sumTo_mono (n := n) (f := fun i => if g.testBit i = true then r.getD i 0 else 0) (g := fun i => if g.testBit i = true then s.getD i 0 else 0) fun i hi => by
    have := h i hi
    split <;> omega
  omega
/-- a search: what is told, or what holds where nothing is -/
theorem forO_search {α ρ μ : Type} {b : α → Unit → Option (Out Unit Unit ρ)} (P : ρ → Prop) (Q : α → Prop) : ∀ {xs : List α}, (∀ x ∈ xs, (b x () = some (.nx ()) ∧ Q x) ∨ ∃ r, b x () = some (.rt r) ∧ P r) → ((forO b xs () : Option (Out Unit μ ρ)) = some (.nx ()) ∧ ∀ x ∈ xs, Q x) ∨ ∃ r, (forO b xs () : Option (Out Unit μ ρ)) = some (.rt r) ∧ P r
  | [], _ => .inl ⟨rfl, fun _ h => by cases h⟩
  | x :: xs, h => by
    rcases h x (List.mem_cons_self ..) with ⟨e, q⟩ | ⟨r, e, p⟩
    · rcases forO_search (μ := μ) P Q (xs := xs) fun y hy => h y (List.mem_cons_of_mem _ hy) with ⟨e2, q2⟩ | ⟨r, e2, p⟩
      · exact .inl ⟨by rw [forO_nx e]; exact e2, fun y hy => by
          rcases List.mem_cons.mp hy with rfl | hy
          · exact q
          · exact q2 y hy⟩
      · exact .inr ⟨r, by rw [forO_nx e]; exact e2, p⟩
    · exact .inr ⟨r, forO_rt e, p⟩
theorem falls_gaps {t : List Int} {n : Nat} (h : ∀ g i j, g < 2 ^ n → i < j → j < n → g.testBit i = false → g.testBit j = false → 0 ≤ gapN t g i j) : Falls t n := by
  apply LocF.falls
  have key : ∀ g i j, g < 2 ^ n → i < j → j < n → g.testBit i = false → g.testBit j = false → t.getD (g ||| (2 ^ i ||| 2 ^ j)) 0 + t.getD g 0 ≤ t.getD (g ||| 2 ^ i) 0 + t.getD (g ||| 2 ^ j) 0 := fun g i j hg hij hj bi bj => by
    have := h g i j hg hij hj bi bj
    unfold gapN at this
    omega
  intro g i j hg hi hj hij bi bj
  rw [Nat.or_assoc]
  rcases Nat.lt_or_gt_of_ne hij with h1 | h1
  · exact key g i j hg h1 hj bi bj
  · have := key g j i hg h1 hi bj bi
    rw [Nat.or_comm (2 ^ j)] at this
    show t.getD (g ||| (2 ^ i ||| 2 ^ j)) 0 + t.getD g 0 ≤ t.getD (g ||| 2 ^ i) 0 + t.getD (g ||| 2 ^ j) 0
    omega
theorem plus_bit {n g i : Nat} (hn : n ≤ 6) (hg : g < 2 ^ n) (hi : i < n) (h : g.testBit i = false) : g + 2 ^ i = g ||| 2 ^ i := by
  have h6 := pow6 hn
  exact (or_fin ⟨g, by omega⟩ ⟨i, by omega⟩ h).1.symm
theorem bit_is1 (g k : Nat) : decide (bitI g k = 1) = g.testBit k := by unfold bitI; cases g.testBit k <;> rfl
theorem bit_is0 (g k : Nat) : decide (bitI g k = 0) = !g.testBit k := by unfold bitI; cases g.testBit k <;> rfl
/-! ## what all full groups with a hand share -/
def coreN (t s : List Int) (n k : Nat) : Option Nat := ((List.range (2 ^ n)).filter fun g => decide (givesN s g = t.getD g 0) && g.testBit k).foldl (fun c g => some (match c with | none => g | some c => c &&& g)) none
theorem core_fold (f : Nat → Prop) (hf : ∀ a b, f a → f b → f (a &&& b)) : ∀ (xs : List Nat) (c : Option Nat), (∀ g ∈ xs, f g) → (∀ a, c = some a → f a) → (∀ a, xs.foldl (fun c g => some (match c with | none => g | some c => c &&& g)) c = some a → f a)
  | [], c, _, hc, a, h => hc a h
  | x :: xs, c, hx, hc, a, h => by
    rw [List.foldl_cons] at h
    refine core_fold f hf xs _ (fun g hg => hx g (List.mem_cons_of_mem _ hg)) (fun b hb => ?_) a h
    cases c with
    | none => cases hb; exact hx x (List.mem_cons_self ..)
    | some c => cases hb; exact hf _ _ (hc c rfl) (hx x (List.mem_cons_self ..))
theorem core_bits : ∀ (xs : List Nat) (c : Option Nat) (a : Nat), xs.foldl (fun c g => some (match c with | none => g | some c => c &&& g)) c = some a → ∀ i, a.testBit i = true ↔ (∀ b, c = some b → b.testBit i = true) ∧ ∀ g ∈ xs, g.testBit i = true
  | [], c, a, h, i => by
    constructor
    · intro ha; exact ⟨fun b hb => by rw [show c = some a from h] at hb; cases hb; exact ha, fun _ h => by cases h⟩
    · intro ⟨h1, _⟩; exact h1 a h
  | x :: xs, c, a, h, i => by
    rw [List.foldl_cons] at h
    rw [core_bits xs _ a h i]
    cases c with
    | none =>
      constructor
      · intro ⟨h1, h2⟩
        exact ⟨fun b hb => (by cases hb), fun g hg => by
          rcases List.mem_cons.mp hg with rfl | hg
          · exact h1 _ rfl
          · exact h2 g hg⟩
      · intro ⟨_, h2⟩
        exact ⟨fun b hb => by cases hb; exact h2 x (List.mem_cons_self ..), fun g hg => h2 g (List.mem_cons_of_mem _ hg)⟩
    | some c =>
      constructor
      · intro ⟨h1, h2⟩
        have h3 := h1 _ rfl
        rw [Nat.testBit_and, Bool.and_eq_true] at h3
        exact ⟨fun b hb => by cases hb; exact h3.1, fun g hg => by
          rcases List.mem_cons.mp hg with rfl | hg
          · exact h3.2
          · exact h2 g hg⟩
      · intro ⟨h1, h2⟩
        exact ⟨fun b hb => by cases hb; rw [Nat.testBit_and, h1 c rfl, h2 x (List.mem_cons_self ..)]; rfl, fun g hg => h2 g (List.mem_cons_of_mem _ hg)⟩
theorem core_none {t s : List Int} {n k : Nat} : coreN t s n k = none ↔ ∀ g, g < 2 ^ n → givesN s g = t.getD g 0 → g.testBit k = false := by
  unfold coreN
  constructor
  · intro h g hg ht
    cases e : g.testBit k with
    | false => rfl
    | true =>
      have hm : g ∈ (List.range (2 ^ n)).filter fun g => decide (givesN s g = t.getD g 0) && g.testBit k := List.mem_filter.mpr ⟨List.mem_range.mpr hg, by rw [decide_eq_true ht, e]; rfl⟩
      generalize (List.range (2 ^ n)).filter (fun g => decide (givesN s g = t.getD g 0) && g.testBit k) = xs at *
      have key : ∀ (xs : List Nat) (c : Nat), xs.foldl (fun c g => some (match c with | none => g | some c => c &&& g)) (some c) ≠ none := fun xs => by
        induction xs with
        | nil => intro c h; cases h
        | cons x xs ih => intro c; rw [List.foldl_cons]; exact ih _
      cases xs with
      | nil => cases hm
      | cons x xs => rw [List.foldl_cons] at h; exact absurd h (key xs _)
  · intro h
    have : (List.range (2 ^ n)).filter (fun g => decide (givesN s g = t.getD g 0) && g.testBit k) = [] := by
      apply List.filter_eq_nil_iff.mpr
      intro g hg hh
      rw [Bool.and_eq_true, decide_eq_true_eq] at hh
      rw [h g (List.mem_range.mp hg) hh.1] at hh
      cases hh.2
    rw [this]; rfl
theorem core_some {t s : List Int} {n k c : Nat} (h : coreN t s n k = some c) : ∀ i, c.testBit i = true ↔ ∀ g, g < 2 ^ n → givesN s g = t.getD g 0 → g.testBit k = true → g.testBit i = true := by
  intro i
  rw [core_bits _ _ _ h i]
  constructor
  · intro ⟨_, h2⟩ g hg ht hk
    exact h2 g (List.mem_filter.mpr ⟨List.mem_range.mpr hg, by rw [decide_eq_true ht, hk]; rfl⟩)
  · intro h2
    refine ⟨fun b hb => (by cases hb), fun g hg => ?_⟩
    obtain ⟨h3, h4⟩ := List.mem_filter.mp hg
    rw [Bool.and_eq_true, decide_eq_true_eq] at h4
    exact h2 g (List.mem_range.mp h3) h4.1 h4.2
theorem core_tight {t s : List Int} {n k c : Nat} (F : Falls t n) (hu : UnderN t s n) (h : coreN t s n k = some c) : c < 2 ^ n ∧ givesN s c = t.getD c 0 := by
  refine core_fold (fun g => g < 2 ^ n ∧ givesN s g = t.getD g 0) (fun a b ⟨a1, a2⟩ ⟨b1, b2⟩ => ⟨and_lt a1, (tight_or F hu a1 b1 a2 b2).2⟩) _ none (fun g hg => ?_) (fun a ha => by cases ha) c h
  obtain ⟨h3, h4⟩ := List.mem_filter.mp hg
  rw [Bool.and_eq_true, decide_eq_true_eq] at h4
  exact ⟨List.mem_range.mp h3, h4.1⟩
theorem core_lt {t s : List Int} {n k c : Nat} (h : coreN t s n k = some c) : c < 2 ^ n := by
  refine core_fold (fun g => g < 2 ^ n) (fun a b a1 _ => and_lt a1) _ none (fun g hg => ?_) (fun a ha => by cases ha) c h
  exact List.mem_range.mp (List.mem_filter.mp hg).1
end Gc

namespace Gc
open PySem L2
/-! ## costs at prices, and the cheapest groups -/
/-- what each group costs with the prices of those outside it -/
def costsN (t p : List Int) (n : Nat) : List Int := (List.range (2 ^ n)).map fun g => t.getD g 0 + givesN p (2 ^ n - 1 - g)
theorem costsN_len (t p : List Int) (n : Nat) : (costsN t p n).length = 2 ^ n := by simp [costsN]
theorem costs_min (t p : List Int) (n : Nat) : ∃ m, minL (costsN t p n) = some m := by
  cases e : costsN t p n with
  | nil => have := costsN_len t p n; rw [e] at this; have := Nat.two_pow_pos n; simp at *; omega
  | cons x xs => exact ⟨_, rfl⟩
theorem costs_at (t p : List Int) {n g : Nat} (hg : g < 2 ^ n) : (costsN t p n).getD g 0 = t.getD g 0 + givesN p (2 ^ n - 1 - g) := getD_map_range (β := Int) _ hg
theorem co_bit {n g k : Nat} (hn : n ≤ 6) (hg : g < 2 ^ n) (hk : k < n) : (2 ^ n - 1 - g).testBit k = !g.testBit k := by
  have key : ∀ n : Fin 7, ∀ k : Fin 6, ∀ g : Fin 64, k.val < n.val → g.val < 2 ^ n.val → (2 ^ n.val - 1 - g.val).testBit k.val = !g.val.testBit k.val := by decide +kernel
  have h6 := pow6 hn
  exact key ⟨n, by omega⟩ ⟨k, by omega⟩ ⟨g, by omega⟩ hk hg
theorem gives_co {p : List Int} {n g : Nat} (hn : n ≤ 6) (hp : p.length = n) (hg : g < 2 ^ n) : givesN p (2 ^ n - 1 - g) = p.sum - givesN p g := by
  have h := sum_out hp g
  rw [givesN_sum p (2 ^ n - 1 - g), hp, sumTo_congr (g := fun i => if g.testBit i = true then 0 else p.getD i 0) fun i hi => by
    rw [co_bit hn hg hi]
    cases g.testBit i <;> rfl]
  omega
theorem cost_eq {t p : List Int} {n g : Nat} (hn : n ≤ 6) (hp : p.length = n) (hg : g < 2 ^ n) : (costsN t p n).getD g 0 = t.getD g 0 - givesN p g + p.sum := by
  rw [costs_at t p hg, gives_co hn hp hg]
  omega
theorem cost_falls {t p : List Int} {n a b : Nat} (hn : n ≤ 6) (hp : p.length = n) (F : Falls t n) (ha : a < 2 ^ n) (hb : b < 2 ^ n) : (costsN t p n).getD (a ||| b) 0 + (costsN t p n).getD (a &&& b) 0 ≤ (costsN t p n).getD a 0 + (costsN t p n).getD b 0 := by
  rw [cost_eq hn hp (or_lt ha hb), cost_eq hn hp (and_lt ha), cost_eq hn hp ha, cost_eq hn hp hb]
  have h1 : t.getD (a ||| b) 0 + t.getD (a &&& b) 0 ≤ t.getD a 0 + t.getD b 0 := F a b ha hb
  have h2 := gives_or_and (row := p) a b
  omega
/-- g is one of the cheapest groups -/
def Ch (t p : List Int) (n g : Nat) : Prop := g < 2 ^ n ∧ ∀ h, h < 2 ^ n → (costsN t p n).getD g 0 ≤ (costsN t p n).getD h 0
theorem ch_iff {t p : List Int} {n g : Nat} {m : Int} (hm : minL (costsN t p n) = some m) (hg : g < 2 ^ n) : (costsN t p n).getD g 0 = m ↔ Ch t p n g := by
  obtain ⟨m1, m2⟩ := minL_spec hm
  have hl := costsN_len t p n
  constructor
  · intro e
    refine ⟨hg, fun h hh => ?_⟩
    rw [e]
    exact m2 _ (mem_getD (by rw [hl]; exact hh))
  · rintro ⟨_, hc⟩
    obtain ⟨k, hk, ek⟩ := List.getElem_of_mem m1
    have h1 := hc k (by rw [hl] at hk; exact hk)
    rw [List.getD_eq_getElem?_getD (i := k), List.getElem?_eq_getElem hk] at h1
    have h1 : (costsN t p n).getD g 0 ≤ m := by rw [← ek]; exact h1
    have h2 := m2 _ (mem_getD (xs := costsN t p n) (k := g) (by rw [hl]; exact hg))
    omega
theorem ch_ex (t p : List Int) (n : Nat) : ∃ g, Ch t p n g := by
  obtain ⟨m, hm⟩ := costs_min t p n
  obtain ⟨m1, m2⟩ := minL_spec hm
  obtain ⟨k, hk, ek⟩ := List.getElem_of_mem m1
  have hk' : k < 2 ^ n := by rw [costsN_len] at hk; exact hk
  refine ⟨k, (ch_iff hm hk').mp ?_⟩
  rw [List.getD_eq_getElem?_getD, List.getElem?_eq_getElem hk, ← ek]; rfl
theorem Ch.both {t p : List Int} {n a b : Nat} (hn : n ≤ 6) (hp : p.length = n) (F : Falls t n) (ha : Ch t p n a) (hb : Ch t p n b) : Ch t p n (a ||| b) ∧ Ch t p n (a &&& b) := by
  have h := cost_falls hn hp F ha.1 hb.1
  have h1 := ha.2 _ (or_lt ha.1 hb.1)
  have h2 := ha.2 _ (and_lt (b := b) ha.1)
  have h3 := hb.2 _ ha.1
  have h4 := ha.2 _ hb.1
  exact ⟨⟨or_lt ha.1 hb.1, fun g hg => by have := ha.2 g hg; omega⟩, ⟨and_lt ha.1, fun g hg => by have := ha.2 g hg; omega⟩⟩
/-- the least cheapest group -/
def leastN (t p : List Int) (n : Nat) (m : Int) : Nat := ((List.range (2 ^ n)).filter fun g => decide ((costsN t p n).getD g 0 = m)).foldl (fun a b => a &&& b) (2 ^ n - 1)
def mostN (t p : List Int) (n : Nat) (m : Int) : Nat := ((List.range (2 ^ n)).filter fun g => decide ((costsN t p n).getD g 0 = m)).foldl (fun a b => a ||| b) 0
theorem and_fold : ∀ (xs : List Nat) (a i : Nat), (xs.foldl (fun a b => a &&& b) a).testBit i = true ↔ a.testBit i = true ∧ ∀ g ∈ xs, g.testBit i = true
  | [], a, i => by simp
  | x :: xs, a, i => by
    rw [List.foldl_cons, and_fold xs, Nat.testBit_and, Bool.and_eq_true]
    constructor
    · intro ⟨⟨h1, h2⟩, h3⟩
      exact ⟨h1, fun g hg => by
        rcases List.mem_cons.mp hg with rfl | hg
        · exact h2
        · exact h3 g hg⟩
    · intro ⟨h1, h2⟩
      exact ⟨⟨h1, h2 x (List.mem_cons_self ..)⟩, fun g hg => h2 g (List.mem_cons_of_mem _ hg)⟩
theorem or_fold : ∀ (xs : List Nat) (a i : Nat), (xs.foldl (fun a b => a ||| b) a).testBit i = true ↔ a.testBit i = true ∨ ∃ g ∈ xs, g.testBit i = true
  | [], a, i => by simp
  | x :: xs, a, i => by
    rw [List.foldl_cons, or_fold xs, Nat.testBit_or, Bool.or_eq_true]
    constructor
    · rintro ((h | h) | ⟨g, hg, h⟩)
      · exact .inl h
      · exact .inr ⟨x, List.mem_cons_self .., h⟩
      · exact .inr ⟨g, List.mem_cons_of_mem _ hg, h⟩
    · rintro (h | ⟨g, hg, h⟩)
      · exact .inl (.inl h)
      · rcases List.mem_cons.mp hg with rfl | hg
        · exact .inl (.inr h)
        · exact .inr ⟨g, hg, h⟩
theorem fold_in {f : Nat → Nat → Nat} (Q : Nat → Prop) (hf : ∀ a b, Q a → Q b → Q (f a b)) : ∀ (xs : List Nat) (a : Nat), Q a → (∀ x ∈ xs, Q x) → Q (xs.foldl f a)
  | [], _, h, _ => h
  | x :: xs, a, h, hx => fold_in Q hf xs _ (hf a x h (hx x (List.mem_cons_self ..))) fun y hy => hx y (List.mem_cons_of_mem _ hy)
theorem mem_ch {t p : List Int} {n g : Nat} {m : Int} (hm : minL (costsN t p n) = some m) : g ∈ ((List.range (2 ^ n)).filter fun g => decide ((costsN t p n).getD g 0 = m)) ↔ Ch t p n g := by
  rw [List.mem_filter, List.mem_range, decide_eq_true_eq]
  constructor
  · intro ⟨h1, h2⟩; exact (ch_iff hm h1).mp h2
  · intro h; exact ⟨h.1, (ch_iff hm h.1).mpr h⟩
theorem all_and {n g : Nat} (hg : g < 2 ^ n) : (2 ^ n - 1) &&& g = g := by
  apply Nat.eq_of_testBit_eq
  intro i
  rw [Nat.testBit_and, Nat.testBit_two_pow_sub_one]
  by_cases c : i < n
  · rw [decide_eq_true c, Bool.true_and]
  · have : g.testBit i = false := Nat.testBit_lt_two_pow (Nat.lt_of_lt_of_le hg (Nat.pow_le_pow_right (by decide) (by omega)))
    rw [this, Bool.and_false]
theorem least_spec {t p : List Int} {n : Nat} {m : Int} (hn : n ≤ 6) (hp : p.length = n) (F : Falls t n) (hm : minL (costsN t p n) = some m) : Ch t p n (leastN t p n m) ∧ ∀ g, Ch t p n g → ∀ i, (leastN t p n m).testBit i = true → g.testBit i = true := by
  refine ⟨?_, fun g hg i hi => ((and_fold _ _ i).mp hi).2 g ((mem_ch hm).mpr hg)⟩
  unfold leastN
  obtain ⟨g0, hg0⟩ := ch_ex t p n
  have h0 := (mem_ch hm).mpr hg0
  have hall : ∀ x ∈ ((List.range (2 ^ n)).filter fun g => decide ((costsN t p n).getD g 0 = m)), Ch t p n x := fun x hx => (mem_ch hm).mp hx
  generalize ((List.range (2 ^ n)).filter fun g => decide ((costsN t p n).getD g 0 = m)) = xs at *
  cases xs with
  | nil => cases h0
  | cons x xs =>
    rw [List.foldl_cons, all_and (hall x (List.mem_cons_self ..)).1]
    exact fold_in (Ch t p n) (fun a b ha hb => (Ch.both hn hp F ha hb).2) xs x (hall x (List.mem_cons_self ..)) fun y hy => hall y (List.mem_cons_of_mem _ hy)
theorem most_spec {t p : List Int} {n : Nat} {m : Int} (hn : n ≤ 6) (hp : p.length = n) (F : Falls t n) (hm : minL (costsN t p n) = some m) : Ch t p n (mostN t p n m) ∧ ∀ g, Ch t p n g → ∀ i, g.testBit i = true → (mostN t p n m).testBit i = true := by
  refine ⟨?_, fun g hg i hi => (or_fold _ _ i).mpr (.inr ⟨g, (mem_ch hm).mpr hg, hi⟩)⟩
  unfold mostN
  obtain ⟨g0, hg0⟩ := ch_ex t p n
  have h0 := (mem_ch hm).mpr hg0
  have hall : ∀ x ∈ ((List.range (2 ^ n)).filter fun g => decide ((costsN t p n).getD g 0 = m)), Ch t p n x := fun x hx => (mem_ch hm).mp hx
  generalize ((List.range (2 ^ n)).filter fun g => decide ((costsN t p n).getD g 0 = m)) = xs at *
  cases xs with
  | nil => cases h0
  | cons x xs =>
    rw [List.foldl_cons, Nat.zero_or]
    exact fold_in (Ch t p n) (fun a b ha hb => (Ch.both hn hp F ha hb).1) xs x (hall x (List.mem_cons_self ..)) fun y hy => hall y (List.mem_cons_of_mem _ hy)
/-- shares low enough -/
theorem low_under {t p : List Int} {n : Nat} (T : Tab n t) (hp : p.length = n) : UnderN t (p.map fun x => min x (-(t.map fun c => absI c).sum)) n := by
  have dep : ∀ (xs : List Int), 0 ≤ (xs.map fun c => absI c).sum ∧ ∀ x ∈ xs, -(xs.map fun c => absI c).sum ≤ x := by
    intro xs
    induction xs with
    | nil => exact ⟨by decide, fun _ h => by cases h⟩
    | cons y ys ih =>
      obtain ⟨h1, h2⟩ := ih
      have ha : 0 ≤ absI y ∧ -absI y ≤ y := by unfold absI; split <;> omega
      rw [List.map_cons, List.sum_cons]
      refine ⟨by omega, fun x hx => ?_⟩
      rcases List.mem_cons.mp hx with rfl | hx
      · omega
      · have := h2 x hx; omega
  obtain ⟨d0, d1⟩ := dep t
  generalize (t.map fun c => absI c).sum = d at *
  intro g hg
  by_cases z : g = 0
  · subst z; rw [givesN_zero, T.zero]; decide
  · obtain ⟨i, hi, bi⟩ := exists_bit hg z
    have h1 := d1 _ (mem_getD (xs := t) (k := g) (by rw [T.len]; exact hg))
    have h2 := sumTo_one (n := n) (f := fun i => if g.testBit i = true then d else 0) (fun j _ => by split <;> omega) i hi
    simp only [bi, if_true] at h2
    have h3 : givesN (p.map fun x => min x (-d)) g + sumTo n (fun i => if g.testBit i = true then d else 0) ≤ 0 := by
      rw [givesN_sum, List.length_map, hp, ← sumTo_add]
      have := sumTo_mono (n := n) (f := fun i => (if g.testBit i = true then (p.map fun x => min x (-d)).getD i 0 else 0) + if g.testBit i = true then d else 0) (g := fun _ => 0) fun i hi => by
        have e : (p.map fun x => min x (-d)).getD i 0 = min (p.getD i 0) (-d) := by
          rw [List.getD_eq_getElem?_getD, List.getD_eq_getElem?_getD, List.getElem?_map, List.getElem?_eq_getElem (by omega)]; rfl
        rw [e]
        split <;> omega
      rw [sumTo_zero] at this
      exact this
    omega
theorem map_getD {xs : List Int} {f : Int → Int} {i : Nat} (h : i < xs.length) : (xs.map f).getD i 0 = f (xs.getD i 0) := by
  rw [List.getD_eq_getElem?_getD, List.getD_eq_getElem?_getD, List.getElem?_map, List.getElem?_eq_getElem h]; rfl
end Gc

namespace Gc
open PySem L2
/-! ## two tables that fall: shares that suit both -/
/-- m is the least of what a group costs by the one and the others by the other -/
def IsLeast (a b : List Int) (n : Nat) (m : Int) : Prop := (∃ g, g < 2 ^ n ∧ m = a.getD g 0 + b.getD (2 ^ n - 1 - g) 0) ∧ ∀ g, g < 2 ^ n → m ≤ a.getD g 0 + b.getD (2 ^ n - 1 - g) 0
/-- the table of the others where the first hand is fixed at s -/
def fixN (t : List Int) (n : Nat) (s : Int) : List Int := (List.range (2 ^ n)).map fun g => min (t.getD (2 * g) 0) (t.getD (2 * g + 1) 0 - s)
theorem fixN_len (t : List Int) (n : Nat) (s : Int) : (fixN t n s).length = 2 ^ n := by simp [fixN]
theorem fixN_at (t : List Int) {n g : Nat} (s : Int) (h : g < 2 ^ n) : (fixN t n s).getD g 0 = min (t.getD (2 * g) 0) (t.getD (2 * g + 1) 0 - s) := getD_map_range (β := Int) _ h
theorem dbl_fin : ∀ a b : Fin 32, 2 * a.val ||| 2 * b.val = 2 * (a.val ||| b.val) ∧ (2 * a.val + 1) ||| 2 * b.val = 2 * (a.val ||| b.val) + 1 ∧ 2 * a.val ||| (2 * b.val + 1) = 2 * (a.val ||| b.val) + 1 ∧ (2 * a.val + 1) ||| (2 * b.val + 1) = 2 * (a.val ||| b.val) + 1 ∧
    2 * a.val &&& 2 * b.val = 2 * (a.val &&& b.val) ∧ (2 * a.val + 1) &&& 2 * b.val = 2 * (a.val &&& b.val) ∧ 2 * a.val &&& (2 * b.val + 1) = 2 * (a.val &&& b.val) ∧ (2 * a.val + 1) &&& (2 * b.val + 1) = 2 * (a.val &&& b.val) + 1 := by decide +kernel
theorem dbl {n a b : Nat} (hn : n + 1 ≤ 6) (ha : a < 2 ^ n) (hb : b < 2 ^ n) : 2 * a ||| 2 * b = 2 * (a ||| b) ∧ (2 * a + 1) ||| 2 * b = 2 * (a ||| b) + 1 ∧ 2 * a ||| (2 * b + 1) = 2 * (a ||| b) + 1 ∧ (2 * a + 1) ||| (2 * b + 1) = 2 * (a ||| b) + 1 ∧
    2 * a &&& 2 * b = 2 * (a &&& b) ∧ (2 * a + 1) &&& 2 * b = 2 * (a &&& b) ∧ 2 * a &&& (2 * b + 1) = 2 * (a &&& b) ∧ (2 * a + 1) &&& (2 * b + 1) = 2 * (a &&& b) + 1 := by
  have h5 : 2 ^ n ≤ 32 := Nat.pow_le_pow_right (n := 2) (by decide) (show n ≤ 5 by omega)
  exact dbl_fin ⟨a, by omega⟩ ⟨b, by omega⟩
theorem fix_tab {n : Nat} {t : List Int} {s : Int} (T : Tab (n + 1) t) (hs : s ≤ t.getD 1 0) : Tab n (fixN t n s) := ⟨fixN_len t n s, by
  rw [fixN_at t s (Nat.two_pow_pos n), Nat.mul_zero, T.zero]
  show min 0 (t.getD 1 0 - s) = 0
  omega⟩
theorem fix_falls {n : Nat} {t : List Int} {s : Int} (hn : n + 1 ≤ 6) (F : Falls t (n + 1)) : Falls (fixN t n s) n := fun a b ha hb => by
  have hp : 2 ^ (n + 1) = 2 * 2 ^ n := by rw [Nat.pow_succ]; omega
  obtain ⟨o1, o2, o3, o4, u1, u2, u3, u4⟩ := dbl hn ha hb
  show (fixN t n s).getD (a ||| b) 0 + (fixN t n s).getD (a &&& b) 0 ≤ (fixN t n s).getD a 0 + (fixN t n s).getD b 0
  rw [fixN_at t s (or_lt ha hb), fixN_at t s (and_lt ha), fixN_at t s ha, fixN_at t s hb]
  have f1 : t.getD (2 * a ||| 2 * b) 0 + t.getD (2 * a &&& 2 * b) 0 ≤ t.getD (2 * a) 0 + t.getD (2 * b) 0 := F _ _ (by omega) (by omega)
  have f2 : t.getD ((2 * a + 1) ||| 2 * b) 0 + t.getD ((2 * a + 1) &&& 2 * b) 0 ≤ t.getD (2 * a + 1) 0 + t.getD (2 * b) 0 := F _ _ (by omega) (by omega)
  have f3 : t.getD (2 * a ||| (2 * b + 1)) 0 + t.getD (2 * a &&& (2 * b + 1)) 0 ≤ t.getD (2 * a) 0 + t.getD (2 * b + 1) 0 := F _ _ (by omega) (by omega)
  have f4 : t.getD ((2 * a + 1) ||| (2 * b + 1)) 0 + t.getD ((2 * a + 1) &&& (2 * b + 1)) 0 ≤ t.getD (2 * a + 1) 0 + t.getD (2 * b + 1) 0 := F _ _ (by omega) (by omega)
  rw [o1, u1] at f1
  rw [o2, u2] at f2
  rw [o3, u3] at f3
  rw [o4, u4] at f4
  omega
/-- the greatest share of the first hand -/
def IsRoom (a b : List Int) (n : Nat) (m s : Int) : Prop := (s = a.getD 1 0 ∨ s = b.getD 1 0 ∨ ∃ g, g < 2 ^ n ∧ s = a.getD (2 * g + 1) 0 + b.getD (2 * (2 ^ n - 1 - g) + 1) 0 - m) ∧ s ≤ a.getD 1 0 ∧ s ≤ b.getD 1 0 ∧ ∀ g, g < 2 ^ n → s ≤ a.getD (2 * g + 1) 0 + b.getD (2 * (2 ^ n - 1 - g) + 1) 0 - m
theorem co_dbl {n g : Nat} (hg : g < 2 ^ n) : 2 ^ (n + 1) - 1 - 2 * g = 2 * (2 ^ n - 1 - g) + 1 ∧ 2 ^ (n + 1) - 1 - (2 * g + 1) = 2 * (2 ^ n - 1 - g) := by
  have hp : 2 ^ (n + 1) = 2 * 2 ^ n := by rw [Nat.pow_succ]; omega
  omega
theorem co_or_fin : ∀ n : Fin 6, ∀ a b : Fin 32, a.val < 2 ^ n.val → b.val < 2 ^ n.val → (2 ^ n.val - 1 - a.val) &&& (2 ^ n.val - 1 - b.val) = 2 ^ n.val - 1 - (a.val ||| b.val) ∧ (2 ^ n.val - 1 - a.val) ||| (2 ^ n.val - 1 - b.val) = 2 ^ n.val - 1 - (a.val &&& b.val) := by decide +kernel
theorem fix_least {n : Nat} {a b : List Int} {m s : Int} (hn : n + 1 ≤ 6) (A : Tab (n + 1) a) (B : Tab (n + 1) b) (FA : Falls a (n + 1)) (FB : Falls b (n + 1)) (L : IsLeast a b (n + 1) m) (R : IsRoom a b n m s) : IsLeast (fixN a n s) (fixN b n s) n (m - s) := by
  have hp : 2 ^ (n + 1) = 2 * 2 ^ n := by rw [Nat.pow_succ]; omega
  have h5 : 2 ^ n ≤ 32 := Nat.pow_le_pow_right (n := 2) (by decide) (show n ≤ 5 by omega)
  obtain ⟨⟨g0, hg0, e0⟩, L2⟩ := L
  obtain ⟨R1, R2, R3, R4⟩ := R
  have k1 : ∀ g, g < 2 ^ n → m ≤ a.getD (2 * g + 1) 0 + b.getD (2 * (2 ^ n - 1 - g)) 0 := fun g hg => by
    have := L2 (2 * g + 1) (by omega)
    rwa [(co_dbl hg).2] at this
  have k2 : ∀ g, g < 2 ^ n → m ≤ a.getD (2 * g) 0 + b.getD (2 * (2 ^ n - 1 - g) + 1) 0 := fun g hg => by
    have := L2 (2 * g) (by omega)
    rwa [(co_dbl hg).1] at this
  -- without the first hand
  have k0 : ∀ g, g < 2 ^ n → m - s ≤ a.getD (2 * g) 0 + b.getD (2 * (2 ^ n - 1 - g)) 0 := fun g hg => by
    have hc : 2 ^ n - 1 - g < 2 ^ n := by omega
    have z := Nat.two_pow_pos n
    rcases R1 with e | e | ⟨h, hh, e⟩
    · have f : a.getD (2 * g ||| (2 * 0 + 1)) 0 + a.getD (2 * g &&& (2 * 0 + 1)) 0 ≤ a.getD (2 * g) 0 + a.getD (2 * 0 + 1) 0 := FA _ _ (by omega) (by omega)
      obtain ⟨_, _, o3, _, _, _, u3, _⟩ := dbl hn hg z
      rw [o3, u3, Nat.or_zero, Nat.and_zero, Nat.mul_zero, A.zero] at f
      have := k1 g hg
      simp only [Nat.zero_add] at f
      omega
    · have f : b.getD (2 * (2 ^ n - 1 - g) ||| (2 * 0 + 1)) 0 + b.getD (2 * (2 ^ n - 1 - g) &&& (2 * 0 + 1)) 0 ≤ b.getD (2 * (2 ^ n - 1 - g)) 0 + b.getD (2 * 0 + 1) 0 := FB _ _ (by omega) (by omega)
      obtain ⟨_, _, o3, _, _, _, u3, _⟩ := dbl hn hc z
      rw [o3, u3, Nat.or_zero, Nat.and_zero, Nat.mul_zero, B.zero] at f
      have := k2 g hg
      simp only [Nat.zero_add] at f
      omega
    · have hd : 2 ^ n - 1 - h < 2 ^ n := by omega
      have fa : a.getD (2 * g ||| (2 * h + 1)) 0 + a.getD (2 * g &&& (2 * h + 1)) 0 ≤ a.getD (2 * g) 0 + a.getD (2 * h + 1) 0 := FA _ _ (by omega) (by omega)
      have fb : b.getD (2 * (2 ^ n - 1 - g) ||| (2 * (2 ^ n - 1 - h) + 1)) 0 + b.getD (2 * (2 ^ n - 1 - g) &&& (2 * (2 ^ n - 1 - h) + 1)) 0 ≤ b.getD (2 * (2 ^ n - 1 - g)) 0 + b.getD (2 * (2 ^ n - 1 - h) + 1) 0 := FB _ _ (by omega) (by omega)
      obtain ⟨_, _, o3, _, _, _, u3, _⟩ := dbl hn hg hh
      obtain ⟨_, _, p3, _, _, _, v3, _⟩ := dbl hn hc hd
      obtain ⟨c1, c2⟩ := co_or_fin ⟨n, by omega⟩ ⟨g, by omega⟩ ⟨h, by omega⟩ hg hh
      dsimp only at c1 c2
      rw [o3, u3] at fa
      rw [p3, v3, c1, c2] at fb
      have q1 := k1 (g ||| h) (or_lt hg hh)
      have q2 := k2 (g &&& h) (and_lt hg)
      omega
  refine ⟨?_, fun g hg => ?_⟩
  · -- where the least of the whole stands
    have hlow : ∀ g, g < 2 ^ n → m - s ≤ (fixN a n s).getD g 0 + (fixN b n s).getD (2 ^ n - 1 - g) 0 := fun g hg => by
      rw [fixN_at a s hg, fixN_at b s (by omega)]
      have := k0 g hg
      have := k1 g hg
      have := k2 g hg
      have := R4 g hg
      omega
    have hg2 : g0 / 2 < 2 ^ n := by omega
    refine ⟨g0 / 2, hg2, ?_⟩
    have h1 := hlow _ hg2
    rw [fixN_at a s hg2, fixN_at b s (by omega)] at h1 ⊢
    rcases Nat.mod_two_eq_zero_or_one g0 with e | e
    · have eg : g0 = 2 * (g0 / 2) := by omega
      rw [eg, (co_dbl hg2).1] at e0
      omega
    · have eg : g0 = 2 * (g0 / 2) + 1 := by omega
      rw [eg, (co_dbl hg2).2] at e0
      omega
  · rw [fixN_at a s hg, fixN_at b s (by omega)]
    have := k0 g hg
    have := k1 g hg
    have := k2 g hg
    have := R4 g hg
    omega
/-- a share put ahead of the others' -/
theorem under_cons {n : Nat} {t r : List Int} {s : Int} (hr : r.length = n) (hu : UnderN (fixN t n s) r n) : UnderN t (s :: r) (n + 1) := by
  have hp : 2 ^ (n + 1) = 2 * 2 ^ n := by rw [Nat.pow_succ]; omega
  intro g hg
  have hg2 : g / 2 < 2 ^ n := by omega
  have h1 := hu _ hg2
  rw [fixN_at t s hg2] at h1
  have e : givesN (s :: r) g = (if g.testBit 0 = true then s else 0) + givesN r (g / 2) := by
    rw [givesN_sum, givesN_sum, List.length_cons, hr]
    have key : ∀ (f : Nat → Int) (n : Nat), sumTo (n + 1) f = f 0 + sumTo n fun i => f (i + 1) := by
      intro f n
      induction n with
      | zero => show sumTo 0 f + f 0 = f 0 + 0; show 0 + f 0 = f 0 + 0; omega
      | succ n ih =>
        show sumTo (n + 1) f + f (n + 1) = f 0 + (sumTo n (fun i => f (i + 1)) + f (n + 1))
        rw [ih]; omega
    rw [key]
    congr 1
    apply sumTo_congr
    intro i _
    rw [Nat.testBit_succ]
    rfl
  rw [e, Nat.testBit_zero]
  rcases Nat.mod_two_eq_zero_or_one g with q | q
  · have eg : g = 2 * (g / 2) := by omega
    rw [if_neg (by simp [q])]
    rw [← eg] at h1
    omega
  · have eg : g = 2 * (g / 2) + 1 := by omega
    rw [if_pos (by simp [q])]
    rw [← eg] at h1
    omega
end Gc

namespace Gc
open PySem PySem.Spec PyProof.Rows L2
/-! ## further things: cuts, rows of single hands, rows between -/
theorem cutTo {α : Type} {xs : List α} {k : Nat} (h : k ≤ xs.length) : cutL xs none (some (k : Int)) = xs.take k := by
  unfold cutL
  rw [HT.sIx_none, HT.sIx_nat, Nat.min_eq_left h, List.drop_zero, Nat.sub_zero]
theorem cutMid {α : Type} {xs : List α} {a b : Nat} (ha : a ≤ b) (h : b ≤ xs.length) : cutL xs (some (a : Int)) (some (b : Int)) = (xs.drop a).take (b - a) := by
  unfold cutL
  rw [HT.sIx_nat, HT.sIx_nat, Nat.min_eq_left h, Nat.min_eq_left (by omega)]
theorem cutMem {α : Type} {xs : List α} {lo hi : Option Int} {x : α} (h : x ∈ cutL xs lo hi) : x ∈ xs := List.mem_of_mem_drop (List.mem_of_mem_take h)
theorem powHundred : powO (10 ^ 50) 2 = some ((10 : Int) ^ 100) := by
  have h : (0 : Int) ≤ 2 ∧ (Builtin.Int.intBits (10 ^ 50) : Int) * 2 ≤ 2 ^ 27 := by decide +kernel
  have h2 : ((10 : Int) ^ 50) ^ (2 : Int).toNat = 10 ^ 100 := by decide +kernel
  unfold powO
  rw [if_pos h, h2]
theorem getD_negI (t : List Int) (k : Nat) : (t.map fun cost => -cost).getD k 0 = -(t.getD k 0) := by
  rw [List.getD_eq_getElem?_getD, List.getD_eq_getElem?_getD, List.getElem?_map]
  cases t[k]? <;> rfl
theorem brks_negI (t : List Int) (n : Nat) : brks (t.map fun cost => -cost) n 1 = brks t n (-1) := by
  have hg : ∀ g i j, 1 * gapN (t.map fun cost => -cost) g i j = -1 * gapN t g i j := by
    intro g i j
    unfold gapN
    simp only [getD_negI]
    omega
  unfold brks brkG brkA isBrk
  simp only [hg]
def rowOf (t : List Int) (n : Nat) : List Int := (List.range n).map fun k => t.getD (2 ^ k) 0
theorem rowOf_len (t : List Int) (n : Nat) : (rowOf t n).length = n := by simp [rowOf]
theorem rowOf_at (t : List Int) {n k : Nat} (h : k < n) : (rowOf t n).getD k 0 = t.getD (2 ^ k) 0 := getD_map_range (β := Int) (fun k => t.getD (2 ^ k) 0) h
/-- the greatest hand of a group, taken off -/
theorem top_split {g m : Nat} (hg : g < 2 ^ (m + 1)) (b : g.testBit m = true) : g - 2 ^ m < 2 ^ m ∧ g = (g - 2 ^ m) ||| 2 ^ m ∧ (g - 2 ^ m) &&& 2 ^ m = 0 := by
  have hge : 2 ^ m ≤ g := Nat.ge_two_pow_of_testBit b
  have hlt : g - 2 ^ m < 2 ^ m := by rw [Nat.pow_succ] at hg; omega
  refine ⟨hlt, ?_, ?_⟩
  · have := Nat.two_pow_add_eq_or_of_lt hlt 1
    rw [Nat.mul_one] at this
    rw [Nat.or_comm, ← this]; omega
  · apply Nat.eq_of_testBit_eq
    intro i
    rw [Nat.testBit_and, Nat.testBit_two_pow, Nat.zero_testBit]
    by_cases c : m = i
    · subst c; rw [Nat.testBit_lt_two_pow hlt]; rfl
    · simp [c]
theorem top_none {g m : Nat} (hg : g < 2 ^ (m + 1)) (b : ¬ g.testBit m = true) : g < 2 ^ m := by
  apply Nat.lt_pow_two_of_testBit
  intro i hi
  by_cases c : i = m
  · subst c; simpa using b
  · exact Nat.testBit_lt_two_pow (Nat.lt_of_lt_of_le hg (Nat.pow_le_pow_right (by decide) (by omega)))
theorem flat_of {t : List Int} {n : Nat} (hn : n ≤ 6) (h0 : t.getD 0 0 = 0) (h1 : brks t n 1 = []) (h2 : brks t n (-1) = []) : ∀ g, g < 2 ^ n → t.getD g 0 = givesN (rowOf t n) g := by
  have F := falls_brks hn h1
  have R := falls_brks (t := t.map fun cost => -cost) hn (by rw [brks_negI]; exact h2)
  have key : ∀ m, m ≤ n → ∀ g, g < 2 ^ m → t.getD g 0 = givesN (rowOf t n) g := by
    intro m
    induction m with
    | zero => intro _ g hg; rw [show g = 0 by omega, h0, givesN_zero]
    | succ m ih =>
      intro hm g hg
      by_cases b : g.testBit m = true
      · obtain ⟨hlt, e1, e2⟩ := top_split hg b
        have hmn : 2 ^ m < 2 ^ n := Nat.pow_lt_pow_right (by decide) (by omega)
        have f := F (g - 2 ^ m) (2 ^ m) (by omega) hmn
        have r := R (g - 2 ^ m) (2 ^ m) (by omega) hmn
        simp only [getD_negI] at r
        simp only [] at f
        rw [← e1, e2] at f r
        have ga := givesN_add1 (row := rowOf t n) (g := g - 2 ^ m) (k := m) (by rw [rowOf_len]; omega) (Nat.testBit_lt_two_pow hlt)
        rw [← e1, rowOf_at t (by omega), ← ih (by omega) _ hlt] at ga
        omega
      · exact ih (by omega) g (top_none hg b)
  exact key n (Nat.le_refl n)
theorem gives_none {r : List Int} {n : Nat} (hn : n ≤ 6) {s : Int} {t : List Int} (ta : ∀ x, x < 2 ^ n → t.getD x 0 = givesN r x) (hs : s = 1 ∨ s = -1) : brks t n s = [] := by
  cases e : brks t n s with
  | nil => rfl
  | cons z zs =>
    have hz : z ∈ brks t n s := by rw [e]; exact List.mem_cons_self ..
    obtain ⟨g, i, j, hg, hb, rfl⟩ := (brks_mem hn).mp hz
    unfold isBrk at hb
    simp only [Bool.and_eq_true, decide_eq_true_eq, Bool.not_eq_true'] at hb
    obtain ⟨⟨⟨b1, b2⟩, b3, b4⟩, b5, b6⟩ := hb
    have l1 := or_lt hg (pow_lt b1)
    have l2 := or_lt hg (pow_lt b3)
    have l3 := or_lt hg (or_lt (pow_lt b1) (pow_lt b3))
    have e3 : (g ||| 2 ^ i) &&& (g ||| 2 ^ j) = g := by
      apply Nat.eq_of_testBit_eq
      intro x
      rw [Nat.testBit_and, Nat.testBit_or, Nat.testBit_or, Nat.testBit_two_pow, Nat.testBit_two_pow]
      by_cases e : i = x
      · have : ¬ j = x := by omega
        subst e; simp [b2, this]
      · cases g.testBit x <;> simp [e]
    have q := gives_or_and (row := r) (g ||| 2 ^ i) (g ||| 2 ^ j)
    rw [e3, or_or] at q
    unfold gapN at b6
    rw [ta _ l1, ta _ l2, ta _ l3, ta _ hg] at b6
    rcases hs with rfl | rfl <;> omega
theorem forO_allB {α : Type} {b : α → Unit → Option (Out Unit Unit Bool)} (p : α → Bool) : ∀ {xs : List α}, (∀ x ∈ xs, b x () = some (if p x = true then .nx () else .rt false)) → ((forO b xs () : Option (Out Unit Empty Bool)).bind (bnd fun (_ : Unit) => some (.rt true)) : Option (Out Unit Empty Bool)) = some (.rt (xs.all p))
  | [], _ => rfl
  | x :: xs, h => by
    have h0 := h x (List.mem_cons_self ..)
    by_cases c : p x = true
    · rw [if_pos c] at h0
      rw [forO_nx h0, forO_allB p fun y hy => h y (List.mem_cons_of_mem _ hy), List.all_cons, c, Bool.true_and]
    · rw [if_neg c] at h0
      unfold forO
      rw [h0, List.all_cons, show p x = false by simpa using c]
      rfl
theorem all_natL (p : Int → Bool) (n : Nat) : (natL n).all p = (List.range n).all fun g => p (g : Int) := by
  unfold natL
  rw [List.all_map]
  rfl
theorem forO_allK {α ν ρ : Type} {b : α → Unit → Option (Out Unit Unit ρ)} (p : α → Bool) (r : ρ) (k : Unit → Option (Out ν Empty ρ)) : ∀ {xs : List α}, (∀ x ∈ xs, b x () = some (if p x = true then .nx () else .rt r)) → ((forO b xs () : Option (Out Unit Empty ρ)).bind (bnd k) : Option (Out ν Empty ρ)) = if xs.all p = true then k () else some (.rt r)
  | [], _ => rfl
  | x :: xs, h => by
    have h0 := h x (List.mem_cons_self ..)
    by_cases c : p x = true
    · rw [if_pos c] at h0
      rw [forO_nx h0, forO_allK p r k fun y hy => h y (List.mem_cons_of_mem _ hy), List.all_cons, c, Bool.true_and]
    · rw [if_neg c] at h0
      unfold forO
      rw [h0, List.all_cons, show p x = false by simpa using c]
      rfl
theorem forO_allN {α ρ : Type} {b : α → Unit → Option (Out Unit Unit ρ)} (p : α → Bool) (r : ρ) : ∀ {xs : List α}, (∀ x ∈ xs, b x () = some (if p x = true then .nx () else .rt r)) → ((forO b xs () : Option (Out Unit Unit ρ)).bind (bnd fun (_ : Unit) => some (.nx ())) : Option (Out Unit Unit ρ)) = some (if xs.all p = true then .nx () else .rt r)
  | [], _ => rfl
  | x :: xs, h => by
    have h0 := h x (List.mem_cons_self ..)
    by_cases c : p x = true
    · rw [if_pos c] at h0
      rw [forO_nx h0, forO_allN p r fun y hy => h y (List.mem_cons_of_mem _ hy), List.all_cons, c, Bool.true_and]
    · rw [if_neg c] at h0
      unfold forO
      rw [h0, List.all_cons, show p x = false by simpa using c]
      rfl
theorem putI_mem (s : List Int) (x y : Int) : y ∈ putI s x ↔ y ∈ s ∨ y = x := by
  unfold putI
  split
  · next c => exact ⟨.inl, fun h => h.elim id fun e => by rw [e]; exact c⟩
  · rw [List.mem_append, List.mem_singleton]
theorem putI_len (s : List Int) (x : Int) : (putI s x).length ≤ s.length + 1 := by
  unfold putI
  split
  · omega
  · simp
theorem markO_eq {s : List Int} {x : Int} (h : s.length ≤ 1000) : markO s x = some (putI s x) := if_pos (Nat.lt_of_le_of_lt h (by decide))
theorem marks_ex {μ ρ : Type} {b : Int → List Int → Option (Out (List Int) (List Int) ρ)} (hb : ∀ x s, b x s = (markO s x).bind fun m => some (.nx m)) : ∀ (xs s0 : List Int), s0.length + xs.length ≤ 1000 → ∃ s, (forO b xs s0 : Option (Out (List Int) μ ρ)) = some (.nx s) ∧ ∀ x, x ∈ s ↔ x ∈ s0 ∨ x ∈ xs
  | [], s0, _ => ⟨s0, rfl, fun x => by simp⟩
  | y :: ys, s0, h => by
    simp only [List.length_cons] at h
    have hp := putI_len s0 y
    obtain ⟨s, e, m⟩ := marks_ex hb ys (putI s0 y) (by omega)
    have e0 : b y s0 = some (.nx (putI s0 y)) := by rw [hb, markO_eq (by omega), bs]
    refine ⟨s, by rw [forO_nx e0, e], fun x => ?_⟩
    rw [m x, putI_mem, List.mem_cons, or_assoc]
/-- groups of six hands, as whole numbers -/
def Fam (s : List Int) : Prop := ∀ x ∈ s, ∃ g : Nat, g < 64 ∧ x = (g : Int)
def Cl (s : List Int) : Prop := ∀ x ∈ s, ∀ y ∈ s, Builtin.bitOr x y ∈ s ∧ Builtin.bitAnd x y ∈ s
theorem natL_nodup (n : Nat) : (natL n).Nodup := by
  unfold natL
  exact List.pairwise_map.mpr (List.Pairwise.imp (fun h e => h (Int.ofNat.inj e)) List.nodup_range)
theorem fam_len {s : List Int} (nd : s.Nodup) (F : Fam s) : s.length ≤ 64 := by
  have p : s.Perm ((natL 64).filter fun x => decide (x ∈ s)) := (List.perm_ext_iff_of_nodup nd ((natL_nodup 64).filter _)).mpr fun a => by
    rw [List.mem_filter, decide_eq_true_eq]
    exact ⟨fun h => ⟨by obtain ⟨g, hg, rfl⟩ := F a h; exact mem_natL.mpr ⟨g, hg, rfl⟩, h⟩, fun h => h.2⟩
  rw [p.length_eq]
  exact Nat.le_trans (List.length_filter_le _ _) (by rw [natL_length]; exact Nat.le_refl _)
end Gc

namespace Gc
open PySem PySem.Spec PyProof.Rows L2
/-! ## prices: levels, steps, chains -/
def stepsL : List Int → List (Int × Int)
  | [] => []
  | [l] => [(l, l)]
  | l :: l' :: r => (l, l - l') :: stepsL (l' :: r)
theorem stepsL_len : ∀ ls : List Int, (stepsL ls).length = ls.length
  | [] => rfl
  | [_] => rfl
  | _ :: l' :: r => by
    show (stepsL (l' :: r)).length + 1 = _
    rw [stepsL_len (l' :: r)]; rfl
theorem stepsL_get : ∀ (ls : List Int) (i : Nat), i < ls.length → (stepsL ls)[i]? = some (ls.getD i 0, if i + 1 < ls.length then ls.getD i 0 - ls.getD (i + 1) 0 else ls.getD i 0)
  | [], i, h => absurd h (Nat.not_lt_zero i)
  | [l], i, h => by
    have : i = 0 := by simp at h; omega
    subst this
    rfl
  | l :: l' :: r, 0, _ => by
    show some (l, l - l') = _
    simp
  | l :: l' :: r, i + 1, h => by
    show (stepsL (l' :: r))[i]? = _
    rw [stepsL_get (l' :: r) i (by simpa using h)]
    simp
theorem stepsL_mem : ∀ {ls : List Int} {q : Int × Int}, q ∈ stepsL ls → q.1 ∈ ls
  | [l], q, h => by
    rw [List.mem_singleton.mp h]; simp
  | l :: l' :: r, q, h => by
    rcases List.mem_cons.mp (show q ∈ (l, l - l') :: stepsL (l' :: r) from h) with e | e
    · rw [e]; simp
    · exact List.mem_cons_of_mem _ (stepsL_mem e)
theorem stepsL_all : ∀ {ls : List Int} {l : Int}, l ∈ ls → ∃ q ∈ stepsL ls, q.1 = l
  | [x], l, h => ⟨(x, x), by simp [stepsL], (List.mem_singleton.mp h).symm⟩
  | x :: l' :: r, l, h => by
    rcases List.mem_cons.mp h with e | e
    · exact ⟨(x, x - l'), List.mem_cons_self .., e.symm⟩
    · obtain ⟨q, hq, e⟩ := stepsL_all e
      exact ⟨q, List.mem_cons_of_mem _ hq, e⟩
/-- a step is above nought, or its level is the least -/
theorem stepsL_pos : ∀ {ls : List Int}, ls.Pairwise (· > ·) → ∀ q ∈ stepsL ls, 0 < q.2 ∨ ∀ y ∈ ls, q.1 ≤ y
  | [l], _, q, h => .inr fun y hy => by rw [List.mem_singleton.mp h, List.mem_singleton.mp hy]; exact Int.le_refl _
  | l :: l' :: r, D, q, h => by
    obtain ⟨d1, d2⟩ := List.pairwise_cons.mp D
    rcases List.mem_cons.mp (show q ∈ (l, l - l') :: stepsL (l' :: r) from h) with e | e
    · have := d1 l' (List.mem_cons_self ..)
      left; rw [e]; dsimp only; omega
    · rcases stepsL_pos d2 q e with h | h
      · exact .inl h
      · right
        intro y hy
        rcases List.mem_cons.mp hy with z | z
        · have := d1 _ (stepsL_mem e)
          rw [z]; omega
        · exact h y z
theorem stepsL_sum : ∀ {l : Int} {r : List Int}, ((stepsL (l :: r)).map fun q => q.2).sum = l
  | l, [] => by simp [stepsL]
  | l, l' :: r => by
    show (l - l') + ((stepsL (l' :: r)).map fun q => q.2).sum = l
    rw [stepsL_sum]; omega
theorem steps_layer : ∀ {ls : List Int}, ls.Pairwise (· > ·) → ∀ x ∈ ls, ((stepsL ls).map fun q => if q.1 ≤ x then q.2 else 0).sum = x
  | [l], _, x, hx => by
    rw [List.mem_singleton.mp hx]; simp [stepsL]
  | l :: l' :: r, D, x, hx => by
    obtain ⟨d1, d2⟩ := List.pairwise_cons.mp D
    rcases List.mem_cons.mp hx with e | e
    · subst e
      rw [List.map_congr_left (g := fun q => q.2) fun q hq => ?_]
      · exact stepsL_sum
      · rcases List.mem_cons.mp (stepsL_mem hq) with z | z
        · rw [if_pos (by omega)]
        · have := d1 _ z
          rw [if_pos (by omega)]
    · show (if l ≤ x then l - l' else 0) + ((stepsL (l' :: r)).map fun q => if q.1 ≤ x then q.2 else 0).sum = x
      have := d1 x e
      rw [steps_layer d2 x e, if_neg (by omega)]; omega
def levelsN (p : List Int) : List Int := (sortL (onceL p)).reverse
theorem mem_levels {p : List Int} {x : Int} : x ∈ levelsN p ↔ x ∈ p := by
  unfold levelsN
  rw [List.mem_reverse, (sortL_perm _).mem_iff, mem_onceL]
theorem levels_dn (p : List Int) : (levelsN p).Pairwise (· > ·) := by
  unfold levelsN
  rw [List.pairwise_reverse]
  exact L2.lt_of_le_nodup _ (sortL_sorted _) ((sortL_perm _).nodup_iff.mpr (onceL_nodup p))
theorem onceL_len : ∀ ys : List Int, (onceL ys).length ≤ ys.length
  | [] => Nat.le_refl _
  | y :: ys => by
    have := onceL_len ys
    unfold onceL
    split <;> simp <;> omega
theorem levels_len (p : List Int) : (levelsN p).length ≤ p.length := by
  unfold levelsN
  rw [List.length_reverse, (sortL_perm _).length_eq]
  exact onceL_len p
/-- the hands of a price no less -/
def handsAt (p : List Int) (n : Nat) (l : Int) : List Nat := (List.range n).filter fun h => decide (l ≤ p.getD h 0)
def atLeast (p : List Int) (n : Nat) (l : Int) : Nat := orN 0 (handsAt p n l)
theorem atLeast_bit (p : List Int) (n : Nat) (l : Int) (h : Nat) : (atLeast p n l).testBit h = decide (h < n ∧ l ≤ p.getD h 0) := by
  unfold atLeast handsAt
  rw [orN_testBit, Nat.zero_testBit, Bool.false_or]
  congr 1
  simp
theorem atLeast_lt (p : List Int) (n : Nat) (l : Int) : atLeast p n l < 2 ^ n := orN_lt (Nat.two_pow_pos n) fun k hk => by
  unfold handsAt at hk
  exact List.mem_range.mp (List.mem_filter.mp hk).1
theorem atLeast_all {p : List Int} {n : Nat} {l : Int} (h : ∀ x ∈ p, l ≤ x) (hp : p.length = n) : atLeast p n l = 2 ^ n - 1 := by
  apply Nat.eq_of_testBit_eq
  intro i
  rw [atLeast_bit, Nat.testBit_two_pow_sub_one]
  apply decide_eq_decide.mpr
  exact ⟨fun h => h.1, fun hi => ⟨hi, h _ (mem_getD (by omega))⟩⟩
def chainN (p : List Int) (n : Nat) : List (Int × Int) := (stepsL (levelsN p)).map fun q => ((atLeast p n q.1 : Nat), q.2)
def worthN (t p : List Int) (n : Nat) : Int := ((stepsL (levelsN p)).map fun q => q.2 * t.getD (atLeast p n q.1) 0).sum
theorem sumTo_mul (c : Int) (f : Nat → Int) : ∀ n, sumTo n (fun h => c * f h) = c * sumTo n f
  | 0 => (Int.mul_zero c).symm
  | n + 1 => by
    show sumTo n _ + c * f n = c * (sumTo n f + f n)
    rw [sumTo_mul c f n, Int.mul_add]
theorem sum_sumTo {α : Type} (n : Nat) (F : α → Nat → Int) : ∀ L : List α, (L.map fun q => sumTo n (F q)).sum = sumTo n fun h => (L.map fun q => F q h).sum
  | [] => (sumTo_zero n).symm
  | q :: L => by
    rw [List.map_cons, List.sum_cons, sum_sumTo n F L, ← sumTo_add]
    rfl
theorem sum_mulR (c : Int) : ∀ L : List Int, (L.map fun x => x * c).sum = L.sum * c
  | [] => (Int.zero_mul c).symm
  | x :: L => by rw [List.map_cons, List.sum_cons, List.sum_cons, sum_mulR c L, Int.add_mul]
/-- what a row weighs, by the chain -/
theorem chain_gives {x p : List Int} {n : Nat} (hx : x.length = n) (hp : p.length = n) : ((stepsL (levelsN p)).map fun q => q.2 * givesN x (atLeast p n q.1)).sum = sumTo n fun h => x.getD h 0 * p.getD h 0 := by
  rw [List.map_congr_left (g := fun q => sumTo n fun h => (if q.1 ≤ p.getD h 0 then q.2 else 0) * x.getD h 0) fun q _ => ?_, sum_sumTo]
  · refine sumTo_congr fun h hh => ?_
    have e := sum_mulR (x.getD h 0) ((stepsL (levelsN p)).map fun q => if q.1 ≤ p.getD h 0 then q.2 else 0)
    rw [List.map_map, steps_layer (levels_dn p) _ (mem_levels.mpr (mem_getD (by omega)))] at e
    rw [Int.mul_comm (x.getD h 0), ← e]
    rfl
  · rw [givesN_sum, hx, ← sumTo_mul]
    refine sumTo_congr fun h hh => ?_
    rw [atLeast_bit]
    by_cases c : q.1 ≤ p.getD h 0
    · rw [if_pos (by simpa using ⟨hh, c⟩), if_pos c]
    · rw [if_neg (fun z => c (of_decide_eq_true z).2), if_neg c, Int.zero_mul, Int.mul_zero]
/-- an order by falling prices -/
def Down (p : List Int) (ks : List Nat) : Prop := ∀ i j, i < j → j < ks.length → p.getD (ks.getD j 0) 0 ≤ p.getD (ks.getD i 0) 0
theorem atLeast_pm {n : Nat} {ks : List Nat} {p : List Int} (P : Perm n ks) (D : Down p ks) (l : Int) : ∃ k, k ≤ n ∧ atLeast p n l = pm ks k := by
  have key : ∀ m, m ≤ n → ∃ k, k ≤ m ∧ (∀ i, i < k → l ≤ p.getD (ks.getD i 0) 0) ∧ ∀ i, k ≤ i → i < m → p.getD (ks.getD i 0) 0 < l := by
    intro m
    induction m with
    | zero => exact fun _ => ⟨0, Nat.le_refl 0, fun i h => absurd h (Nat.not_lt_zero i), fun i _ h => absurd h (Nat.not_lt_zero i)⟩
    | succ m ih =>
      intro hm
      obtain ⟨k, hk, h1, h2⟩ := ih (by omega)
      by_cases c : k = m
      · subst c
        by_cases d : l ≤ p.getD (ks.getD k 0) 0
        · refine ⟨k + 1, Nat.le_refl _, fun i hi => ?_, fun i a b => by omega⟩
          by_cases e : i = k
          · subst e; exact d
          · exact h1 i (by omega)
        · refine ⟨k, Nat.le_succ _, h1, fun i a b => ?_⟩
          have : i = k := by omega
          subst this
          omega
      · refine ⟨k, by omega, h1, fun i a b => ?_⟩
        by_cases e : i = m
        · subst e
          have := D k i (by omega) (by rw [P.len]; omega)
          have := h2 k (Nat.le_refl k) (by omega)
          omega
        · exact h2 i a (by omega)
  obtain ⟨k, hk, h1, h2⟩ := key n (Nat.le_refl n)
  refine ⟨k, hk, ?_⟩
  apply Nat.eq_of_testBit_eq
  intro h
  rw [atLeast_bit, pm_testBit]
  apply decide_eq_decide.mpr
  constructor
  · intro ⟨hh, hl⟩
    obtain ⟨i1, i2⟩ := idx_get ((P.mem h).mpr hh)
    by_cases c : ks.idxOf h < k
    · rw [List.mem_take_iff_getElem]
      refine ⟨ks.idxOf h, by omega, ?_⟩
      rw [List.getD_eq_getElem?_getD, List.getElem?_eq_getElem i1] at i2
      exact i2
    · have i3 := i1
      rw [P.len] at i3
      have := h2 _ (by omega) i3
      rw [i2] at this
      omega
  · intro hm
    obtain ⟨i, hi, e⟩ := List.mem_take_iff_getElem.mp hm
    have e2 : ks.getD i 0 = h := by rw [List.getD_eq_getElem?_getD, List.getElem?_eq_getElem (by omega)]; exact e
    exact ⟨(P.mem h).mp (List.mem_of_mem_take hm), by rw [← e2]; exact h1 i (by omega)⟩
/-- the worth, by any order of falling prices -/
theorem worth_order {n : Nat} {ks : List Nat} {p t : List Int} (P : Perm n ks) (T : Tab n t) (D : Down p ks) (hp : p.length = n) : worthN t p n = sumTo n fun h => (greedy t ks).getD h 0 * p.getD h 0 := by
  rw [← chain_gives (by rw [greedy_len, P.len]) hp]
  unfold worthN
  congr 1
  refine List.map_congr_left fun q _ => ?_
  obtain ⟨k, hk, e⟩ := atLeast_pm P D q.1
  rw [e, P.gives_pm T k hk]
theorem sumTo_list (f : Nat → Int) : ∀ n, ((List.range n).map f).sum = sumTo n f
  | 0 => rfl
  | n + 1 => by
    rw [List.range_succ, List.map_append, List.sum_append, sumTo_list f n]
    show _ + (f n + 0) = sumTo n f + f n
    omega
theorem perm_sum : ∀ {xs ys : List Int}, xs.Perm ys → xs.sum = ys.sum
  | _, _, .nil => rfl
  | _, _, .cons x h => by rw [List.sum_cons, List.sum_cons, perm_sum h]
  | _, _, .swap x y l => by simp only [List.sum_cons]; omega
  | _, _, .trans h k => (perm_sum h).trans (perm_sum k)
theorem Perm.sum_eq {n : Nat} {ks : List Nat} (P : Perm n ks) (f : Nat → Int) : sumTo n (fun j => f (ks.getD j 0)) = sumTo n f := by
  rw [← sumTo_list, ← sumTo_list]
  have e : (List.range n).map (fun j => f (ks.getD j 0)) = ks.map f := by
    apply List.ext_getElem (by simp [P.len])
    intro i h1 h2
    simp at h1 h2
    simp [List.getD_eq_getElem?_getD, List.getElem?_eq_getElem h2]
  have pm : ks.Perm (List.range n) := (List.perm_ext_iff_of_nodup P.nd List.nodup_range).mpr fun i => by rw [P.mem, List.mem_range]
  rw [e]
  have := (pm.map f)
  exact perm_sum this
/-- a row under a table, that gives all hands their cost, weighs no more than the worth, and as much just where the chain is full -/
theorem worth_ge {n : Nat} {p t x : List Int} (hx : x.length = n) (hp : p.length = n) (U : ∀ S, S < 2 ^ n → givesN x S ≤ t.getD S 0) (A : givesN x (2 ^ n - 1) = t.getD (2 ^ n - 1) 0) :
    (sumTo n fun h => x.getD h 0 * p.getD h 0) ≤ worthN t p n ∧ ((sumTo n fun h => x.getD h 0 * p.getD h 0) = worthN t p n ↔ ∀ q ∈ stepsL (levelsN p), givesN x (atLeast p n q.1) = t.getD (atLeast p n q.1) 0) := by
  rw [← chain_gives hx hp]
  unfold worthN
  have key : ∀ L : List (Int × Int), (∀ q ∈ L, q.2 * givesN x (atLeast p n q.1) ≤ q.2 * t.getD (atLeast p n q.1) 0 ∧ (q.2 * givesN x (atLeast p n q.1) = q.2 * t.getD (atLeast p n q.1) 0 → givesN x (atLeast p n q.1) = t.getD (atLeast p n q.1) 0)) →
      (L.map fun q => q.2 * givesN x (atLeast p n q.1)).sum ≤ (L.map fun q => q.2 * t.getD (atLeast p n q.1) 0).sum ∧ ((L.map fun q => q.2 * givesN x (atLeast p n q.1)).sum = (L.map fun q => q.2 * t.getD (atLeast p n q.1) 0).sum ↔ ∀ q ∈ L, givesN x (atLeast p n q.1) = t.getD (atLeast p n q.1) 0) := by
    intro L
    induction L with
    | nil => intro _; exact ⟨Int.le_refl _, fun _ q hq => absurd hq (by simp), fun _ => rfl⟩
    | cons q L ih =>
      intro h
      obtain ⟨i1, i2⟩ := ih fun x hx => h x (List.mem_cons_of_mem _ hx)
      obtain ⟨h1, h2⟩ := h q (List.mem_cons_self ..)
      simp only [List.map_cons, List.sum_cons]
      refine ⟨by omega, fun e => ?_, fun e => ?_⟩
      · intro y hy
        rcases List.mem_cons.mp hy with z | z
        · rw [z]; exact h2 (by omega)
        · exact i2.mp (by omega) y z
      · have a := i2.mpr fun y hy => e y (List.mem_cons_of_mem _ hy)
        have b := e q (List.mem_cons_self ..)
        rw [a, b]
  refine key _ fun q hq => ?_
  rcases stepsL_pos (levels_dn p) q hq with h | h
  · have := U _ (atLeast_lt p n q.1)
    exact ⟨Int.mul_le_mul_of_nonneg_left this (by omega), fun e => Int.eq_of_mul_eq_mul_left (by omega) e⟩
  · have e : atLeast p n q.1 = 2 ^ n - 1 := atLeast_all (fun x hx => h x (mem_levels.mpr hx)) hp
    rw [e, A]
    exact ⟨Int.le_refl _, fun _ => rfl⟩
end Gc

namespace Gc
open PySem PySem.Spec PyProof.Rows L2
/-! ## fractions in lowest terms; steps of least density -/
/-- the fraction in lowest terms, its bottom above nought -/
structure IsFr (top bottom : Int) (f : Int × Int) : Prop where
  pos : 1 ≤ f.2
  co : Nat.gcd f.1.natAbs f.2.natAbs = 1
  eq : f.1 * bottom = top * f.2
  le1 : f.1.natAbs ≤ top.natAbs
  le2 : f.2.natAbs ≤ bottom.natAbs
def frLt (f g : Int × Int) : Prop := f.1 * g.2 < g.1 * f.2
instance (f g : Int × Int) : Decidable (frLt f g) := inferInstanceAs (Decidable (_ < _))
theorem mul_pos' {a b : Int} (ha : 0 < a) (hb : 0 < b) : 0 < a * b := Int.mul_pos ha hb
theorem lt_cancel {a b c : Int} (hc : 0 < c) : a * c < b * c ↔ a < b := Int.mul_lt_mul_right hc
theorem IsFr.lt_iff {t1 b1 t2 b2 : Int} {f g : Int × Int} (F : IsFr t1 b1 f) (G : IsFr t2 b2 g) (h1 : 0 < b1) (h2 : 0 < b2) : frLt f g ↔ t1 * b2 < t2 * b1 := by
  have e1 := F.eq
  have e2 := G.eq
  have p1 := F.pos
  have p2 := G.pos
  unfold frLt
  have hb : 0 < b1 * b2 := mul_pos' h1 h2
  have hf : 0 < f.2 * g.2 := mul_pos' (by omega) (by omega)
  rw [← lt_cancel hb, ← lt_cancel (a := t1 * b2) hf]
  have a1 : f.1 * g.2 * (b1 * b2) = t1 * b2 * (f.2 * g.2) := by grind
  have a2 : g.1 * f.2 * (b1 * b2) = t2 * b1 * (f.2 * g.2) := by grind
  rw [a1, a2]
theorem IsFr.eq_of {t1 b1 t2 b2 : Int} {f g : Int × Int} (F : IsFr t1 b1 f) (G : IsFr t2 b2 g) (h1 : 0 < b1) (h2 : 0 < b2) (h : t1 * b2 = t2 * b1) : f = g := by
  have e1 := F.eq
  have e2 := G.eq
  have p1 := F.pos
  have p2 := G.pos
  have hb : b1 * b2 ≠ 0 := by have := mul_pos' h1 h2; omega
  have e : f.1 * g.2 = g.1 * f.2 := by
    have : f.1 * g.2 * (b1 * b2) = g.1 * f.2 * (b1 * b2) := by grind
    exact Int.eq_of_mul_eq_mul_right hb this
  have en : f.1.natAbs * g.2.natAbs = g.1.natAbs * f.2.natAbs := by rw [← Int.natAbs_mul, ← Int.natAbs_mul, e]
  have d1 : f.2.natAbs ∣ g.2.natAbs := Nat.Coprime.dvd_of_dvd_mul_left (k := f.2.natAbs) (m := f.1.natAbs) (by rw [Nat.coprime_comm]; exact F.co) ⟨g.1.natAbs, by rw [en, Nat.mul_comm]⟩
  have d2 : g.2.natAbs ∣ f.2.natAbs := Nat.Coprime.dvd_of_dvd_mul_left (k := g.2.natAbs) (m := g.1.natAbs) (by rw [Nat.coprime_comm]; exact G.co) ⟨f.1.natAbs, by rw [← en, Nat.mul_comm]⟩
  have e3 := Nat.dvd_antisymm d1 d2
  have e4 : f.2 = g.2 := by omega
  rw [e4] at e
  have e5 : f.1 = g.1 := Int.eq_of_mul_eq_mul_right (by omega) e
  exact Prod.ext e5 e4
theorem IsFr.eq_iff {t1 b1 t2 b2 : Int} {f g : Int × Int} (F : IsFr t1 b1 f) (G : IsFr t2 b2 g) (h1 : 0 < b1) (h2 : 0 < b2) : f = g ↔ t1 * b2 = t2 * b1 := by
  refine ⟨fun h => ?_, F.eq_of G h1 h2⟩
  subst h
  have e1 := F.eq
  have e2 := G.eq
  have p1 := F.pos
  have : t1 * b2 * f.2 = t2 * b1 * f.2 := by grind
  exact Int.eq_of_mul_eq_mul_right (by omega) this
/-! ### the search for the least fraction -/
def stN (f : Nat → Int × Int) (a : Nat) (s : Option (Int × Int) × Nat) (c : Nat) : Option (Int × Int) × Nat :=
  match s.1 with
  | none => (some (f c), a ||| c)
  | some d => if frLt (f c) d then (some (f c), a ||| c) else if f c = d then (some d, s.2 ||| c) else s
def emb (s : Option (Int × Int) × Nat) : Option (Int × Int) × Int := (s.1, (s.2 : Int))
/-- a loop over groups that keeps the least -/
theorem loop_least {μ ρ : Type} {b : Int → Option (Int × Int) × Int → Option (Out (Option (Int × Int) × Int) (Option (Int × Int) × Int) ρ)} (q : Nat → Bool) (f : Nat → Int × Int) (a : Nat) (Good : Int × Int → Prop) :
    ∀ (ps : List Nat) (s : Option (Int × Int) × Nat), (∀ d, s.1 = some d → Good d) → (∀ p ∈ ps, q p = true → Good (f p)) → (∀ p ∈ ps, ∀ s : Option (Int × Int) × Nat, (∀ d, s.1 = some d → Good d) → b (p : Int) (emb s) = some (.nx (emb (if q p = true then stN f a s p else s)))) →
    (forO b (up ps) (emb s) : Option (Out (Option (Int × Int) × Int) μ ρ)) = some (.nx (emb ((ps.filter q).foldl (stN f a) s)))
  | [], s, _, _, _ => rfl
  | p :: ps, s, hs, hg, hb => by
    have e := hb p (List.mem_cons_self ..) s hs
    show (forO b ((p : Int) :: up ps) (emb s) : Option (Out (Option (Int × Int) × Int) μ ρ)) = _
    rw [forO_nx e]
    by_cases c : q p = true
    · rw [if_pos c, List.filter_cons_of_pos c, List.foldl_cons]
      refine loop_least q f a Good ps _ (fun d hd => ?_) (fun x hx => hg x (List.mem_cons_of_mem _ hx)) (fun x hx => hb x (List.mem_cons_of_mem _ hx))
      have gp := hg p (List.mem_cons_self ..) c
      unfold stN at hd
      split at hd
      · cases hd; exact gp
      · next d0 h0 =>
        split at hd
        · cases hd; exact gp
        · split at hd
          · cases hd; exact hs _ h0
          · exact hs d hd
    · rw [if_neg c, List.filter_cons_of_neg c]
      exact loop_least q f a Good ps s hs (fun x hx => hg x (List.mem_cons_of_mem _ hx)) (fun x hx => hb x (List.mem_cons_of_mem _ hx))
/-- what the search ends with -/
structure Least (f : Nat → Int × Int) (a : Nat) (cs : List Nat) (d : Int × Int) (J : Nat) : Prop where
  at_ : ∃ c ∈ cs, f c = d
  min : ∀ c ∈ cs, ¬ frLt (f c) d
  bit : ∀ i, J.testBit i = true ↔ a.testBit i = true ∨ ∃ c ∈ cs, f c = d ∧ c.testBit i = true
theorem frLt_irrefl (f : Int × Int) : ¬ frLt f f := by unfold frLt; omega
theorem frLt_trans' {v d x : Int × Int} (pv : 1 ≤ v.2) (pd : 1 ≤ d.2) (px : 1 ≤ x.2) (h : frLt v d) (k : ¬ frLt x d) : frLt v x := by
  unfold frLt at *
  have k' : d.1 * x.2 ≤ x.1 * d.2 := by omega
  have h1 : v.1 * d.2 * x.2 < d.1 * v.2 * x.2 := Int.mul_lt_mul_of_pos_right h (by omega)
  have h2 : d.1 * x.2 * v.2 ≤ x.1 * d.2 * v.2 := Int.mul_le_mul_of_nonneg_right k' (by omega)
  rw [← lt_cancel (c := d.2) (by omega)]
  have e1 : v.1 * x.2 * d.2 = v.1 * d.2 * x.2 := by grind
  have e2 : d.1 * v.2 * x.2 = d.1 * x.2 * v.2 := by grind
  have e3 : x.1 * v.2 * d.2 = x.1 * d.2 * v.2 := by grind
  omega
theorem least_step {f : Nat → Int × Int} {a : Nat} {cs : List Nat} {d : Int × Int} {J c : Nat} (hp : ∀ x ∈ cs, 1 ≤ (f x).2) (hc : 1 ≤ (f c).2) (L : Least f a cs d J) : ∃ d' J', stN f a (some d, J) c = (some d', J') ∧ Least f a (cs ++ [c]) d' J' := by
  obtain ⟨c0, hc0, e0⟩ := L.at_
  have pd : 1 ≤ d.2 := by rw [← e0]; exact hp c0 hc0
  unfold stN
  dsimp only
  by_cases h : frLt (f c) d
  · rw [if_pos h]
    refine ⟨_, _, rfl, ⟨c, by simp, rfl⟩, fun x hx => ?_, fun i => ?_⟩
    · rcases List.mem_append.mp hx with hx | hx
      · intro hlt
        have := frLt_trans' hc pd (hp x hx) h (L.min x hx)
        unfold frLt at this hlt
        omega
      · rw [List.mem_singleton.mp hx]; exact frLt_irrefl _
    · rw [Nat.testBit_or, Bool.or_eq_true]
      refine ⟨fun z => z.elim .inl fun z => .inr ⟨c, by simp, rfl, z⟩, fun z => z.elim .inl fun ⟨x, hx, e, hb⟩ => ?_⟩
      rcases List.mem_append.mp hx with hx | hx
      · have := frLt_trans' hc pd (hp x hx) h (L.min x hx)
        rw [e] at this
        exact absurd this (frLt_irrefl _)
      · rw [List.mem_singleton.mp hx] at hb; exact .inr hb
  · rw [if_neg h]
    by_cases k : f c = d
    · rw [if_pos k]
      refine ⟨_, _, rfl, ⟨c0, List.mem_append_left _ hc0, e0⟩, fun x hx => ?_, fun i => ?_⟩
      · rcases List.mem_append.mp hx with hx | hx
        · exact L.min x hx
        · rw [List.mem_singleton.mp hx]; exact h
      · rw [Nat.testBit_or, Bool.or_eq_true, L.bit]
        constructor
        · rintro ((z | ⟨x, hx, e, hb⟩) | z)
          · exact .inl z
          · exact .inr ⟨x, List.mem_append_left _ hx, e, hb⟩
          · exact .inr ⟨c, by simp, k, z⟩
        · rintro (z | ⟨x, hx, e, hb⟩)
          · exact .inl (.inl z)
          · rcases List.mem_append.mp hx with hx | hx
            · exact .inl (.inr ⟨x, hx, e, hb⟩)
            · rw [List.mem_singleton.mp hx] at hb; exact .inr hb
    · rw [if_neg k]
      refine ⟨_, _, rfl, ⟨c0, List.mem_append_left _ hc0, e0⟩, fun x hx => ?_, fun i => ?_⟩
      · rcases List.mem_append.mp hx with hx | hx
        · exact L.min x hx
        · rw [List.mem_singleton.mp hx]; exact h
      · rw [L.bit]
        constructor
        · rintro (z | ⟨x, hx, e, hb⟩)
          · exact .inl z
          · exact .inr ⟨x, List.mem_append_left _ hx, e, hb⟩
        · rintro (z | ⟨x, hx, e, hb⟩)
          · exact .inl z
          · rcases List.mem_append.mp hx with hx | hx
            · exact .inr ⟨x, hx, e, hb⟩
            · rw [List.mem_singleton.mp hx] at e; exact absurd e k
theorem least_fold {f : Nat → Int × Int} {a : Nat} : ∀ (cs pre : List Nat) {d : Int × Int} {J : Nat}, (∀ x ∈ pre ++ cs, 1 ≤ (f x).2) → Least f a pre d J → ∃ d' J', cs.foldl (stN f a) (some d, J) = (some d', J') ∧ Least f a (pre ++ cs) d' J'
  | [], pre, d, J, _, L => ⟨d, J, rfl, by rw [List.append_nil]; exact L⟩
  | c :: cs, pre, d, J, hp, L => by
    obtain ⟨d1, J1, e1, L1⟩ := least_step (c := c) (fun x hx => hp x (List.mem_append_left _ hx)) (hp c (by simp)) L
    rw [List.foldl_cons, e1]
    have := least_fold cs (pre ++ [c]) (by simpa using hp) L1
    simpa using this
theorem least_of {f : Nat → Int × Int} {a : Nat} {cs : List Nat} (ne : cs ≠ []) (hp : ∀ x ∈ cs, 1 ≤ (f x).2) : ∃ d J, cs.foldl (stN f a) (none, a) = (some d, J) ∧ Least f a cs d J := by
  obtain ⟨c, cs, rfl⟩ := List.exists_cons_of_ne_nil ne
  rw [List.foldl_cons]
  show ∃ d J, cs.foldl (stN f a) (some (f c), a ||| c) = (some d, J) ∧ _
  refine least_fold cs [c] hp ⟨⟨c, by simp, rfl⟩, fun x hx => ?_, fun i => ?_⟩
  · rw [List.mem_singleton.mp hx]; exact frLt_irrefl _
  · rw [Nat.testBit_or, Bool.or_eq_true]
    simp
/-! ### one step -/
/-- the groups behind a group -/
def behindL (n a : Nat) : List Nat := (List.range 64).filter fun p => decide (p &&& (2 ^ n - 1 - a) = p) && decide (0 < p)
theorem behind_fin : ∀ n : Fin 7, ∀ a : Fin 64, a.val < 2 ^ n.val → ∀ p : Fin 64, (decide (p.val &&& (2 ^ n.val - 1 - a.val) = p.val) && decide (0 < p.val)) = (decide (p.val < 2 ^ n.val) && decide (p.val &&& a.val = 0) && decide (0 < p.val)) := by decide +kernel
theorem mem_behind {n a c : Nat} (hn : n ≤ 6) (ha : a < 2 ^ n) : c ∈ behindL n a ↔ c < 2 ^ n ∧ c &&& a = 0 ∧ 0 < c := by
  have h6 := pow6 hn
  unfold behindL
  rw [List.mem_filter, List.mem_range]
  constructor
  · rintro ⟨h1, h2⟩
    rw [behind_fin ⟨n, by omega⟩ ⟨a, by omega⟩ ha ⟨c, h1⟩] at h2
    simpa [and_assoc] using h2
  · rintro ⟨h1, h2, h3⟩
    refine ⟨by omega, ?_⟩
    rw [behind_fin ⟨n, by omega⟩ ⟨a, by omega⟩ ha ⟨c, by omega⟩]
    simp [h1, h2, h3]
/-- one step: from a on to J, of density d -/
structure Step (t w : List Int) (n a J : Nat) (d : Int × Int) : Prop where
  lt : J < 2 ^ n
  sup : J &&& a = a
  up : a < J
  pos : 1 ≤ d.2
  full : d.2 * (t.getD J 0 - t.getD a 0) = d.1 * (givesN w J - givesN w a)
  low : ∀ c, c < 2 ^ n → c &&& a = 0 → d.1 * givesN w c ≤ d.2 * (t.getD (a ||| c) 0 - t.getD a 0)
  next : ∀ c, c < 2 ^ n → c &&& J = 0 → 0 < c → d.1 * givesN w c < d.2 * (t.getD (J ||| c) 0 - t.getD J 0)
theorem or_disj {w : List Int} {a c : Nat} (h : c &&& a = 0) : givesN w (a ||| c) = givesN w a + givesN w c := by
  have := gives_or_and (row := w) a c
  rw [Nat.and_comm a c, h, givesN_zero] at this
  omega
theorem step_of {t w : List Int} {n a J : Nat} {d : Int × Int} {f : Nat → Int × Int} (hn : n ≤ 6) (F : Falls t n) (hw : w.length = n) (bw : ∀ c, c < 2 ^ n → 0 < c → 0 < givesN w c) (ha : a < 2 ^ n)
    (hf : ∀ c, c < 2 ^ n → c &&& a = 0 → 0 < c → IsFr (t.getD (a ||| c) 0 - t.getD a 0) (givesN w c) (f c)) (L : Least f a (behindL n a) d J) : Step t w n a J d := by
  obtain ⟨c0, hc0, e0⟩ := L.at_
  obtain ⟨l0, z0, p0⟩ := (mem_behind hn ha).mp hc0
  have F0 := hf c0 l0 z0 p0
  rw [e0] at F0
  have pd := F0.pos
  have low : ∀ c, c < 2 ^ n → c &&& a = 0 → d.1 * givesN w c ≤ d.2 * (t.getD (a ||| c) 0 - t.getD a 0) := by
    intro c hc hz
    by_cases c0' : c = 0
    · subst c0'
      rw [givesN_zero, Nat.or_zero]; simp
    · have hm := (mem_behind hn ha).mpr ⟨hc, hz, Nat.pos_of_ne_zero c0'⟩
      have h := L.min c hm
      have Fc := hf c hc hz (Nat.pos_of_ne_zero c0')
      have pw := bw c hc (Nat.pos_of_ne_zero c0')
      have ec := Fc.eq
      have pc := Fc.pos
      unfold frLt at h
      have h' : d.1 * (f c).2 ≤ (f c).1 * d.2 := by omega
      have h2 : d.1 * (f c).2 * givesN w c ≤ (f c).1 * d.2 * givesN w c := Int.mul_le_mul_of_nonneg_right h' (by omega)
      have e1 : (f c).1 * d.2 * givesN w c = d.2 * (t.getD (a ||| c) 0 - t.getD a 0) * (f c).2 := by grind
      have e2 : d.1 * (f c).2 * givesN w c = d.1 * givesN w c * (f c).2 := by grind
      rw [e1, e2] at h2
      exact Int.le_of_mul_le_mul_right h2 (by omega)
  have zero : ∀ c, c < 2 ^ n → c &&& a = 0 → 0 < c → (f c = d ↔ d.2 * (t.getD (a ||| c) 0 - t.getD a 0) = d.1 * givesN w c) := by
    intro c hc hz hp
    have Fc := hf c hc hz hp
    have pw := bw c hc hp
    have pw0 := bw c0 l0 p0
    have ec := F0.eq
    rw [Fc.eq_iff F0 pw pw0]
    constructor
    · intro h
      have : d.2 * (t.getD (a ||| c) 0 - t.getD a 0) * givesN w c0 = d.1 * givesN w c * givesN w c0 := by grind
      exact Int.eq_of_mul_eq_mul_right (by omega) this
    · intro h
      have : (t.getD (a ||| c) 0 - t.getD a 0) * givesN w c0 * d.2 = (t.getD (a ||| c0) 0 - t.getD a 0) * givesN w c * d.2 := by grind
      exact Int.eq_of_mul_eq_mul_right (by omega) this
  -- what is tight is closed under either's hands
  have join : ∀ c c', c < 2 ^ n → c' < 2 ^ n → c &&& a = 0 → c' &&& a = 0 → d.2 * (t.getD (a ||| c) 0 - t.getD a 0) = d.1 * givesN w c → d.2 * (t.getD (a ||| c') 0 - t.getD a 0) = d.1 * givesN w c' → (c ||| c') &&& a = 0 ∧ d.2 * (t.getD (a ||| (c ||| c')) 0 - t.getD a 0) = d.1 * givesN w (c ||| c') := by
    intro c c' hc hc' hz hz' h h'
    have z1 : (c ||| c') &&& a = 0 := by rw [Nat.and_or_distrib_right, hz, hz']; rfl
    have z2 : (c &&& c') &&& a = 0 := by rw [Nat.and_assoc, hz', Nat.and_zero]
    have l1 := or_lt hc hc'
    have l2 : c &&& c' < 2 ^ n := Nat.and_lt_two_pow _ hc'
    have fa := F (a ||| c) (a ||| c') (or_lt ha hc) (or_lt ha hc')
    dsimp only at fa
    rw [show (a ||| c) ||| (a ||| c') = a ||| (c ||| c') by
      apply Nat.eq_of_testBit_eq; intro i; simp only [Nat.testBit_or]; cases a.testBit i <;> cases c.testBit i <;> cases c'.testBit i <;> rfl,
      show (a ||| c) &&& (a ||| c') = a ||| (c &&& c') from (Nat.or_and_distrib_left a c c').symm] at fa
    have g := gives_or_and (row := w) c c'
    have q1 := low _ l1 z1
    have q2 := low _ l2 z2
    refine ⟨z1, ?_⟩
    have m : d.2 * (t.getD (a ||| (c ||| c')) 0 + t.getD (a ||| (c &&& c')) 0) ≤ d.2 * (t.getD (a ||| c) 0 + t.getD (a ||| c') 0) := Int.mul_le_mul_of_nonneg_left fa (by omega)
    have g2 : d.1 * givesN w (c ||| c') + d.1 * givesN w (c &&& c') = d.1 * givesN w c + d.1 * givesN w c' := by rw [← Int.mul_add, ← Int.mul_add, g]
    have x1 := Int.mul_sub d.2 (t.getD (a ||| (c ||| c')) 0) (t.getD a 0)
    have x2 := Int.mul_sub d.2 (t.getD (a ||| (c &&& c')) 0) (t.getD a 0)
    have x3 := Int.mul_sub d.2 (t.getD (a ||| c) 0) (t.getD a 0)
    have x4 := Int.mul_sub d.2 (t.getD (a ||| c') 0) (t.getD a 0)
    have x5 := Int.mul_add d.2 (t.getD (a ||| (c ||| c')) 0) (t.getD (a ||| (c &&& c')) 0)
    have x6 := Int.mul_add d.2 (t.getD (a ||| c) 0) (t.getD (a ||| c') 0)
    omega
  -- all tight groups together
  have fold : ∀ L : List Nat, (∀ c ∈ L, c < 2 ^ n ∧ c &&& a = 0 ∧ d.2 * (t.getD (a ||| c) 0 - t.getD a 0) = d.1 * givesN w c) → ∃ U, U < 2 ^ n ∧ U &&& a = 0 ∧ d.2 * (t.getD (a ||| U) 0 - t.getD a 0) = d.1 * givesN w U ∧ ∀ i, U.testBit i = true ↔ ∃ c ∈ L, c.testBit i = true := by
    intro L
    induction L with
    | nil => intro _; exact ⟨0, Nat.two_pow_pos n, Nat.zero_and a, by rw [Nat.or_zero, givesN_zero]; simp, fun i => by simp⟩
    | cons c L ih =>
      intro h
      obtain ⟨U, u1, u2, u3, u4⟩ := ih fun x hx => h x (List.mem_cons_of_mem _ hx)
      obtain ⟨c1, c2, c3⟩ := h c (List.mem_cons_self ..)
      obtain ⟨j1, j2⟩ := join c U c1 u1 c2 u2 c3 u3
      refine ⟨c ||| U, or_lt c1 u1, j1, j2, fun i => ?_⟩
      rw [Nat.testBit_or, Bool.or_eq_true, u4]
      simp
  obtain ⟨U, u1, u2, u3, u4⟩ := fold ((behindL n a).filter fun c => decide (f c = d)) fun c hc => by
    obtain ⟨hm, he⟩ := List.mem_filter.mp hc
    obtain ⟨m1, m2, m3⟩ := (mem_behind hn ha).mp hm
    exact ⟨m1, m2, (zero c m1 m2 m3).mp (of_decide_eq_true he)⟩
  have eJ : J = a ||| U := by
    apply Nat.eq_of_testBit_eq
    intro i
    rw [Bool.eq_iff_iff, L.bit, Nat.testBit_or, Bool.or_eq_true, u4]
    constructor
    · rintro (z | ⟨c, hc, e, hb⟩)
      · exact .inl z
      · exact .inr ⟨c, List.mem_filter.mpr ⟨hc, decide_eq_true e⟩, hb⟩
    · rintro (z | ⟨c, hc, hb⟩)
      · exact .inl z
      · obtain ⟨hc, e⟩ := List.mem_filter.mp hc
        exact .inr ⟨c, hc, of_decide_eq_true e, hb⟩
  have gJ : givesN w J = givesN w a + givesN w U := by rw [eJ, or_disj u2]
  have uc : ∀ i, c0.testBit i = true → U.testBit i = true := fun i hi => (u4 i).mpr ⟨c0, List.mem_filter.mpr ⟨hc0, decide_eq_true e0⟩, hi⟩
  have upos : U ≠ 0 := fun z => by
    obtain ⟨i, hi, hb⟩ := exists_bit l0 (by omega)
    have := uc i hb
    rw [z, Nat.zero_testBit] at this
    cases this
  have sup : J &&& a = a := by
    rw [eJ, Nat.and_or_distrib_right, Nat.and_self, u2, Nat.or_zero]
  have le : a ≤ J := by rw [← sup]; exact Nat.and_le_left
  have full : d.2 * (t.getD J 0 - t.getD a 0) = d.1 * (givesN w J - givesN w a) := by
    rw [gJ, show givesN w a + givesN w U - givesN w a = givesN w U by omega, eJ]
    exact u3
  refine ⟨by rw [eJ]; exact or_lt ha u1, sup, ?_, pd, full, low, fun c hc hz hp => ?_⟩
  · rcases Nat.lt_or_ge a J with h | h
    · exact h
    · exfalso
      have e : J = a := Nat.le_antisymm h le
      apply upos
      have : U &&& a = U := by
        apply Nat.eq_of_testBit_eq
        intro i
        rw [Nat.testBit_and]
        cases hU : U.testBit i with
        | false => rfl
        | true =>
          have : J.testBit i = true := by rw [eJ, Nat.testBit_or, hU, Bool.or_true]
          rw [e] at this
          rw [this]; rfl
      rw [← this, u2]
  · -- a group further on that were as dense would be among them
    have hca : c &&& a = 0 := by
      have : c &&& (J &&& a) = 0 := by rw [← Nat.and_assoc, hz, Nat.zero_and]
      rwa [sup] at this
    have hcU : c &&& U = 0 := by
      have h0 : c &&& (J &&& U) = 0 := by rw [← Nat.and_assoc, hz, Nat.zero_and]
      have : J &&& U = U := by rw [eJ, Nat.and_or_distrib_right, Nat.and_self, Nat.and_comm a U, u2, Nat.zero_or]
      rwa [this] at h0
    have lUc := or_lt u1 hc
    have zUc : (U ||| c) &&& a = 0 := by rw [Nat.and_or_distrib_right, u2, hca]; rfl
    have gUc : givesN w (U ||| c) = givesN w U + givesN w c := or_disj hcU
    have hle := low _ lUc zUc
    have hne : d.2 * (t.getD (a ||| (U ||| c)) 0 - t.getD a 0) ≠ d.1 * givesN w (U ||| c) := fun e => by
      have hp2 : 0 < U ||| c := by
        have : c ≤ U ||| c := Nat.right_le_or
        omega
      have he := (zero _ lUc zUc hp2).mpr e
      obtain ⟨i, hi, hb⟩ := exists_bit hc (by omega)
      have : U.testBit i = true := (u4 i).mpr ⟨U ||| c, List.mem_filter.mpr ⟨(mem_behind hn ha).mpr ⟨lUc, zUc, hp2⟩, decide_eq_true he⟩, by rw [Nat.testBit_or, hb, Bool.or_true]⟩
      have z := congrArg (fun x => x.testBit i) hcU
      simp only [Nat.testBit_and, Nat.zero_testBit, hb, this] at z
      cases z
    rw [show J ||| c = a ||| (U ||| c) by rw [eJ, Nat.or_assoc], eJ]
    have x0 := Int.mul_add d.1 (givesN w U) (givesN w c)
    rw [gUc, x0] at hle hne
    have x1 := Int.mul_sub d.2 (t.getD (a ||| (U ||| c)) 0) (t.getD a 0)
    have x2 := Int.mul_sub d.2 (t.getD (a ||| U) 0) (t.getD a 0)
    have x3 := Int.mul_sub d.2 (t.getD (a ||| (U ||| c)) 0) (t.getD (a ||| U) 0)
    omega
/-- the densities grow -/
theorem step_grow {t w : List Int} {n a J J' : Nat} {d d' : Int × Int} (hn : n ≤ 6) (hw : w.length = n) (bw : ∀ c, c < 2 ^ n → 0 < c → 0 < givesN w c) (S : Step t w n a J d) (S' : Step t w n J J' d') : frLt d d' := by
  -- the hands that come to it
  have e : J' = J ||| (J' ^^^ J) := by
    apply Nat.eq_of_testBit_eq
    intro i
    have := congrArg (fun x => x.testBit i) S'.sup
    simp only [Nat.testBit_and] at this
    rw [Nat.testBit_or, Nat.testBit_xor]
    cases h1 : J.testBit i <;> cases h2 : J'.testBit i <;> rw [h1, h2] at this <;> first | rfl | cases this
  have z : (J' ^^^ J) &&& J = 0 := by
    apply Nat.eq_of_testBit_eq
    intro i
    have := congrArg (fun x => x.testBit i) S'.sup
    simp only [Nat.testBit_and] at this
    rw [Nat.testBit_and, Nat.testBit_xor, Nat.zero_testBit]
    cases h1 : J.testBit i <;> cases h2 : J'.testBit i <;> rw [h1, h2] at this <;> first | rfl | cases this
  have l : J' ^^^ J < 2 ^ n := Nat.xor_lt_two_pow S'.lt S.lt
  have p : 0 < J' ^^^ J := by
    rcases Nat.eq_zero_or_pos (J' ^^^ J) with h | h
    · rw [h, Nat.or_zero] at e
      have := S'.up
      omega
    · exact h
  have h1 := S.next _ l z p
  rw [← e] at h1
  have h2 := S'.full
  have hg : givesN w J' = givesN w J + givesN w (J' ^^^ J) := by
    have := or_disj (w := w) z
    rwa [← e] at this
  have pw := bw _ l p
  have pd := S.pos
  have pd' := S'.pos
  rw [hg, show givesN w J + givesN w (J' ^^^ J) - givesN w J = givesN w (J' ^^^ J) by omega] at h2
  unfold frLt
  rw [← lt_cancel pw]
  have a1 : d.1 * givesN w (J' ^^^ J) * d'.2 < d.2 * (t.getD J' 0 - t.getD J 0) * d'.2 := Int.mul_lt_mul_of_pos_right h1 (by omega)
  have a2 : d.1 * d'.2 * givesN w (J' ^^^ J) = d.1 * givesN w (J' ^^^ J) * d'.2 := by grind
  have a3 : d'.1 * d.2 * givesN w (J' ^^^ J) = d.2 * (t.getD J' 0 - t.getD J 0) * d'.2 := by grind
  rw [a2, a3]
  exact a1
/-- a loop over the first numbers -/
theorem forO_idx' {ν ρ μ : Type} {b : Int → ν → Option (Out ν ν ρ)} (I : Nat → ν → Prop) (n : Nat) {s : ν} (h0 : I 0 s) (h : ∀ (j : Nat) s, j < n → I j s → ∃ s', b (j : Int) s = some (.nx s') ∧ I (j + 1) s') : ∃ s', (forO b (natL n) s : Option (Out ν μ ρ)) = some (.nx s') ∧ I n s' := by
  obtain ⟨s', e, i⟩ := forO_idx (μ := μ) (b := b) I (natL n) h0 fun j s hj hi => by
    rw [natL_length] at hj
    rw [natL_getD hj]
    exact h j s hj hi
  rw [natL_length] at i
  exact ⟨s', e, i⟩
end Gc

namespace Gc
open PySem PySem.Spec PyProof.Rows L2
/-! ## means over all orders -/
def facN : Nat → Nat
  | 0 => 1
  | k + 1 => facN k * (k + 1)
/-- by how many orders a hand comes next behind a group -/
def fW (n g : Nat) : Nat := facN (pc g) * facN (n - pc g - 1)
theorem sumTo_comm (F : Nat → Nat → Int) (n : Nat) : ∀ m, sumTo m (fun g => sumTo n (F g)) = sumTo n fun h => sumTo m fun g => F g h
  | 0 => (sumTo_zero n).symm
  | m + 1 => by
    show sumTo m (fun g => sumTo n (F g)) + sumTo n (F m) = _
    rw [sumTo_comm F n m, ← sumTo_add]
    rfl
/-- a sum in another order -/
theorem sumTo_perm {N : Nat} (σ : Nat → Nat) (h1 : ∀ g, g < N → σ g < N) (h2 : ∀ g, g < N → σ (σ g) = g) (f : Nat → Int) : sumTo N (fun g => f (σ g)) = sumTo N f := by
  rw [← sumTo_list, ← sumTo_list]
  have e : (List.range N).map (fun g => f (σ g)) = ((List.range N).map σ).map f := by rw [List.map_map]; rfl
  rw [e]
  refine perm_sum (List.Perm.map f ?_)
  have nd : ((List.range N).map σ).Nodup := by
    unfold List.Nodup
    rw [List.pairwise_map]
    exact List.Pairwise.imp_of_mem (fun {a b} ha hb hab e => hab (by
      have := congrArg σ e
      rwa [h2 a (List.mem_range.mp ha), h2 b (List.mem_range.mp hb)] at this)) List.nodup_range
  refine (List.perm_ext_iff_of_nodup nd List.nodup_range).mpr fun g => ?_
  rw [List.mem_map, List.mem_range]
  constructor
  · rintro ⟨x, hx, rfl⟩
    exact h1 x (List.mem_range.mp hx)
  · intro hg
    exact ⟨σ g, List.mem_range.mpr (h1 g hg), h2 g hg⟩
theorem xor_fin : ∀ n : Fin 7, ∀ h : Fin 6, h.val < n.val → ∀ g : Fin 64, g.val < 2 ^ n.val → g.val ^^^ 2 ^ h.val < 2 ^ n.val ∧ (g.val.testBit h.val = false → g.val ||| 2 ^ h.val = g.val ^^^ 2 ^ h.val) ∧ (g.val ^^^ 2 ^ h.val).testBit h.val = !g.val.testBit h.val := by decide +kernel
theorem xor_ok {n h g : Nat} (hn : n ≤ 6) (hh : h < n) (hg : g < 2 ^ n) : g ^^^ 2 ^ h < 2 ^ n ∧ (g.testBit h = false → g ||| 2 ^ h = g ^^^ 2 ^ h) ∧ (g ^^^ 2 ^ h).testBit h = !g.testBit h := by
  have h6 := pow6 hn
  exact xor_fin ⟨n, by omega⟩ ⟨h, by omega⟩ hh ⟨g, by omega⟩ hg
theorem flip_sum {n h : Nat} (hn : n ≤ 6) (hh : h < n) (F : Nat → Int) : sumTo (2 ^ n) (fun g => if g.testBit h = true then 0 else F (g ||| 2 ^ h)) = sumTo (2 ^ n) fun g => if g.testBit h = true then F g else 0 := by
  rw [← sumTo_perm (fun g => g ^^^ 2 ^ h) (fun g hg => (xor_ok hn hh hg).1) (fun g hg => by rw [Nat.xor_assoc, Nat.xor_self, Nat.xor_zero]) (fun g => if g.testBit h = true then F g else 0)]
  refine sumTo_congr fun g hg => ?_
  obtain ⟨_, x1, x2⟩ := xor_ok hn hh hg
  rw [x2]
  cases c : g.testBit h with
  | true => simp
  | false => rw [if_neg (by decide), if_pos (by rfl), x1 c]
def inN (n g : Nat) : Int := sumTo n fun h => if g.testBit h = true then (fW n (g ^^^ 2 ^ h) : Int) else 0
def outN (n g : Nat) : Int := sumTo n fun h => if g.testBit h = true then 0 else (fW n g : Int)
theorem flow_fin : ∀ n : Fin 7, ∀ g : Fin 64, g.val < 2 ^ n.val → inN n.val g.val + (if g.val = 0 then (facN n.val : Int) else 0) = outN n.val g.val + (if g.val = 2 ^ n.val - 1 then (facN n.val : Int) else 0) := by decide +kernel
/-- what all orders add up, from none to all -/
theorem flow_eq {n : Nat} (hn : n ≤ 6) (φ : Nat → Int) : (sumTo n fun h => sumTo (2 ^ n) fun g => if g.testBit h = true then 0 else (fW n g : Int) * (φ (g ||| 2 ^ h) - φ g)) = (facN n : Int) * (φ (2 ^ n - 1) - φ 0) := by
  have h6 := pow6 hn
  have hp := Nat.two_pow_pos n
  have e1 : (sumTo n fun h => sumTo (2 ^ n) fun g => if g.testBit h = true then 0 else (fW n g : Int) * (φ (g ||| 2 ^ h) - φ g)) = (sumTo n fun h => sumTo (2 ^ n) fun g => if g.testBit h = true then (fW n (g ^^^ 2 ^ h) : Int) * φ g else 0) + sumTo n fun h => sumTo (2 ^ n) fun g => -(if g.testBit h = true then 0 else (fW n g : Int)) * φ g := by
    rw [← sumTo_add]
    refine sumTo_congr fun h hh => ?_
    rw [← flip_sum hn hh (fun g => (fW n (g ^^^ 2 ^ h) : Int) * φ g), ← sumTo_add]
    refine sumTo_congr fun g hg => ?_
    obtain ⟨_, x1, x2⟩ := xor_ok hn hh hg
    cases c : g.testBit h with
    | true => simp
    | false =>
      rw [if_neg (by decide), if_neg (by decide), if_neg (by decide)]
      have e : (g ||| 2 ^ h) ^^^ 2 ^ h = g := by rw [x1 c, Nat.xor_assoc, Nat.xor_self, Nat.xor_zero]
      rw [e]
      grind
  rw [e1, ← sumTo_comm (fun g h => if g.testBit h = true then (fW n (g ^^^ 2 ^ h) : Int) * φ g else 0), ← sumTo_comm (fun g h => -(if g.testBit h = true then 0 else (fW n g : Int)) * φ g), ← sumTo_add]
  have e2 : (fun g => (sumTo n fun h => if g.testBit h = true then (fW n (g ^^^ 2 ^ h) : Int) * φ g else 0) + sumTo n fun h => -(if g.testBit h = true then 0 else (fW n g : Int)) * φ g) = fun g => (inN n g - outN n g) * φ g := by
    funext g
    have a1 : (sumTo n fun h => if g.testBit h = true then (fW n (g ^^^ 2 ^ h) : Int) * φ g else 0) = φ g * inN n g := by
      unfold inN
      rw [← sumTo_mul]
      exact sumTo_congr fun h _ => by split <;> grind
    have a2 : (sumTo n fun h => -(if g.testBit h = true then 0 else (fW n g : Int)) * φ g) = -φ g * outN n g := by
      unfold outN
      rw [← sumTo_mul]
      exact sumTo_congr fun h _ => by split <;> grind
    rw [a1, a2]
    grind
  rw [e2]
  have e3 : (sumTo (2 ^ n) fun g => (inN n g - outN n g) * φ g) = sumTo (2 ^ n) fun g => (if g = 2 ^ n - 1 then (facN n : Int) * φ (2 ^ n - 1) else 0) + (if g = 0 then -(facN n : Int) * φ 0 else 0) := sumTo_congr fun g hg => by
    have f := flow_fin ⟨n, by omega⟩ ⟨g, by omega⟩ hg
    dsimp only at f
    by_cases c0 : g = 0 <;> by_cases c1 : g = 2 ^ n - 1
    · rw [if_pos c0, if_pos c1] at f
      rw [if_pos c1, if_pos c0, show inN n g - outN n g = 0 by omega, ← c1, c0]
      grind
    · rw [if_pos c0, if_neg c1] at f
      rw [if_neg c1, if_pos c0, show inN n g - outN n g = -(facN n : Int) by omega, c0]
      grind
    · rw [if_neg c0, if_pos c1] at f
      rw [if_pos c1, if_neg c0, show inN n g - outN n g = (facN n : Int) by omega, c1]
      grind
    · rw [if_neg c0, if_neg c1] at f
      rw [if_neg c1, if_neg c0, show inN n g - outN n g = 0 by omega]
      grind
  rw [e3, sumTo_add, sumTo_at, sumTo_at, if_pos (by omega), if_pos hp]
  grind
/-- the means' sum for a hand -/
def meanH (t : Nat → Int) (n h : Nat) : Int := sumTo (2 ^ n) fun g => if g.testBit h = true then 0 else (fW n g : Int) * (t (g ||| 2 ^ h) - t g)
def meanN (t : List Int) (n : Nat) : List Int := (List.range n).map fun h => meanH (fun g => t.getD g 0) n h
theorem mean_len (t : List Int) (n : Nat) : (meanN t n).length = n := by simp [meanN]
theorem mean_get {t : List Int} {n h : Nat} (hh : h < n) : (meanN t n).getD h 0 = meanH (fun g => t.getD g 0) n h := by
  unfold meanN
  rw [getD_map_range (β := Int) _ hh]
theorem mean_sum {t : List Int} {n : Nat} (hn : n ≤ 6) (T : Tab n t) : (meanN t n).sum = (facN n : Int) * t.getD (2 ^ n - 1) 0 := by
  rw [sum_to (mean_len t n), sumTo_congr (g := meanH (fun g => t.getD g 0) n) fun h hh => mean_get hh]
  have := flow_eq hn fun g => t.getD g 0
  rw [T.zero, Int.sub_zero] at this
  exact this
theorem mean_under {t : List Int} {n S : Nat} (hn : n ≤ 6) (T : Tab n t) (F : Falls t n) (hS : S < 2 ^ n) : givesN (meanN t n) S ≤ (facN n : Int) * t.getD S 0 := by
  have h6 := pow6 hn
  rw [givesN_sum, mean_len]
  have fl := flow_eq hn fun g => t.getD (g &&& S) 0
  have z : (2 ^ n - 1) &&& S = S := by
    rw [Nat.and_comm, Nat.and_two_pow_sub_one_eq_mod, Nat.mod_eq_of_lt hS]
  rw [Nat.zero_and, z, T.zero, Int.sub_zero] at fl
  rw [← fl]
  refine sumTo_mono fun h hh => ?_
  by_cases c : S.testBit h = true
  · rw [if_pos c, mean_get hh]
    unfold meanH
    refine sumTo_mono fun g hg => ?_
    cases d : g.testBit h with
    | true => simp
    | false =>
      rw [if_neg (by decide), if_neg (by decide)]
      refine Int.mul_le_mul_of_nonneg_left ?_ (by omega)
      have l1 : (g &&& S) ||| 2 ^ h < 2 ^ n := or_lt (Nat.and_lt_two_pow _ hS) (pow_lt hh)
      have f := F g ((g &&& S) ||| 2 ^ h) hg l1
      dsimp only at f
      have a1 : g ||| ((g &&& S) ||| 2 ^ h) = g ||| 2 ^ h := by
        apply Nat.eq_of_testBit_eq
        intro i
        simp only [Nat.testBit_or, Nat.testBit_and]
        cases g.testBit i <;> simp
      have a2 : g &&& ((g &&& S) ||| 2 ^ h) = g &&& S := by
        apply Nat.eq_of_testBit_eq
        intro i
        simp only [Nat.testBit_or, Nat.testBit_and, Nat.testBit_two_pow]
        by_cases e : h = i
        · rw [← e, d]; simp
        · simp [e]
      have a3 : (g ||| 2 ^ h) &&& S = (g &&& S) ||| 2 ^ h := by
        apply Nat.eq_of_testBit_eq
        intro i
        simp only [Nat.testBit_or, Nat.testBit_and, Nat.testBit_two_pow]
        by_cases e : h = i
        · rw [← e, c]; simp
        · simp [e]
      rw [a1, a2] at f
      rw [a3]
      show t.getD (g ||| 2 ^ h) 0 - t.getD g 0 ≤ _
      omega
  · have z : (sumTo (2 ^ n) fun g => if g.testBit h = true then 0 else (fW n g : Int) * (t.getD ((g ||| 2 ^ h) &&& S) 0 - t.getD (g &&& S) 0)) = 0 := by
      rw [sumTo_congr (g := fun _ => 0) fun g hg => ?_, sumTo_zero]
      have a3 : (g ||| 2 ^ h) &&& S = g &&& S := by
        apply Nat.eq_of_testBit_eq
        intro i
        simp only [Nat.testBit_or, Nat.testBit_and, Nat.testBit_two_pow]
        by_cases e : h = i
        · rw [← e, Bool.eq_false_iff.mpr c]; simp
        · simp [e]
      rw [a3]
      split <;> simp
    rw [if_neg c, z]
    exact Int.le_refl 0
theorem once_fin : ∀ n : Fin 7, ∀ h : Fin 6, h.val < n.val → (sumTo (2 ^ n.val) fun g => if g.testBit h.val = true then 0 else (fW n.val g : Int)) = (facN n.val : Int) := by decide +kernel
/-- two hands exchanged -/
def swp (i j g : Nat) : Nat := if g.testBit i = g.testBit j then g else g ^^^ (2 ^ i ||| 2 ^ j)
theorem swp_fin : ∀ i j : Fin 6, ∀ g : Fin 64, swp i.val j.val g.val < 64 ∧ swp i.val j.val (swp i.val j.val g.val) = g.val ∧ pc (swp i.val j.val g.val) = pc g.val ∧ (swp i.val j.val g.val).testBit j.val = g.val.testBit i.val ∧ (g.val.testBit i.val = false → swp i.val j.val (g.val ||| 2 ^ i.val) = swp i.val j.val g.val ||| 2 ^ j.val) ∧
    (g.val : Int) + ((if g.val.testBit j.val then 1 else 0) - (if g.val.testBit i.val then 1 else 0)) * ((2 ^ i.val : Nat) - (2 ^ j.val : Nat) : Int) = (swp i.val j.val g.val : Int) := by decide +kernel
theorem swp_lt_fin : ∀ n : Fin 7, ∀ i j : Fin 6, i.val < n.val → j.val < n.val → ∀ g : Fin 64, g.val < 2 ^ n.val → swp i.val j.val g.val < 2 ^ n.val := by decide +kernel
theorem mean_swp {t : Nat → Int} {n i j : Nat} (hn : n ≤ 6) (hi : i < n) (hj : j < n) (ht : ∀ g, g < 2 ^ n → t (swp i j g) = t g) : meanH t n i = meanH t n j := by
  have h6 := pow6 hn
  have lt : ∀ g, g < 2 ^ n → swp i j g < 2 ^ n := fun g hg => swp_lt_fin ⟨n, by omega⟩ ⟨i, by omega⟩ ⟨j, by omega⟩ hi hj ⟨g, by omega⟩ hg
  unfold meanH
  rw [← sumTo_perm (swp i j) lt (fun g hg => (swp_fin ⟨i, by omega⟩ ⟨j, by omega⟩ ⟨g, by omega⟩).2.1) (fun g => if g.testBit j = true then 0 else (fW n g : Int) * (t (g ||| 2 ^ j) - t g))]
  refine sumTo_congr fun g hg => ?_
  obtain ⟨_, _, o3, o4, o5, _⟩ := swp_fin ⟨i, by omega⟩ ⟨j, by omega⟩ ⟨g, by omega⟩
  dsimp only at o3 o4 o5
  have eW : fW n (swp i j g) = fW n g := by unfold fW; rw [o3]
  rw [o4, eW]
  cases c : g.testBit i with
  | true => simp
  | false =>
    rw [if_neg (by decide), if_neg (by decide), ← o5 c, ht _ (or_lt hg (pow_lt hi)), ht g hg]
end Gc

namespace Lw
open PySem L2 Gc

noncomputable def b__law_cell (script : List Int) (k : Int) : Option (Out Unit Empty Int) :=
  if (decide (k < (script.length : Int))) = true then ((atI script k).bind fun e =>
  some (e % 2305843009213693951)).bind (fun y => some (.rt y)) else
  some (.rt 0)
noncomputable def m__law_cell (script : List Int) (k : Int) : Option Int := (b__law_cell script k).bind (fin none)
noncomputable abbrev f__law_cell : (List Int) × Int × Unit → Option Int := fun z => m__law_cell z.1 z.2.1

noncomputable def b__law_mixed (cell : Int) (k : Int) : Option (Out Unit Empty Int) :=
  (mulO (7919 * k) k).bind fun z =>
  letP ((((cell + z) + k) % 2147483647)) fun number =>
  (mulO number number).bind fun z1 =>
  letP ((z1 % 1000000007)) fun number1 =>
  (fdivO cell 2147483647).bind fun z2 =>
  some (.rt (((number1 + z2) * 48271) % 998244353))
noncomputable def m__law_mixed (cell : Int) (k : Int) : Option Int := (b__law_mixed cell k).bind (fin none)
noncomputable abbrev f__law_mixed : Int × Int × Unit → Option Int := fun z => m__law_mixed z.1 z.2.1

noncomputable def b_look_at_hands (hands : Int) : Option (Out Unit Empty Unit) :=
  if ((decide (hands < 1)) || (decide (6 < hands))) = true then none else
  some (.nx ())
noncomputable def m_look_at_hands (hands : Int) : Option Unit := (b_look_at_hands hands).bind (fin (some ()))
noncomputable abbrev f_look_at_hands : Int × Unit → Option Unit := fun z => m_look_at_hands z.1

noncomputable def m_hands_in_c1 (s_ : (List Int) × Int × Int) : Option Bool :=
  some (decide (0 < s_.2.1))
noncomputable def m_hands_in_b2 (s_ : (List Int) × Int × Int) : Option (Out ((List Int) × Int × Int) ((List Int) × Int × Int) (List Int)) :=
  ((if (decide ((Builtin.bitAnd s_.2.1 1) = 1)) = true then (appO s_.1 s_.2.2).bind fun hands1 =>
  some (.nx hands1) else some (.nx s_.1) : Option (Out ((List Int)) _ _))).bind (bnd (fun (s_1 : (List Int)) =>
  (shrO s_.2.1 1).bind fun z =>
  some (.nx (s_1, z, (s_.2.2 + 1)))))
noncomputable def b_hands_in (group : Int) : Option (Out Unit Empty (List Int)) :=
  letP (([] : List Int)) fun hands =>
  (whileO (m_hands_in_c1) (m_hands_in_b2) (hands, group, 0)).bind (bnd (fun (s_2 : (List Int) × Int × Int) =>
  some (.rt s_2.1)))
noncomputable def m_hands_in (group : Int) : Option (List Int) := (b_hands_in group).bind (fin none)
noncomputable abbrev f_hands_in : Int × Unit → Option (List Int) := fun z => m_hands_in z.1

noncomputable def m_lead_line_b1 (place : Int) (it : (Int × (List Int))) (_s : Unit) : Option (Out (Unit) (Unit) Int) :=
  (atI it.2 place).bind fun e =>
  if (!decide (e = 0)) = true then some (.rt it.1) else
  some (.nx ())
noncomputable def b_lead_line (lines : List (List Int)) (place : Int) : Option (Out Unit Empty Int) :=
  (forO (m_lead_line_b1 place) (enumL lines) ()).bind (bnd (fun (_ : Unit) =>
  some (.rt (-1))))
noncomputable def m_lead_line (lines : List (List Int)) (place : Int) : Option Int := (b_lead_line lines place).bind (fin none)
noncomputable abbrev f_lead_line : (List (List Int)) × Int × Unit → Option Int := fun z => m_lead_line z.1 z.2.1

noncomputable def b_less_lead (line : List Int) (lead : List Int) (place : Int) : Option (Out Unit Empty (List Int)) :=
  (mapO (fun (it : (Int × Int)) => (atI lead place).bind fun e =>
  (mulO it.1 e).bind fun z =>
  (atI line place).bind fun e1 =>
  (mulO e1 it.2).bind fun z1 =>
  some (z - z1)) (line.zip lead)).bind fun l =>
  some (.rt l)
noncomputable def m_less_lead (line : List Int) (lead : List Int) (place : Int) : Option (List Int) := (b_less_lead line lead place).bind (fin none)
noncomputable abbrev f_less_lead : (List Int) × (List Int) × Int × Unit → Option (List Int) := fun z => m_less_lead z.1 z.2.1 z.2.2.1

noncomputable def b__law_hands (group : Int) : Option (Out Unit Empty (List Int)) :=
  (rngO 0 6).bind fun r =>
  (filO (fun (k : Int) => (shrO group k).bind fun z =>
  some (decide ((Builtin.bitAnd z 1) = 1))) (fun (k : Int) => some k) r).bind fun l =>
  some (.rt l)
noncomputable def m__law_hands (group : Int) : Option (List Int) := (b__law_hands group).bind (fin none)
noncomputable abbrev f__law_hands : Int × Unit → Option (List Int) := fun z => m__law_hands z.1

noncomputable def m__law_square_b1 (places : List Int) (lines : List (List Int)) (k : Int) (s_ : Int) : Option (Out (Int) (Int) Int) :=
  (catO (cutL places none (some k)) (cutL places (some (k + 1)) none)).bind fun l =>
  ((none : Option Int)).bind fun v =>
  (atI lines 0).bind fun e =>
  (atI places k).bind fun e1 =>
  (atI e e1).bind fun e2 =>
  (mulO (1 - (2 * (k % 2))) e2).bind fun z =>
  (mulO z v).bind fun z1 =>
  some (.nx (s_ + z1))
noncomputable def b__law_square (lines : List (List Int)) (places : List Int) : Option (Out Unit Empty Int) :=
  if (decide (lines = ([] : List (List Int)))) = true then some (.rt 1) else
  (rngO 0 (places.length : Int)).bind fun r =>
  (forO (m__law_square_b1 places lines) r 0).bind (bnd (fun (s_1 : Int) =>
  some (.rt s_1)))
noncomputable def m__law_square (lines : List (List Int)) (places : List Int) : Option Int := (b__law_square lines places).bind (fin none)
noncomputable abbrev f__law_square : (List (List Int)) × (List Int) × Unit → Option Int := fun z => m__law_square z.1 z.2.1

noncomputable def m__law_breaks_b1 (one : Int) (table : List Int) (group : Int) (sign : Int) (other : Int) (s_2 : (List (Int × Int × Int))) : Option (Out ((List (Int × Int × Int))) ((List (Int × Int × Int))) (List (Int × Int × Int))) :=
  (shlO 1 one).bind fun z =>
  (shlO 1 other).bind fun z1 =>
  letP ((Builtin.bitOr z z1)) fun both =>
  ((if ((decide (both < (table.length : Int))) && (decide ((Builtin.bitAnd group both) = 0))) = true then (shlO 1 one).bind fun z2 =>
  (atI table (Builtin.bitOr group z2)).bind fun e =>
  (shlO 1 other).bind fun z3 =>
  (atI table (Builtin.bitOr group z3)).bind fun e1 =>
  (atI table (Builtin.bitOr group both)).bind fun e2 =>
  (atI table group).bind fun e3 =>
  letP ((((e + e1) - e2) - e3)) fun gap =>
  (mulO sign gap).bind fun z4 =>
  ((if (decide (z4 < 0)) = true then (appO s_2 (group, one, other)).bind fun found1 =>
  some (.nx found1) else some (.nx s_2) : Option (Out ((List (Int × Int × Int))) _ _))).bind (bnd (fun (s_3 : (List (Int × Int × Int))) =>
  some (.nx s_3))) else some (.nx s_2) : Option (Out ((List (Int × Int × Int))) _ _))).bind (bnd (fun (s_4 : (List (Int × Int × Int))) =>
  some (.nx s_4)))
noncomputable def m__law_breaks_b2 (table : List Int) (group : Int) (sign : Int) (one : Int) (s_1 : (List (Int × Int × Int))) : Option (Out ((List (Int × Int × Int))) ((List (Int × Int × Int))) (List (Int × Int × Int))) :=
  (rngO (one + 1) 6).bind fun r2 =>
  (forO (m__law_breaks_b1 one table group sign) r2 s_1).bind (bnd (fun (s_5 : (List (Int × Int × Int))) =>
  some (.nx s_5)))
noncomputable def m__law_breaks_b3 (table : List Int) (sign : Int) (group : Int) (s_ : (List (Int × Int × Int))) : Option (Out ((List (Int × Int × Int))) ((List (Int × Int × Int))) (List (Int × Int × Int))) :=
  (rngO 0 6).bind fun r1 =>
  (forO (m__law_breaks_b2 table group sign) r1 s_).bind (bnd (fun (s_6 : (List (Int × Int × Int))) =>
  some (.nx s_6)))
noncomputable def b__law_breaks (table : List Int) (sign : Int) : Option (Out Unit Empty (List (Int × Int × Int))) :=
  letP (([] : List (Int × Int × Int))) fun found =>
  (rngO 0 (table.length : Int)).bind fun r =>
  (forO (m__law_breaks_b3 table sign) r found).bind (bnd (fun (s_7 : (List (Int × Int × Int))) =>
  some (.rt s_7)))
noncomputable def m__law_breaks (table : List Int) (sign : Int) : Option (List (Int × Int × Int)) := (b__law_breaks table sign).bind (fin none)
noncomputable abbrev f__law_breaks : (List Int) × Int × Unit → Option (List (Int × Int × Int)) := fun z => m__law_breaks z.1 z.2.1

noncomputable def b__law_whole (found : Int) : Option (Out Unit Empty Bool) :=
  some (.rt (true && (!false)))
noncomputable def m__law_whole (found : Int) : Option Bool := (b__law_whole found).bind (fin none)
noncomputable abbrev f__law_whole : Int × Unit → Option Bool := fun z => m__law_whole z.1

noncomputable def m__law_poured_b1 (many : Int) (script : List Int) (k1 : Int) (s_ : (List Int)) : Option (Out ((List Int)) ((List Int)) (List Int)) :=
  (modO k1 many).bind fun z =>
  (atI script k1).bind fun e =>
  (modO e ((10 ^ 60) + 7)).bind fun z1 =>
  (atI s_ z).bind fun e1 =>
  (modO ((e1 * 1000003) + ((z1 + k1) * 48271)) ((10 ^ 60) + 7)).bind fun z2 =>
  (setO s_ z z2).bind fun numbers1 =>
  some (.nx numbers1)
noncomputable def b__law_poured (script : List Int) (many : Int) : Option (Out Unit Empty (List Int)) :=
  (rngO 0 many).bind fun r =>
  (mapO (fun (k : Int) => (m__law_mixed (k + 11) k).bind fun v =>
  some v) r).bind fun numbers =>
  (rngO 0 (script.length : Int)).bind fun r1 =>
  (forO (m__law_poured_b1 many script) r1 numbers).bind (bnd (fun (s_1 : (List Int)) =>
  some (.rt s_1)))
noncomputable def m__law_poured (script : List Int) (many : Int) : Option (List Int) := (b__law_poured script many).bind (fin none)
noncomputable abbrev f__law_poured : (List Int) × Int × Unit → Option (List Int) := fun z => m__law_poured z.1 z.2.1

noncomputable def m_free_count_b1 (place : Int) (s_ : (List (List Int)) × Int) : Option (Out ((List (List Int)) × Int) ((List (List Int)) × Int) Int) :=
  (m_lead_line s_.1 place).bind fun v =>
  ((if (decide (0 ≤ v)) = true then (popO s_.1 v).bind fun it =>
  (mapO (fun (line1 : List Int) => (m_less_lead line1 it.1 place).bind fun l =>
  some l) it.2).bind fun left1 =>
  some (.nx (left1, (s_.2 + 1))) else some (.nx (s_.1, s_.2)) : Option (Out ((List (List Int)) × Int) _ _))).bind (bnd (fun (s_1 : (List (List Int)) × Int) =>
  some (.nx (s_1.1, s_1.2))))
noncomputable def b_free_count (lines : List (List Int)) : Option (Out Unit Empty Int) :=
  letP ((lines.map fun (line : List Int) => line)) fun left =>
  (atI lines 0).bind fun e =>
  (rngO 0 (e.length : Int)).bind fun r =>
  (forO (m_free_count_b1) r (left, 0)).bind (bnd (fun (s_2 : (List (List Int)) × Int) =>
  some (.rt s_2.2)))
noncomputable def m_free_count (lines : List (List Int)) : Option Int := (b_free_count lines).bind (fin none)
noncomputable abbrev f_free_count : (List (List Int)) × Unit → Option Int := fun z => m_free_count z.1

noncomputable def m__law_square_2_b1 (places : List Int) (lines : List (List Int)) (k : Int) (s_ : Int) : Option (Out (Int) (Int) Int) :=
  (catO (cutL places none (some k)) (cutL places (some (k + 1)) none)).bind fun l =>
  (m__law_square (cutL lines (some 1) none) l).bind fun v =>
  (atI lines 0).bind fun e =>
  (atI places k).bind fun e1 =>
  (atI e e1).bind fun e2 =>
  (mulO (1 - (2 * (k % 2))) e2).bind fun z =>
  (mulO z v).bind fun z1 =>
  some (.nx (s_ + z1))
noncomputable def b__law_square_2 (lines : List (List Int)) (places : List Int) : Option (Out Unit Empty Int) :=
  if (decide (lines = ([] : List (List Int)))) = true then some (.rt 1) else
  (rngO 0 (places.length : Int)).bind fun r =>
  (forO (m__law_square_2_b1 places lines) r 0).bind (bnd (fun (s_1 : Int) =>
  some (.rt s_1)))
noncomputable def m__law_square_2 (lines : List (List Int)) (places : List Int) : Option Int := (b__law_square_2 lines places).bind (fin none)
noncomputable abbrev f__law_square_2 : (List (List Int)) × (List Int) × Unit → Option Int := fun z => m__law_square_2 z.1 z.2.1

noncomputable def m__law_numbers_b1 (found : List Int) (due : List Int) (k : Int) (_s : Unit) : Option (Out (Unit) (Unit) Bool) :=
  (atI found k).bind fun e =>
  (m__law_whole e).bind fun b =>
  ((if (!b) = true then some true else (atI found k).bind fun e1 =>
  (atI due k).bind fun e2 =>
  some (!decide (e1 = e2)))).bind fun t =>
  if t = true then some (.rt false) else
  some (.nx ())
noncomputable def b__law_numbers (found : List Int) (due : List Int) : Option (Out Unit Empty Bool) :=
  if ((!true) || (!decide ((found.length : Int) = (due.length : Int)))) = true then some (.rt false) else
  (rngO 0 (due.length : Int)).bind fun r =>
  (forO (m__law_numbers_b1 found due) r ()).bind (bnd (fun (_ : Unit) =>
  some (.rt true)))
noncomputable def m__law_numbers (found : List Int) (due : List Int) : Option Bool := (b__law_numbers found due).bind (fin none)
noncomputable abbrev f__law_numbers : (List Int) × (List Int) × Unit → Option Bool := fun z => m__law_numbers z.1 z.2.1

noncomputable def m__law_lines_b1 (l : List Int) (at_ : Int) (k : Int) (s_1 : (List Int)) : Option (Out ((List Int)) ((List Int)) (List (List Int))) :=
  (atI l ((4 * at_) + k)).bind fun e =>
  (mulO (e / 2) (1 - (2 * (e % 2)))).bind fun z =>
  (atI [((e % 3) - 1), ((e % 7) - 3), z] ((e / 7) % 3)).bind fun e1 =>
  (appO s_1 e1).bind fun line1 =>
  some (.nx line1)
noncomputable def m__law_lines_b2 (width : Int) (l : List Int) (at_ : Int) (s_ : (List (List Int))) : Option (Out ((List (List Int))) ((List (List Int))) (List (List Int))) :=
  letP (([] : List Int)) fun line =>
  (rngO 0 width).bind fun r1 =>
  (forO (m__law_lines_b1 l at_) r1 line).bind (bnd (fun (s_2 : (List Int)) =>
  (atI l (24 + at_)).bind fun e2 =>
  ((if (decide ((e2 % 5) = 0)) = true then (rngO 0 width).bind fun r2 =>
  letP ((r2.map fun (k1 : Int) => 0)) fun line2 =>
  some (.nx line2) else some (.nx s_2) : Option (Out ((List Int)) _ _))).bind (bnd (fun (s_3 : (List Int)) =>
  ((if ((decide ((e2 % 5) = 1)) && (decide (1 < at_))) = true then (atI l (24 + at_)).bind fun e3 =>
  letP ((((e3 / 5) % 5) - 2)) fun one =>
  (atI l (24 + at_)).bind fun e4 =>
  (modO (e4 / 25) (10 ^ 20)).bind fun z1 =>
  (rngO 0 width).bind fun r3 =>
  (mapO (fun (k2 : Int) => (atI s_ 0).bind fun e5 =>
  (atI e5 k2).bind fun e6 =>
  (mulO one e6).bind fun z2 =>
  (atI s_ (at_ - 1)).bind fun e7 =>
  (atI e7 k2).bind fun e8 =>
  (mulO z1 e8).bind fun z3 =>
  some (z2 + z3)) r3).bind fun line3 =>
  some (.nx line3) else some (.nx s_3) : Option (Out ((List Int)) _ _))).bind (bnd (fun (s_4 : (List Int)) =>
  (appO s_ s_4).bind fun lines1 =>
  some (.nx lines1)))))))
noncomputable def b__law_lines (script : List Int) (many : Int) (width : Int) : Option (Out Unit Empty (List (List Int))) :=
  (m__law_poured script 30).bind fun l =>
  letP (([] : List (List Int))) fun lines =>
  (rngO 0 many).bind fun r =>
  (forO (m__law_lines_b2 width l) r lines).bind (bnd (fun (s_5 : (List (List Int))) =>
  some (.rt s_5)))
noncomputable def m__law_lines (script : List Int) (many : Int) (width : Int) : Option (List (List Int)) := (b__law_lines script many width).bind (fin none)
noncomputable abbrev f__law_lines : (List Int) × Int × Int × Unit → Option (List (List Int)) := fun z => m__law_lines z.1 z.2.1 z.2.2.1

noncomputable def m_from_lines_b1 (lines : List (List Int)) (line : List Int) (_s : Unit) : Option (Out (Unit) (Unit) (List Int)) :=
  (atI lines 0).bind fun e =>
  if ((!decide ((line.length : Int) = (e.length : Int))) || (decide (6 < (line.length : Int)))) = true then none else
  some (.nx ())
noncomputable def m_from_lines_b2 (lines : List (List Int)) (group : Int) (s_2 : (List Int)) : Option (Out ((List Int)) ((List Int)) (List Int)) :=
  (m_hands_in group).bind fun l =>
  (mapO (fun (hand : Int) => (atI lines hand).bind fun e1 =>
  some e1) l).bind fun l1 =>
  (m_free_count l1).bind fun v1 =>
  (appO s_2 v1).bind fun table =>
  some (.nx table)
noncomputable def b_from_lines (lines : List (List Int)) : Option (Out Unit Empty (List Int)) :=
  (m_look_at_hands (lines.length : Int)).bind fun v =>
  (forO (m_from_lines_b1 lines) lines ()).bind (bnd (fun (_ : Unit) =>
  (shlO 1 (lines.length : Int)).bind fun z =>
  (rngO 1 z).bind fun r =>
  (forO (m_from_lines_b2 lines) r [0]).bind (bnd (fun (s_3 : (List Int)) =>
  some (.rt s_3)))))
noncomputable def m_from_lines (lines : List (List Int)) : Option (List Int) := (b_from_lines lines).bind (fin none)
noncomputable abbrev f_from_lines : (List (List Int)) × Unit → Option (List Int) := fun z => m_from_lines z.1

noncomputable def m__law_square_3_b1 (places : List Int) (lines : List (List Int)) (k : Int) (s_ : Int) : Option (Out (Int) (Int) Int) :=
  (catO (cutL places none (some k)) (cutL places (some (k + 1)) none)).bind fun l =>
  (m__law_square_2 (cutL lines (some 1) none) l).bind fun v =>
  (atI lines 0).bind fun e =>
  (atI places k).bind fun e1 =>
  (atI e e1).bind fun e2 =>
  (mulO (1 - (2 * (k % 2))) e2).bind fun z =>
  (mulO z v).bind fun z1 =>
  some (.nx (s_ + z1))
noncomputable def b__law_square_3 (lines : List (List Int)) (places : List Int) : Option (Out Unit Empty Int) :=
  if (decide (lines = ([] : List (List Int)))) = true then some (.rt 1) else
  (rngO 0 (places.length : Int)).bind fun r =>
  (forO (m__law_square_3_b1 places lines) r 0).bind (bnd (fun (s_1 : Int) =>
  some (.rt s_1)))
noncomputable def m__law_square_3 (lines : List (List Int)) (places : List Int) : Option Int := (b__law_square_3 lines places).bind (fin none)
noncomputable abbrev f__law_square_3 : (List (List Int)) × (List Int) × Unit → Option Int := fun z => m__law_square_3 z.1 z.2.1

noncomputable def m__law_square_4_b1 (places : List Int) (lines : List (List Int)) (k : Int) (s_ : Int) : Option (Out (Int) (Int) Int) :=
  (catO (cutL places none (some k)) (cutL places (some (k + 1)) none)).bind fun l =>
  (m__law_square_3 (cutL lines (some 1) none) l).bind fun v =>
  (atI lines 0).bind fun e =>
  (atI places k).bind fun e1 =>
  (atI e e1).bind fun e2 =>
  (mulO (1 - (2 * (k % 2))) e2).bind fun z =>
  (mulO z v).bind fun z1 =>
  some (.nx (s_ + z1))
noncomputable def b__law_square_4 (lines : List (List Int)) (places : List Int) : Option (Out Unit Empty Int) :=
  if (decide (lines = ([] : List (List Int)))) = true then some (.rt 1) else
  (rngO 0 (places.length : Int)).bind fun r =>
  (forO (m__law_square_4_b1 places lines) r 0).bind (bnd (fun (s_1 : Int) =>
  some (.rt s_1)))
noncomputable def m__law_square_4 (lines : List (List Int)) (places : List Int) : Option Int := (b__law_square_4 lines places).bind (fin none)
noncomputable abbrev f__law_square_4 : (List (List Int)) × (List Int) × Unit → Option Int := fun z => m__law_square_4 z.1 z.2.1

noncomputable def m__law_square_5_b1 (places : List Int) (lines : List (List Int)) (k : Int) (s_ : Int) : Option (Out (Int) (Int) Int) :=
  (catO (cutL places none (some k)) (cutL places (some (k + 1)) none)).bind fun l =>
  (m__law_square_4 (cutL lines (some 1) none) l).bind fun v =>
  (atI lines 0).bind fun e =>
  (atI places k).bind fun e1 =>
  (atI e e1).bind fun e2 =>
  (mulO (1 - (2 * (k % 2))) e2).bind fun z =>
  (mulO z v).bind fun z1 =>
  some (.nx (s_ + z1))
noncomputable def b__law_square_5 (lines : List (List Int)) (places : List Int) : Option (Out Unit Empty Int) :=
  if (decide (lines = ([] : List (List Int)))) = true then some (.rt 1) else
  (rngO 0 (places.length : Int)).bind fun r =>
  (forO (m__law_square_5_b1 places lines) r 0).bind (bnd (fun (s_1 : Int) =>
  some (.rt s_1)))
noncomputable def m__law_square_5 (lines : List (List Int)) (places : List Int) : Option Int := (b__law_square_5 lines places).bind (fin none)
noncomputable abbrev f__law_square_5 : (List (List Int)) × (List Int) × Unit → Option Int := fun z => m__law_square_5 z.1 z.2.1

noncomputable def m__law_square_6_b1 (places : List Int) (lines : List (List Int)) (k : Int) (s_ : Int) : Option (Out (Int) (Int) Int) :=
  (catO (cutL places none (some k)) (cutL places (some (k + 1)) none)).bind fun l =>
  (m__law_square_5 (cutL lines (some 1) none) l).bind fun v =>
  (atI lines 0).bind fun e =>
  (atI places k).bind fun e1 =>
  (atI e e1).bind fun e2 =>
  (mulO (1 - (2 * (k % 2))) e2).bind fun z =>
  (mulO z v).bind fun z1 =>
  some (.nx (s_ + z1))
noncomputable def b__law_square_6 (lines : List (List Int)) (places : List Int) : Option (Out Unit Empty Int) :=
  if (decide (lines = ([] : List (List Int)))) = true then some (.rt 1) else
  (rngO 0 (places.length : Int)).bind fun r =>
  (forO (m__law_square_6_b1 places lines) r 0).bind (bnd (fun (s_1 : Int) =>
  some (.rt s_1)))
noncomputable def m__law_square_6 (lines : List (List Int)) (places : List Int) : Option Int := (b__law_square_6 lines places).bind (fin none)
noncomputable abbrev f__law_square_6 : (List (List Int)) × (List Int) × Unit → Option Int := fun z => m__law_square_6 z.1 z.2.1

noncomputable def m__law_square_7_b1 (places : List Int) (lines : List (List Int)) (k : Int) (s_ : Int) : Option (Out (Int) (Int) Int) :=
  (catO (cutL places none (some k)) (cutL places (some (k + 1)) none)).bind fun l =>
  (m__law_square_6 (cutL lines (some 1) none) l).bind fun v =>
  (atI lines 0).bind fun e =>
  (atI places k).bind fun e1 =>
  (atI e e1).bind fun e2 =>
  (mulO (1 - (2 * (k % 2))) e2).bind fun z =>
  (mulO z v).bind fun z1 =>
  some (.nx (s_ + z1))
noncomputable def b__law_square_7 (lines : List (List Int)) (places : List Int) : Option (Out Unit Empty Int) :=
  if (decide (lines = ([] : List (List Int)))) = true then some (.rt 1) else
  (rngO 0 (places.length : Int)).bind fun r =>
  (forO (m__law_square_7_b1 places lines) r 0).bind (bnd (fun (s_1 : Int) =>
  some (.rt s_1)))
noncomputable def m__law_square_7 (lines : List (List Int)) (places : List Int) : Option Int := (b__law_square_7 lines places).bind (fin none)
noncomputable abbrev f__law_square_7 : (List (List Int)) × (List Int) × Unit → Option Int := fun z => m__law_square_7 z.1 z.2.1

noncomputable def m__law_are_free_b1 (width : Int) (lines : List (List Int)) (places : Int) (_s : Unit) : Option (Out (Unit) (Unit) Bool) :=
  (rngO 0 width).bind fun r1 =>
  (filO (fun (k : Int) => (shrO places k).bind fun z1 =>
  some (decide ((Builtin.bitAnd z1 1) = 1))) (fun (k : Int) => some k) r1).bind fun some_ =>
  ((if (decide ((some_.length : Int) = (lines.length : Int))) = true then (m__law_square_7 lines some_).bind fun v =>
  some (!decide (v = 0)) else some false)).bind fun t =>
  if t = true then some (.rt true) else
  some (.nx ())
noncomputable def b__law_are_free (lines : List (List Int)) (width : Int) : Option (Out Unit Empty Bool) :=
  (shlO 1 width).bind fun z =>
  (rngO 0 z).bind fun r =>
  (forO (m__law_are_free_b1 width lines) r ()).bind (bnd (fun (_ : Unit) =>
  some (.rt false)))
noncomputable def m__law_are_free (lines : List (List Int)) (width : Int) : Option Bool := (b__law_are_free lines width).bind (fin none)
noncomputable abbrev f__law_are_free : (List (List Int)) × Int × Unit → Option Bool := fun z => m__law_are_free z.1 z.2.1

noncomputable def m_law_b1 (part : Int) (l2 : List Int) (group1 : Int) (s_2 : (List Int)) : Option (Out ((List Int)) ((List Int)) Bool) :=
  ((if (decide ((Builtin.bitAnd group1 part) = part)) = true then (atI s_2 group1).bind fun e1 =>
  (setO s_2 group1 (max e1 (l2.length : Int))).bind fun due1 =>
  some (.nx due1) else some (.nx s_2) : Option (Out ((List Int)) _ _))).bind (bnd (fun (s_3 : (List Int)) =>
  some (.nx s_3)))
noncomputable def m_law_b2 (l : List (List Int)) (s_ : Int × Int) (part : Int) (s_1 : (List Int)) : Option (Out ((List Int)) ((List Int)) Bool) :=
  (m__law_hands part).bind fun l2 =>
  (mapO (fun (k : Int) => (atI l k).bind fun e =>
  some e) l2).bind fun l3 =>
  (m__law_are_free l3 s_.2).bind fun b =>
  ((if b = true then (shlO 1 s_.1).bind fun z2 =>
  (rngO 0 z2).bind fun r2 =>
  (forO (m_law_b1 part l2) r2 s_1).bind (bnd (fun (s_4 : (List Int)) =>
  some (.nx s_4))) else some (.nx s_1) : Option (Out ((List Int)) _ _))).bind (bnd (fun (s_5 : (List Int)) =>
  some (.nx s_5)))
noncomputable def b_law (script : List Int) : Option (Out Unit Empty Bool) :=
  (m__law_cell script 0).bind fun v =>
  letP ((1 + (v % 4))) fun many =>
  (m__law_cell script 0).bind fun v1 =>
  letP (((v1 / 4) % 5)) fun width =>
  (m__law_cell script 0).bind fun v2 =>
  ((if (decide (((v2 / 20) % 16) = 7)) = true then (m__law_cell script 0).bind fun v3 =>
  letP ((5 + ((v3 / 320) % 2))) fun many1 =>
  (m__law_cell script 0).bind fun v4 =>
  letP ((2 + ((v4 / 640) % 2))) fun width1 =>
  some (.nx (many1, width1)) else some (.nx (many, width)) : Option (Out (Int × Int) _ _))).bind (bnd (fun (s_ : Int × Int) =>
  (m__law_lines script s_.1 s_.2).bind fun l =>
  letP ((l.map fun (line : List Int) => line)) fun handed =>
  (m_from_lines handed).bind fun l1 =>
  (shlO 1 s_.1).bind fun z =>
  (rngO 0 z).bind fun r =>
  letP ((r.map fun (group : Int) => 0)) fun due =>
  (shlO 1 s_.1).bind fun z1 =>
  (rngO 0 z1).bind fun r1 =>
  (forO (m_law_b2 l s_) r1 due).bind (bnd (fun (s_6 : (List Int)) =>
  (m__law_numbers l1 s_6).bind fun b1 =>
  ((if b1 = true then (m__law_breaks l1 1).bind fun l4 =>
  some ((decide (l4 = ([] : List (Int × Int × Int)))) && (decide (handed = l))) else some false)).bind fun t =>
  some (.rt t)))))
noncomputable def m_law (script : List Int) : Option Bool := (b_law script).bind (fin none)
noncomputable abbrev f_law : (List Int) × Unit → Option Bool := fun z => m_law z.1

end Lw

namespace Lw
open PySem L2 Gc
theorem whole_eq (x : Int) : m__law_whole x = some true := rfl
theorem row_eq {xs : List Int} (h : xs.length ≤ 16777216) : m__law_numbers xs xs = some true := by
  unfold m__law_numbers b__law_numbers
  rw [if_neg (by simp), rngO_nat h]
  show Option.bind (Option.bind (forO _ (natL xs.length) ()) _) _ = _
  rw [forO_all fun x hx => ?_]
  · rfl
  · obtain ⟨k, hk, rfl⟩ := mem_natL.mp hx
    unfold m__law_numbers_b1
    rw [atI_getD hk]
    simp [whole_eq]
def cellB (script : List Int) (k : Nat) : Int := if k < script.length then script.getD k 0 % 2305843009213693951 else 0
theorem cellB_eq (script : List Int) (k : Nat) : m__law_cell script (k : Int) = some (cellB script k) := by
  unfold m__law_cell b__law_cell cellB
  by_cases h : k < script.length
  · rw [if_pos (by simpa using h), if_pos h, atI_getD h, bs, bs, bs, fin_rt]
  · rw [if_neg (by simpa using h), if_neg h, bs, fin_rt]
theorem cellB_lit (script : List Int) (k : Nat) (i : Int) (hi : i = (k : Int) := by rfl) : m__law_cell script i = some (cellB script k) := by rw [hi]; exact cellB_eq script k
theorem cellB_range (script : List Int) (k : Nat) : 0 ≤ cellB script k ∧ cellB script k < 2305843009213693951 := by
  unfold cellB
  split <;> omega
def mixedB (cell k : Int) : Int := let number := (cell + 7919 * k * k + k) % 2147483647; ((number * number % 1000000007) + cell / 2147483647) * 48271 % 998244353
theorem mixedB_eq {cell k : Int} (h0 : 0 ≤ k) (h1 : k ≤ 1000000) : m__law_mixed cell k = some (mixedB cell k) := by
  unfold m__law_mixed b__law_mixed
  have n0 : 0 ≤ (cell + 7919 * k * k + k) % 2147483647 := Int.emod_nonneg _ (by decide)
  have n1 : (cell + 7919 * k * k + k) % 2147483647 < 2147483647 := Int.emod_lt_of_pos _ (by decide)
  rw [mulO_r (by omega) (by omega), bs, letP_eq, mulO_r (by omega) (by omega), bs, letP_eq, fdivO_eq (by decide) (Nat.lt_of_lt_of_le (show (2147483647 : Int).natAbs < 2 ^ 31 by decide) (Nat.pow_le_pow_right (by decide) (by decide))), bs, bs, fin_rt]
  rfl
theorem mixedB_range (cell k : Int) : 0 ≤ mixedB cell k ∧ mixedB cell k < 998244353 := ⟨Int.emod_nonneg _ (by decide), Int.emod_lt_of_pos _ (by decide)⟩
theorem E607 : (0 : Int) < 10 ^ 60 + 7 := by rw [e60]; have := E60_pos; omega
theorem poured_ex {script : List Int} {many : Nat} (hm : 0 < many) (hm2 : many ≤ 1000) (hs : script.length ≤ 63) : ∃ p, m__law_poured script (many : Int) = some p ∧ p.length = many ∧ ∀ x ∈ p, 0 ≤ x ∧ x < E60 + 7 := by
  unfold m__law_poured b__law_poured
  have hE := E60_big
  rw [rngO_nat (by omega), bs]
  obtain ⟨ys, e, l, b⟩ := mapO_ex (f := fun (k : Int) => (m__law_mixed (k + 11) k).bind fun v => some v) (fun y => 0 ≤ y ∧ y < E60 + 7) (xs := natL many) (fun x hx => by
    obtain ⟨k, hk, rfl⟩ := mem_natL.mp hx
    rw [mixedB_eq (by omega) (by omega), bs]
    have := mixedB_range ((k : Int) + 11) (k : Int)
    have hE2 : (998244353 : Int) < E60 := by decide +kernel
    exact ⟨_, rfl, by omega, by omega⟩)
  rw [natL_length] at l
  rw [e, bs, rngO_nat (by omega), bs]
  obtain ⟨s, e2, h⟩ := forO_ex (μ := Empty) (ρ := List Int) (b := m__law_poured_b1 (many : Int) script) (fun s => s.length = many ∧ ∀ x ∈ s, 0 ≤ x ∧ x < E60 + 7) (natL script.length) ys ⟨l, b⟩ (fun x hx s ⟨h1, h2⟩ => by
    obtain ⟨k, hk, rfl⟩ := mem_natL.mp hx
    have hlt : k % many < s.length := by rw [h1]; exact Nat.mod_lt _ hm
    unfold m__law_poured_b1
    rw [modO_eq (by omega), bs, show (k : Int) % (many : Int) = ((k % many : Nat) : Int) by simp, atI_getD hk, bs, e60, modO_eq (by omega), bs, atI_getD hlt, bs, modO_eq (by omega), bs, setO_nat hlt, bs]
    refine ⟨_, rfl, by rw [List.length_set]; exact h1, fun x hx => ?_⟩
    rcases List.mem_or_eq_of_mem_set hx with hx | rfl
    · exact h2 x hx
    · exact ⟨Int.emod_nonneg _ (by omega), Int.emod_lt_of_pos _ (by omega)⟩)
  rw [e2, bs, bnd_nx, bs, fin_rt]
  exact ⟨s, rfl, h⟩
theorem lhands_eq {g : Nat} : m__law_hands (g : Int) = some (up (bitsN 6 g)) := by
  unfold m__law_hands b__law_hands
  rw [show (6 : Int) = ((6 : Nat) : Int) from rfl, rngO_nat (by decide), bs, natL_up, filO_up (fun k => g.testBit k) (fun k => (k : Int)) (fun k hk => shr_bit) (fun k _ _ => rfl)]
  rfl
theorem lhands_len {g n : Nat} (hn : n ≤ 6) (hg : g < 2 ^ n) : (((up (bitsN 6 g)).length : Nat) : Int) = ((pc g : Nat) : Int) := by
  have h6 := pow6 hn
  rw [up_len, pc_bits (n := 6) (by decide) (by omega)]
theorem hands_in_eq {g n : Nat} (hg : g < 2 ^ n) (hn : n ≤ 1000) : m_hands_in (g : Int) = some (bitsL n g) := by
  unfold m_hands_in b_hands_in
  rw [letP_eq]
  obtain ⟨s, e, ⟨k, h1, h2, h3⟩, hc⟩ := whileO_spec (μ := Empty) (ρ := List Int) (c := m_hands_in_c1) (b := m_hands_in_b2)
    (fun s => ∃ k : Nat, s.1 = bitsL k g ∧ s.2.1 = ((g >>> k : Nat) : Int) ∧ s.2.2 = (k : Int)) (fun s => s.2.1.toNat) (([] : List Int), (g : Int), 0) ⟨0, rfl, rfl, rfl⟩ (by
      rintro ⟨hs, rest, hand⟩ ⟨k, h1, h2, h3⟩
      dsimp only at h1 h2 h3
      subst h1 h2 h3
      by_cases hz : g >>> k = 0
      · left; show some (decide ((0 : Int) < ((g >>> k : Nat) : Int))) = _; rw [hz]; rfl
      · right
        refine ⟨by show some (decide ((0 : Int) < ((g >>> k : Nat) : Int))) = _; rw [decide_eq_true (by generalize g >>> k = q at hz; omega)], (bitsL (k + 1) g, ((g >>> (k + 1) : Nat) : Int), ((k + 1 : Nat) : Int)), ?_, ⟨k + 1, rfl, rfl, rfl⟩, ?_⟩
        · have hk : k < 1000 := by
            rcases Nat.lt_or_ge k n with q | q
            · omega
            · exact absurd (by rw [Nat.shiftRight_eq_div_pow]; exact Nat.div_eq_of_lt (Nat.lt_of_lt_of_le hg (Nat.pow_le_pow_right (by decide) q))) hz
          have hb : (g >>> k) &&& 1 = if g.testBit k = true then 1 else 0 := by
            rw [Nat.and_one_is_mod, Nat.testBit_eq_decide_div_mod_eq, Nat.shiftRight_eq_div_pow]
            rcases Nat.mod_two_eq_zero_or_one (g / 2 ^ k) with e | e <;> simp [e]
          have hs : shrO ((g >>> k : Nat) : Int) 1 = some ((g >>> (k + 1) : Nat) : Int) := by
            have := shr_nat (g >>> k) 1
            rw [← Nat.shiftRight_add] at this
            exact this
          have hbb : Builtin.bitAnd ((g >>> k : Nat) : Int) 1 = (((g >>> k) &&& 1 : Nat) : Int) := band_nat (g >>> k) 1
          unfold m_hands_in_b2
          dsimp only
          rw [hs, hbb, hb]
          by_cases c : g.testBit k = true
          · rw [if_pos c, appO_eq (by have := bitsL_len k g; omega)]
            have e : bitsL (k + 1) g = bitsL k g ++ [(k : Int)] := by unfold bitsL; rw [bitsN_succ, if_pos c, List.map_append]; rfl
            rw [e]; simp
          · rw [if_neg c]
            have e : bitsL (k + 1) g = bitsL k g := by unfold bitsL; rw [bitsN_succ, if_neg c, List.append_nil]
            rw [e]; simp
        · dsimp only
          rw [Int.toNat_natCast, Int.toNat_natCast, Nat.shiftRight_add, Nat.shiftRight_eq_div_pow (g >>> k) 1]
          generalize g >>> k = q at hz
          omega)
  rw [e]
  have hz : g >>> k = 0 := by
    have hc' : some (decide ((0 : Int) < s.2.1)) = some false := hc
    rw [h2] at hc'
    have hc2 := of_decide_eq_false (Option.some.inj hc')
    generalize g >>> k = q at hc2
    omega
  have hk : g < 2 ^ k := by
    rw [Nat.shiftRight_eq_div_pow] at hz
    rcases Nat.lt_or_ge g (2 ^ k) with q | q
    · exact q
    · have := Nat.div_pos q (Nat.two_pow_pos k); omega
  show some s.1 = _
  rw [h1]
  unfold bitsL
  rw [bitsN_eq hk hg]
theorem lbreaks_eq {t : List Int} {n : Nat} {s : Int} (ht : t.length = 2 ^ n) (hn : n ≤ 6) (hs : -1 ≤ s ∧ s ≤ 1) : m__law_breaks t s = some (brks t n s) := by
  have h6 := pow6 hn
  unfold m__law_breaks b__law_breaks
  rw [letP_eq, ht, rngO_nat (by omega), bs, natL_up]
  rw [forO_cat (fun x : Int => brkG t n s x.toNat) 36 (by rw [up_len, List.length_range]; simp; omega) (fun x _ => brkG_len t n s _) ?_, bs, bnd_nx, bs, fin_rt, List.nil_append]
  · unfold up brks
    rw [List.flatMap_map]
    rfl
  · intro x hx f hf
    obtain ⟨g, hg, rfl⟩ := List.mem_map.mp hx
    have hg := List.mem_range.mp hg
    unfold m__law_breaks_b3
    rw [show (6 : Int) = ((6 : Nat) : Int) from rfl, rngO_nat (by omega), bs, natL_up, Int.toNat_natCast]
    rw [forO_cat (fun x : Int => brkA t n s g x.toNat) 6 (by rw [up_len, List.length_range]; omega) (fun x _ => brkA_len t n s g _) ?_, bs, bnd_nx]
    · unfold up brkG
      rw [List.flatMap_map]
      rfl
    · intro x hx f hf
      obtain ⟨i, hi, rfl⟩ := List.mem_map.mp hx
      have hi := List.mem_range.mp hi
      unfold m__law_breaks_b2
      rw [show (i : Int) + 1 = ((i + 1 : Nat) : Int) by omega, show (6 : Int) = ((6 : Nat) : Int) from rfl, rngO_from (by omega) (by omega), bs, from_six ⟨i, hi⟩, Int.toNat_natCast]
      rw [forO_cat (fun x : Int => if isBrk t n s g i x.toNat = true then [((g : Int), (i : Int), (x.toNat : Int))] else []) 1 (by rw [up_len]; exact Nat.le_trans (Nat.add_le_add_left (Nat.mul_le_mul_left 1 (List.length_filter_le _ _)) _) (by rw [List.length_range]; omega)) (fun x _ => by split <;> simp) ?_, bs, bnd_nx]
      · congr 3
        unfold up brkA
        rw [List.flatMap_map]
        exact flat_filter (fun j => isBrk t n s g i j) (fun j => decide (i < j)) (fun j : Nat => ((g : Int), (i : Int), (j : Int))) (fun j hj => by
          unfold isBrk at hj
          simp only [Bool.and_eq_true] at hj
          exact hj.2.1) (List.range 6)
      · intro x hx f hf
        obtain ⟨j, hj, rfl⟩ := List.mem_map.mp hx
        have hij := of_decide_eq_true (List.mem_filter.mp hj).2
        have hj := List.mem_range.mp (List.mem_filter.mp hj).1
        unfold m__law_breaks_b1
        rw [shl1_nat (by omega), bs, shl1_nat (by omega), bs, letP_eq, bor_nat, band_nat, Int.toNat_natCast, ht]
        by_cases c : (i < n ∧ j < n) ∧ (g.testBit i = false ∧ g.testBit j = false)
        · obtain ⟨⟨c1, c2⟩, c3, c4⟩ := c
          have a1 := (two_lt hn hi hj).mpr ⟨c1, c2⟩
          have a2 := (two_off g i j).mpr ⟨c3, c4⟩
          rw [if_pos (by rw [decide_eq_true (show ((2 ^ i ||| 2 ^ j : Nat) : Int) < ((2 ^ n : Nat) : Int) by omega), a2]; rfl)]
          rw [bs, bor_nat, atI_getD (by rw [ht]; exact or_lt hg (pow_lt c1)), bs, bs, bor_nat, atI_getD (by rw [ht]; exact or_lt hg (pow_lt c2)), bs, bor_nat, atI_getD (by rw [ht]; exact or_lt hg a1), bs, atI_getD (by rw [ht]; exact hg), bs, letP_eq, mulO_l (by omega) (by omega), bs]
          rw [show t.getD (g ||| 2 ^ i) 0 + t.getD (g ||| 2 ^ j) 0 - t.getD (g ||| (2 ^ i ||| 2 ^ j)) 0 - t.getD g 0 = gapN t g i j from rfl]
          unfold isBrk
          rw [c3, c4, decide_eq_true c1, decide_eq_true c2, decide_eq_true hij]
          by_cases z : s * gapN t g i j < 0
          · rw [decide_eq_true z, if_pos rfl, appO_eq (by omega), bs, bs, bnd_nx, bs, bnd_nx]; rfl
          · rw [decide_eq_false z, if_neg (by decide), bs, bnd_nx, bs, bnd_nx, Bool.and_false, if_neg (by decide), List.append_nil]
        · have e1 : ¬ ((decide (((2 ^ i ||| 2 ^ j : Nat) : Int) < ((2 ^ n : Nat) : Int)) && decide (((g &&& (2 ^ i ||| 2 ^ j) : Nat) : Int) = 0)) = true) := by
            intro h
            rw [Bool.and_eq_true, decide_eq_true_eq, decide_eq_true_eq] at h
            exact c ⟨(two_lt hn hi hj).mp (by omega), (two_off g i j).mp (by omega)⟩
          have e2 : isBrk t n s g i j = false := by
            cases e : isBrk t n s g i j with
            | false => rfl
            | true =>
              simp only [isBrk, Bool.and_eq_true, decide_eq_true_eq, Bool.not_eq_true'] at e
              exact absurd ⟨⟨e.1.1.1, e.1.2.1⟩, e.1.1.2, e.1.2.2⟩ c
          rw [if_neg e1, bs, bnd_nx, e2, if_neg (by decide), List.append_nil]
/-- expansion by a row -/
def exR (r : Nat → Int) (D : List Nat → Int) : List Nat → Int
  | [] => 0
  | c :: cs => r c * D cs - exR r (fun t => D (c :: t)) cs
def det : List (Nat → Int) → List Nat → Int
  | [], _ => 1
  | r :: rs, cs => exR r (det rs) cs
theorem exR_row (x y : Int) (r s : Nat → Int) : ∀ (cs : List Nat) (D : List Nat → Int), exR (fun c => x * r c + y * s c) D cs = x * exR r D cs + y * exR s D cs
  | [], D => by simp [exR]
  | c :: cs, D => by
    simp only [exR]
    rw [exR_row x y r s cs]
    grind
theorem exR_fun (x y : Int) (r : Nat → Int) : ∀ (cs : List Nat) (D D' : List Nat → Int), exR r (fun t => x * D t + y * D' t) cs = x * exR r D cs + y * exR r D' cs
  | [], D, D' => by simp [exR]
  | c :: cs, D, D' => by
    simp only [exR]
    rw [exR_fun x y r cs]
    grind
theorem exR_congr (r : Nat → Int) {D D' : List Nat → Int} (h : ∀ t, D t = D' t) (cs : List Nat) : exR r D cs = exR r D' cs := by rw [funext h]
theorem exR_mul (x : Int) (r : Nat → Int) (cs : List Nat) (D : List Nat → Int) : exR r (fun t => x * D t) cs = x * exR r D cs := by
  have := exR_fun x 0 r cs D D
  rw [Int.zero_mul, Int.add_zero] at this
  rw [← this]
  exact exR_congr r (fun t => by omega) cs
theorem exR_two : ∀ (cs : List Nat) (r s : Nat → Int) (D : List Nat → Int), exR r (fun t => exR s D t) cs = - exR s (fun t => exR r D t) cs
  | [], r, s, D => by simp [exR]
  | c :: cs, r, s, D => by
    have ih := exR_two cs r s (fun t => D (c :: t))
    have e1 : ∀ (r s : Nat → Int), exR r (fun t => exR s D (c :: t)) cs = s c * exR r D cs - exR r (fun t => exR s (fun u => D (c :: u)) t) cs := fun r s => by
      have := exR_fun (s c) (-1) r cs D (fun t => exR s (fun u => D (c :: u)) t)
      rw [show s c * exR r D cs - exR r (fun t => exR s (fun u => D (c :: u)) t) cs = s c * exR r D cs + -1 * exR r (fun t => exR s (fun u => D (c :: u)) t) cs by omega, ← this]
      exact exR_congr r (fun t => by simp only [exR]; omega) cs
    show r c * exR s D cs - exR r (fun t => exR s D (c :: t)) cs = -(s c * exR r D cs - exR s (fun t => exR r D (c :: t)) cs)
    rw [e1 r s, e1 s r, ih]
    omega
/-- rows changed ahead of a part that is so many times another -/
theorem det_times {x : Int} {A B : List (Nat → Int)} (h : ∀ cs, det A cs = x * det B cs) : ∀ (U : List (Nat → Int)) (cs : List Nat), det (U ++ A) cs = x * det (U ++ B) cs
  | [], cs => h cs
  | u :: U, cs => by
    show exR u (det (U ++ A)) cs = x * exR u (det (U ++ B)) cs
    rw [← exR_mul]
    exact exR_congr u (fun t => det_times h U t) cs
theorem det_lin (x y : Int) (v u : Nat → Int) (V : List (Nat → Int)) : ∀ (U : List (Nat → Int)) (cs : List Nat), det (U ++ (fun c => x * v c + y * u c) :: V) cs = x * det (U ++ v :: V) cs + y * det (U ++ u :: V) cs
  | [], cs => exR_row x y v u cs (det V)
  | a :: U, cs => by
    show exR a (det (U ++ _)) cs = x * exR a (det (U ++ v :: V)) cs + y * exR a (det (U ++ u :: V)) cs
    rw [← exR_fun]
    exact exR_congr a (fun t => det_lin x y v u V U t) cs
/-- rows in another order: the same, or the other sign -/
theorem det_perm {A B : List (Nat → Int)} (p : A.Perm B) : ∃ e : Int, (e = 1 ∨ e = -1) ∧ ∀ cs, det A cs = e * det B cs := by
  induction p with
  | nil => exact ⟨1, .inl rfl, fun cs => by omega⟩
  | cons r _ ih =>
    obtain ⟨e, he, h⟩ := ih
    exact ⟨e, he, fun cs => det_times h [r] cs⟩
  | swap r s l => exact ⟨-1, .inr rfl, fun cs => by
      show exR s (fun t => exR r (det l) t) cs = -1 * exR r (fun t => exR s (det l) t) cs
      rw [exR_two]; omega⟩
  | trans _ _ ih1 ih2 =>
    obtain ⟨e, he, h⟩ := ih1
    obtain ⟨f, hf, k⟩ := ih2
    refine ⟨e * f, ?_, fun cs => by rw [h, k, Int.mul_assoc]⟩
    rcases he with rfl | rfl <;> rcases hf with rfl | rfl <;> simp
theorem det_perm0 {A B : List (Nat → Int)} (p : A.Perm B) (cs : List Nat) : det A cs = 0 ↔ det B cs = 0 := by
  obtain ⟨e, he, h⟩ := det_perm p
  rw [h]
  rcases he with rfl | rfl <;> omega
theorem det_same (r : Nat → Int) (l : List (Nat → Int)) (cs : List Nat) : det (r :: r :: l) cs = 0 := by
  have : exR r (fun t => exR r (det l) t) cs = - exR r (fun t => exR r (det l) t) cs := exR_two cs r r (det l)
  show exR r (fun t => exR r (det l) t) cs = 0
  omega
theorem det_mem {r : Nat → Int} {U V : List (Nat → Int)} (cs : List Nat) : det (r :: (U ++ r :: V)) cs = 0 := by
  have p : (r :: (U ++ r :: V)).Perm (r :: r :: (U ++ V)) := .cons r List.perm_middle
  exact (det_perm0 p cs).mpr (det_same r _ cs)
theorem exR_zero {r : Nat → Int} : ∀ {cs : List Nat} {D : List Nat → Int}, (∀ A x B, cs = A ++ x :: B → r x * D (A ++ B) = 0) → exR r D cs = 0
  | [], D, _ => rfl
  | c :: cs, D, h => by
    show r c * D cs - exR r (fun t => D (c :: t)) cs = 0
    rw [exR_zero (r := r) (cs := cs) (D := fun t => D (c :: t)) fun A x B e => h (c :: A) x B (by rw [e]; rfl)]
    have := h [] c cs rfl
    have this : r c * D cs = 0 := this
    omega
theorem exR_one {r : Nat → Int} {p : Nat} {B : List Nat} : ∀ {A : List Nat} {D : List Nat → Int}, (∀ A' x B', A ++ p :: B = A' ++ x :: B' → (A' ≠ A) → r x * D (A' ++ B') = 0) → ∃ e : Int, (e = 1 ∨ e = -1) ∧ exR r D (A ++ p :: B) = e * (r p * D (A ++ B))
  | [], D, h => ⟨1, .inl rfl, by
    show r p * D B - exR r (fun t => D (p :: t)) B = 1 * (r p * D B)
    rw [exR_zero (r := r) (cs := B) (D := fun t => D (p :: t)) fun A' x B' e => h (p :: A') x B' (by rw [e]; rfl) (by simp)]
    omega⟩
  | a :: A, D, h => by
    obtain ⟨e, he, k⟩ := exR_one (r := r) (p := p) (B := B) (A := A) (D := fun t => D (a :: t)) fun A' x B' q ne => h (a :: A') x B' (by rw [List.cons_append, q]; rfl) (fun z => ne (List.cons.inj z).2)
    refine ⟨-e, by rcases he with rfl | rfl <;> simp, ?_⟩
    show r a * D (A ++ p :: B) - exR r (fun t => D (a :: t)) (A ++ p :: B) = _
    have h0 : r a * D (A ++ p :: B) = 0 := h [] a (A ++ p :: B) rfl (by simp)
    rw [k, h0, Int.neg_mul]
    show 0 - e * (r p * D (a :: (A ++ B))) = -(e * (r p * D (a :: (A ++ B))))
    omega
/-- a column of noughts -/
theorem det_col {p : Nat} : ∀ {L : List (Nat → Int)} {cs : List Nat}, L ≠ [] → L.length = cs.length → (∀ r ∈ L, r p = 0) → p ∈ cs → det L cs = 0
  | [], _, h, _, _, _ => absurd rfl h
  | r :: L, cs, _, hl, h0, hp => exR_zero fun A x B e => by
    by_cases hx : x = p
    · rw [hx, h0 r (List.mem_cons_self ..), Int.zero_mul]
    · have hm : p ∈ A ++ B := by
        rw [e] at hp
        simp only [List.mem_append, List.mem_cons] at hp ⊢
        rcases hp with h | h | h
        · exact .inl h
        · exact absurd h.symm hx
        · exact .inr h
      have hl2 : L.length = (A ++ B).length := by rw [e] at hl; simp at hl ⊢; omega
      rw [det_col (L := L) (cs := A ++ B) (by intro z; rw [z] at hl2; rw [List.eq_nil_of_length_eq_zero hl2.symm] at hm; cases hm) hl2 (fun r hr => h0 r (List.mem_cons_of_mem _ hr)) hm, Int.mul_zero]
theorem det_row0 {r : Nat → Int} {L : List (Nat → Int)} {cs : List Nat} (h : ∀ c ∈ cs, r c = 0) : det (r :: L) cs = 0 := exR_zero fun A x B e => by
  rw [h x (by rw [e]; simp), Int.zero_mul]
/-- the other rows with nought at p -/
def redR (a : Nat → Int) (p : Nat) (v : Nat → Int) : Nat → Int := fun c => v c * a p - v p * a c
theorem det_red1 (a v : Nat → Int) (p : Nat) (U V : List (Nat → Int)) (cs : List Nat) : det (U ++ redR a p v :: V) cs = a p * det (U ++ v :: V) cs - v p * det (U ++ a :: V) cs := by
  have := det_lin (a p) (-(v p)) v a V U cs
  rw [Int.neg_mul] at this
  rw [show a p * det (U ++ v :: V) cs - v p * det (U ++ a :: V) cs = a p * det (U ++ v :: V) cs + -(v p * det (U ++ a :: V) cs) by omega, ← this]
  congr 2
  have : redR a p v = fun c => a p * v c + -(v p) * a c := by funext c; unfold redR; grind
  rw [this]
theorem det_redAll (a : Nat → Int) (p : Nat) (cs : List Nat) : ∀ (V U : List (Nat → Int)), det (a :: (U ++ V.map (redR a p))) cs = a p ^ V.length * det (a :: (U ++ V)) cs
  | [], U => by simp
  | v :: V, U => by
    have h1 := det_red1 a v p (a :: U) (V.map (redR a p)) cs
    have h2 : det ((a :: U) ++ a :: V.map (redR a p)) cs = 0 := det_mem cs
    have h3 := det_redAll a p cs V (U ++ [v])
    rw [List.append_assoc, List.append_assoc] at h3
    show det ((a :: U) ++ redR a p v :: V.map (redR a p)) cs = _
    rw [h1, h2, Int.mul_zero, Int.sub_zero]
    show a p * det (a :: (U ++ ([v] ++ V.map (redR a p)))) cs = a p ^ (V.length + 1) * det (a :: (U ++ v :: V)) cs
    rw [h3, Int.pow_succ]
    show a p * (a p ^ V.length * det (a :: (U ++ v :: V)) cs) = _
    grind
/-- minors: so many rows and columns -/
def Mn (L : List (Nat → Int)) (w m : Nat) : Prop := ∃ P C, List.Sublist P L ∧ List.Sublist C (List.range w) ∧ P.length = m ∧ C.length = m ∧ det P C ≠ 0
theorem Mn.zero (L : List (Nat → Int)) (w : Nat) : Mn L w 0 := ⟨[], [], List.nil_sublist _, List.nil_sublist _, rfl, rfl, by simp [det]⟩
theorem Mn.sub {L L' : List (Nat → Int)} {w m : Nat} (h : Mn L w m) (s : List.Sublist L L') : Mn L' w m := by
  obtain ⟨P, C, h1, h2⟩ := h
  exact ⟨P, C, h1.trans s, h2⟩
theorem sub_perm {α : Type} {P L L' : List α} (p : L.Perm L') : ∀ {P : List α}, List.Sublist P L → ∃ Q : List α, P.Perm Q ∧ List.Sublist Q L' := by
  induction p with
  | nil => exact fun h => ⟨_, .refl _, h⟩
  | cons x _ ih =>
    intro P h
    cases h with
    | cons _ h => obtain ⟨Q, q1, q2⟩ := ih h; exact ⟨Q, q1, .cons x q2⟩
    | cons_cons _ h => obtain ⟨Q, q1, q2⟩ := ih h; exact ⟨x :: Q, .cons x q1, .cons_cons x q2⟩
  | swap x y l =>
    intro P h
    cases h with
    | cons _ h =>
      cases h with
      | cons _ h => exact ⟨P, .refl _, .cons _ (.cons _ h)⟩
      | cons_cons _ h => exact ⟨_, .refl _, .cons_cons _ (.cons _ h)⟩
    | cons_cons _ h =>
      cases h with
      | cons _ h => exact ⟨_, .refl _, .cons _ (.cons_cons _ h)⟩
      | cons_cons _ h => exact ⟨_, .swap _ _ _, .cons_cons _ (.cons_cons _ h)⟩
  | trans _ _ ih1 ih2 =>
    intro P h
    obtain ⟨Q, q1, q2⟩ := ih1 h
    obtain ⟨R, r1, r2⟩ := ih2 q2
    exact ⟨R, q1.trans r1, r2⟩
theorem Mn.perm {L L' : List (Nat → Int)} {w m : Nat} (p : L.Perm L') (h : Mn L w m) : Mn L' w m := by
  obtain ⟨P, C, h1, h2, h3, h4, h5⟩ := h
  obtain ⟨Q, q1, q2⟩ := sub_perm p (P := P) h1
  exact ⟨Q, C, q2, h2, by rw [← q1.length_eq]; exact h3, h4, fun z => h5 ((det_perm0 q1 C).mpr z)⟩
theorem redR_p (a v : Nat → Int) (p : Nat) : redR a p v p = 0 := by unfold redR; rw [Int.mul_comm (v p), Int.sub_self]
theorem insert_sub {p w : Nat} (hp : p < w) : ∀ {C : List Nat}, List.Sublist C (List.range w) → p ∉ C → ∃ A B, C = A ++ B ∧ List.Sublist (A ++ p :: B) (List.range w) := by
  intro C hs hn
  obtain ⟨n, rfl⟩ : ∃ n, w = p + 1 + n := ⟨w - p - 1, by omega⟩
  have e : List.range (p + 1 + n) = List.range p ++ ([p] ++ List.range' (p + 1) n) := by
    rw [← List.append_assoc, show List.range p ++ [p] = List.range (p + 1) from List.range_succ.symm, List.range_add (n := p + 1) (m := n)]
    congr 1
    rw [List.range'_eq_map_range]
  rw [e] at hs
  obtain ⟨A, B, rfl, hA, hB⟩ := List.sublist_append_iff.mp hs
  obtain ⟨B1, B2, rfl, hB1, hB2⟩ := List.sublist_append_iff.mp hB
  have : B1 = [] := by
    cases B1 with
    | nil => rfl
    | cons b B1 =>
      have hb : b ∈ [p] := hB1.subset (List.mem_cons_self ..)
      rw [List.mem_singleton] at hb
      exact absurd (by rw [hb]; simp) hn
  subst this
  refine ⟨A, B2, by simp, ?_⟩
  rw [e]
  exact hA.append ((List.Sublist.refl [p]).append hB2)
/-- a row is taken off -/
theorem Mn.pivot {a : Nat → Int} {p w m : Nat} {Z : List (Nat → Int)} (h0 : a p ≠ 0) (hp : p < w) : Mn (a :: Z) w (m + 1) ↔ Mn (Z.map (redR a p)) w m := by
  have hpow : ∀ k : Nat, a p ^ k ≠ 0 := fun k => Int.pow_ne_zero h0
  constructor
  · rintro ⟨P, C, h1, h2, h3, h4, h5⟩
    apply Classical.byContradiction
    intro hno
    have key : ∀ Q, List.Sublist Q Z → Q.length = m → ∀ r : Nat → Int, exR r (det (Q.map (redR a p))) C = 0 := fun Q hQ hl r => exR_zero fun A x B e => by
      have hs : List.Sublist (A ++ B) C := by rw [e]; exact (List.Sublist.refl A).append (.cons x (.refl B))
      have hz : det (Q.map (redR a p)) (A ++ B) = 0 := Classical.byContradiction fun z => hno ⟨Q.map (redR a p), A ++ B, hQ.map _, hs.trans h2, by rw [List.length_map]; exact hl, by rw [e] at h4; simp at h4 ⊢; omega, z⟩
      rw [hz, Int.mul_zero]
    have keyA : ∀ U V, List.Sublist (U ++ V) Z → U.length + V.length = m → det (a :: (U ++ V.map (redR a p))) C = 0 := fun U V hs hl => by
      have e1 := det_redAll a p C U []
      have e2 := det_redAll a p C (U ++ V) []
      have e3 := det_redAll a p C V U
      have e4 : det (a :: ([] ++ (U ++ V).map (redR a p))) C = 0 := key (U ++ V) hs (by rw [List.length_append]; exact hl) a
      rw [e4] at e2
      have e5 : det (a :: ([] ++ (U ++ V))) C = 0 := by
        rcases Int.mul_eq_zero.mp e2.symm with q | q
        · exact absurd q (hpow _)
        · exact q
      rw [e3, show U ++ V = [] ++ (U ++ V) from rfl, e5, Int.mul_zero]
    cases h1 with
    | cons_cons _ h1 =>
      rename_i P0
      have := keyA [] P0 h1 (by simp at h3 ⊢; omega)
      rw [det_redAll] at this
      rcases Int.mul_eq_zero.mp this with q | q
      · exact hpow _ q
      · exact h5 q
    | cons _ h1 =>
      have all : ∀ V U, List.Sublist (U ++ V) Z → U.length + V.length = m + 1 → det (U ++ V.map (redR a p)) C = 0 → det (U ++ V) C = 0 := by
        intro V
        induction V with
        | nil => intro U _ _ h; simpa using h
        | cons v V ih =>
          intro U hs hl h
          have e1 := det_red1 a v p U (V.map (redR a p)) C
          have h : det (U ++ redR a p v :: V.map (redR a p)) C = 0 := h
          have e2 : det (U ++ a :: V.map (redR a p)) C = 0 := (det_perm0 List.perm_middle C).mpr (keyA U V ((List.Sublist.append (.refl U) (.cons v (.refl V))).trans hs) (by simp at hl; omega))
          rw [h, e2, Int.mul_zero, Int.sub_zero] at e1
          have e3 : det (U ++ v :: V.map (redR a p)) C = 0 := by
            rcases Int.mul_eq_zero.mp e1.symm with q | q
            · exact absurd q h0
            · exact q
          have := ih (U ++ [v]) (by rw [List.append_assoc]; exact hs) (by simp at hl ⊢; omega) (by rw [List.append_assoc]; exact e3)
          rw [List.append_assoc] at this
          exact this
      refine h5 (all P [] h1 (by simp; exact h3) ?_)
      show det (P.map (redR a p)) C = 0
      cases P with
      | nil => simp at h3
      | cons q P => exact key P ((List.sublist_cons_self q P).trans h1) (by simp at h3; exact h3) (redR a p q)
  · rintro ⟨P, C, h1, h2, h3, h4, h5⟩
    obtain ⟨Q, hQ, rfl⟩ := List.sublist_map_iff.mp h1
    rw [List.length_map] at h3
    have hnp : p ∉ C := fun hm => by
      refine h5 (det_col (p := p) (fun z => ?_) (by rw [List.length_map]; omega) (fun r hr => ?_) hm)
      · have : Q.length = 0 := by rw [← List.length_map (redR a p), z]; rfl
        rw [List.eq_nil_of_length_eq_zero (show C.length = 0 by omega)] at hm
        cases hm
      · obtain ⟨v, -, rfl⟩ := List.mem_map.mp hr
        exact redR_p a v p
    obtain ⟨A, B, rfl, hs⟩ := insert_sub hp h2 hnp
    refine ⟨a :: Q, A ++ p :: B, .cons_cons a hQ, hs, by simp; exact h3, by simp at h4 ⊢; omega, fun hz => ?_⟩
    obtain ⟨e, he, k⟩ := exR_one (r := a) (p := p) (A := A) (B := B) (D := det (Q.map (redR a p))) fun A' x B' q ne => by
      have hpm : p ∈ A' ++ x :: B' := by rw [← q]; simp
      by_cases hx : x = p
      · exfalso
        -- p stands once
        have nd : (A ++ p :: B).Nodup := hs.nodup List.nodup_range
        have nd2 : (A' ++ x :: B').Nodup := by rw [← q]; exact nd
        rw [hx] at q nd2
        apply ne
        have n1 : p ∉ A := fun h => (List.nodup_append.mp nd).2.2 p h p (List.mem_cons_self ..) rfl
        have n2 : p ∉ A' := fun h => (List.nodup_append.mp nd2).2.2 p h p (List.mem_cons_self ..) rfl
        clear nd nd2 hs h1 h2 h4 h5 hz hnp hpm
        induction A generalizing A' with
        | nil =>
          cases A' with
          | nil => rfl
          | cons y A' => rw [List.cons_append, List.nil_append] at q; exact absurd (List.cons.inj q).1 (fun z => n2 (by rw [z]; exact List.mem_cons_self ..))
        | cons y A ih =>
          cases A' with
          | nil => rw [List.cons_append, List.nil_append] at q; exact absurd (List.cons.inj q).1 (fun z => n1 (by rw [← z]; exact List.mem_cons_self ..))
          | cons z A' =>
            rw [List.cons_append, List.cons_append] at q
            obtain ⟨rfl, q2⟩ := List.cons.inj q
            rw [ih A' q2 (fun z => ne (by rw [z])) (fun h => n1 (List.mem_cons_of_mem _ h)) (fun h => n2 (List.mem_cons_of_mem _ h))]
      · have hm : p ∈ A' ++ B' := by
          simp only [List.mem_append, List.mem_cons] at hpm ⊢
          rcases hpm with h | h | h
          · exact .inl h
          · exact absurd h.symm hx
          · exact .inr h
        have hl : (Q.map (redR a p)).length = (A' ++ B').length := by
          have := congrArg List.length q
          simp at this h4 ⊢
          omega
        rw [det_col (p := p) (fun z => by rw [z] at hl; rw [List.eq_nil_of_length_eq_zero hl.symm] at hm; cases hm) hl (fun r hr => by obtain ⟨v, -, rfl⟩ := List.mem_map.mp hr; exact redR_p a v p) hm, Int.mul_zero]
    have k : det (a :: ([] ++ Q.map (redR a p))) (A ++ p :: B) = e * (a p * det (Q.map (redR a p)) (A ++ B)) := k
    rw [det_redAll] at k
    have hz : det (a :: ([] ++ Q)) (A ++ p :: B) = 0 := hz
    rw [hz, Int.mul_zero] at k
    have : a p * det (Q.map (redR a p)) (A ++ B) = 0 := by rcases he with rfl | rfl <;> omega
    rcases Int.mul_eq_zero.mp this with q | q
    · exact h0 q
    · exact h5 q

/-- a row of noughts is nothing -/
theorem Mn.zrow {z : Nat → Int} {w m : Nat} {L : List (Nat → Int)} (hz : ∀ c, c < w → z c = 0) (h : Mn (z :: L) w m) : Mn L w m := by
  obtain ⟨P, C, h1, h2, h3, h4, h5⟩ := h
  cases h1 with
  | cons _ h1 => exact ⟨P, C, h1, h2, h3, h4, h5⟩
  | cons_cons _ h1 => exact absurd (det_row0 fun c hc => hz c (List.mem_range.mp (h2.subset hc))) h5
theorem Mn.zrows {w m : Nat} {L : List (Nat → Int)} (hz : ∀ r ∈ L, ∀ c, c < w → r c = 0) (h : Mn L w m) : m = 0 := by
  induction L with
  | nil =>
    obtain ⟨P, C, h1, h2, h3, h4, h5⟩ := h
    rw [List.sublist_nil.mp h1] at h3
    exact h3.symm
  | cons r L ih => exact ih (fun r hr => hz r (List.mem_cons_of_mem _ hr)) (h.zrow (hz r (List.mem_cons_self ..)))
theorem Mn.le_len {w m : Nat} {L : List (Nat → Int)} (h : Mn L w m) : m ≤ L.length := by
  obtain ⟨P, C, h1, h2, h3, h4, h5⟩ := h
  rw [← h3]; exact h1.length_le
/-- one row more adds one at most; two add no more than the one and the other -/
theorem Mn.submod {w : Nat} : ∀ (n : Nat) (S : List (Nat → Int)), S.length = n → ∀ (i j : Nat → Int) (r r1 r2 m : Nat), (∀ k, Mn (i :: S) w k → k ≤ r1) → (∀ k, Mn (j :: S) w k → k ≤ r2) → Mn S w r → Mn (i :: j :: S) w m → m + r ≤ r1 + r2 := by
  intro n
  induction n with
  | zero =>
    intro S hS i j r r1 r2 m h1 h2 hr hm
    have : S = [] := List.eq_nil_of_length_eq_zero hS
    subst this
    have hr0 : r = 0 := by have := hr.le_len; simpa using this
    have hm2 := hm.le_len
    obtain ⟨P, C, p1, p2, p3, p4, p5⟩ := hm
    have m1 : ∀ k : Nat → Int, ∀ Q, List.Sublist Q [k] → P = Q → Mn [k] w m := fun k Q hq e => ⟨P, C, by rw [e]; exact hq, p2, p3, p4, p5⟩
    cases p1 with
    | cons _ p1 => have := h2 m ⟨P, C, p1, p2, p3, p4, p5⟩; omega
    | cons_cons _ p1 =>
      rename_i P'
      cases p1 with
      | cons _ p1 =>
        have e := List.sublist_nil.mp p1
        subst e
        have := h1 m ⟨[i], C, .refl _, p2, p3, p4, p5⟩; omega
      | cons_cons _ p1 =>
        have e := List.sublist_nil.mp p1
        subst e
        have nz : ∀ (a b : Nat → Int), det [a, b] C ≠ 0 → Mn [a] w 1 := fun a b hd => Classical.byContradiction fun hno => hd (det_row0 fun c hc => Classical.byContradiction fun z => hno ⟨[a], [c], .refl _, List.singleton_sublist.mpr (p2.subset hc), rfl, rfl, by simp [det, exR]; exact z⟩)
        have a1 := h1 1 (nz i j p5)
        have a2 := h2 1 (nz j i (fun z => p5 ((det_perm0 (.swap _ _ _) C).mp z)))
        simp at p3
        omega
  | succ n ih =>
    intro S hS i j r r1 r2 m h1 h2 hr hm
    cases S with
    | nil => simp at hS
    | cons s S =>
      have sw : ∀ (i : Nat → Int) (k : Nat) (L : List (Nat → Int)), Mn (s :: i :: L) w k → Mn (i :: s :: L) w k := fun i k L h => h.perm (.swap _ _ _)
      have hm' : Mn (s :: i :: j :: S) w m := hm.perm ((List.Perm.cons i (.swap _ _ _)).trans (.swap _ _ _))
      by_cases hz : ∀ c, c < w → s c = 0
      · exact ih S (by simpa using hS) i j r r1 r2 m (fun k h => h1 k (h.sub (.cons_cons _ (List.sublist_cons_self ..)))) (fun k h => h2 k (h.sub (.cons_cons _ (List.sublist_cons_self ..)))) (hr.zrow hz) (hm'.zrow hz)
      · obtain ⟨p, hp, h0⟩ : ∃ p, p < w ∧ s p ≠ 0 := by
          apply Classical.byContradiction
          intro z
          exact hz fun c hc => Classical.byContradiction fun q => z ⟨c, hc, q⟩
        have pos : ∀ i : Nat → Int, Mn (i :: s :: S) w 1 := fun i => sw i 1 S ((Mn.pivot h0 hp).mpr (Mn.zero _ _))
        have q1 := h1 1 (pos i)
        have q2 := h2 1 (pos j)
        have b1 : ∀ k, Mn (redR s p i :: S.map (redR s p)) w k → k ≤ r1 - 1 := fun k h => by
          have := h1 (k + 1) (sw i (k + 1) S ((Mn.pivot (Z := i :: S) h0 hp).mpr h))
          omega
        have b2 : ∀ k, Mn (redR s p j :: S.map (redR s p)) w k → k ≤ r2 - 1 := fun k h => by
          have := h2 (k + 1) (sw j (k + 1) S ((Mn.pivot (Z := j :: S) h0 hp).mpr h))
          omega
        have key : ∀ m' r', Mn (redR s p i :: redR s p j :: S.map (redR s p)) w m' → Mn (S.map (redR s p)) w r' → m' + r' ≤ r1 - 1 + (r2 - 1) := fun m' r' hm hr => ih (S.map (redR s p)) (by simpa using hS) _ _ r' (r1 - 1) (r2 - 1) m' b1 b2 hr hm
        cases m with
        | zero =>
          cases r with
          | zero => omega
          | succ r => have := key 0 r (Mn.zero _ _) ((Mn.pivot h0 hp).mp hr); omega
        | succ m =>
          have k1 := (Mn.pivot (Z := i :: j :: S) h0 hp).mp hm'
          cases r with
          | zero => have := key m 0 k1 (Mn.zero _ _); omega
          | succ r => have := key m r k1 ((Mn.pivot h0 hp).mp hr); omega
/-- an expansion as a sum -/
def sumL : Nat → (Nat → Int) → Int
  | 0, _ => 0
  | n + 1, f => sumL n f + f n
theorem sumL_shift (f : Nat → Int) : ∀ n, sumL (n + 1) f = f 0 + sumL n fun k => f (k + 1)
  | 0 => by simp [sumL]
  | n + 1 => by
    have ih := sumL_shift f n
    show sumL (n + 1) f + f (n + 1) = f 0 + (sumL n (fun k => f (k + 1)) + f (n + 1))
    omega
theorem sumL_congr {f g : Nat → Int} : ∀ {n : Nat}, (∀ k, k < n → f k = g k) → sumL n f = sumL n g
  | 0, _ => rfl
  | n + 1, h => by
    show sumL n f + f n = sumL n g + g n
    rw [h n (by omega), sumL_congr fun k hk => h k (by omega)]
theorem sumL_neg (f : Nat → Int) : ∀ n, sumL n (fun k => -(f k)) = - sumL n f
  | 0 => rfl
  | n + 1 => by
    show sumL n (fun k => -(f k)) + -(f n) = -(sumL n f + f n)
    rw [sumL_neg f n]; omega
def sgn (k : Nat) : Int := 1 - 2 * ((k : Int) % 2)
theorem sgn_succ (k : Nat) : sgn (k + 1) = - sgn k := by unfold sgn; omega
theorem exR_sum (r : Nat → Int) : ∀ (cs : List Nat) (D : List Nat → Int), exR r D cs = sumL cs.length fun k => sgn k * r (cs.getD k 0) * D (cs.take k ++ cs.drop (k + 1))
  | [], D => rfl
  | c :: cs, D => by
    show r c * D cs - exR r (fun t => D (c :: t)) cs = sumL (cs.length + 1) _
    rw [sumL_shift, exR_sum r cs]
    have e : sumL cs.length (fun k => sgn (k + 1) * r ((c :: cs).getD (k + 1) 0) * D ((c :: cs).take (k + 1) ++ (c :: cs).drop (k + 1 + 1))) = - sumL cs.length fun k => sgn k * r (cs.getD k 0) * D (c :: (cs.take k ++ cs.drop (k + 1))) := by
      rw [← sumL_neg]
      exact sumL_congr fun k _ => by
        rw [sgn_succ, Int.neg_mul, Int.neg_mul]
        rfl
    rw [e]
    show r c * D cs - _ = sgn 0 * r c * D cs + -_
    rw [show sgn 0 = 1 from rfl, Int.one_mul]
    omega
theorem natAbs_mul_le {x y : Int} {a b : Nat} (h : x.natAbs ≤ a) (k : y.natAbs ≤ b) : (x * y).natAbs ≤ a * b := by
  rw [Int.natAbs_mul]; exact Nat.mul_le_mul h k
theorem exR_bd {r : Nat → Int} {R M : Nat} (hr : ∀ c, (r c).natAbs ≤ R) : ∀ {cs : List Nat} {D : List Nat → Int}, (∀ t : List Nat, t.length + 1 = cs.length → (D t).natAbs ≤ M) → (exR r D cs).natAbs ≤ cs.length * (R * M)
  | [], D, _ => by simp [exR]
  | c :: cs, D, h => by
    have h1 := natAbs_mul_le (hr c) (h cs rfl)
    have h2 := exR_bd hr (cs := cs) (D := fun t => D (c :: t)) fun t ht => h (c :: t) (by simp; omega)
    show (r c * D cs - exR r (fun t => D (c :: t)) cs).natAbs ≤ (cs.length + 1) * (R * M)
    rw [Nat.add_mul, Nat.one_mul]
    omega
theorem det_bd {b : Nat} : ∀ {L : List (Nat → Int)} {cs : List Nat}, (∀ r ∈ L, ∀ c, (r c).natAbs ≤ 2 ^ b) → L.length = cs.length → L.length ≤ 8 → (det L cs).natAbs ≤ 2 ^ (L.length * (b + 3))
  | [], cs, _, _, _ => by simp [det]
  | r :: L, cs, h, hl, h8 => by
    have h1 := exR_bd (r := r) (R := 2 ^ b) (M := 2 ^ (L.length * (b + 3))) (h r (List.mem_cons_self ..)) (cs := cs) (D := det L) fun t ht => det_bd (fun r hr => h r (List.mem_cons_of_mem _ hr)) (by simp at hl; omega) (by simp at h8; omega)
    refine Nat.le_trans h1 ?_
    rw [← hl, show (r :: L).length * (b + 3) = 3 + (b + L.length * (b + 3)) by simp [Nat.add_mul]; omega, Nat.pow_add, Nat.pow_add]
    exact Nat.mul_le_mul h8 (Nat.le_refl _)
theorem filter_sub {α : Type} [DecidableEq α] {ks l : List α} (s : List.Sublist ks l) : l.Nodup → l.filter (fun x => decide (x ∈ ks)) = ks := by
  induction s with
  | slnil => intro _; rfl
  | cons a s ih =>
    intro nd
    have n1 := (List.nodup_cons.mp nd)
    rw [List.filter_cons_of_neg (by simp; exact fun h => n1.1 (s.subset h))]
    exact ih n1.2
  | cons_cons a s ih =>
    rename_i l1 l2
    intro nd
    have n1 := (List.nodup_cons.mp nd)
    rw [List.filter_cons_of_pos (by simp)]
    congr 1
    rw [← ih n1.2]
    apply List.filter_congr
    intro x hx
    have : x ≠ a := fun e => n1.1 (by rw [← e]; exact hx)
    rw [ih n1.2]
    simp [this]
/-- the rank -/
structure IsRank (L : List (Nat → Int)) (w r : Nat) : Prop where
  at_ : Mn L w r
  le : ∀ m, Mn L w m → m ≤ r
theorem IsRank.uniq {L : List (Nat → Int)} {w r r' : Nat} (a : IsRank L w r) (b : IsRank L w r') : r = r' := Nat.le_antisymm (b.le _ a.at_) (a.le _ b.at_)
/-! a line as a row -/
def FL (l : List Int) : Nat → Int := fun c => l.getD c 0
def LB (n b : Nat) (ls : List (List Int)) : Prop := ∀ l ∈ ls, l.length = n ∧ ∀ x ∈ l, Bd b x
theorem getD_mem {l : List Int} {k : Nat} (h : k < l.length) : l.getD k 0 ∈ l := by
  rw [List.getD_eq_getElem?_getD, List.getElem?_eq_getElem h]
  exact List.getElem_mem h
theorem FL_bd {l : List Int} {b : Nat} (h : ∀ x ∈ l, Bd b x) (c : Nat) : (FL l c).natAbs ≤ 2 ^ b := by
  unfold FL
  by_cases q : c < l.length
  · exact Nat.le_of_lt (h _ (getD_mem q))
  · rw [List.getD_eq_getElem?_getD, List.getElem?_eq_none (by omega)]; simp
theorem pop_at {α : Type} {xs : List α} {q : Nat} (h : q < xs.length) (hl : xs.length ≤ 1000) : popO xs (q : Int) = some (xs[q], xs.eraseIdx q) := by
  unfold popO
  rw [if_pos (by omega)]
  have e : seqIndex? (q : Int) xs.length = some q := by
    unfold seqIndex?
    simp
    omega
  rw [e, bs, List.getElem?_eq_getElem h, bs]
theorem erase_perm {α : Type} : ∀ {l : List α} {q : Nat} (h : q < l.length), l.Perm (l[q] :: l.eraseIdx q)
  | a :: l, 0, _ => .refl _
  | a :: l, q + 1, h => ((erase_perm (l := l) (q := q) (by simpa using h)).cons a).trans (.swap _ _ _)
theorem lead_ex {n b k : Nat} {ls : List (List Int)} (o : LB n b ls) (hk : k < n) : ∃ v, m_lead_line ls (k : Int) = some v ∧ ((v = -1 ∧ ∀ l ∈ ls, FL l k = 0) ∨ ∃ j : Nat, ∃ h : j < ls.length, v = (j : Int) ∧ FL ls[j] k ≠ 0) := by
  unfold m_lead_line b_lead_line
  rw [forO_find (fun it : Int × List Int => !decide (it.2.getD k 0 = 0)) (fun it => it.1) fun it hit => ?_]
  · cases e : (enumL ls).find? fun it : Int × List Int => !decide (it.2.getD k 0 = 0) with
    | none =>
      refine ⟨_, rfl, .inl ⟨rfl, fun l hl => ?_⟩⟩
      obtain ⟨j, hj, rfl⟩ := List.mem_iff_getElem.mp hl
      have := List.find?_eq_none.mp e ((j : Int), ls[j]) (by unfold enumL; exact List.mem_mapIdx.mpr ⟨j, hj, rfl⟩)
      simpa [FL] using this
    | some it =>
      have hm := List.mem_of_find?_eq_some e
      have hp := List.find?_some e
      unfold enumL at hm
      obtain ⟨j, hj, ej⟩ := List.mem_mapIdx.mp hm
      refine ⟨_, rfl, .inr ⟨j, hj, by rw [← ej], ?_⟩⟩
      rw [← ej] at hp
      simpa [FL] using hp
  · unfold enumL at hit
    obtain ⟨j, hj, ej⟩ := List.mem_mapIdx.mp hit
    unfold m_lead_line_b1
    have hl : it.2 ∈ ls := by rw [← ej]; exact List.getElem_mem hj
    rw [atI_getD (by rw [(o _ hl).1]; exact hk), bs]
    cases decide (it.2.getD k 0 = 0) <;> rfl
def lessL (lead line : List Int) (k : Nat) : List Int := (line.zip lead).map fun it => it.1 * lead.getD k 0 - line.getD k 0 * it.2
theorem less_eq {n b k : Nat} {line lead : List Int} (hb0 : 0 < b) (hb : b ≤ 100000) (h1 : line.length = n) (h2 : lead.length = n) (B1 : ∀ x ∈ line, Bd b x) (B2 : ∀ x ∈ lead, Bd b x) (hk : k < n) : m_less_lead line lead (k : Int) = some (lessL lead line k) ∧ (lessL lead line k).length = n ∧ (∀ x ∈ lessL lead line k, Bd (2 * b + 1) x) ∧ FL (lessL lead line k) = redR (FL lead) k (FL line) := by
  have b3 := B1 _ (getD_mem (l := line) (k := k) (by omega))
  have b4 := B2 _ (getD_mem (l := lead) (k := k) (by omega))
  refine ⟨?_, by simp [lessL, h1, h2], fun x hx => ?_, ?_⟩
  · unfold m_less_lead b_less_lead
    rw [mapO_eq (fun it : Int × Int => it.1 * lead.getD k 0 - line.getD k 0 * it.2) (fun it hit => by
      have m := List.of_mem_zip (a := it.1) (b := it.2) hit
      rw [atI_getD (by omega), bs, (B1 _ m.1).mulO b4 hb0 hb0 (by omega), bs, atI_getD (by omega), bs, b3.mulO (B2 _ m.2) hb0 hb0 (by omega), bs]), bs, bs, fin_rt]
    rfl
  · obtain ⟨it, hit, rfl⟩ := List.mem_map.mp hx
    have m := List.of_mem_zip (a := it.1) (b := it.2) hit
    rw [show 2 * b + 1 = (b + b) + 1 by omega]
    exact ((B1 _ m.1).mul b4).sub (b3.mul (B2 _ m.2))
  · funext c
    show (lessL lead line k).getD c 0 = line.getD c 0 * lead.getD k 0 - line.getD k 0 * lead.getD c 0
    unfold lessL
    by_cases q : c < n
    · rw [List.getD_eq_getElem?_getD, List.getElem?_map, List.getElem?_eq_getElem (by simp [h1, h2]; exact q), List.getElem_zip]
      have e1 : line.getD c 0 = line[c] := by rw [List.getD_eq_getElem?_getD, List.getElem?_eq_getElem (by omega)]; rfl
      have e2 : lead.getD c 0 = lead[c] := by rw [List.getD_eq_getElem?_getD, List.getElem?_eq_getElem (by omega)]; rfl
      rw [e1, e2]
      rfl
    · have e1 : line.getD c 0 = 0 := by rw [List.getD_eq_getElem?_getD, List.getElem?_eq_none (by omega)]; rfl
      have e2 : lead.getD c 0 = 0 := by rw [List.getD_eq_getElem?_getD, List.getElem?_eq_none (by omega)]; rfl
      rw [e1, e2, List.getD_eq_getElem?_getD, List.getElem?_eq_none (by simp [h1, h2]; omega), Int.zero_mul, Int.mul_zero]
      rfl
/-! rows taken off, column by column -/
def fB (b k : Nat) : Nat := (b + 1) * 2 ^ k - 1
theorem fB_succ (b k : Nat) : fB b (k + 1) = 2 * fB b k + 1 := by
  unfold fB
  have := Nat.mul_pos (show 0 < b + 1 by omega) (Nat.two_pow_pos k)
  rw [Nat.pow_succ, ← Nat.mul_assoc]
  omega
theorem fB_le {b k : Nat} (hb : b ≤ 1000) (h0 : 0 < b) (hk : k ≤ 6) : 0 < fB b k ∧ fB b k ≤ 100000 := by
  unfold fB
  have h1 : 2 ^ k ≤ 64 := Nat.pow_le_pow_right (n := 2) (by decide) hk
  have h2 := Nat.two_pow_pos k
  have h3 : (b + 1) * 2 ^ k ≤ 1001 * 64 := Nat.mul_le_mul (by omega) h1
  have h4 : (b + 1) * 1 ≤ (b + 1) * 2 ^ k := Nat.mul_le_mul_left _ h2
  omega
structure Fr (n b : Nat) (ls : List (List Int)) (j : Nat) (s : List (List Int) × Int) : Prop where
  len : s.1.length ≤ 6
  lb : LB n (fB b j) s.1
  ct : ∃ c : Nat, s.2 = (c : Int) ∧ ∀ m, Mn (ls.map FL) n (c + m) ↔ Mn (s.1.map FL) n m
  z : ∀ l ∈ s.1, ∀ i, i < j → FL l i = 0
theorem free_eq {n b : Nat} {ls : List (List Int)} (hn : n ≤ 6) (h0 : ls ≠ []) (hl : ls.length ≤ 6) (hb0 : 0 < b) (hb : b ≤ 1000) (o : LB n b ls) : ∃ r : Nat, m_free_count ls = some (r : Int) ∧ IsRank (ls.map FL) n r := by
  unfold m_free_count b_free_count
  have e0 : ∃ l0, atI ls 0 = some l0 ∧ l0.length = n := by
    cases ls with
    | nil => exact absurd rfl h0
    | cons l0 ls => exact ⟨l0, atI_lt (k := 0) (by simp), (o l0 (List.mem_cons_self ..)).1⟩
  obtain ⟨l0, e0, w0⟩ := e0
  rw [letP_eq, List.map_id', e0, bs, w0, rngO_nat (by omega), bs]
  obtain ⟨s, e, H⟩ := forO_idx' (b := m_free_count_b1) (μ := Empty) (ρ := Int) (fun j s => Fr n b ls j s) n (s := ((ls, 0) : List (List Int) × Int)) ⟨hl, by
      have : fB b 0 = b := by unfold fB; omega
      rw [this]; exact o, ⟨0, rfl, fun m => by rw [Nat.zero_add]⟩, fun _ _ i hi => absurd hi (by omega)⟩ (fun j s hj hs => by
    unfold m_free_count_b1
    obtain ⟨v, ev, hv⟩ := lead_ex hs.lb hj
    obtain ⟨f0, f1⟩ := fB_le (k := j) hb hb0 (by omega)
    rw [ev, bs]
    rcases hv with ⟨rfl, hz⟩ | ⟨q, hq, rfl, hp⟩
    · rw [if_neg (by decide), bs, bnd_nx]
      refine ⟨_, rfl, hs.len, fun l hl => ⟨(hs.lb l hl).1, fun x hx => ((hs.lb l hl).2 x hx).mono (by rw [fB_succ]; omega)⟩, hs.ct, fun l hl i hi => ?_⟩
      rcases Nat.lt_or_ge i j with q | q
      · exact hs.z l hl i q
      · rw [show i = j by omega]; exact hz l hl
    · obtain ⟨w1, w2⟩ := hs.lb _ (List.getElem_mem hq)
      have hsub : ∀ l ∈ s.1.eraseIdx q, l ∈ s.1 := fun l hl => List.mem_of_mem_eraseIdx hl
      have L := fun l hl => less_eq f0 f1 (hs.lb l (hsub l hl)).1 w1 (hs.lb l (hsub l hl)).2 w2 hj
      rw [if_pos (by simp), pop_at hq (by have := hs.len; omega), bs]
      dsimp only
      rw [mapO_eq (fun l => lessL s.1[q] l j) (fun l hl => by rw [(L l hl).1, bs]), bs, bs, bnd_nx]
      refine ⟨_, rfl, ?_, fun l hl => ?_, ?_, fun l hl i hi => ?_⟩
      · rw [List.length_map, List.length_eraseIdx]
        have := hs.len
        split <;> omega
      · obtain ⟨l', hl', rfl⟩ := List.mem_map.mp hl
        rw [fB_succ]
        exact ⟨(L l' hl').2.1, (L l' hl').2.2.1⟩
      · obtain ⟨c, ec, hc⟩ := hs.ct
        refine ⟨c + 1, by show s.2 + 1 = _; rw [ec]; rfl, fun m => ?_⟩
        have p : (s.1.map FL).Perm (FL s.1[q] :: (s.1.eraseIdx q).map FL) := (erase_perm hq).map FL
        have e1 : ((s.1.eraseIdx q).map fun l => lessL s.1[q] l j).map FL = ((s.1.eraseIdx q).map FL).map (redR (FL s.1[q]) j) := by
          rw [List.map_map, List.map_map]
          exact List.map_congr_left fun l hl => (L l hl).2.2.2
        show _ ↔ Mn (((s.1.eraseIdx q).map fun l => lessL s.1[q] l j).map FL) n m
        rw [e1, show c + 1 + m = c + (m + 1) by omega, hc, ← Mn.pivot hp hj]
        exact ⟨fun h => h.perm p, fun h => h.perm p.symm⟩
      · obtain ⟨l', hl', rfl⟩ := List.mem_map.mp hl
        rw [(L l' hl').2.2.2]
        rcases Nat.lt_or_ge i j with q' | q'
        · unfold redR
          rw [hs.z l' (hsub l' hl') i q', hs.z _ (List.getElem_mem hq) i q', Int.zero_mul, Int.mul_zero]; rfl
        · rw [show i = j by omega]; exact redR_p _ _ _)
  rw [e, bs, bnd_nx, bs, fin_rt]
  obtain ⟨c, ec, hc⟩ := H.ct
  have hz : ∀ m, Mn (s.1.map FL) n m → m = 0 := fun m h => h.zrows fun r hr c hc => by
    obtain ⟨l, hl, rfl⟩ := List.mem_map.mp hr
    exact H.z l hl c hc
  refine ⟨c, by rw [ec], (hc 0).mpr (Mn.zero _ _), fun m h => ?_⟩
  rcases Nat.lt_or_ge c m with q | q
  · have := hz (m - c) ((hc (m - c)).mp (by rw [show c + (m - c) = m by omega]; exact h))
    omega
  · exact q
/-! the square's number -/
noncomputable def sqStep (f : List (List Int) → List Int → Option Int) (lines : List (List Int)) (places : List Int) : Option Int :=
  ((if (decide (lines = ([] : List (List Int)))) = true then some (.rt 1) else
  (rngO 0 (places.length : Int)).bind fun r =>
  (forO (fun (k : Int) (s_ : Int) => ((catO (cutL places none (some k)) (cutL places (some (k + 1)) none)).bind fun l =>
  (f (cutL lines (some 1) none) l).bind fun v =>
  (atI lines 0).bind fun e =>
  (atI places k).bind fun e1 =>
  (atI e e1).bind fun e2 =>
  (mulO (1 - (2 * (k % 2))) e2).bind fun z =>
  (mulO z v).bind fun z1 =>
  some (.nx (s_ + z1)) : Option (Out Int Int Int))) r 0).bind (bnd (fun (s_1 : Int) =>
  some (.rt s_1))) : Option (Out Unit Empty Int))).bind (fin none)
theorem sq2 (a : List (List Int)) (b : List Int) : m__law_square_2 a b = sqStep m__law_square a b := rfl
theorem sq3 (a : List (List Int)) (b : List Int) : m__law_square_3 a b = sqStep m__law_square_2 a b := rfl
theorem sq4 (a : List (List Int)) (b : List Int) : m__law_square_4 a b = sqStep m__law_square_3 a b := rfl
theorem sq5 (a : List (List Int)) (b : List Int) : m__law_square_5 a b = sqStep m__law_square_4 a b := rfl
theorem sq6 (a : List (List Int)) (b : List Int) : m__law_square_6 a b = sqStep m__law_square_5 a b := rfl
theorem sq7 (a : List (List Int)) (b : List Int) : m__law_square_7 a b = sqStep m__law_square_6 a b := rfl
def SqOk (w b k : Nat) (f : List (List Int) → List Int → Option Int) : Prop := ∀ (ls : List (List Int)) (C : List Nat), LB w b ls → ls.length < k → C.length = ls.length → (∀ c ∈ C, c < w) → f ls (up C) = some (det (ls.map FL) C)
theorem cut_to {α : Type} {xs : List α} {k : Nat} (h : k ≤ xs.length) : cutL xs none (some (k : Int)) = xs.take k := by
  unfold cutL
  rw [HT.sIx_none, HT.sIx_nat, Nat.min_eq_left h, List.drop_zero, Nat.sub_zero]
theorem cut_from {α : Type} {xs : List α} {k : Nat} (h : k ≤ xs.length) : cutL xs (some (k : Int)) none = xs.drop k := by
  unfold cutL
  rw [HT.sIx_nat, HT.sIx_none, Nat.min_eq_left h]
  apply List.take_of_length_le
  rw [List.length_drop]
  omega
theorem up_take (C : List Nat) (k : Nat) : (up C).take k = up (C.take k) := by unfold up; rw [List.map_take]
theorem up_drop (C : List Nat) (k : Nat) : (up C).drop k = up (C.drop k) := by unfold up; rw [List.map_drop]
theorem sq_one {w b : Nat} : SqOk w b 1 m__law_square := fun ls C _ hl hC _ => by
  have : ls = [] := List.eq_nil_of_length_eq_zero (by omega)
  subst this
  rfl
theorem sq_step {w b k : Nat} {f : List (List Int) → List Int → Option Int} (hb : b ≤ 1000) (hk : k ≤ 8) (F : SqOk w b k f) : SqOk w b (k + 1) (sqStep f) := fun ls C o hl hC hw => by
  unfold sqStep
  cases ls with
  | nil => rfl
  | cons l0 ls =>
    have hC' : C.length = ls.length + 1 := by simpa using hC
    have hl' : ls.length < k := by simpa using hl
    have w0 := (o l0 (List.mem_cons_self ..))
    have oS : LB w b ls := fun l h => o l (List.mem_cons_of_mem _ h)
    rw [if_neg (by simp), up_len, rngO_nat (by omega), bs]
    obtain ⟨s, e, H⟩ := forO_idx' (μ := Empty) (ρ := Int) (b := (fun (k : Int) (s_ : Int) => ((catO (cutL (up C) none (some k)) (cutL (up C) (some (k + 1)) none)).bind fun l =>
      (f (cutL (l0 :: ls) (some 1) none) l).bind fun v =>
      (atI (l0 :: ls) 0).bind fun e =>
      (atI (up C) k).bind fun e1 =>
      (atI e e1).bind fun e2 =>
      (mulO (1 - (2 * (k % 2))) e2).bind fun z =>
      (mulO z v).bind fun z1 =>
      some (.nx (s_ + z1)) : Option (Out Int Int Int)))) (fun j s => s = sumL j fun k => sgn k * FL l0 (C.getD k 0) * det (ls.map FL) (C.take k ++ C.drop (k + 1))) C.length (s := 0) rfl (fun j s hj hs => by
        have hcj : C.getD j 0 < w := hw _ (mem_getDN hj)
        have hdl : (C.take j ++ C.drop (j + 1)).length = ls.length := by rw [List.length_append, List.length_take, List.length_drop]; omega
        have eD := F ls (C.take j ++ C.drop (j + 1)) oS hl' hdl (fun c hc => by
          rcases List.mem_append.mp hc with h | h
          · exact hw c (List.mem_of_mem_take h)
          · exact hw c (List.mem_of_mem_drop h))
        have bD : (det (ls.map FL) (C.take j ++ C.drop (j + 1))).natAbs ≤ 2 ^ (ls.length * (b + 3)) := by
          have := det_bd (b := b) (L := ls.map FL) (cs := C.take j ++ C.drop (j + 1)) (fun r hr c => by
            obtain ⟨l, hl, rfl⟩ := List.mem_map.mp hr
            exact FL_bd (oS l hl).2 c) (by rw [List.length_map]; exact hdl.symm) (by rw [List.length_map]; omega)
          rw [List.length_map] at this
          exact this
        have bD' : Bd (ls.length * (b + 3) + 1) (det (ls.map FL) (C.take j ++ C.drop (j + 1))) := by
          unfold Bd
          rw [Nat.pow_succ]
          have := Nat.two_pow_pos (ls.length * (b + 3))
          omega
        have bZ : Bd (b + 1) (sgn j * FL l0 (C.getD j 0)) := by
          have := FL_bd w0.2 (C.getD j 0)
          have h2 := Nat.two_pow_pos b
          unfold Bd
          rw [Nat.pow_succ]
          have : sgn j = 1 ∨ sgn j = -1 := by unfold sgn; omega
          rcases this with e | e <;> rw [e]
          · rw [Int.one_mul]; omega
          · rw [Int.neg_mul, Int.one_mul, Int.natAbs_neg]; omega
        have hbig : b + 1 + (ls.length * (b + 3) + 1) ≤ 1000000 := by
          have : ls.length * (b + 3) ≤ 8 * 1003 := Nat.mul_le_mul (by omega) (by omega)
          omega
        have c1 : cutL (up C) none (some (j : Int)) = up (C.take j) := by rw [cut_to (by rw [up_len]; omega), up_take]
        have c2 : cutL (up C) (some ((j : Int) + 1)) none = up (C.drop (j + 1)) := by rw [show (j : Int) + 1 = ((j + 1 : Nat) : Int) from rfl, cut_from (by rw [up_len]; omega), up_drop]
        have c3 : cutL (l0 :: ls) (some 1) none = ls := by rw [show (1 : Int) = ((1 : Nat) : Int) from rfl, cut_from (by simp)]; rfl
        refine ⟨_, ?_, rfl⟩
        rw [c1, c2, catO_eq (by rw [up_len, up_len, List.length_take, List.length_drop]; omega), bs, ← up_app, c3, eD, bs, show atI (l0 :: ls) 0 = some l0 from atI_lt (k := 0) (by simp), bs, atI_up hj, bs, atI_getD (by rw [w0.1]; exact hcj), bs, mulO_l (by omega) (by omega), bs]
        show (mulO (sgn j * FL l0 (C.getD j 0)) _).bind _ = _
        rw [bZ.mulO bD' (by omega) (by omega) hbig, bs, hs]
        rfl)
    rw [e, bs, bnd_nx, bs, fin_rt, H]
    show _ = some (exR (FL l0) (det (ls.map FL)) C)
    rw [exR_sum]
theorem sq_ok {w b : Nat} (hb : b ≤ 1000) : SqOk w b 7 m__law_square_7 := by
  have s2 : SqOk w b 2 m__law_square_2 := fun ls C => by rw [sq2]; exact sq_step hb (by decide) sq_one ls C
  have s3 : SqOk w b 3 m__law_square_3 := fun ls C => by rw [sq3]; exact sq_step hb (by decide) s2 ls C
  have s4 : SqOk w b 4 m__law_square_4 := fun ls C => by rw [sq4]; exact sq_step hb (by decide) s3 ls C
  have s5 : SqOk w b 5 m__law_square_5 := fun ls C => by rw [sq5]; exact sq_step hb (by decide) s4 ls C
  have s6 : SqOk w b 6 m__law_square_6 := fun ls C => by rw [sq6]; exact sq_step hb (by decide) s5 ls C
  exact fun ls C => by rw [sq7]; exact sq_step hb (by decide) s6 ls C
/-! free lines -/
def FreeL (w : Nat) (R : List (Nat → Int)) : Prop := ∃ C, List.Sublist C (List.range w) ∧ C.length = R.length ∧ det R C ≠ 0
theorem sub_bits {ks : List Nat} {n : Nat} (s : List.Sublist ks (List.range n)) : bitsN n (orN 0 ks) = ks := by
  unfold bitsN
  rw [← filter_sub s List.nodup_range]
  apply List.filter_congr
  intro x _
  rw [filter_sub s List.nodup_range, orN_testBit, Nat.zero_testBit, Bool.false_or]
theorem are_free_eq {w b : Nat} {ls : List (List Int)} (hw : w ≤ 6) (hb : b ≤ 1000) (hl : ls.length ≤ 6) (o : LB w b ls) : ∃ t : Bool, m__law_are_free ls (w : Int) = some t ∧ (t = true ↔ FreeL w (ls.map FL)) := by
  have h6 := pow6 hw
  unfold m__law_are_free b__law_are_free
  rw [shl1_nat (by omega), bs, rngO_nat (by omega), bs, natL_up]
  have key : ∀ pl : Nat, m__law_are_free_b1 (w : Int) ls (pl : Int) () = some (if (decide ((bitsN w pl).length = ls.length) && !decide (det (ls.map FL) (bitsN w pl) = 0)) = true then .rt true else .nx ()) := fun pl => by
    unfold m__law_are_free_b1
    rw [rngO_nat (by omega), bs, natL_up, filO_up (fun k => pl.testBit k) (fun k => (k : Int)) (fun k hk => shr_bit) (fun k _ _ => rfl), bs]
    show ((if (decide (((up (bitsN w pl)).length : Int) = (ls.length : Int))) = true then (m__law_square_7 ls (up (bitsN w pl))).bind fun v => some (!decide (v = 0)) else some false)).bind _ = _
    rw [up_len]
    by_cases c : (bitsN w pl).length = ls.length
    · rw [if_pos (by rw [decide_eq_true_eq]; omega), sq_ok hb ls _ o (by omega) c (fun c hc => (mem_bitsN.mp hc).1), bs, bs, decide_eq_true c, Bool.true_and]
      cases decide (det (ls.map FL) (bitsN w pl) = 0) <;> rfl
    · rw [if_neg (by rw [decide_eq_true_eq]; omega), bs, decide_eq_false c, Bool.false_and]
      rfl
  rw [forO_find (fun x : Int => (decide ((bitsN w x.toNat).length = ls.length) && !decide (det (ls.map FL) (bitsN w x.toNat) = 0))) (fun _ => true) (fun x hx => by
    obtain ⟨pl, hpl, rfl⟩ := List.mem_map.mp hx
    rw [key]; rfl)]
  cases e : (up (List.range (2 ^ w))).find? (fun x : Int => (decide ((bitsN w x.toNat).length = ls.length) && !decide (det (ls.map FL) (bitsN w x.toNat) = 0))) with
  | none =>
    refine ⟨false, rfl, ⟨fun h => (by cases h), ?_⟩⟩
    rintro ⟨C, c1, c2, c3⟩
    exfalso
    have hlt : orN 0 C < 2 ^ w := orN_lt (Nat.two_pow_pos w) fun k hk => List.mem_range.mp (c1.subset hk)
    have := List.find?_eq_none.mp e ((orN 0 C : Nat) : Int) (List.mem_map.mpr ⟨_, List.mem_range.mpr hlt, rfl⟩)
    apply this
    rw [Int.toNat_natCast, sub_bits c1, decide_eq_true (by rw [c2, List.length_map]), decide_eq_false c3]
    rfl
  | some x =>
    refine ⟨true, rfl, ⟨fun _ => ?_, fun _ => rfl⟩⟩
    have hp := List.find?_some e
    rw [Bool.and_eq_true, decide_eq_true_eq, Bool.not_eq_true', decide_eq_false_iff_not] at hp
    exact ⟨_, List.filter_sublist, by rw [List.length_map]; exact hp.1, hp.2⟩
/-! groups of lines -/
def lineAt (ls : List (List Int)) (k : Nat) : List Int := (ls[k]?).getD []
def rowsN (ls : List (List Int)) (n g : Nat) : List (Nat → Int) := (bitsN n g).map fun k => FL (lineAt ls k)
theorem lineAt_mem {ls : List (List Int)} {k : Nat} (h : k < ls.length) : lineAt ls k ∈ ls ∧ atI ls (k : Int) = some (lineAt ls k) := by
  unfold lineAt
  rw [List.getElem?_eq_getElem h]
  exact ⟨List.getElem_mem h, atI_lt h⟩
theorem bits_within {n p g : Nat} (h : g &&& p = p) : List.Sublist (bitsN n p) (bitsN n g) := by
  have : bitsN n p = (bitsN n g).filter p.testBit := by
    unfold bitsN
    rw [List.filter_filter]
    apply List.filter_congr
    intro k _
    cases q : p.testBit k with
    | false => rfl
    | true =>
      rw [← h, Nat.testBit_and] at q
      have := (Bool.and_eq_true _ _ ▸ q : _ ∧ _).1
      rw [this]
      rfl
  rw [this]
  exact List.filter_sublist
theorem sub_within {n g : Nat} {ks : List Nat} (s : List.Sublist ks (bitsN n g)) : bitsN n (orN 0 ks) = ks ∧ g &&& orN 0 ks = orN 0 ks ∧ orN 0 ks < 2 ^ n := by
  have s' : List.Sublist ks (List.range n) := s.trans List.filter_sublist
  refine ⟨sub_bits s', ?_, orN_lt (Nat.two_pow_pos n) fun k hk => List.mem_range.mp (s'.subset hk)⟩
  apply Nat.eq_of_testBit_eq
  intro i
  rw [Nat.testBit_and, orN_testBit, Nat.zero_testBit, Bool.false_or]
  by_cases h : i ∈ ks
  · rw [(mem_bitsN.mp (s.subset h)).2, Bool.true_and]
  · rw [decide_eq_false h, Bool.and_false]
/-- the free parts of a group tell its rank -/
theorem Mn_part {ls : List (List Int)} {n w g m : Nat} : Mn (rowsN ls n g) w m ↔ ∃ p, p < 2 ^ n ∧ g &&& p = p ∧ FreeL w (rowsN ls n p) ∧ (bitsN n p).length = m := by
  constructor
  · rintro ⟨P, C, h1, h2, h3, h4, h5⟩
    obtain ⟨ks, hk, rfl⟩ := List.sublist_map_iff.mp h1
    obtain ⟨k1, k2, k3⟩ := sub_within hk
    rw [List.length_map] at h3
    refine ⟨orN 0 ks, k3, k2, ⟨C, h2, ?_, ?_⟩, by rw [k1]; exact h3⟩
    · unfold rowsN; rw [k1, List.length_map]; omega
    · unfold rowsN; rw [k1]; exact h5
  · rintro ⟨p, hp, h1, ⟨C, c1, c2, c3⟩, h2⟩
    have hl : (rowsN ls n p).length = m := by unfold rowsN; rw [List.length_map]; exact h2
    exact ⟨rowsN ls n p, C, (bits_within h1).map _, c1, hl, by omega, c3⟩
theorem rows_more {ls : List (List Int)} {n g i : Nat} (hi : i < n) (h : g.testBit i = false) : (rowsN ls n (g ||| 2 ^ i)).Perm (FL (lineAt ls i) :: rowsN ls n g) := by
  have hp : (bitsN n (g ||| 2 ^ i)).Perm (i :: bitsN n g) := (List.perm_ext_iff_of_nodup (bitsN_nodup _ _) (List.nodup_cons.mpr ⟨fun hm => (by rw [(mem_bitsN.mp hm).2] at h; cases h), bitsN_nodup _ _⟩)).mpr fun k => by
    rw [List.mem_cons, mem_bitsN, mem_bitsN, Nat.testBit_or, Nat.testBit_two_pow, Bool.or_eq_true, decide_eq_true_eq]
    constructor
    · rintro ⟨a, b | b⟩
      · exact .inr ⟨a, b⟩
      · exact .inl b.symm
    · rintro (rfl | ⟨a, b⟩)
      · exact ⟨hi, .inr rfl⟩
      · exact ⟨a, .inl b⟩
  exact hp.map _
/-- a table of ranks falls -/
theorem rank_falls {ls : List (List Int)} {n w : Nat} {t : List Int} (hn : n ≤ 6) (h : ∀ g, g < 2 ^ n → ∃ r : Nat, t.getD g 0 = (r : Int) ∧ IsRank (rowsN ls n g) w r) : brks t n 1 = [] := by
  refine brks_falls hn (falls_gaps fun g i j hg hij hj bi bj => ?_)
  have hi : i < n := by omega
  have l1 := or_lt hg (pow_lt hi)
  have l2 := or_lt hg (pow_lt hj)
  have l3 := or_lt l1 (pow_lt hj)
  have bj2 : (g ||| 2 ^ i).testBit j = false := by rw [Nat.testBit_or, bj, Nat.testBit_two_pow, decide_eq_false (by omega)]; rfl
  obtain ⟨r, e0, R0⟩ := h g hg
  obtain ⟨r1, e1, R1⟩ := h _ l1
  obtain ⟨r2, e2, R2⟩ := h _ l2
  obtain ⟨r3, e3, R3⟩ := h _ l3
  have p1 := rows_more (ls := ls) hi bi
  have p2 := rows_more (ls := ls) hj bj
  have p3 := (rows_more (ls := ls) hj bj2).trans (.cons _ p1)
  have key := Mn.submod (w := w) _ (rowsN ls n g) rfl (FL (lineAt ls j)) (FL (lineAt ls i)) r r2 r1 r3 (fun k hk => R2.le k (hk.perm p2.symm)) (fun k hk => R1.le k (hk.perm p1.symm)) R0.at_ (R3.at_.perm p3)
  unfold gapN
  rw [← Nat.or_assoc, e0, e1, e2, e3]
  omega
/-! what the maker tells -/
theorem look_ok {n : Nat} (h1 : 1 ≤ n) (hn : n ≤ 6) : m_look_at_hands (n : Int) = some () := by
  unfold m_look_at_hands b_look_at_hands
  rw [if_neg (by simp; omega)]
  rfl
theorem bits_pos {n g : Nat} (hg : g < 2 ^ n) (h0 : 0 < g) : bitsN n g ≠ [] := fun hz => by
  obtain ⟨i, hi, hb⟩ := exists_bit hg (by omega)
  have : i ∈ bitsN n g := mem_bitsN.mpr ⟨hi, hb⟩
  rw [hz] at this
  cases this
theorem lines_eq {n w b : Nat} {ls : List (List Int)} (h1 : 1 ≤ n) (hn : n ≤ 6) (hw : w ≤ 6) (hl : ls.length = n) (hb0 : 0 < b) (hb : b ≤ 1000) (o : LB w b ls) : ∃ t, m_from_lines ls = some t ∧ t.length = 2 ^ n ∧ ∀ g, g < 2 ^ n → ∃ r : Nat, t.getD g 0 = (r : Int) ∧ IsRank (rowsN ls n g) w r := by
  have h6 := pow6 hn
  have hp := Nat.two_pow_pos n
  unfold m_from_lines b_from_lines
  obtain ⟨m0, e0⟩ := lineAt_mem (ls := ls) (k := 0) (by omega)
  have e0 : atI ls 0 = some (lineAt ls 0) := e0
  have r1 := rngO_from (a := 1) (b := 2 ^ n) (by omega) (by omega)
  rw [show ((1 : Nat) : Int) = 1 from rfl] at r1
  rw [hl, look_ok h1 hn, bs, forO_all fun it hit => ?_, bs, bnd_nx, shl1_nat (by omega), bs, r1, bs]
  · obtain ⟨s, e, H⟩ := forO_inv (b := m_from_lines_b2 ls) (μ := Empty) (ρ := List Int) (fun pre s => s.length = 1 + pre.length ∧ ∀ g, g < 1 + pre.length → ∃ r : Nat, s.getD g 0 = (r : Int) ∧ IsRank (rowsN ls n g) w r) (natR 1 (2 ^ n - 1)) (s := [0]) ⟨rfl, fun g hg => by
        have : g = 0 := by simp at hg; exact hg
        subst this
        refine ⟨0, rfl, Mn.zero _ _, fun m h => ?_⟩
        have := h.le_len
        have hz : rowsN ls n 0 = [] := by
          unfold rowsN bitsN
          rw [List.filter_eq_nil_iff.mpr (fun k _ => by simp)]
          rfl
        rw [hz] at this
        exact this⟩ (fun pre x post s hx hs => by
      have hpl : pre.length < 2 ^ n - 1 := by
        have := congrArg List.length hx
        rw [natR_length, List.length_append, List.length_cons] at this
        omega
      have ex : x = ((1 + pre.length : Nat) : Int) := by
        have h1 : (natR 1 (2 ^ n - 1))[pre.length]? = some x := by rw [hx]; simp
        unfold natR at h1
        rw [List.getElem?_map, List.getElem?_range hpl] at h1
        exact (Option.some.inj h1).symm
      obtain ⟨g, eg⟩ : ∃ g, g = 1 + pre.length := ⟨_, rfl⟩
      rw [ex, ← eg]
      have hg : g < 2 ^ n := by omega
      unfold m_from_lines_b2
      rw [hands_in_eq (n := n) hg (by omega), bs, show bitsL n g = up (bitsN n g) from rfl, mapO_up (fun k => lineAt ls k) (fun k hk => by rw [(lineAt_mem (by rw [hl]; exact (mem_bitsN.mp hk).1)).2, bs]), bs]
      obtain ⟨r, er, R⟩ := free_eq (n := w) (b := b) (ls := (bitsN n g).map (lineAt ls)) hw (by
        intro z
        exact bits_pos hg (by omega) (List.map_eq_nil_iff.mp z)) (by rw [List.length_map]; have := bitsN_len n g; omega) hb0 hb (fun l hl' => by
          obtain ⟨k, hk, rfl⟩ := List.mem_map.mp hl'
          exact o _ (lineAt_mem (by rw [hl]; exact (mem_bitsN.mp hk).1)).1)
      rw [er, bs, appO_eq (by omega), bs]
      refine ⟨_, rfl, by rw [List.length_append, List.length_append, hs.1]; simp; omega, fun g' hg' => ?_⟩
      rw [List.length_append, List.length_singleton] at hg'
      rcases Nat.lt_or_ge g' (1 + pre.length) with q | q
      · obtain ⟨r', e', R'⟩ := hs.2 g' q
        refine ⟨r', ?_, R'⟩
        rw [List.getD_eq_getElem?_getD, List.getElem?_append_left (by rw [hs.1]; exact q), ← List.getD_eq_getElem?_getD]
        exact e'
      · have : g' = g := by omega
        subst this
        refine ⟨r, ?_, ?_⟩
        · rw [List.getD_eq_getElem?_getD, List.getElem?_append_right (by rw [hs.1]; omega), hs.1, show g' - (1 + pre.length) = 0 by omega]
          rfl
        · unfold rowsN
          rw [List.map_map] at R
          exact R)
    rw [natR_length] at H
    rw [e, bs, bnd_nx, bs, fin_rt]
    exact ⟨s, rfl, by omega, fun g hg => H.2 g (by omega)⟩
  · unfold m_from_lines_b1
    rw [e0, bs, (o _ hit).1, (o _ m0).1, if_neg]
    rw [decide_eq_true rfl, decide_eq_false (by omega)]
    decide
/-! the lines drawn -/
theorem line_row {p : List Int} {w at_ : Nat} (hw : w ≤ 4) (ha : at_ < 6) (hp : p.length = 30) (bp : ∀ x ∈ p, 0 ≤ x ∧ x < E60 + 7) : ∃ l, (forO (m__law_lines_b1 p (at_ : Int)) (natL w) ([] : List Int) : Option (Out (List Int) (List (List Int)) (List (List Int)))) = some (.nx l) ∧ l.length = w ∧ ∀ x ∈ l, Bd 210 x := by
  obtain ⟨s, e, H⟩ := forO_idx' (b := m__law_lines_b1 p (at_ : Int)) (μ := List (List Int)) (ρ := List (List Int)) (fun j s => s.length = j ∧ ∀ x ∈ s, Bd 210 x) w (s := []) ⟨rfl, fun _ h => (by cases h)⟩ (fun j s hj hs => by
    unfold m__law_lines_b1
    have hlt : 4 * at_ + j < p.length := by omega
    rw [show 4 * (at_ : Int) + (j : Int) = ((4 * at_ + j : Nat) : Int) by omega, atI_getD hlt, bs]
    obtain ⟨b0, b1⟩ := bp _ (getD_mem hlt)
    generalize p.getD (4 * at_ + j) 0 = e at b0 b1
    have hE := E60_bd
    have hEB : (E60 + 7).toNat < 2 ^ 205 := by decide +kernel
    have bz : Bd 210 (e / 2 * (1 - 2 * (e % 2))) := by
      have h1 : Bd 205 (e / 2) := by unfold Bd; omega
      have h2 : Bd 2 (1 - 2 * (e % 2)) := by unfold Bd; omega
      exact (h1.mul h2).mono (by decide)
    rw [mulO_r (by omega) (by omega), bs]
    have small : ∀ x : Int, -10 ≤ x → x ≤ 10 → Bd 210 x := fun x h1 h2 => Bd.mono (show Bd 4 x by unfold Bd; omega) (by decide)
    have pick : ∃ y, atI [((e % 3) - 1), ((e % 7) - 3), e / 2 * (1 - 2 * (e % 2))] ((e / 7) % 3) = some y ∧ Bd 210 y := by
      rcases three ((e % 3) - 1) ((e % 7) - 3) (e / 2 * (1 - 2 * (e % 2))) (e / 7) with q | q | q
      · exact ⟨_, q, small _ (by omega) (by omega)⟩
      · exact ⟨_, q, small _ (by omega) (by omega)⟩
      · exact ⟨_, q, bz⟩
    obtain ⟨y, ey, by_⟩ := pick
    rw [ey, bs, appO_eq (by omega), bs]
    refine ⟨_, rfl, by rw [List.length_append, hs.1]; rfl, fun x hx => ?_⟩
    rcases List.mem_append.mp hx with h | h
    · exact hs.2 x h
    · rw [List.mem_singleton.mp h]; exact by_)
  exact ⟨s, e, H⟩
theorem laws_ex {ns : List Int} {n w : Nat} (h : ns.length ≤ 63) (hn : n ≤ 6) (hw : w ≤ 4) : ∃ ls, m__law_lines ns (n : Int) (w : Int) = some ls ∧ ls.length = n ∧ LB w 700 ls := by
  unfold m__law_lines b__law_lines
  obtain ⟨p, ep, hp, bp⟩ := poured_ex (script := ns) (many := 30) (by decide) (by decide) h
  rw [show ((30 : Nat) : Int) = 30 from rfl] at ep
  rw [ep, bs, letP_eq, rngO_nat (by omega), bs]
  have hE20 : (10 : Int) ^ 20 = 100000000000000000000 := by decide +kernel
  obtain ⟨s, e, H⟩ := forO_idx' (b := m__law_lines_b2 (w : Int) p) (μ := Empty) (ρ := List (List Int)) (fun j s => s.length = j ∧ LB w (210 + 71 * j) s) n (s := []) ⟨rfl, fun _ h => (by cases h)⟩ (fun j s hj hs => by
    unfold m__law_lines_b2
    have hlt : 24 + j < p.length := by omega
    obtain ⟨row, er, lr, br⟩ := line_row (p := p) (w := w) (at_ := j) hw (by omega) hp bp
    have er0 : ∀ {β : Type} (k : List Int → Option β), (rngO 0 (w : Int)).bind k = k (natL w) := fun k => by rw [rngO_nat (by omega), bs]
    have hturn : atI p (24 + (j : Int)) = some (p.getD (24 + j) 0) := by rw [show 24 + (j : Int) = ((24 + j : Nat) : Int) by omega]; exact atI_getD hlt
    rw [letP_eq, er0, er, bs, bnd_nx, hturn, bs]
    obtain ⟨b0, b1⟩ := bp _ (getD_mem hlt)
    generalize p.getD (24 + j) 0 = q at b0 b1 hturn
    have s1 : ∃ l, ((if (decide ((q % 5) = 0)) = true then (rngO 0 (w : Int)).bind fun r2 => letP ((r2.map fun (k1 : Int) => 0)) fun line2 => some (.nx line2) else some (.nx row) : Option (Out ((List Int)) (List (List Int)) (List (List Int))))) = some (.nx l) ∧ l.length = w ∧ ∀ x ∈ l, Bd 210 x := by
      split
      · rw [rngO_nat (by omega), bs, letP_eq]
        refine ⟨_, rfl, by rw [List.length_map, natL_length], fun x hx => ?_⟩
        obtain ⟨_, _, rfl⟩ := List.mem_map.mp hx
        exact Bd.mono (show Bd 1 0 by unfold Bd; decide) (by decide)
      · exact ⟨_, rfl, lr, br⟩
    obtain ⟨l1, e1, w1, bb1⟩ := s1
    rw [e1, bs, bnd_nx]
    have s2 : ∃ l, ((if ((decide ((q % 5) = 1)) && (decide (1 < (j : Int)))) = true then (some q).bind fun e3 =>
      letP ((((e3 / 5) % 5) - 2)) fun one =>
      (some q).bind fun e4 =>
      (modO (e4 / 25) (10 ^ 20)).bind fun z1 =>
      (rngO 0 (w : Int)).bind fun r3 =>
      (mapO (fun (k2 : Int) => (atI s 0).bind fun e5 =>
      (atI e5 k2).bind fun e6 =>
      (mulO one e6).bind fun z2 =>
      (atI s ((j : Int) - 1)).bind fun e7 =>
      (atI e7 k2).bind fun e8 =>
      (mulO z1 e8).bind fun z3 =>
      some (z2 + z3)) r3).bind fun line3 =>
      some (.nx line3) else some (.nx l1) : Option (Out ((List Int)) (List (List Int)) (List (List Int))))) = some (.nx l) ∧ l.length = w ∧ ∀ x ∈ l, Bd (210 + 71 * (j + 1)) x := by
      by_cases c : ((decide ((q % 5) = 1)) && (decide (1 < (j : Int)))) = true
      · rw [if_pos c]
        have hj1 : 1 < j := by
          rw [Bool.and_eq_true, decide_eq_true_eq, decide_eq_true_eq] at c
          omega
        obtain ⟨ma, ea⟩ := lineAt_mem (ls := s) (k := 0) (by rw [hs.1]; omega)
        obtain ⟨mb, eb⟩ := lineAt_mem (ls := s) (k := j - 1) (by rw [hs.1]; omega)
        rw [bs, letP_eq, bs, hE20, modO_eq (by decide), bs, rngO_nat (by omega), bs]
        have one := Int.emod_lt_of_pos (q / 5) (show (0 : Int) < 5 by decide)
        have one0 := Int.emod_nonneg (q / 5) (show (5 : Int) ≠ 0 by decide)
        have two := Int.emod_lt_of_pos (q / 25) (show (0 : Int) < 100000000000000000000 by decide)
        have two0 := Int.emod_nonneg (q / 25) (show (100000000000000000000 : Int) ≠ 0 by decide)
        generalize q / 5 % 5 = u at one one0
        generalize q / 25 % 100000000000000000000 = v at two two0
        have bu : Bd 2 (u - 2) := by unfold Bd; omega
        have bv : Bd 68 v := by
          unfold Bd
          have : (100000000000000000000 : Nat) < 2 ^ 68 := by decide
          omega
        obtain ⟨ys, ey, ly, By⟩ := mapO_ex (f := fun (k2 : Int) => (atI s 0).bind fun e5 =>
          (atI e5 k2).bind fun e6 =>
          (mulO (u - 2) e6).bind fun z2 =>
          (atI s ((j : Int) - 1)).bind fun e7 =>
          (atI e7 k2).bind fun e8 =>
          (mulO v e8).bind fun z3 =>
          some (z2 + z3)) (fun x => Bd (210 + 71 * (j + 1)) x) (xs := natL w) (fun x hx => by
            obtain ⟨k, hk, rfl⟩ := mem_natL.mp hx
            obtain ⟨wa, ba⟩ := hs.2 _ ma
            obtain ⟨wb, bb⟩ := hs.2 _ mb
            have xa := ba _ (getD_mem (l := lineAt s 0) (k := k) (by omega))
            have xb := bb _ (getD_mem (l := lineAt s (j - 1)) (k := k) (by omega))
            rw [show atI s 0 = some (lineAt s 0) from ea, bs, atI_getD (by omega), bs, mulO_l (by omega) (by omega), bs, show (j : Int) - 1 = ((j - 1 : Nat) : Int) by omega, eb, bs, atI_getD (by omega), bs, bv.mulO xb (by decide) (by omega) (by omega), bs]
            refine ⟨_, rfl, ?_⟩
            have m1 := (bu.mul xa).mono (show 2 + (210 + 71 * j) ≤ 68 + (210 + 71 * j) by omega)
            exact (m1.add (bv.mul xb)).mono (by omega))
        rw [ey, bs]
        exact ⟨ys, rfl, by rw [ly, natL_length], By⟩
      · rw [if_neg c]
        exact ⟨l1, rfl, w1, fun x hx => (bb1 x hx).mono (by omega)⟩
    obtain ⟨l2, e2, w2, bb2⟩ := s2
    rw [e2, bs, bnd_nx, appO_eq (by omega), bs]
    refine ⟨_, rfl, by rw [List.length_append, hs.1]; rfl, fun l hl => ?_⟩
    rcases List.mem_append.mp hl with q | q
    · exact ⟨(hs.2 l q).1, fun x hx => ((hs.2 l q).2 x hx).mono (by omega)⟩
    · rw [List.mem_singleton.mp q]; exact ⟨w2, bb2⟩)
  rw [e, bs, bnd_nx, bs, fin_rt]
  exact ⟨s, rfl, H.1, fun l hl => ⟨(H.2 l hl).1, fun x hx => ((H.2 l hl).2 x hx).mono (by omega)⟩⟩
/-! what is due -/
theorem set_loop {ρ μ : Type} {b : Int → List Int → Option (Out (List Int) (List Int) ρ)} {m : Nat} (f : Nat → Int → Int) {s : List Int} (hs : s.length = m) (h : ∀ (k : Nat) (t : List Int), k < m → t.length = m → ∃ t', b (k : Int) t = some (.nx t') ∧ t'.length = m ∧ ∀ j, j < m → t'.getD j 0 = if j = k then f k (t.getD k 0) else t.getD j 0) : ∃ t, (forO b (natL m) s : Option (Out (List Int) μ ρ)) = some (.nx t) ∧ t.length = m ∧ ∀ k, k < m → t.getD k 0 = f k (s.getD k 0) := by
  obtain ⟨t, e, H⟩ := forO_idx' (b := b) (μ := μ) (ρ := ρ) (fun j t => t.length = m ∧ ∀ k, k < m → t.getD k 0 = if k < j then f k (s.getD k 0) else s.getD k 0) m (s := s) ⟨hs, fun k _ => by rw [if_neg (by omega)]⟩ (fun j t hj ht => by
    obtain ⟨t', e, l, g⟩ := h j t hj ht.1
    refine ⟨t', e, l, fun k hk => ?_⟩
    rw [g k hk]
    by_cases c : k = j
    · subst c
      rw [if_pos rfl, if_pos (by omega), ht.2 k hk, if_neg (by omega)]
    · rw [if_neg c, ht.2 k hk]
      by_cases d : k < j
      · rw [if_pos d, if_pos (by omega)]
      · rw [if_neg d, if_neg (by omega)])
  exact ⟨t, e, H.1, fun k hk => by rw [H.2 k hk, if_pos hk]⟩
structure DueOk (ls : List (List Int)) (n w j : Nat) (s : List Int) : Prop where
  len : s.length = 2 ^ n
  ok : ∀ g, g < 2 ^ n → ∃ d : Nat, s.getD g 0 = (d : Int) ∧ (∀ p, p < j → g &&& p = p → FreeL w (rowsN ls n p) → (bitsN n p).length ≤ d) ∧ (d = 0 ∨ ∃ p, p < j ∧ g &&& p = p ∧ FreeL w (rowsN ls n p) ∧ (bitsN n p).length = d)
theorem due_step {ls : List (List Int)} {n w j : Nat} {s : List Int} (hn : n ≤ 6) (hw : w ≤ 4) (hl : ls.length = n) (o : LB w 700 ls) (hj : j < 2 ^ n) (S : DueOk ls n w j s) : ∃ s', m_law_b2 ls ((n : Int), (w : Int)) (j : Int) s = some (.nx s') ∧ DueOk ls n w (j + 1) s' := by
  have h6 := pow6 hn
  unfold m_law_b2
  have eb : bitsN 6 j = bitsN n j := bitsN_eq (by omega) hj
  have hbl := bitsN_len n j
  rw [lhands_eq, eb, bs, mapO_up (fun k => lineAt ls k) (fun k hk => by rw [(lineAt_mem (by rw [hl]; exact (mem_bitsN.mp hk).1)).2, bs]), bs]
  obtain ⟨t, et, ht⟩ := are_free_eq (w := w) (b := 700) (ls := (bitsN n j).map fun k => lineAt ls k) (by omega) (by decide) (by rw [List.length_map]; omega) (fun l hl' => by
    obtain ⟨k, hk, rfl⟩ := List.mem_map.mp hl'
    exact o _ (lineAt_mem (by rw [hl]; exact (mem_bitsN.mp hk).1)).1)
  rw [List.map_map] at ht
  have ht : t = true ↔ FreeL w (rowsN ls n j) := ht
  dsimp only
  rw [et, bs]
  cases t with
  | false =>
    rw [if_neg (by decide), bs, bnd_nx]
    have hno : ¬ FreeL w (rowsN ls n j) := fun h => by have := ht.mpr h; cases this
    refine ⟨_, rfl, S.len, fun g hg => ?_⟩
    obtain ⟨d, e1, e2, e3⟩ := S.ok g hg
    refine ⟨d, e1, fun p hp h1 h2 => ?_, e3.imp id fun ⟨p, hp, q⟩ => ⟨p, by omega, q⟩⟩
    rcases Nat.lt_or_ge p j with c | c
    · exact e2 p c h1 h2
    · rw [show p = j by omega] at h2; exact absurd h2 hno
  | true =>
    have hyes : FreeL w (rowsN ls n j) := ht.mp rfl
    rw [if_pos rfl, shl1_nat (by omega), bs, rngO_nat (by omega), bs]
    obtain ⟨s', e, l', g'⟩ := set_loop (ρ := Bool) (μ := List Int) (b := m_law_b1 (j : Int) (up (bitsN n j))) (m := 2 ^ n) (fun g x => if g &&& j = j then max x ((bitsN n j).length : Int) else x) S.len (fun g t hg htl => by
      unfold m_law_b1
      rw [band_nat]
      by_cases c : g &&& j = j
      · rw [if_pos (by rw [decide_eq_true_eq, c]), atI_getD (by omega), bs, setO_nat (by omega), bs, bs, bnd_nx]
        refine ⟨_, rfl, by rw [List.length_set]; exact htl, fun k hk => ?_⟩
        by_cases d : k = g
        · subst d
          rw [if_pos rfl, if_pos c, set_getD_self (by omega), up_len]
        · rw [if_neg d, set_getD_ne (fun z => d z.symm)]
      · rw [if_neg (by rw [decide_eq_true_eq]; omega), bs, bnd_nx]
        refine ⟨_, rfl, htl, fun k hk => ?_⟩
        by_cases d : k = g
        · subst d
          rw [if_pos rfl, if_neg c]
        · rw [if_neg d])
    rw [e, bs, bnd_nx, bs, bnd_nx]
    refine ⟨s', rfl, l', fun g hg => ?_⟩
    obtain ⟨d, e1, e2, e3⟩ := S.ok g hg
    rw [g' g hg, e1]
    by_cases c : g &&& j = j
    · refine ⟨max d (bitsN n j).length, by rw [if_pos c]; omega, fun p hp h1 h2 => ?_, ?_⟩
      · rcases Nat.lt_or_ge p j with q | q
        · have := e2 p q h1 h2; omega
        · rw [show p = j by omega]; omega
      · rcases Nat.le_total d (bitsN n j).length with q | q
        · exact .inr ⟨j, by omega, c, hyes, by omega⟩
        · rw [Nat.max_eq_left q]
          exact e3.imp id fun ⟨p, hp, q⟩ => ⟨p, by omega, q⟩
    · refine ⟨d, by rw [if_neg c], fun p hp h1 h2 => ?_, e3.imp id fun ⟨p, hp, q⟩ => ⟨p, by omega, q⟩⟩
      rcases Nat.lt_or_ge p j with q | q
      · exact e2 p q h1 h2
      · rw [show p = j by omega] at h1; exact absurd h1 c
theorem main (ns : List Int) (h : ns.length ≤ 63) : f_law (ns, ()) = some true := by
  show m_law ns = _
  unfold m_law b_law
  have hc0 := cellB_range ns 0
  rw [cellB_lit ns 0 0, bs, letP_eq, bs, letP_eq, bs]
  generalize cellB ns 0 = c at hc0
  obtain ⟨n, w, e0, h1, hn, hw⟩ : ∃ n w : Nat, ((if (decide (((c / 20) % 16) = 7)) = true then (some c).bind fun v3 => letP ((5 + ((v3 / 320) % 2))) fun many1 => (some c).bind fun v4 => letP ((2 + ((v4 / 640) % 2))) fun width1 => some (.nx (many1, width1)) else some (.nx (1 + c % 4, (c / 4) % 5)) : Option (Out (Int × Int) Empty Bool))) = some (.nx ((n : Int), (w : Int))) ∧ 1 ≤ n ∧ n ≤ 6 ∧ w ≤ 4 := by
    split
    · rw [bs, letP_eq, bs, letP_eq]
      exact ⟨(5 + ((c / 320) % 2)).toNat, (2 + ((c / 640) % 2)).toNat, by congr 3 <;> omega, by omega, by omega, by omega⟩
    · exact ⟨(1 + c % 4).toNat, ((c / 4) % 5).toNat, by congr 3 <;> omega, by omega, by omega, by omega⟩
  have h6 := pow6 hn
  rw [e0, bs, bnd_nx]
  obtain ⟨ls, els, ll, o⟩ := laws_ex (n := n) (w := w) h hn hw
  obtain ⟨t, et, lt, ht⟩ := lines_eq h1 hn (by omega) ll (by decide) (by decide) o
  dsimp only
  rw [els, bs, letP_eq, List.map_id', et, bs, shl1_nat (by omega), bs, rngO_nat (by omega), bs, letP_eq, bs, rngO_nat (by omega), bs]
  obtain ⟨s, es, H⟩ := forO_idx' (b := m_law_b2 ls ((n : Int), (w : Int))) (μ := Empty) (ρ := Bool) (fun j s => DueOk ls n w j s) (2 ^ n) (s := (natL (2 ^ n)).map fun _ => (0 : Int)) ⟨by rw [List.length_map, natL_length], fun g hg => ⟨0, by
      rw [natL_map, getD_map_range (β := Int) _ hg]; rfl, fun p hp => absurd hp (by omega), .inl rfl⟩⟩ (fun j s hj hs => due_step hn hw ll o hj hs)
  rw [es, bs, bnd_nx]
  have heq : t = s := list_ext_getD (by rw [lt, H.len]) fun g hg => by
    rw [lt] at hg
    obtain ⟨r, e1, R⟩ := ht g hg
    obtain ⟨d, e2, d1, d2⟩ := H.ok g hg
    rw [e1, e2]
    have hle : r ≤ d := by
      obtain ⟨p, hp, q1, q2, q3⟩ := Mn_part.mp R.at_
      have := d1 p hp q1 q2
      omega
    have hge : d ≤ r := by
      rcases d2 with q | ⟨p, hp, q1, q2, q3⟩
      · omega
      · exact R.le d (Mn_part.mpr ⟨p, hp, q1, q2, q3⟩)
    congr 1
    omega
  rw [← heq, row_eq (by omega), bs, if_pos rfl, lbreaks_eq lt hn (by decide), bs, rank_falls hn ht, decide_eq_true rfl, decide_eq_true rfl]
  rfl
end Lw

namespace Lw
open PySem PySem.Spec PyProof.Rows L2 Gc

def topS (i : Nat) : Stmt := PySem.Challenge.pw_groupcost_k17_whole_lines_free.main.body.getD i (.Pass ⟨0, 0, 0, 0⟩)
abbrev s__law_cell : Stmt := topS 13
abbrev N__law_cell : List Str := ["script", "k"]
theorem sc__law_cell : FnScope N__law_cell ["script", "k"] (defScope s__law_cell) := ⟨rfl, rfl, rfl, by decide +kernel, rfl, by decide +kernel, by decide +kernel⟩
abbrev s__law_mixed : Stmt := topS 14
abbrev N__law_mixed : List Str := ["cell", "k", "number"]
theorem sc__law_mixed : FnScope N__law_mixed ["cell", "k"] (defScope s__law_mixed) := ⟨rfl, rfl, rfl, by decide +kernel, rfl, by decide +kernel, by decide +kernel⟩
abbrev s_look_at_hands : Stmt := topS 7
abbrev N_look_at_hands : List Str := ["hands"]
theorem sc_look_at_hands : FnScope N_look_at_hands ["hands"] (defScope s_look_at_hands) := ⟨rfl, rfl, rfl, by decide +kernel, rfl, by decide +kernel, by decide +kernel⟩
abbrev s_hands_in : Stmt := topS 4
abbrev N_hands_in : List Str := ["group", "hands", "rest", "hand"]
theorem sc_hands_in : FnScope N_hands_in ["group"] (defScope s_hands_in) := ⟨rfl, rfl, rfl, by decide +kernel, rfl, by decide +kernel, by decide +kernel⟩
abbrev s_lead_line : Stmt := topS 8
abbrev N_lead_line : List Str := ["lines", "place", "at", "line"]
theorem sc_lead_line : FnScope N_lead_line ["lines", "place"] (defScope s_lead_line) := ⟨rfl, rfl, rfl, by decide +kernel, rfl, by decide +kernel, by decide +kernel⟩
abbrev s_less_lead : Stmt := topS 10
abbrev N_less_lead : List Str := ["line", "lead", "place", "number", "other"]
theorem sc_less_lead : FnScope N_less_lead ["line", "lead", "place"] (defScope s_less_lead) := ⟨rfl, rfl, rfl, by decide +kernel, rfl, by decide +kernel, by decide +kernel⟩
abbrev s__law_hands : Stmt := topS 16
abbrev N__law_hands : List Str := ["group", "k"]
theorem sc__law_hands : FnScope N__law_hands ["group"] (defScope s__law_hands) := ⟨rfl, rfl, rfl, by decide +kernel, rfl, by decide +kernel, by decide +kernel⟩
abbrev s__law_square : Stmt := topS 20
abbrev N__law_square : List Str := ["lines", "places", "total", "k", "rest"]
theorem sc__law_square : FnScope N__law_square ["lines", "places"] (defScope s__law_square) := ⟨rfl, rfl, rfl, by decide +kernel, rfl, by decide +kernel, by decide +kernel⟩
abbrev s__law_breaks : Stmt := topS 19
abbrev N__law_breaks : List Str := ["table", "sign", "found", "group", "one", "other", "both", "gap"]
theorem sc__law_breaks : FnScope N__law_breaks ["table", "sign"] (defScope s__law_breaks) := ⟨rfl, rfl, rfl, by decide +kernel, rfl, by decide +kernel, by decide +kernel⟩
abbrev s__law_whole : Stmt := topS 15
abbrev N__law_whole : List Str := ["found"]
theorem sc__law_whole : FnScope N__law_whole ["found"] (defScope s__law_whole) := ⟨rfl, rfl, rfl, by decide +kernel, rfl, by decide +kernel, by decide +kernel⟩
abbrev s__law_poured : Stmt := topS 17
abbrev N__law_poured : List Str := ["script", "many", "numbers", "k", "at", "more"]
theorem sc__law_poured : FnScope N__law_poured ["script", "many"] (defScope s__law_poured) := ⟨rfl, rfl, rfl, by decide +kernel, rfl, by decide +kernel, by decide +kernel⟩
abbrev s_free_count : Stmt := topS 9
abbrev N_free_count : List Str := ["lines", "left", "count", "place", "at", "lead", "line"]
theorem sc_free_count : FnScope N_free_count ["lines"] (defScope s_free_count) := ⟨rfl, rfl, rfl, by decide +kernel, rfl, by decide +kernel, by decide +kernel⟩
abbrev s__law_numbers : Stmt := topS 18
abbrev N__law_numbers : List Str := ["found", "due", "k"]
theorem sc__law_numbers : FnScope N__law_numbers ["found", "due"] (defScope s__law_numbers) := ⟨rfl, rfl, rfl, by decide +kernel, rfl, by decide +kernel, by decide +kernel⟩
abbrev s__law_lines : Stmt := topS 22
abbrev N__law_lines : List Str := ["script", "many", "width", "numbers", "lines", "at", "line", "k", "number", "turn", "one", "two"]
theorem sc__law_lines : FnScope N__law_lines ["script", "many", "width"] (defScope s__law_lines) := ⟨rfl, rfl, rfl, by decide +kernel, rfl, by decide +kernel, by decide +kernel⟩
abbrev s_from_lines : Stmt := topS 11
abbrev N_from_lines : List Str := ["lines", "line", "table", "group", "hand"]
theorem sc_from_lines : FnScope N_from_lines ["lines"] (defScope s_from_lines) := ⟨rfl, rfl, rfl, by decide +kernel, rfl, by decide +kernel, by decide +kernel⟩
abbrev s__law_are_free : Stmt := topS 21
abbrev N__law_are_free : List Str := ["lines", "width", "places", "some", "k"]
theorem sc__law_are_free : FnScope N__law_are_free ["lines", "width"] (defScope s__law_are_free) := ⟨rfl, rfl, rfl, by decide +kernel, rfl, by decide +kernel, by decide +kernel⟩
abbrev s_law : Stmt := topS 23
abbrev N_law : List Str := ["script", "many", "width", "lines", "handed", "found", "due", "part", "hands", "group", "line", "k"]
theorem sc_law : FnScope N_law ["script"] (defScope s_law) := ⟨rfl, rfl, rfl, by decide +kernel, rfl, by decide +kernel, by decide +kernel⟩
section
variable {P : Program} {w : World} {K : PySem.W.Frag} {mg : Str → Option Value} {base : Heap}
theorem o__law_cell {f : Addr} {fd : FuncData} (F : Fun K "_law_cell" "_law_cell" s__law_cell f fd) (m_len : mg "len" = none) :
  FnOk P w K mg base CX0 1 f fd ["script", "k"] (spOf (aB (rSq K rInt) (aV rInt aNil)) (oV rInt) f__law_cell) :=
  fn_ok (k := 0) (d := none) (fb := fun z => b__law_cell z.1 z.2.1) F sc__law_cell (fun {S H vs z} h => by obtain ⟨script, k, _⟩ := z; obtain ⟨_, _, rfl, _, ⟨_, _, rfl, _, rfl⟩⟩ := h; rfl)
    (fun cdv Ar outer s H E hr S z => by
      obtain ⟨script, k, _⟩ := z
      have scN := sc__law_cell.nd
      refine Run.cx (G' := [.bw (rSq K rInt) script, .val rInt k]) rfl ?_
      exact Run.ifr (Cm.t (Cm.ltP (EvB.v (R := rInt) (y := k) 1) (EvB.lenP m_len (EvB.w (R := (rSq K rInt)) (y := script) 0)))) ((EvO.un fun e h_e =>
  EvB.val (EvB.modCP 2305843009213693951 (EvB.is h_e (EvB.ixP (EvB.w (R := (rSq K rInt)) (y := script) 0) (EvB.v (R := rInt) (y := k) 1)))))) (Run.retP (EvB.val (EvB.int (i := 0)))))
    (fun _ h => nomatch h) (fun z y h => h)
theorem w__law_cell {f : Addr} {fd : FuncData} (F : Fun K "_law_cell" "_law_cell" s__law_cell f fd) (gm : mg "_law_cell" = some (.ref f)) (b : Binds K fd ["script", "k"] []) (m_len : mg "len" = none) :
  Fn P w K mg base 1 "_law_cell" (aB (rSq K rInt) (aV rInt aNil)) (oV rInt) f__law_cell [] := Fn.of (o__law_cell F m_len) gm F.kp b .nil
theorem o__law_mixed {f : Addr} {fd : FuncData} (F : Fun K "_law_mixed" "_law_mixed" s__law_mixed f fd)  :
  FnOk P w K mg base CX0 1 f fd ["cell", "k"] (spOf (aV rInt (aV rInt aNil)) (oV rInt) f__law_mixed) :=
  fn_ok (k := 0) (d := none) (fb := fun z => b__law_mixed z.1 z.2.1) F sc__law_mixed (fun {S H vs z} h => by obtain ⟨cell, k, _⟩ := z; obtain ⟨_, _, rfl, _, ⟨_, _, rfl, _, rfl⟩⟩ := h; rfl)
    (fun cdv Ar outer s H E hr S z => by
      obtain ⟨cell, k, _⟩ := z
      have scN := sc__law_mixed.nd
      refine Run.cx (G' := [.val rInt cell, .val rInt k, .any]) rfl ?_
      exact (Run.un fun z h_z =>
  (Run.letP fun number h_number =>
  Run.asgVP 2 scN (EvO.isP h_number (EvB.val (EvB.modCP 2147483647 (EvB.addP (EvB.addP (EvB.v (R := rInt) (y := cell) 0) (EvB.is h_z (EvB.mulP (EvB.mulLP 7919 (EvB.v (R := rInt) (y := k) 1)) (EvB.v (R := rInt) (y := k) 1)))) (EvB.v (R := rInt) (y := k) 1))))) (Run.cx (G' := [.val rInt cell, .val rInt k, .val rInt number]) rfl ((Run.un fun z1 h_z1 =>
  (Run.letP fun number1 h_number1 =>
  Run.asgVP 2 scN (EvO.isP h_number1 (EvB.val (EvB.modCP 1000000007 (EvB.is h_z1 (EvB.mulP (EvB.v (R := rInt) (y := number) 2) (EvB.v (R := rInt) (y := number) 2)))))) (Run.cx (G' := [.val rInt cell, .val rInt k, .val rInt number1]) rfl ((Run.un fun z2 h_z2 =>
  Run.retP (EvB.val (EvB.modCP 998244353 (EvB.mulRP 48271 (EvB.addP (EvB.v (R := rInt) (y := number1) 2) (EvB.is h_z2 (EvB.fdivP (EvB.v (R := rInt) (y := cell) 0) (EvB.int (i := 2147483647))))))))))))))))))
    (fun _ h => nomatch h) (fun z y h => h)
theorem w__law_mixed {f : Addr} {fd : FuncData} (F : Fun K "_law_mixed" "_law_mixed" s__law_mixed f fd) (gm : mg "_law_mixed" = some (.ref f)) (b : Binds K fd ["cell", "k"] [])  :
  Fn P w K mg base 1 "_law_mixed" (aV rInt (aV rInt aNil)) (oV rInt) f__law_mixed [] := Fn.of (o__law_mixed F ) gm F.kp b .nil
theorem o_look_at_hands {f : Addr} {fd : FuncData} (F : Fun K "look_at_hands" "look_at_hands" s_look_at_hands f fd) {tk_MOST_HANDS : Tok} (q_MOST_HANDS : mg "MOST_HANDS" = some (.int 6 tk_MOST_HANDS)) :
  FnOk P w K mg base CX0 1 f fd ["hands"] (spOf (aV rInt aNil) (oV rUnit) f_look_at_hands) :=
  fn_ok (k := 0) (d := (some ())) (fb := fun z => b_look_at_hands z.1) F sc_look_at_hands (fun {S H vs z} h => by obtain ⟨hands, _⟩ := z; obtain ⟨_, _, rfl, _, rfl⟩ := h; rfl)
    (fun cdv Ar outer s H E hr S z => by
      obtain ⟨hands, _⟩ := z
      have scN := sc_look_at_hands.nd
      refine Run.cx (G' := [.val rInt hands]) rfl ?_
      exact Run.ifstuck (TsW.t (TsW.orP (Cm.t (Cm.ltP (EvB.v (R := rInt) (y := hands) 0) (EvB.int (i := 1)))) (TsW.or1 (Cm.t (Cm.gtP (EvB.v (R := rInt) (y := hands) 0) (EvB.globP q_MOST_HANDS)))))) (Run.nil (Sub.m [true] rfl)))
    (fun _ h _ _ => by cases h; exact ⟨rfl, rfl⟩) (fun z y h => h)
theorem w_look_at_hands {f : Addr} {fd : FuncData} (F : Fun K "look_at_hands" "look_at_hands" s_look_at_hands f fd) (gm : mg "look_at_hands" = some (.ref f)) (b : Binds K fd ["hands"] []) {tk_MOST_HANDS : Tok} (q_MOST_HANDS : mg "MOST_HANDS" = some (.int 6 tk_MOST_HANDS)) :
  Fn P w K mg base 1 "look_at_hands" (aV rInt aNil) (oV rUnit) f_look_at_hands [] := Fn.of (o_look_at_hands F q_MOST_HANDS) gm F.kp b .nil
theorem o_hands_in {f : Addr} {fd : FuncData} (F : Fun K "hands_in" "hands_in" s_hands_in f fd)  :
  FnOk P w K mg base CX0 1 f fd ["group"] (spOf (aV rInt aNil) (oL (oV rInt)) f_hands_in) :=
  fn_ok (k := 0) (d := none) (fb := fun z => b_hands_in z.1) F sc_hands_in (fun {S H vs z} h => by obtain ⟨group, _⟩ := z; obtain ⟨_, _, rfl, _, rfl⟩ := h; rfl)
    (fun cdv Ar outer s H E hr S z => by
      obtain ⟨group, _⟩ := z
      have scN := sc_hands_in.nd
      refine Run.cx (G' := [.val rInt group, .any, .any, .any]) rfl ?_
      exact (Run.letP fun hands h_hands =>
  Run.asgP 1 scN (EvO.isP h_hands (EvO.lst (EvIt.nil (O := oV rInt)))) (Run.cx (G' := [.val rInt group, .ow (oL (oV rInt)) hands, .any, .any]) rfl (Run.asgVP 2 scN (EvB.val (EvB.v (R := rInt) (y := group) 0)) (Run.cx (G' := [.val rInt group, .ow (oL (oV rInt)) hands, .val rInt group, .any]) rfl (Run.asgVP 3 scN (EvB.val (EvB.int (i := 0))) (Run.cx (G' := [.val rInt group, .ow (oL (oV rInt)) hands, .val rInt group, .val rInt 0]) rfl (Run.while (cm := m_hands_in_c1) (bm := m_hands_in_b2) (fun s : (List Int) × Int × Int => [.val rInt group, .ow (oL (oV rInt)) s.1, .val rInt s.2.1, .val rInt s.2.2]) (hands, group, 0) (Sub.m [] rfl) (fun s_ => Cm.t (Cm.gtP (EvB.v (R := rInt) (y := s_.2.1) 2) (EvB.int (i := 0)))) (fun s_ => Run.itePP (fun s : (List Int) => [.val rInt group, .ow (oL (oV rInt)) s, .val rInt s_.2.1, .val rInt s_.2.2]) (Cm.t (Cm.eqeP (EvB.bandP (EvB.v (R := rInt) (y := s_.2.1) 2) (EvB.int (i := 1))) (EvB.int (i := 1)))) (Run.appP 1 (EvB.val (EvB.v (R := rInt) (y := s_.2.2) 3)) (fun hands1 => Run.cx (G' := [.val rInt group, .ow (oL (oV rInt)) hands1, .val rInt s_.2.1, .val rInt s_.2.2]) rfl (Run.nil (Sub.m [] rfl)))) (Run.nil (Sub.m [] rfl)) (fun (s_1 : (List Int)) => (Run.un fun z h_z =>
  Run.asgVP 2 scN (EvB.val (EvB.is h_z (EvB.shrP (EvB.v (R := rInt) (y := s_.2.1) 2) (EvB.int (i := 1))))) (Run.cx (G' := [.val rInt group, .ow (oL (oV rInt)) s_1, .val rInt z, .val rInt s_.2.2]) rfl (Run.augP 3 scN (EvB.int (i := 1)) (Run.cx (G' := [.val rInt group, .ow (oL (oV rInt)) s_1, .val rInt z, .val rInt (s_.2.2 + 1)]) rfl (Run.nil (Sub.m [] rfl)))))))) (fun s_2 => Run.retO 1) PassesOwn.never))))))))
    (fun _ h => nomatch h) (fun z y h => h)
theorem w_hands_in {f : Addr} {fd : FuncData} (F : Fun K "hands_in" "hands_in" s_hands_in f fd) (gm : mg "hands_in" = some (.ref f)) (b : Binds K fd ["group"] [])  :
  Fn P w K mg base 1 "hands_in" (aV rInt aNil) (oL (oV rInt)) f_hands_in [] := Fn.of (o_hands_in F ) gm F.kp b .nil
theorem o_lead_line {f : Addr} {fd : FuncData} (F : Fun K "lead_line" "lead_line" s_lead_line f fd) (m_enumerate : mg "enumerate" = none) :
  FnOk P w K mg base CX0 1 f fd ["lines", "place"] (spOf (aB (rL (rL rInt)) (aV rInt aNil)) (oV rInt) f_lead_line) :=
  fn_ok (k := 0) (d := none) (fb := fun z => b_lead_line z.1 z.2.1) F sc_lead_line (fun {S H vs z} h => by obtain ⟨lines, place, _⟩ := z; obtain ⟨_, _, rfl, _, ⟨_, _, rfl, _, rfl⟩⟩ := h; rfl)
    (fun cdv Ar outer s H E hr S z => by
      obtain ⟨lines, place, _⟩ := z
      have scN := sc_lead_line.nd
      refine Run.cx (G' := [.bw (rL (rL rInt)) lines, .val rInt place, .any, .any]) rfl ?_
      exact Run.forP (bm := m_lead_line_b1 place) (fun s : Unit => [.bw (rL (rL rInt)) lines, .val rInt place, .any, .any]) () (Sub.m [] rfl) (ItS.enumHP m_enumerate (EvH.w (R := (rL (rL rInt))) (y := lines) 0)) (pg_tup rfl (pgs_cons (pg_name (i := 2) scN rfl (by first | exact .inl rfl | exact .inr rfl)) (pgs_cons (pg_name (i := 3) scN rfl (by first | exact .inl rfl | exact .inr rfl)) (pgs_nil)))) (tg2 2 3 (fun x : (Int × (List Int)) => .val rInt x.1) (fun x : (Int × (List Int)) => .bw (rL rInt) x.2)) (fun it _s => Run.cx (G' := [.bw (rL (rL rInt)) lines, .val rInt place, .val rInt it.1, .bw (rL rInt) it.2]) rfl ((Run.un fun e h_e =>
  Run.ifrP (Cm.t (Cm.neP (EvB.is h_e (EvB.ixP (EvB.w (R := (rL rInt)) (y := it.2) 3) (EvB.v (R := rInt) (y := place) 1))) (EvB.int (i := 0)))) (EvB.val (EvB.v (R := rInt) (y := it.1) 2)) (Run.nil (Sub.m [false, false, true, true] rfl))))) (fun _ => Run.retP (EvB.val (EvB.negP (EvB.int (i := 1))))) PassesOwn.never)
    (fun _ h => nomatch h) (fun z y h => h)
theorem w_lead_line {f : Addr} {fd : FuncData} (F : Fun K "lead_line" "lead_line" s_lead_line f fd) (gm : mg "lead_line" = some (.ref f)) (b : Binds K fd ["lines", "place"] []) (m_enumerate : mg "enumerate" = none) :
  Fn P w K mg base 1 "lead_line" (aB (rL (rL rInt)) (aV rInt aNil)) (oV rInt) f_lead_line [] := Fn.of (o_lead_line F m_enumerate) gm F.kp b .nil
theorem o_less_lead {f : Addr} {fd : FuncData} (F : Fun K "less_lead" "less_lead" s_less_lead f fd) (m_zip : mg "zip" = none) :
  FnOk P w K mg base CX0 1 f fd ["line", "lead", "place"] (spOf (aB (rL rInt) (aB (rL rInt) (aV rInt aNil))) (oL (oV rInt)) f_less_lead) :=
  fn_ok (k := 0) (d := none) (fb := fun z => b_less_lead z.1 z.2.1 z.2.2.1) F sc_less_lead (fun {S H vs z} h => by obtain ⟨line, lead, place, _⟩ := z; obtain ⟨_, _, rfl, _, ⟨_, _, rfl, _, ⟨_, _, rfl, _, rfl⟩⟩⟩ := h; rfl)
    (fun cdv Ar outer s H E hr S z => by
      obtain ⟨line, lead, place, _⟩ := z
      have scN := sc_less_lead.nd
      refine Run.cx (G' := [.bw (rL rInt) line, .bw (rL rInt) lead, .val rInt place, .any, .any]) rfl ?_
      exact (Run.un fun l h_l =>
  Run.retP (EvO.lc (LcOk.is h_l (LcOk.all (f := fun (it : (Int × Int)) => (atI lead place).bind fun e =>
  (mulO it.1 e).bind fun z =>
  (atI line place).bind fun e1 =>
  (mulO e1 it.2).bind fun z1 =>
  some (z - z1)) [("number", 3), ("other", 4)] (ItC.zipFP m_zip (EvB.w (R := (rL rInt)) (y := line) 0) (EvB.w (R := (rL rInt)) (y := lead) 1)) (blkOk_by (N := N_less_lead) (sc := defScope s_less_lead) (by decide +kernel)) (fun _ _ _ _ _ => pg_tup rfl (pgs_cons (pg_name (i := 3) scN rfl (by first | exact .inl rfl | exact .inr rfl)) (pgs_cons (pg_name (i := 4) scN rfl (by first | exact .inl rfl | exact .inr rfl)) (pgs_nil)))) (tg2 3 4 (fun x : (Int × Int) => .val rInt x.1) (fun x : (Int × Int) => .val rInt x.2)) (fun it _ _ _ _ _ _ _ => EvO.cx (G' := [.bw (rL rInt) line, .bw (rL rInt) lead, .val rInt place, .val rInt it.1, .val rInt it.2]) rfl ((EvO.un fun e h_e =>
  (EvO.un fun z h_z =>
  (EvO.un fun e1 h_e1 =>
  (EvO.un fun z1 h_z1 =>
  EvB.val (EvB.subP (EvB.is h_z (EvB.mulP (EvB.v (R := rInt) (y := it.1) 3) (EvB.is h_e (EvB.ixP (EvB.w (R := (rL rInt)) (y := lead) 1) (EvB.v (R := rInt) (y := place) 2))))) (EvB.is h_z1 (EvB.mulP (EvB.is h_e1 (EvB.ixP (EvB.w (R := (rL rInt)) (y := line) 0) (EvB.v (R := rInt) (y := place) 2))) (EvB.v (R := rInt) (y := it.2) 4)))))))))))) scN)))
    (fun _ h => nomatch h) (fun z y h => h)
theorem w_less_lead {f : Addr} {fd : FuncData} (F : Fun K "less_lead" "less_lead" s_less_lead f fd) (gm : mg "less_lead" = some (.ref f)) (b : Binds K fd ["line", "lead", "place"] []) (m_zip : mg "zip" = none) :
  Fn P w K mg base 1 "less_lead" (aB (rL rInt) (aB (rL rInt) (aV rInt aNil))) (oL (oV rInt)) f_less_lead [] := Fn.of (o_less_lead F m_zip) gm F.kp b .nil
theorem o__law_hands {f : Addr} {fd : FuncData} (F : Fun K "_law_hands" "_law_hands" s__law_hands f fd) (m_range : mg "range" = none) :
  FnOk P w K mg base CX0 1 f fd ["group"] (spOf (aV rInt aNil) (oL (oV rInt)) f__law_hands) :=
  fn_ok (k := 0) (d := none) (fb := fun z => b__law_hands z.1) F sc__law_hands (fun {S H vs z} h => by obtain ⟨group, _⟩ := z; obtain ⟨_, _, rfl, _, rfl⟩ := h; rfl)
    (fun cdv Ar outer s H E hr S z => by
      obtain ⟨group, _⟩ := z
      have scN := sc__law_hands.nd
      refine Run.cx (G' := [.val rInt group, .any]) rfl ?_
      exact (Run.un fun r h_r =>
  (Run.un fun l h_l =>
  Run.retP (EvO.lc (LcOk.is h_l (LcOk.if (c := fun (k : Int) => (shrO group k).bind fun z =>
  some (decide ((Builtin.bitAnd z 1) = 1))) (f := fun (k : Int) => some k) [("k", 1)] (ItC.is h_r (ItC.rng1P m_range (EvB.int (i := 6)))) (blkOk_by (N := N__law_hands) (sc := defScope s__law_hands) (by decide +kernel)) (fun _ _ _ _ _ => pg_name (i := 1) scN rfl (by first | exact .inl rfl | exact .inr rfl)) (tg1 1 (fun x : Int => .val rInt x)) (fun k _ _ _ _ _ _ _ => Tst.cx (G' := [.val rInt group, .val rInt k]) rfl ((Tst.un fun z h_z =>
  Cm.t (Cm.eqeP (EvB.bandP (EvB.is h_z (EvB.shrP (EvB.v (R := rInt) (y := group) 0) (EvB.v (R := rInt) (y := k) 1))) (EvB.int (i := 1))) (EvB.int (i := 1)))))) (fun k _ _ _ _ _ _ _ => EvO.cx (G' := [.val rInt group, .val rInt k]) rfl (EvB.val (EvB.v (R := rInt) (y := k) 1))))) scN))))
    (fun _ h => nomatch h) (fun z y h => h)
theorem w__law_hands {f : Addr} {fd : FuncData} (F : Fun K "_law_hands" "_law_hands" s__law_hands f fd) (gm : mg "_law_hands" = some (.ref f)) (b : Binds K fd ["group"] []) (m_range : mg "range" = none) :
  Fn P w K mg base 1 "_law_hands" (aV rInt aNil) (oL (oV rInt)) f__law_hands [] := Fn.of (o__law_hands F m_range) gm F.kp b .nil
theorem o__law_square {f : Addr} {fd : FuncData} (F : Fun K "_law_square" "_law_square" s__law_square f fd) (m_len : mg "len" = none) (m_range : mg "range" = none) :
  FnOk P w K mg base CX0 1 f fd ["lines", "places"] (spOf (aV (rL (rL rInt)) (aB (rL rInt) aNil)) (oV rInt) f__law_square) :=
  fn_ok (k := 0) (d := none) (fb := fun z => b__law_square z.1 z.2.1) F sc__law_square (fun {S H vs z} h => by obtain ⟨lines, places, _⟩ := z; obtain ⟨_, _, rfl, _, ⟨_, _, rfl, _, rfl⟩⟩ := h; rfl)
    (fun cdv Ar outer s H E hr S z => by
      obtain ⟨lines, places, _⟩ := z
      have scN := sc__law_square.nd
      refine Run.cx (G' := [.val (rL (rL rInt)) lines, .bw (rL rInt) places, .any, .any, .any]) rfl ?_
      exact Run.ifrP (Cm.t (Cm.eqdP hr.units (EvO.lendV (EvV.v (R := (rL (rL rInt))) (y := lines) 0)) (EvO.lendL (EvO.lst (EvIt.nil (O := oV (rL rInt))))))) (EvB.val (EvB.int (i := 1))) (Run.asgVP 2 scN (EvB.val (EvB.int (i := 0))) (Run.cx (G' := [.val (rL (rL rInt)) lines, .bw (rL rInt) places, .val rInt 0, .any, .any]) rfl ((Run.un fun r h_r =>
  Run.forP (bm := m__law_square_b1 places lines) (fun s : Int => [.val (rL (rL rInt)) lines, .bw (rL rInt) places, .val rInt s, .any, .any]) 0 (Sub.m [] rfl) (ItS.is h_r (ItS.rng1P m_range (EvB.lenP m_len (EvB.w (R := (rL rInt)) (y := places) 1)))) (pg_name (i := 3) scN rfl (by first | exact .inl rfl | exact .inr rfl)) (tg1 3 (fun x : Int => .val rInt x)) (fun k s_ => Run.cx (G' := [.val (rL (rL rInt)) lines, .bw (rL rInt) places, .val rInt s_, .val rInt k, .any]) rfl ((Run.un fun l h_l =>
  (Run.un fun v h_v =>
  Run.asgVP 4 scN ((by cases h_v)) (Run.cx (G' := [.val (rL (rL rInt)) lines, .bw (rL rInt) places, .val rInt s_, .val rInt k, .val rInt v]) rfl ((Run.un fun e h_e =>
  (Run.un fun e1 h_e1 =>
  (Run.un fun e2 h_e2 =>
  (Run.un fun z h_z =>
  (Run.un fun z1 h_z1 =>
  Run.asgVP 2 scN (EvB.val (EvB.addP (EvB.v (R := rInt) (y := s_) 2) (EvB.is h_z1 (EvB.mulP (EvB.is h_z (EvB.mulP (EvB.subP (EvB.int (i := 1)) (EvB.mulLP 2 (EvB.modCP 2 (EvB.v (R := rInt) (y := k) 3)))) (EvB.is h_e2 (EvB.ixP (EvO.lendV (EvO.is h_e (EvV.ixP (EvV.v (R := (rL (rL rInt))) (y := lines) 0) (EvB.int (i := 0))))) (EvB.is h_e1 (EvB.ixP (EvB.w (R := (rL rInt)) (y := places) 1) (EvB.v (R := rInt) (y := k) 3))))))) (EvB.v (R := rInt) (y := v) 4))))) (Run.cx (G' := [.val (rL (rL rInt)) lines, .bw (rL rInt) places, .val rInt (s_ + z1), .val rInt k, .val rInt v]) rfl (Run.nil (Sub.m [false, false, false, true, true] rfl)))))))))))))) (fun s_1 => Run.retP (EvB.val (EvB.v (R := rInt) (y := s_1) 2))) PassesOwn.never)))))
    (fun _ h => nomatch h) (fun z y h => h)
theorem w__law_square {f : Addr} {fd : FuncData} (F : Fun K "_law_square" "_law_square" s__law_square f fd) (gm : mg "_law_square" = some (.ref f)) (b : Binds K fd ["lines", "places"] []) (m_len : mg "len" = none) (m_range : mg "range" = none) :
  Fn P w K mg base 1 "_law_square" (aV (rL (rL rInt)) (aB (rL rInt) aNil)) (oV rInt) f__law_square [] := Fn.of (o__law_square F m_len m_range) gm F.kp b .nil
theorem o__law_breaks {f : Addr} {fd : FuncData} (F : Fun K "_law_breaks" "_law_breaks" s__law_breaks f fd) (m_len : mg "len" = none) (m_range : mg "range" = none) :
  FnOk P w K mg base CX0 1 f fd ["table", "sign"] (spOf (aB (rL rInt) (aV rInt aNil)) (oL (oV (rT (rsCons rInt (rsCons rInt (rsOne rInt)))))) f__law_breaks) :=
  fn_ok (k := 0) (d := none) (fb := fun z => b__law_breaks z.1 z.2.1) F sc__law_breaks (fun {S H vs z} h => by obtain ⟨table, sign, _⟩ := z; obtain ⟨_, _, rfl, _, ⟨_, _, rfl, _, rfl⟩⟩ := h; rfl)
    (fun cdv Ar outer s H E hr S z => by
      obtain ⟨table, sign, _⟩ := z
      have scN := sc__law_breaks.nd
      refine Run.cx (G' := [.bw (rL rInt) table, .val rInt sign, .any, .any, .any, .any, .any, .any]) rfl ?_
      exact (Run.letP fun found h_found =>
  Run.asgP 2 scN (EvO.isP h_found (EvO.lst (EvIt.nil (O := oV (rT (rsCons rInt (rsCons rInt (rsOne rInt)))))))) (Run.cx (G' := [.bw (rL rInt) table, .val rInt sign, .ow (oL (oV (rT (rsCons rInt (rsCons rInt (rsOne rInt)))))) found, .any, .any, .any, .any, .any]) rfl ((Run.un fun r h_r =>
  Run.forP (bm := m__law_breaks_b3 table sign) (fun s : (List (Int × Int × Int)) => [.bw (rL rInt) table, .val rInt sign, .ow (oL (oV (rT (rsCons rInt (rsCons rInt (rsOne rInt)))))) s, .any, .any, .any, .any, .any]) found (Sub.m [] rfl) (ItS.is h_r (ItS.rng1P m_range (EvB.lenP m_len (EvB.w (R := (rL rInt)) (y := table) 0)))) (pg_name (i := 3) scN rfl (by first | exact .inl rfl | exact .inr rfl)) (tg1 3 (fun x : Int => .val rInt x)) (fun group s_ => Run.cx (G' := [.bw (rL rInt) table, .val rInt sign, .ow (oL (oV (rT (rsCons rInt (rsCons rInt (rsOne rInt)))))) s_, .val rInt group, .any, .any, .any, .any]) rfl ((Run.un fun r1 h_r1 =>
  Run.forP (bm := m__law_breaks_b2 table group sign) (fun s : (List (Int × Int × Int)) => [.bw (rL rInt) table, .val rInt sign, .ow (oL (oV (rT (rsCons rInt (rsCons rInt (rsOne rInt)))))) s, .val rInt group, .any, .any, .any, .any]) s_ (Sub.m [] rfl) (ItS.is h_r1 (ItS.rng1P m_range (EvB.int (i := 6)))) (pg_name (i := 4) scN rfl (by first | exact .inl rfl | exact .inr rfl)) (tg1 4 (fun x : Int => .val rInt x)) (fun one s_1 => Run.cx (G' := [.bw (rL rInt) table, .val rInt sign, .ow (oL (oV (rT (rsCons rInt (rsCons rInt (rsOne rInt)))))) s_1, .val rInt group, .val rInt one, .any, .any, .any]) rfl ((Run.un fun r2 h_r2 =>
  Run.forP (bm := m__law_breaks_b1 one table group sign) (fun s : (List (Int × Int × Int)) => [.bw (rL rInt) table, .val rInt sign, .ow (oL (oV (rT (rsCons rInt (rsCons rInt (rsOne rInt)))))) s, .val rInt group, .val rInt one, .any, .any, .any]) s_1 (Sub.m [] rfl) (ItS.is h_r2 (ItS.rng2P m_range (EvB.addP (EvB.v (R := rInt) (y := one) 4) (EvB.int (i := 1))) (EvB.int (i := 6)))) (pg_name (i := 5) scN rfl (by first | exact .inl rfl | exact .inr rfl)) (tg1 5 (fun x : Int => .val rInt x)) (fun other s_2 => Run.cx (G' := [.bw (rL rInt) table, .val rInt sign, .ow (oL (oV (rT (rsCons rInt (rsCons rInt (rsOne rInt)))))) s_2, .val rInt group, .val rInt one, .val rInt other, .any, .any]) rfl ((Run.un fun z h_z =>
  (Run.un fun z1 h_z1 =>
  (Run.letP fun both h_both =>
  Run.asgVP 6 scN (EvO.isP h_both (EvB.val (EvB.borP (EvB.is h_z (EvB.shlP (EvB.int (i := 1)) (EvB.v (R := rInt) (y := one) 4))) (EvB.is h_z1 (EvB.shlP (EvB.int (i := 1)) (EvB.v (R := rInt) (y := other) 5)))))) (Run.cx (G' := [.bw (rL rInt) table, .val rInt sign, .ow (oL (oV (rT (rsCons rInt (rsCons rInt (rsOne rInt)))))) s_2, .val rInt group, .val rInt one, .val rInt other, .val rInt both, .any]) rfl (Run.itePP (fun s : (List (Int × Int × Int)) => [.bw (rL rInt) table, .val rInt sign, .ow (oL (oV (rT (rsCons rInt (rsCons rInt (rsOne rInt)))))) s, .val rInt group, .val rInt one, .val rInt other, .val rInt both, .any]) (TsW.t (TsW.andP (Cm.t (Cm.ltP (EvB.v (R := rInt) (y := both) 6) (EvB.lenP m_len (EvB.w (R := (rL rInt)) (y := table) 0)))) (TsW.and1 (Cm.t (Cm.eqeP (EvB.bandP (EvB.v (R := rInt) (y := group) 3) (EvB.v (R := rInt) (y := both) 6)) (EvB.int (i := 0))))))) ((Run.un fun z2 h_z2 =>
  (Run.un fun e h_e =>
  Run.asgVP 7 scN (EvB.val (EvB.is h_e (EvB.ixP (EvB.w (R := (rL rInt)) (y := table) 0) (EvB.borP (EvB.v (R := rInt) (y := group) 3) (EvB.is h_z2 (EvB.shlP (EvB.int (i := 1)) (EvB.v (R := rInt) (y := one) 4))))))) (Run.cx (G' := [.bw (rL rInt) table, .val rInt sign, .ow (oL (oV (rT (rsCons rInt (rsCons rInt (rsOne rInt)))))) s_2, .val rInt group, .val rInt one, .val rInt other, .val rInt both, .val rInt e]) rfl ((Run.un fun z3 h_z3 =>
  (Run.un fun e1 h_e1 =>
  Run.asgVP 7 scN (EvB.val (EvB.addP (EvB.v (R := rInt) (y := e) 7) (EvB.is h_e1 (EvB.ixP (EvB.w (R := (rL rInt)) (y := table) 0) (EvB.borP (EvB.v (R := rInt) (y := group) 3) (EvB.is h_z3 (EvB.shlP (EvB.int (i := 1)) (EvB.v (R := rInt) (y := other) 5)))))))) (Run.cx (G' := [.bw (rL rInt) table, .val rInt sign, .ow (oL (oV (rT (rsCons rInt (rsCons rInt (rsOne rInt)))))) s_2, .val rInt group, .val rInt one, .val rInt other, .val rInt both, .val rInt (e + e1)]) rfl ((Run.un fun e2 h_e2 =>
  (Run.un fun e3 h_e3 =>
  (Run.letP fun gap h_gap =>
  Run.asgVP 7 scN (EvO.isP h_gap (EvB.val (EvB.subP (EvB.subP (EvB.v (R := rInt) (y := (e + e1)) 7) (EvB.is h_e2 (EvB.ixP (EvB.w (R := (rL rInt)) (y := table) 0) (EvB.borP (EvB.v (R := rInt) (y := group) 3) (EvB.v (R := rInt) (y := both) 6))))) (EvB.is h_e3 (EvB.ixP (EvB.w (R := (rL rInt)) (y := table) 0) (EvB.v (R := rInt) (y := group) 3)))))) (Run.cx (G' := [.bw (rL rInt) table, .val rInt sign, .ow (oL (oV (rT (rsCons rInt (rsCons rInt (rsOne rInt)))))) s_2, .val rInt group, .val rInt one, .val rInt other, .val rInt both, .val rInt gap]) rfl ((Run.un fun z4 h_z4 =>
  Run.itePP (fun s : (List (Int × Int × Int)) => [.bw (rL rInt) table, .val rInt sign, .ow (oL (oV (rT (rsCons rInt (rsCons rInt (rsOne rInt)))))) s, .val rInt group, .val rInt one, .val rInt other, .val rInt both, .val rInt gap]) (Cm.t (Cm.ltP (EvB.is h_z4 (EvB.mulP (EvB.v (R := rInt) (y := sign) 1) (EvB.v (R := rInt) (y := gap) 7))) (EvB.int (i := 0)))) (Run.appP 2 (EvV.tupV (EvTV.cons (EvB.val (EvB.v (R := rInt) (y := group) 3)) (EvTV.cons (EvB.val (EvB.v (R := rInt) (y := one) 4)) (EvTV.one (EvB.val (EvB.v (R := rInt) (y := other) 5)))))) (fun found1 => Run.cx (G' := [.bw (rL rInt) table, .val rInt sign, .ow (oL (oV (rT (rsCons rInt (rsCons rInt (rsOne rInt)))))) found1, .val rInt group, .val rInt one, .val rInt other, .val rInt both, .val rInt gap]) rfl (Run.nil (Sub.m [] rfl)))) (Run.nil (Sub.m [] rfl)) (fun (s_3 : (List (Int × Int × Int))) => Run.nil (Sub.m [false, false, false, false, false, false, false, true] rfl))))))))))))))))) (Run.nil (Sub.m [] rfl)) (fun (s_4 : (List (Int × Int × Int))) => Run.nil (Sub.m [false, false, false, false, false, true, true] rfl))))))))) (fun s_5 => Run.nil (Sub.m [false, false, false, false, true] rfl)) PassesOwn.never))) (fun s_6 => Run.nil (Sub.m [false, false, false, true] rfl)) PassesOwn.never))) (fun s_7 => Run.retO 2) PassesOwn.never)))))
    (fun _ h => nomatch h) (fun z y h => h)
theorem w__law_breaks {f : Addr} {fd : FuncData} (F : Fun K "_law_breaks" "_law_breaks" s__law_breaks f fd) (gm : mg "_law_breaks" = some (.ref f)) (b : Binds K fd ["table", "sign"] []) (m_len : mg "len" = none) (m_range : mg "range" = none) :
  Fn P w K mg base 1 "_law_breaks" (aB (rL rInt) (aV rInt aNil)) (oL (oV (rT (rsCons rInt (rsCons rInt (rsOne rInt)))))) f__law_breaks [] := Fn.of (o__law_breaks F m_len m_range) gm F.kp b .nil
theorem o__law_whole {f : Addr} {fd : FuncData} (F : Fun K "_law_whole" "_law_whole" s__law_whole f fd) (m_bool : mg "bool" = none) (m_int : mg "int" = none) (m_isinstance : mg "isinstance" = none) :
  FnOk P w K mg base CX0 1 f fd ["found"] (spOf (aV rInt aNil) (oV rBool) f__law_whole) :=
  fn_ok (k := 0) (d := none) (fb := fun z => b__law_whole z.1) F sc__law_whole (fun {S H vs z} h => by obtain ⟨found, _⟩ := z; obtain ⟨_, _, rfl, _, rfl⟩ := h; rfl)
    (fun cdv Ar outer s H E hr S z => by
      obtain ⟨found, _⟩ := z
      have scN := sc__law_whole.nd
      refine Run.cx (G' := [.val rInt found]) rfl ?_
      exact Run.retP (EvB.val (EvB.andP (EvB.isiP "int" "int" true m_isinstance m_int boot_intT (EvB.v (R := rInt) (y := found) 0)) (EvB.and1 (EvB.notP (EvB.isiP "bool" "bool" false m_isinstance m_bool boot_boolT (EvB.v (R := rInt) (y := found) 0)))))))
    (fun _ h => nomatch h) (fun z y h => h)
theorem w__law_whole {f : Addr} {fd : FuncData} (F : Fun K "_law_whole" "_law_whole" s__law_whole f fd) (gm : mg "_law_whole" = some (.ref f)) (b : Binds K fd ["found"] []) (m_bool : mg "bool" = none) (m_int : mg "int" = none) (m_isinstance : mg "isinstance" = none) :
  Fn P w K mg base 1 "_law_whole" (aV rInt aNil) (oV rBool) f__law_whole [] := Fn.of (o__law_whole F m_bool m_int m_isinstance) gm F.kp b .nil
theorem o__law_poured {f : Addr} {fd : FuncData} (F : Fun K "_law_poured" "_law_poured" s__law_poured f fd) (c__law_mixed : Fn P w K mg base 1 "_law_mixed" (aV rInt (aV rInt aNil)) (oV rInt) f__law_mixed []) (m_len : mg "len" = none) (m_range : mg "range" = none) :
  FnOk P w K mg base CX0 2 f fd ["script", "many"] (spOf (aB (rSq K rInt) (aV rInt aNil)) (oL (oV rInt)) f__law_poured) :=
  fn_ok (k := 1) (d := none) (fb := fun z => b__law_poured z.1 z.2.1) F sc__law_poured (fun {S H vs z} h => by obtain ⟨script, many, _⟩ := z; obtain ⟨_, _, rfl, _, ⟨_, _, rfl, _, rfl⟩⟩ := h; rfl)
    (fun cdv Ar outer s H E hr S z => by
      obtain ⟨script, many, _⟩ := z
      have scN := sc__law_poured.nd
      refine Run.cx (G' := [.bw (rSq K rInt) script, .val rInt many, .any, .any, .any, .any]) rfl ?_
      exact (Run.un fun r h_r =>
  (Run.un fun numbers h_numbers =>
  Run.asgLcP 2 scN (LcOk.is h_numbers (LcOk.all (f := fun (k : Int) => (m__law_mixed (k + 11) k).bind fun v =>
  some v) [("k", 3)] (ItC.is h_r (ItC.rng1P m_range (EvB.v (R := rInt) (y := many) 1))) (blkOk_by (N := N__law_poured) (sc := defScope s__law_poured) (by decide +kernel)) (fun _ _ _ _ _ => pg_name (i := 3) scN rfl (by first | exact .inl rfl | exact .inr rfl)) (tg1 3 (fun x : Int => .val rInt x)) (fun k _ _ _ _ _ _ _ => EvO.cx (G' := [.bw (rSq K rInt) script, .val rInt many, .any, .val rInt k, .any, .any]) rfl ((EvO.un fun v h_v =>
  EvB.val (EvO.lendV (EvO.is h_v (EvO.callP (f := f__law_mixed) (z := ((k + 11), k, ())) c__law_mixed hr (EvA.consVP (EvB.val (EvB.addP (EvB.v (R := rInt) (y := k) 3) (EvB.int (i := 11)))) (EvA.consVP (EvB.val (EvB.v (R := rInt) (y := k) 3)) (EvA.nil))))))))))) (Run.cx (G' := [.bw (rSq K rInt) script, .val rInt many, .ow (oL (oV rInt)) numbers, .any, .any, .any]) rfl ((Run.un fun r1 h_r1 =>
  Run.forP (bm := m__law_poured_b1 many script) (fun s : (List Int) => [.bw (rSq K rInt) script, .val rInt many, .ow (oL (oV rInt)) s, .any, .any, .any]) numbers (Sub.m [] rfl) (ItS.is h_r1 (ItS.rng1P m_range (EvB.lenP m_len (EvB.w (R := (rSq K rInt)) (y := script) 0)))) (pg_name (i := 3) scN rfl (by first | exact .inl rfl | exact .inr rfl)) (tg1 3 (fun x : Int => .val rInt x)) (fun k1 s_ => Run.cx (G' := [.bw (rSq K rInt) script, .val rInt many, .ow (oL (oV rInt)) s_, .val rInt k1, .any, .any]) rfl ((Run.un fun z h_z =>
  Run.asgVP 4 scN (EvB.val (EvB.is h_z (EvB.modP (EvB.v (R := rInt) (y := k1) 3) (EvB.v (R := rInt) (y := many) 1)))) (Run.cx (G' := [.bw (rSq K rInt) script, .val rInt many, .ow (oL (oV rInt)) s_, .val rInt k1, .val rInt z, .any]) rfl ((Run.un fun e h_e =>
  (Run.un fun z1 h_z1 =>
  Run.asgVP 5 scN (EvB.val (EvB.addP (EvB.is h_z1 (EvB.modP (EvB.is h_e (EvB.ixP (EvB.w (R := (rSq K rInt)) (y := script) 0) (EvB.v (R := rInt) (y := k1) 3))) (EvB.addP (EvB.powCP 10 60) (EvB.int (i := 7))))) (EvB.v (R := rInt) (y := k1) 3))) (Run.cx (G' := [.bw (rSq K rInt) script, .val rInt many, .ow (oL (oV rInt)) s_, .val rInt k1, .val rInt z, .val rInt (z1 + k1)]) rfl ((Run.un fun e1 h_e1 =>
  (Run.un fun z2 h_z2 =>
  Run.setP 2 (EvB.val (EvB.is h_z2 (EvB.modP (EvB.addP (EvB.mulRP 1000003 (EvB.is h_e1 (EvB.ixP (EvB.oL (R := rInt) (y := s_) 2) (EvB.v (R := rInt) (y := z) 4)))) (EvB.mulRP 48271 (EvB.v (R := rInt) (y := (z1 + k1)) 5))) (EvB.addP (EvB.powCP 10 60) (EvB.int (i := 7)))))) (EvB.v (R := rInt) (y := z) 4) (fun numbers1 => Run.cx (G' := [.bw (rSq K rInt) script, .val rInt many, .ow (oL (oV rInt)) numbers1, .val rInt k1, .val rInt z, .val rInt (z1 + k1)]) rfl (Run.nil (Sub.m [false, false, false, true, true, true] rfl)))))))))))))) (fun s_1 => Run.retO 2) PassesOwn.never))) (sw_true rfl rfl rfl (by decide +kernel)))))
    (fun _ h => nomatch h) (fun z y h => h)
theorem w__law_poured {f : Addr} {fd : FuncData} (F : Fun K "_law_poured" "_law_poured" s__law_poured f fd) (gm : mg "_law_poured" = some (.ref f)) (b : Binds K fd ["script", "many"] []) (c__law_mixed : Fn P w K mg base 1 "_law_mixed" (aV rInt (aV rInt aNil)) (oV rInt) f__law_mixed []) (m_len : mg "len" = none) (m_range : mg "range" = none) :
  Fn P w K mg base 2 "_law_poured" (aB (rSq K rInt) (aV rInt aNil)) (oL (oV rInt)) f__law_poured [] := Fn.of (o__law_poured F c__law_mixed m_len m_range) gm F.kp b .nil
theorem o_free_count {f : Addr} {fd : FuncData} (F : Fun K "free_count" "free_count" s_free_count f fd) (c_lead_line : Fn P w K mg base 1 "lead_line" (aB (rL (rL rInt)) (aV rInt aNil)) (oV rInt) f_lead_line []) (c_less_lead : Fn P w K mg base 1 "less_lead" (aB (rL rInt) (aB (rL rInt) (aV rInt aNil))) (oL (oV rInt)) f_less_lead []) (m_len : mg "len" = none) (m_list : mg "list" = none) (m_range : mg "range" = none) :
  FnOk P w K mg base CX0 2 f fd ["lines"] (spOf (aB (rL (rL rInt)) aNil) (oV rInt) f_free_count) :=
  fn_ok (k := 1) (d := none) (fb := fun z => b_free_count z.1) F sc_free_count (fun {S H vs z} h => by obtain ⟨lines, _⟩ := z; obtain ⟨_, _, rfl, _, rfl⟩ := h; rfl)
    (fun cdv Ar outer s H E hr S z => by
      obtain ⟨lines, _⟩ := z
      have scN := sc_free_count.nd
      refine Run.cx (G' := [.bw (rL (rL rInt)) lines, .any, .any, .any, .any, .any, .any]) rfl ?_
      exact (Run.letP fun left h_left =>
  Run.asgLcP 1 scN (LcOk.isP h_left (LcOk.mapP (g := fun (line : List Int) => line) (LcOk.all (f := fun (line : List Int) => some line) [("line", 6)] (ItC.lst (EvB.w (R := (rL (rL rInt))) (y := lines) 0)) (blkOk_by (N := N_free_count) (sc := defScope s_free_count) (by decide +kernel)) (fun _ _ _ _ _ => pg_name (i := 6) scN rfl (by first | exact .inl rfl | exact .inr rfl)) (tg1 6 (fun x : List Int => .bw (rL rInt) x)) (fun line _ _ _ _ _ _ _ => EvO.cx (G' := [.bw (rL (rL rInt)) lines, .any, .any, .any, .any, .any, .bw (rL rInt) line]) rfl (EvO.stayL (EvO.listBP m_list (EvB.w (R := (rL rInt)) (y := line) 6))))))) (Run.cx (G' := [.bw (rL (rL rInt)) lines, .ow (oL (oV (rL rInt))) left, .any, .any, .any, .any, .any]) rfl (Run.asgVP 2 scN (EvB.val (EvB.int (i := 0))) (Run.cx (G' := [.bw (rL (rL rInt)) lines, .ow (oL (oV (rL rInt))) left, .val rInt 0, .any, .any, .any, .any]) rfl ((Run.un fun e h_e =>
  (Run.un fun r h_r =>
  Run.forP (bm := m_free_count_b1) (fun s : (List (List Int)) × Int => [.bw (rL (rL rInt)) lines, .ow (oL (oV (rL rInt))) s.1, .val rInt s.2, .any, .any, .any, .any]) (left, 0) (Sub.m [] rfl) (ItS.is h_r (ItS.rng1P m_range (EvB.lenP m_len (EvB.is h_e (EvB.ixP (EvB.w (R := (rL (rL rInt))) (y := lines) 0) (EvB.int (i := 0))))))) (pg_name (i := 3) scN rfl (by first | exact .inl rfl | exact .inr rfl)) (tg1 3 (fun x : Int => .val rInt x)) (fun place s_ => Run.cx (G' := [.bw (rL (rL rInt)) lines, .ow (oL (oV (rL rInt))) s_.1, .val rInt s_.2, .val rInt place, .any, .any, .any]) rfl ((Run.un fun v h_v =>
  Run.asgVP 4 scN (EvB.val (EvO.lendV (EvO.is h_v (EvO.callP (f := f_lead_line) (z := (s_.1, place, ())) c_lead_line hr (EvA.consBP (EvB.oL (R := (rL rInt)) (y := s_.1) 1) (EvA.consVP (EvB.val (EvB.v (R := rInt) (y := place) 3)) (EvA.nil))))))) (Run.cx (G' := [.bw (rL (rL rInt)) lines, .ow (oL (oV (rL rInt))) s_.1, .val rInt s_.2, .val rInt place, .val rInt v, .any, .any]) rfl (Run.itePP (fun s : (List (List Int)) × Int => [.bw (rL (rL rInt)) lines, .ow (oL (oV (rL rInt))) s.1, .val rInt s.2, .val rInt place, .val rInt v, .any, .any]) (Cm.t (Cm.geP (EvB.v (R := rInt) (y := v) 4) (EvB.int (i := 0)))) (Run.popP 1 5 scN (EvB.v (R := rInt) (y := v) 4) (fun it => Run.cx (G' := [.bw (rL (rL rInt)) lines, .ow (oL (oV (rL rInt))) it.2, .val rInt s_.2, .val rInt place, .val rInt v, .val (rL rInt) it.1, .any]) rfl (Run.augP 2 scN (EvB.int (i := 1)) (Run.cx (G' := [.bw (rL (rL rInt)) lines, .ow (oL (oV (rL rInt))) it.2, .val rInt (s_.2 + 1), .val rInt place, .val rInt v, .val (rL rInt) it.1, .any]) rfl ((Run.un fun left1 h_left1 =>
  Run.asgLcP 1 scN (LcOk.is h_left1 (LcOk.all (f := fun (line1 : List Int) => (m_less_lead line1 it.1 place).bind fun l =>
  some l) [("line", 6)] (ItC.lstO (R := (rL rInt)) 1) (blkOk_by (N := N_free_count) (sc := defScope s_free_count) (by decide +kernel)) (fun _ _ _ _ _ => pg_name (i := 6) scN rfl (by first | exact .inl rfl | exact .inr rfl)) (tg1 6 (fun x : List Int => .val (rL rInt) x)) (fun line1 _ _ _ _ _ _ _ => EvO.cx (G' := [.bw (rL (rL rInt)) lines, .bw (rL (rL rInt)) it.2, .val rInt (s_.2 + 1), .val rInt place, .val rInt v, .val (rL rInt) it.1, .val (rL rInt) line1]) rfl ((EvO.un fun l h_l =>
  EvO.stayL (EvO.is h_l (EvO.callP (f := f_less_lead) (z := (line1, it.1, place, ())) c_less_lead hr (EvA.consBP (EvO.lendV (EvV.v (R := (rL rInt)) (y := line1) 6)) (EvA.consBP (EvO.lendV (EvV.v (R := (rL rInt)) (y := it.1) 5)) (EvA.consVP (EvB.val (EvB.v (R := rInt) (y := place) 3)) (EvA.nil))))))))))) (Run.cx (G' := [.bw (rL (rL rInt)) lines, .ow (oL (oV (rL rInt))) left1, .val rInt (s_.2 + 1), .val rInt place, .val rInt v, .val (rL rInt) it.1, .any]) rfl (Run.nil (Sub.m [false, false, false, false, false, true] rfl))) (sw_true rfl rfl rfl (by decide +kernel)))))))) (Run.nil (Sub.m [] rfl)) (fun (s_1 : (List (List Int)) × Int) => Run.nil (Sub.m [false, false, false, true, true] rfl))))))) (fun s_2 => Run.retP (EvB.val (EvB.v (R := rInt) (y := s_2.2) 2))) PassesOwn.never)))))) (sw_true rfl rfl rfl (by decide +kernel))))
    (fun _ h => nomatch h) (fun z y h => h)
theorem w_free_count {f : Addr} {fd : FuncData} (F : Fun K "free_count" "free_count" s_free_count f fd) (gm : mg "free_count" = some (.ref f)) (b : Binds K fd ["lines"] []) (c_lead_line : Fn P w K mg base 1 "lead_line" (aB (rL (rL rInt)) (aV rInt aNil)) (oV rInt) f_lead_line []) (c_less_lead : Fn P w K mg base 1 "less_lead" (aB (rL rInt) (aB (rL rInt) (aV rInt aNil))) (oL (oV rInt)) f_less_lead []) (m_len : mg "len" = none) (m_list : mg "list" = none) (m_range : mg "range" = none) :
  Fn P w K mg base 2 "free_count" (aB (rL (rL rInt)) aNil) (oV rInt) f_free_count [] := Fn.of (o_free_count F c_lead_line c_less_lead m_len m_list m_range) gm F.kp b .nil
theorem o__law_square_2 {f : Addr} {fd : FuncData} (F : Fun K "_law_square" "_law_square" s__law_square f fd) (c__law_square : Fn P w K mg base 1 "_law_square" (aV (rL (rL rInt)) (aB (rL rInt) aNil)) (oV rInt) f__law_square []) (m_len : mg "len" = none) (m_range : mg "range" = none) :
  FnOk P w K mg base CX0 2 f fd ["lines", "places"] (spOf (aV (rL (rL rInt)) (aB (rL rInt) aNil)) (oV rInt) f__law_square_2) :=
  fn_ok (k := 1) (d := none) (fb := fun z => b__law_square_2 z.1 z.2.1) F sc__law_square (fun {S H vs z} h => by obtain ⟨lines, places, _⟩ := z; obtain ⟨_, _, rfl, _, ⟨_, _, rfl, _, rfl⟩⟩ := h; rfl)
    (fun cdv Ar outer s H E hr S z => by
      obtain ⟨lines, places, _⟩ := z
      have scN := sc__law_square.nd
      refine Run.cx (G' := [.val (rL (rL rInt)) lines, .bw (rL rInt) places, .any, .any, .any]) rfl ?_
      exact Run.ifrP (Cm.t (Cm.eqdP hr.units (EvO.lendV (EvV.v (R := (rL (rL rInt))) (y := lines) 0)) (EvO.lendL (EvO.lst (EvIt.nil (O := oV (rL rInt))))))) (EvB.val (EvB.int (i := 1))) (Run.asgVP 2 scN (EvB.val (EvB.int (i := 0))) (Run.cx (G' := [.val (rL (rL rInt)) lines, .bw (rL rInt) places, .val rInt 0, .any, .any]) rfl ((Run.un fun r h_r =>
  Run.forP (bm := m__law_square_2_b1 places lines) (fun s : Int => [.val (rL (rL rInt)) lines, .bw (rL rInt) places, .val rInt s, .any, .any]) 0 (Sub.m [] rfl) (ItS.is h_r (ItS.rng1P m_range (EvB.lenP m_len (EvB.w (R := (rL rInt)) (y := places) 1)))) (pg_name (i := 3) scN rfl (by first | exact .inl rfl | exact .inr rfl)) (tg1 3 (fun x : Int => .val rInt x)) (fun k s_ => Run.cx (G' := [.val (rL (rL rInt)) lines, .bw (rL rInt) places, .val rInt s_, .val rInt k, .any]) rfl ((Run.un fun l h_l =>
  (Run.un fun v h_v =>
  Run.asgVP 4 scN (EvB.val (EvO.lendV (EvO.is h_v (EvO.callP (f := f__law_square) (z := ((cutL lines (some 1) none), l, ())) c__law_square hr (EvA.consVP (EvO.stayL (EvO.slVP (EvV.v (R := (rL (rL rInt))) (y := lines) 0) (PoOk.some (EvB.int (i := 1))) PoOk.none)) (EvA.consBP (EvO.lendL (EvO.is h_l (EvO.catBP (EvO.lendL (EvO.slBP (EvB.w (R := (rL rInt)) (y := places) 1) PoOk.none (PoOk.some (EvB.v (R := rInt) (y := k) 3)))) (EvO.lendL (EvO.slBP (EvB.w (R := (rL rInt)) (y := places) 1) (PoOk.some (EvB.addP (EvB.v (R := rInt) (y := k) 3) (EvB.int (i := 1)))) PoOk.none))))) (EvA.nil))))))) (Run.cx (G' := [.val (rL (rL rInt)) lines, .bw (rL rInt) places, .val rInt s_, .val rInt k, .val rInt v]) rfl ((Run.un fun e h_e =>
  (Run.un fun e1 h_e1 =>
  (Run.un fun e2 h_e2 =>
  (Run.un fun z h_z =>
  (Run.un fun z1 h_z1 =>
  Run.asgVP 2 scN (EvB.val (EvB.addP (EvB.v (R := rInt) (y := s_) 2) (EvB.is h_z1 (EvB.mulP (EvB.is h_z (EvB.mulP (EvB.subP (EvB.int (i := 1)) (EvB.mulLP 2 (EvB.modCP 2 (EvB.v (R := rInt) (y := k) 3)))) (EvB.is h_e2 (EvB.ixP (EvO.lendV (EvO.is h_e (EvV.ixP (EvV.v (R := (rL (rL rInt))) (y := lines) 0) (EvB.int (i := 0))))) (EvB.is h_e1 (EvB.ixP (EvB.w (R := (rL rInt)) (y := places) 1) (EvB.v (R := rInt) (y := k) 3))))))) (EvB.v (R := rInt) (y := v) 4))))) (Run.cx (G' := [.val (rL (rL rInt)) lines, .bw (rL rInt) places, .val rInt (s_ + z1), .val rInt k, .val rInt v]) rfl (Run.nil (Sub.m [false, false, false, true, true] rfl)))))))))))))) (fun s_1 => Run.retP (EvB.val (EvB.v (R := rInt) (y := s_1) 2))) PassesOwn.never)))))
    (fun _ h => nomatch h) (fun z y h => h)
theorem w__law_square_2 {f : Addr} {fd : FuncData} (F : Fun K "_law_square" "_law_square" s__law_square f fd) (gm : mg "_law_square" = some (.ref f)) (b : Binds K fd ["lines", "places"] []) (c__law_square : Fn P w K mg base 1 "_law_square" (aV (rL (rL rInt)) (aB (rL rInt) aNil)) (oV rInt) f__law_square []) (m_len : mg "len" = none) (m_range : mg "range" = none) :
  Fn P w K mg base 2 "_law_square" (aV (rL (rL rInt)) (aB (rL rInt) aNil)) (oV rInt) f__law_square_2 [] := Fn.of (o__law_square_2 F c__law_square m_len m_range) gm F.kp b .nil
theorem o__law_numbers {f : Addr} {fd : FuncData} (F : Fun K "_law_numbers" "_law_numbers" s__law_numbers f fd) (c__law_whole : Fn P w K mg base 1 "_law_whole" (aV rInt aNil) (oV rBool) f__law_whole []) (m_isinstance : mg "isinstance" = none) (m_len : mg "len" = none) (m_list : mg "list" = none) (m_range : mg "range" = none) :
  FnOk P w K mg base CX0 2 f fd ["found", "due"] (spOf (aB (rL rInt) (aB (rL rInt) aNil)) (oV rBool) f__law_numbers) :=
  fn_ok (k := 1) (d := none) (fb := fun z => b__law_numbers z.1 z.2.1) F sc__law_numbers (fun {S H vs z} h => by obtain ⟨found, due, _⟩ := z; obtain ⟨_, _, rfl, _, ⟨_, _, rfl, _, rfl⟩⟩ := h; rfl)
    (fun cdv Ar outer s H E hr S z => by
      obtain ⟨found, due, _⟩ := z
      have scN := sc__law_numbers.nd
      refine Run.cx (G' := [.bw (rL rInt) found, .bw (rL rInt) due, .any]) rfl ?_
      exact Run.ifrP (TsW.t (TsW.orP (Tst.notP (EvB.tstP (EvB.isiP "list" "list" true m_isinstance m_list boot_listT (EvB.w (R := (rL rInt)) (y := found) 0)))) (TsW.or1 (Cm.t (Cm.neP (EvB.lenP m_len (EvB.w (R := (rL rInt)) (y := found) 0)) (EvB.lenP m_len (EvB.w (R := (rL rInt)) (y := due) 1))))))) (EvB.val (EvB.bl)) ((Run.un fun r h_r =>
  Run.forP (bm := m__law_numbers_b1 found due) (fun s : Unit => [.bw (rL rInt) found, .bw (rL rInt) due, .any]) () (Sub.m [] rfl) (ItS.is h_r (ItS.rng1P m_range (EvB.lenP m_len (EvB.w (R := (rL rInt)) (y := due) 1)))) (pg_name (i := 2) scN rfl (by first | exact .inl rfl | exact .inr rfl)) (tg1 2 (fun x : Int => .val rInt x)) (fun k _s => Run.cx (G' := [.bw (rL rInt) found, .bw (rL rInt) due, .val rInt k]) rfl ((Run.un fun e h_e =>
  (Run.un fun b h_b =>
  (Run.un fun t h_t =>
  Run.ifrP (Tst.is h_t (TsW.t (TsW.orM (Tst.notP (EvB.tstP (EvO.lendV (EvO.is h_b (EvO.callP (f := f__law_whole) (z := (e, ())) c__law_whole hr (EvA.consVP (EvB.val (EvB.is h_e (EvB.ixP (EvB.w (R := (rL rInt)) (y := found) 0) (EvB.v (R := rInt) (y := k) 2)))) (EvA.nil))))))) ((TsW.un fun e1 h_e1 =>
  (TsW.un fun e2 h_e2 =>
  TsW.or1 (Cm.t (Cm.neP (EvB.is h_e1 (EvB.ixP (EvB.w (R := (rL rInt)) (y := found) 0) (EvB.v (R := rInt) (y := k) 2))) (EvB.is h_e2 (EvB.ixP (EvB.w (R := (rL rInt)) (y := due) 1) (EvB.v (R := rInt) (y := k) 2))))))))))) (EvB.val (EvB.bl)) (Run.nil (Sub.m [false, false, true] rfl))))))) (fun _ => Run.retP (EvB.val (EvB.bl))) PassesOwn.never)))
    (fun _ h => nomatch h) (fun z y h => h)
theorem w__law_numbers {f : Addr} {fd : FuncData} (F : Fun K "_law_numbers" "_law_numbers" s__law_numbers f fd) (gm : mg "_law_numbers" = some (.ref f)) (b : Binds K fd ["found", "due"] []) (c__law_whole : Fn P w K mg base 1 "_law_whole" (aV rInt aNil) (oV rBool) f__law_whole []) (m_isinstance : mg "isinstance" = none) (m_len : mg "len" = none) (m_list : mg "list" = none) (m_range : mg "range" = none) :
  Fn P w K mg base 2 "_law_numbers" (aB (rL rInt) (aB (rL rInt) aNil)) (oV rBool) f__law_numbers [] := Fn.of (o__law_numbers F c__law_whole m_isinstance m_len m_list m_range) gm F.kp b .nil
theorem o__law_lines {f : Addr} {fd : FuncData} (F : Fun K "_law_lines" "_law_lines" s__law_lines f fd) (c__law_poured : Fn P w K mg base 2 "_law_poured" (aB (rSq K rInt) (aV rInt aNil)) (oL (oV rInt)) f__law_poured []) (m_range : mg "range" = none) :
  FnOk P w K mg base CX0 3 f fd ["script", "many", "width"] (spOf (aB (rSq K rInt) (aV rInt (aV rInt aNil))) (oL (oV (rL rInt))) f__law_lines) :=
  fn_ok (k := 2) (d := none) (fb := fun z => b__law_lines z.1 z.2.1 z.2.2.1) F sc__law_lines (fun {S H vs z} h => by obtain ⟨script, many, width, _⟩ := z; obtain ⟨_, _, rfl, _, ⟨_, _, rfl, _, ⟨_, _, rfl, _, rfl⟩⟩⟩ := h; rfl)
    (fun cdv Ar outer s H E hr S z => by
      obtain ⟨script, many, width, _⟩ := z
      have scN := sc__law_lines.nd
      refine Run.cx (G' := [.bw (rSq K rInt) script, .val rInt many, .val rInt width, .any, .any, .any, .any, .any, .any, .any, .any, .any]) rfl ?_
      exact (Run.un fun l h_l =>
  Run.asgVP 3 scN (EvO.stayL (EvO.is h_l (EvO.callP (f := f__law_poured) (z := (script, 30, ())) c__law_poured hr (EvA.consBP (EvB.w (R := (rSq K rInt)) (y := script) 0) (EvA.consVP (EvB.val (EvB.int (i := 30))) (EvA.nil)))))) (Run.cx (G' := [.bw (rSq K rInt) script, .val rInt many, .val rInt width, .val (rL rInt) l, .any, .any, .any, .any, .any, .any, .any, .any]) rfl ((Run.letP fun lines h_lines =>
  Run.asgP 4 scN (EvO.isP h_lines (EvO.lst (EvIt.nil (O := oV (rL rInt))))) (Run.cx (G' := [.bw (rSq K rInt) script, .val rInt many, .val rInt width, .val (rL rInt) l, .ow (oL (oV (rL rInt))) lines, .any, .any, .any, .any, .any, .any, .any]) rfl ((Run.un fun r h_r =>
  Run.forP (bm := m__law_lines_b2 width l) (fun s : (List (List Int)) => [.bw (rSq K rInt) script, .val rInt many, .val rInt width, .val (rL rInt) l, .ow (oL (oV (rL rInt))) s, .any, .any, .any, .any, .any, .any, .any]) lines (Sub.m [] rfl) (ItS.is h_r (ItS.rng1P m_range (EvB.v (R := rInt) (y := many) 1))) (pg_name (i := 5) scN rfl (by first | exact .inl rfl | exact .inr rfl)) (tg1 5 (fun x : Int => .val rInt x)) (fun at_ s_ => Run.cx (G' := [.bw (rSq K rInt) script, .val rInt many, .val rInt width, .val (rL rInt) l, .ow (oL (oV (rL rInt))) s_, .val rInt at_, .any, .any, .any, .any, .any, .any]) rfl ((Run.letP fun line h_line =>
  Run.asgP 6 scN (EvO.isP h_line (EvO.lst (EvIt.nil (O := oV rInt)))) (Run.cx (G' := [.bw (rSq K rInt) script, .val rInt many, .val rInt width, .val (rL rInt) l, .ow (oL (oV (rL rInt))) s_, .val rInt at_, .ow (oL (oV rInt)) line, .any, .any, .any, .any, .any]) rfl ((Run.un fun r1 h_r1 =>
  Run.forP (bm := m__law_lines_b1 l at_) (fun s : (List Int) => [.bw (rSq K rInt) script, .val rInt many, .val rInt width, .val (rL rInt) l, .ow (oL (oV (rL rInt))) s_, .val rInt at_, .ow (oL (oV rInt)) s, .any, .any, .any, .any, .any]) line (Sub.m [] rfl) (ItS.is h_r1 (ItS.rng1P m_range (EvB.v (R := rInt) (y := width) 2))) (pg_name (i := 7) scN rfl (by first | exact .inl rfl | exact .inr rfl)) (tg1 7 (fun x : Int => .val rInt x)) (fun k s_1 => Run.cx (G' := [.bw (rSq K rInt) script, .val rInt many, .val rInt width, .val (rL rInt) l, .ow (oL (oV (rL rInt))) s_, .val rInt at_, .ow (oL (oV rInt)) s_1, .val rInt k, .any, .any, .any, .any]) rfl ((Run.un fun e h_e =>
  Run.asgVP 8 scN (EvB.val (EvB.is h_e (EvB.ixP (EvO.lendV (EvV.v (R := (rL rInt)) (y := l) 3)) (EvB.addP (EvB.mulLP 4 (EvB.v (R := rInt) (y := at_) 5)) (EvB.v (R := rInt) (y := k) 7))))) (Run.cx (G' := [.bw (rSq K rInt) script, .val rInt many, .val rInt width, .val (rL rInt) l, .ow (oL (oV (rL rInt))) s_, .val rInt at_, .ow (oL (oV rInt)) s_1, .val rInt k, .val rInt e, .any, .any, .any]) rfl ((Run.un fun z h_z =>
  (Run.un fun e1 h_e1 =>
  Run.appP 6 (EvB.val (EvB.is h_e1 (EvB.ixP (EvO.lendL (EvO.lst (EvIt.consP (EvB.val (EvB.subP (EvB.modCP 3 (EvB.v (R := rInt) (y := e) 8)) (EvB.int (i := 1)))) (EvIt.consP (EvB.val (EvB.subP (EvB.modCP 7 (EvB.v (R := rInt) (y := e) 8)) (EvB.int (i := 3)))) (EvIt.consP (EvB.val (EvB.is h_z (EvB.mulP (EvB.fdivCP 2 (EvB.v (R := rInt) (y := e) 8)) (EvB.subP (EvB.int (i := 1)) (EvB.mulLP 2 (EvB.modCP 2 (EvB.v (R := rInt) (y := e) 8))))))) (EvIt.nil)))))) (EvB.modCP 3 (EvB.fdivCP 7 (EvB.v (R := rInt) (y := e) 8)))))) (fun line1 => Run.cx (G' := [.bw (rSq K rInt) script, .val rInt many, .val rInt width, .val (rL rInt) l, .ow (oL (oV (rL rInt))) s_, .val rInt at_, .ow (oL (oV rInt)) line1, .val rInt k, .val rInt e, .any, .any, .any]) rfl (Run.nil (Sub.m [false, false, false, false, false, false, false, true, true] rfl)))))))))) (fun s_2 => (Run.un fun e2 h_e2 =>
  Run.asgVP 9 scN (EvB.val (EvB.modCP 5 (EvB.is h_e2 (EvB.ixP (EvO.lendV (EvV.v (R := (rL rInt)) (y := l) 3)) (EvB.addP (EvB.int (i := 24)) (EvB.v (R := rInt) (y := at_) 5)))))) (Run.cx (G' := [.bw (rSq K rInt) script, .val rInt many, .val rInt width, .val (rL rInt) l, .ow (oL (oV (rL rInt))) s_, .val rInt at_, .ow (oL (oV rInt)) s_2, .any, .any, .val rInt (e2 % 5), .any, .any]) rfl (Run.itePP (fun s : (List Int) => [.bw (rSq K rInt) script, .val rInt many, .val rInt width, .val (rL rInt) l, .ow (oL (oV (rL rInt))) s_, .val rInt at_, .ow (oL (oV rInt)) s, .any, .any, .val rInt (e2 % 5), .any, .any]) (Cm.t (Cm.eqeP (EvB.v (R := rInt) (y := (e2 % 5)) 9) (EvB.int (i := 0)))) ((Run.un fun r2 h_r2 =>
  (Run.letP fun line2 h_line2 =>
  Run.asgLcP 6 scN (LcOk.isP h_line2 (LcOk.mapP (g := fun (k1 : Int) => 0) (LcOk.all (f := fun (k1 : Int) => some 0) [("k", 7)] (ItC.is h_r2 (ItC.rng1P m_range (EvB.v (R := rInt) (y := width) 2))) (blkOk_by (N := N__law_lines) (sc := defScope s__law_lines) (by decide +kernel)) (fun _ _ _ _ _ => pg_name (i := 7) scN rfl (by first | exact .inl rfl | exact .inr rfl)) (tg1 7 (fun x : Int => .val rInt x)) (fun k1 _ _ _ _ _ _ _ => EvO.cx (G' := [.bw (rSq K rInt) script, .val rInt many, .val rInt width, .val (rL rInt) l, .bw (rL (rL rInt)) s_, .val rInt at_, .bw (rL rInt) s_2, .val rInt k1, .any, .val rInt (e2 % 5), .any, .any]) rfl (EvB.val (EvB.int (i := 0))))))) (Run.cx (G' := [.bw (rSq K rInt) script, .val rInt many, .val rInt width, .val (rL rInt) l, .ow (oL (oV (rL rInt))) s_, .val rInt at_, .ow (oL (oV rInt)) line2, .any, .any, .val rInt (e2 % 5), .any, .any]) rfl (Run.nil (Sub.m [] rfl))) (sw_true rfl rfl rfl (by decide +kernel))))) (Run.nil (Sub.m [] rfl)) (fun (s_3 : (List Int)) => Run.itePP (fun s : (List Int) => [.bw (rSq K rInt) script, .val rInt many, .val rInt width, .val (rL rInt) l, .ow (oL (oV (rL rInt))) s_, .val rInt at_, .ow (oL (oV rInt)) s, .any, .any, .val rInt (e2 % 5), .any, .any]) (TsW.t (TsW.andP (Cm.t (Cm.eqeP (EvB.v (R := rInt) (y := (e2 % 5)) 9) (EvB.int (i := 1)))) (TsW.and1 (Cm.t (Cm.gtP (EvB.v (R := rInt) (y := at_) 5) (EvB.int (i := 1))))))) ((Run.un fun e3 h_e3 =>
  (Run.letP fun one h_one =>
  Run.asgVP 10 scN (EvO.isP h_one (EvB.val (EvB.subP (EvB.modCP 5 (EvB.fdivCP 5 (EvB.is h_e3 (EvB.ixP (EvO.lendV (EvV.v (R := (rL rInt)) (y := l) 3)) (EvB.addP (EvB.int (i := 24)) (EvB.v (R := rInt) (y := at_) 5)))))) (EvB.int (i := 2))))) (Run.cx (G' := [.bw (rSq K rInt) script, .val rInt many, .val rInt width, .val (rL rInt) l, .ow (oL (oV (rL rInt))) s_, .val rInt at_, .ow (oL (oV rInt)) s_3, .any, .any, .val rInt (e2 % 5), .val rInt one, .any]) rfl ((Run.un fun e4 h_e4 =>
  (Run.un fun z1 h_z1 =>
  Run.asgVP 11 scN (EvB.val (EvB.is h_z1 (EvB.modP (EvB.fdivCP 25 (EvB.is h_e4 (EvB.ixP (EvO.lendV (EvV.v (R := (rL rInt)) (y := l) 3)) (EvB.addP (EvB.int (i := 24)) (EvB.v (R := rInt) (y := at_) 5))))) (EvB.powCP 10 20)))) (Run.cx (G' := [.bw (rSq K rInt) script, .val rInt many, .val rInt width, .val (rL rInt) l, .ow (oL (oV (rL rInt))) s_, .val rInt at_, .ow (oL (oV rInt)) s_3, .any, .any, .val rInt (e2 % 5), .val rInt one, .val rInt z1]) rfl ((Run.un fun r3 h_r3 =>
  (Run.un fun line3 h_line3 =>
  Run.asgLcP 6 scN (LcOk.is h_line3 (LcOk.all (f := fun (k2 : Int) => (atI s_ 0).bind fun e5 =>
  (atI e5 k2).bind fun e6 =>
  (mulO one e6).bind fun z2 =>
  (atI s_ (at_ - 1)).bind fun e7 =>
  (atI e7 k2).bind fun e8 =>
  (mulO z1 e8).bind fun z3 =>
  some (z2 + z3)) [("k", 7)] (ItC.is h_r3 (ItC.rng1P m_range (EvB.v (R := rInt) (y := width) 2))) (blkOk_by (N := N__law_lines) (sc := defScope s__law_lines) (by decide +kernel)) (fun _ _ _ _ _ => pg_name (i := 7) scN rfl (by first | exact .inl rfl | exact .inr rfl)) (tg1 7 (fun x : Int => .val rInt x)) (fun k2 _ _ _ _ _ _ _ => EvO.cx (G' := [.bw (rSq K rInt) script, .val rInt many, .val rInt width, .val (rL rInt) l, .bw (rL (rL rInt)) s_, .val rInt at_, .bw (rL rInt) s_3, .val rInt k2, .any, .val rInt (e2 % 5), .val rInt one, .val rInt z1]) rfl ((EvO.un fun e5 h_e5 =>
  (EvO.un fun e6 h_e6 =>
  (EvO.un fun z2 h_z2 =>
  (EvO.un fun e7 h_e7 =>
  (EvO.un fun e8 h_e8 =>
  (EvO.un fun z3 h_z3 =>
  EvB.val (EvB.addP (EvB.is h_z2 (EvB.mulP (EvB.v (R := rInt) (y := one) 10) (EvB.is h_e6 (EvB.ixP (EvB.is h_e5 (EvB.ixP (EvB.w (R := (rL (rL rInt))) (y := s_) 4) (EvB.int (i := 0)))) (EvB.v (R := rInt) (y := k2) 7))))) (EvB.is h_z3 (EvB.mulP (EvB.v (R := rInt) (y := z1) 11) (EvB.is h_e8 (EvB.ixP (EvB.is h_e7 (EvB.ixP (EvB.w (R := (rL (rL rInt))) (y := s_) 4) (EvB.subP (EvB.v (R := rInt) (y := at_) 5) (EvB.int (i := 1))))) (EvB.v (R := rInt) (y := k2) 7)))))))))))))))) (Run.cx (G' := [.bw (rSq K rInt) script, .val rInt many, .val rInt width, .val (rL rInt) l, .ow (oL (oV (rL rInt))) s_, .val rInt at_, .ow (oL (oV rInt)) line3, .any, .any, .val rInt (e2 % 5), .val rInt one, .val rInt z1]) rfl (Run.nil (Sub.m [false, false, false, false, false, false, false, false, false, false, true, true] rfl))) (sw_true rfl rfl rfl (by decide +kernel))))))))))))) (Run.nil (Sub.m [] rfl)) (fun (s_4 : (List Int)) => Run.freeze (O' := (oL (oV rInt))) 6 rfl (Run.cx (G' := [.bw (rSq K rInt) script, .val rInt many, .val rInt width, .val (rL rInt) l, .ow (oL (oV (rL rInt))) s_, .val rInt at_, .val (rL rInt) s_4, .any, .any, .val rInt (e2 % 5), .any, .any]) rfl (Run.appP 4 (EvV.v (R := (rL rInt)) (y := s_4) 6) (fun lines1 => Run.cx (G' := [.bw (rSq K rInt) script, .val rInt many, .val rInt width, .val (rL rInt) l, .ow (oL (oV (rL rInt))) lines1, .val rInt at_, .val (rL rInt) s_4, .any, .any, .val rInt (e2 % 5), .any, .any]) rfl (Run.nil (Sub.m [false, false, false, false, false, true, true, false, false, true] rfl))))))))))) PassesOwn.never)))))) (fun s_5 => Run.retO 4) PassesOwn.never))))))))
    (fun _ h => nomatch h) (fun z y h => h)
theorem w__law_lines {f : Addr} {fd : FuncData} (F : Fun K "_law_lines" "_law_lines" s__law_lines f fd) (gm : mg "_law_lines" = some (.ref f)) (b : Binds K fd ["script", "many", "width"] []) (c__law_poured : Fn P w K mg base 2 "_law_poured" (aB (rSq K rInt) (aV rInt aNil)) (oL (oV rInt)) f__law_poured []) (m_range : mg "range" = none) :
  Fn P w K mg base 3 "_law_lines" (aB (rSq K rInt) (aV rInt (aV rInt aNil))) (oL (oV (rL rInt))) f__law_lines [] := Fn.of (o__law_lines F c__law_poured m_range) gm F.kp b .nil
theorem o_from_lines {f : Addr} {fd : FuncData} (F : Fun K "from_lines" "from_lines" s_from_lines f fd) (c_look_at_hands : Fn P w K mg base 1 "look_at_hands" (aV rInt aNil) (oV rUnit) f_look_at_hands []) (c_hands_in : Fn P w K mg base 1 "hands_in" (aV rInt aNil) (oL (oV rInt)) f_hands_in []) (c_free_count : Fn P w K mg base 2 "free_count" (aB (rL (rL rInt)) aNil) (oV rInt) f_free_count []) {tk_MOST_HANDS : Tok} (q_MOST_HANDS : mg "MOST_HANDS" = some (.int 6 tk_MOST_HANDS)) (m_len : mg "len" = none) (m_range : mg "range" = none) :
  FnOk P w K mg base CX0 3 f fd ["lines"] (spOf (aV (rL (rL rInt)) aNil) (oL (oV rInt)) f_from_lines) :=
  fn_ok (k := 2) (d := none) (fb := fun z => b_from_lines z.1) F sc_from_lines (fun {S H vs z} h => by obtain ⟨lines, _⟩ := z; obtain ⟨_, _, rfl, _, rfl⟩ := h; rfl)
    (fun cdv Ar outer s H E hr S z => by
      obtain ⟨lines, _⟩ := z
      have scN := sc_from_lines.nd
      refine Run.cx (G' := [.val (rL (rL rInt)) lines, .any, .any, .any, .any]) rfl ?_
      exact (Run.un fun v h_v =>
  Run.exprP (EvB.val (EvO.lendV (EvO.is h_v (EvO.callP (f := f_look_at_hands) (z := ((lines.length : Int), ())) c_look_at_hands hr (EvA.consVP (EvB.val (EvB.lenP m_len (EvO.lendV (EvV.v (R := (rL (rL rInt))) (y := lines) 0)))) (EvA.nil)))))) (Run.cx (G' := [.val (rL (rL rInt)) lines, .any, .any, .any, .any]) rfl (Run.forP (bm := m_from_lines_b1 lines) (fun s : Unit => [.val (rL (rL rInt)) lines, .any, .any, .any, .any]) () (Sub.m [] rfl) (ItS.lstV (EvV.v (R := (rL (rL rInt))) (y := lines) 0)) (pg_name (i := 1) scN rfl (by first | exact .inl rfl | exact .inr rfl)) (tg1 1 (fun x : List Int => .val (rL rInt) x)) (fun line _s => Run.cx (G' := [.val (rL (rL rInt)) lines, .val (rL rInt) line, .any, .any, .any]) rfl ((Run.un fun e h_e =>
  Run.ifstuck (TsW.t (TsW.orP (Cm.t (Cm.neP (EvB.lenP m_len (EvO.lendV (EvV.v (R := (rL rInt)) (y := line) 1))) (EvB.lenP m_len (EvO.lendV (EvO.is h_e (EvV.ixP (EvV.v (R := (rL (rL rInt))) (y := lines) 0) (EvB.int (i := 0)))))))) (TsW.or1 (Cm.t (Cm.gtP (EvB.lenP m_len (EvO.lendV (EvV.v (R := (rL rInt)) (y := line) 1))) (EvB.globP q_MOST_HANDS)))))) (Run.nil (Sub.m [false, true] rfl))))) (fun _ => Run.asgP 2 scN (EvO.lst (EvIt.consP (EvB.val (EvB.int (i := 0))) (EvIt.nil))) (Run.cx (G' := [.val (rL (rL rInt)) lines, .any, .ow (oL (oV rInt)) [0], .any, .any]) rfl ((Run.un fun z h_z =>
  (Run.un fun r h_r =>
  Run.forP (bm := m_from_lines_b2 lines) (fun s : (List Int) => [.val (rL (rL rInt)) lines, .any, .ow (oL (oV rInt)) s, .any, .any]) [0] (Sub.m [] rfl) (ItS.is h_r (ItS.rng2P m_range (EvB.int (i := 1)) (EvB.is h_z (EvB.shlP (EvB.int (i := 1)) (EvB.lenP m_len (EvO.lendV (EvV.v (R := (rL (rL rInt))) (y := lines) 0))))))) (pg_name (i := 3) scN rfl (by first | exact .inl rfl | exact .inr rfl)) (tg1 3 (fun x : Int => .val rInt x)) (fun group s_2 => Run.cx (G' := [.val (rL (rL rInt)) lines, .any, .ow (oL (oV rInt)) s_2, .val rInt group, .any]) rfl ((Run.un fun l h_l =>
  (Run.un fun l1 h_l1 =>
  (Run.un fun v1 h_v1 =>
  Run.appP 2 (EvB.val (EvO.lendV (EvO.is h_v1 (EvO.callP (f := f_free_count) (z := (l1, ())) c_free_count hr (EvA.consBP (EvO.lendL (EvO.lc (LcOk.is h_l1 (LcOk.all (f := fun (hand : Int) => (atI lines hand).bind fun e1 =>
  some e1) [("hand", 4)] (ItC.lstF (EvO.lendL (EvO.is h_l (EvO.callP (f := f_hands_in) (z := (group, ())) c_hands_in hr (EvA.consVP (EvB.val (EvB.v (R := rInt) (y := group) 3)) (EvA.nil)))))) (blkOk_by (N := N_from_lines) (sc := defScope s_from_lines) (by decide +kernel)) (fun _ _ _ _ _ => pg_name (i := 4) scN rfl (by first | exact .inl rfl | exact .inr rfl)) (tg1 4 (fun x : Int => .val rInt x)) (fun hand _ _ _ _ _ _ _ => EvO.cx (G' := [.val (rL (rL rInt)) lines, .any, .bw (rL rInt) s_2, .val rInt group, .val rInt hand]) rfl ((EvO.un fun e1 h_e1 =>
  EvO.is h_e1 (EvV.ixP (EvV.v (R := (rL (rL rInt))) (y := lines) 0) (EvB.v (R := rInt) (y := hand) 4))))))) scN)) (EvA.nil)))))) (fun table => Run.cx (G' := [.val (rL (rL rInt)) lines, .any, .ow (oL (oV rInt)) table, .val rInt group, .any]) rfl (Run.nil (Sub.m [false, false, false, true] rfl)))))))) (fun s_3 => Run.retO 2) PassesOwn.never))))) PassesOwn.never))))
    (fun _ h => nomatch h) (fun z y h => h)
theorem w_from_lines {f : Addr} {fd : FuncData} (F : Fun K "from_lines" "from_lines" s_from_lines f fd) (gm : mg "from_lines" = some (.ref f)) (b : Binds K fd ["lines"] []) (c_look_at_hands : Fn P w K mg base 1 "look_at_hands" (aV rInt aNil) (oV rUnit) f_look_at_hands []) (c_hands_in : Fn P w K mg base 1 "hands_in" (aV rInt aNil) (oL (oV rInt)) f_hands_in []) (c_free_count : Fn P w K mg base 2 "free_count" (aB (rL (rL rInt)) aNil) (oV rInt) f_free_count []) {tk_MOST_HANDS : Tok} (q_MOST_HANDS : mg "MOST_HANDS" = some (.int 6 tk_MOST_HANDS)) (m_len : mg "len" = none) (m_range : mg "range" = none) :
  Fn P w K mg base 3 "from_lines" (aV (rL (rL rInt)) aNil) (oL (oV rInt)) f_from_lines [] := Fn.of (o_from_lines F c_look_at_hands c_hands_in c_free_count q_MOST_HANDS m_len m_range) gm F.kp b .nil
theorem o__law_square_3 {f : Addr} {fd : FuncData} (F : Fun K "_law_square" "_law_square" s__law_square f fd) (c__law_square_2 : Fn P w K mg base 2 "_law_square" (aV (rL (rL rInt)) (aB (rL rInt) aNil)) (oV rInt) f__law_square_2 []) (m_len : mg "len" = none) (m_range : mg "range" = none) :
  FnOk P w K mg base CX0 3 f fd ["lines", "places"] (spOf (aV (rL (rL rInt)) (aB (rL rInt) aNil)) (oV rInt) f__law_square_3) :=
  fn_ok (k := 2) (d := none) (fb := fun z => b__law_square_3 z.1 z.2.1) F sc__law_square (fun {S H vs z} h => by obtain ⟨lines, places, _⟩ := z; obtain ⟨_, _, rfl, _, ⟨_, _, rfl, _, rfl⟩⟩ := h; rfl)
    (fun cdv Ar outer s H E hr S z => by
      obtain ⟨lines, places, _⟩ := z
      have scN := sc__law_square.nd
      refine Run.cx (G' := [.val (rL (rL rInt)) lines, .bw (rL rInt) places, .any, .any, .any]) rfl ?_
      exact Run.ifrP (Cm.t (Cm.eqdP hr.units (EvO.lendV (EvV.v (R := (rL (rL rInt))) (y := lines) 0)) (EvO.lendL (EvO.lst (EvIt.nil (O := oV (rL rInt))))))) (EvB.val (EvB.int (i := 1))) (Run.asgVP 2 scN (EvB.val (EvB.int (i := 0))) (Run.cx (G' := [.val (rL (rL rInt)) lines, .bw (rL rInt) places, .val rInt 0, .any, .any]) rfl ((Run.un fun r h_r =>
  Run.forP (bm := m__law_square_3_b1 places lines) (fun s : Int => [.val (rL (rL rInt)) lines, .bw (rL rInt) places, .val rInt s, .any, .any]) 0 (Sub.m [] rfl) (ItS.is h_r (ItS.rng1P m_range (EvB.lenP m_len (EvB.w (R := (rL rInt)) (y := places) 1)))) (pg_name (i := 3) scN rfl (by first | exact .inl rfl | exact .inr rfl)) (tg1 3 (fun x : Int => .val rInt x)) (fun k s_ => Run.cx (G' := [.val (rL (rL rInt)) lines, .bw (rL rInt) places, .val rInt s_, .val rInt k, .any]) rfl ((Run.un fun l h_l =>
  (Run.un fun v h_v =>
  Run.asgVP 4 scN (EvB.val (EvO.lendV (EvO.is h_v (EvO.callP (f := f__law_square_2) (z := ((cutL lines (some 1) none), l, ())) c__law_square_2 hr (EvA.consVP (EvO.stayL (EvO.slVP (EvV.v (R := (rL (rL rInt))) (y := lines) 0) (PoOk.some (EvB.int (i := 1))) PoOk.none)) (EvA.consBP (EvO.lendL (EvO.is h_l (EvO.catBP (EvO.lendL (EvO.slBP (EvB.w (R := (rL rInt)) (y := places) 1) PoOk.none (PoOk.some (EvB.v (R := rInt) (y := k) 3)))) (EvO.lendL (EvO.slBP (EvB.w (R := (rL rInt)) (y := places) 1) (PoOk.some (EvB.addP (EvB.v (R := rInt) (y := k) 3) (EvB.int (i := 1)))) PoOk.none))))) (EvA.nil))))))) (Run.cx (G' := [.val (rL (rL rInt)) lines, .bw (rL rInt) places, .val rInt s_, .val rInt k, .val rInt v]) rfl ((Run.un fun e h_e =>
  (Run.un fun e1 h_e1 =>
  (Run.un fun e2 h_e2 =>
  (Run.un fun z h_z =>
  (Run.un fun z1 h_z1 =>
  Run.asgVP 2 scN (EvB.val (EvB.addP (EvB.v (R := rInt) (y := s_) 2) (EvB.is h_z1 (EvB.mulP (EvB.is h_z (EvB.mulP (EvB.subP (EvB.int (i := 1)) (EvB.mulLP 2 (EvB.modCP 2 (EvB.v (R := rInt) (y := k) 3)))) (EvB.is h_e2 (EvB.ixP (EvO.lendV (EvO.is h_e (EvV.ixP (EvV.v (R := (rL (rL rInt))) (y := lines) 0) (EvB.int (i := 0))))) (EvB.is h_e1 (EvB.ixP (EvB.w (R := (rL rInt)) (y := places) 1) (EvB.v (R := rInt) (y := k) 3))))))) (EvB.v (R := rInt) (y := v) 4))))) (Run.cx (G' := [.val (rL (rL rInt)) lines, .bw (rL rInt) places, .val rInt (s_ + z1), .val rInt k, .val rInt v]) rfl (Run.nil (Sub.m [false, false, false, true, true] rfl)))))))))))))) (fun s_1 => Run.retP (EvB.val (EvB.v (R := rInt) (y := s_1) 2))) PassesOwn.never)))))
    (fun _ h => nomatch h) (fun z y h => h)
theorem w__law_square_3 {f : Addr} {fd : FuncData} (F : Fun K "_law_square" "_law_square" s__law_square f fd) (gm : mg "_law_square" = some (.ref f)) (b : Binds K fd ["lines", "places"] []) (c__law_square_2 : Fn P w K mg base 2 "_law_square" (aV (rL (rL rInt)) (aB (rL rInt) aNil)) (oV rInt) f__law_square_2 []) (m_len : mg "len" = none) (m_range : mg "range" = none) :
  Fn P w K mg base 3 "_law_square" (aV (rL (rL rInt)) (aB (rL rInt) aNil)) (oV rInt) f__law_square_3 [] := Fn.of (o__law_square_3 F c__law_square_2 m_len m_range) gm F.kp b .nil
theorem o__law_square_4 {f : Addr} {fd : FuncData} (F : Fun K "_law_square" "_law_square" s__law_square f fd) (c__law_square_3 : Fn P w K mg base 3 "_law_square" (aV (rL (rL rInt)) (aB (rL rInt) aNil)) (oV rInt) f__law_square_3 []) (m_len : mg "len" = none) (m_range : mg "range" = none) :
  FnOk P w K mg base CX0 4 f fd ["lines", "places"] (spOf (aV (rL (rL rInt)) (aB (rL rInt) aNil)) (oV rInt) f__law_square_4) :=
  fn_ok (k := 3) (d := none) (fb := fun z => b__law_square_4 z.1 z.2.1) F sc__law_square (fun {S H vs z} h => by obtain ⟨lines, places, _⟩ := z; obtain ⟨_, _, rfl, _, ⟨_, _, rfl, _, rfl⟩⟩ := h; rfl)
    (fun cdv Ar outer s H E hr S z => by
      obtain ⟨lines, places, _⟩ := z
      have scN := sc__law_square.nd
      refine Run.cx (G' := [.val (rL (rL rInt)) lines, .bw (rL rInt) places, .any, .any, .any]) rfl ?_
      exact Run.ifrP (Cm.t (Cm.eqdP hr.units (EvO.lendV (EvV.v (R := (rL (rL rInt))) (y := lines) 0)) (EvO.lendL (EvO.lst (EvIt.nil (O := oV (rL rInt))))))) (EvB.val (EvB.int (i := 1))) (Run.asgVP 2 scN (EvB.val (EvB.int (i := 0))) (Run.cx (G' := [.val (rL (rL rInt)) lines, .bw (rL rInt) places, .val rInt 0, .any, .any]) rfl ((Run.un fun r h_r =>
  Run.forP (bm := m__law_square_4_b1 places lines) (fun s : Int => [.val (rL (rL rInt)) lines, .bw (rL rInt) places, .val rInt s, .any, .any]) 0 (Sub.m [] rfl) (ItS.is h_r (ItS.rng1P m_range (EvB.lenP m_len (EvB.w (R := (rL rInt)) (y := places) 1)))) (pg_name (i := 3) scN rfl (by first | exact .inl rfl | exact .inr rfl)) (tg1 3 (fun x : Int => .val rInt x)) (fun k s_ => Run.cx (G' := [.val (rL (rL rInt)) lines, .bw (rL rInt) places, .val rInt s_, .val rInt k, .any]) rfl ((Run.un fun l h_l =>
  (Run.un fun v h_v =>
  Run.asgVP 4 scN (EvB.val (EvO.lendV (EvO.is h_v (EvO.callP (f := f__law_square_3) (z := ((cutL lines (some 1) none), l, ())) c__law_square_3 hr (EvA.consVP (EvO.stayL (EvO.slVP (EvV.v (R := (rL (rL rInt))) (y := lines) 0) (PoOk.some (EvB.int (i := 1))) PoOk.none)) (EvA.consBP (EvO.lendL (EvO.is h_l (EvO.catBP (EvO.lendL (EvO.slBP (EvB.w (R := (rL rInt)) (y := places) 1) PoOk.none (PoOk.some (EvB.v (R := rInt) (y := k) 3)))) (EvO.lendL (EvO.slBP (EvB.w (R := (rL rInt)) (y := places) 1) (PoOk.some (EvB.addP (EvB.v (R := rInt) (y := k) 3) (EvB.int (i := 1)))) PoOk.none))))) (EvA.nil))))))) (Run.cx (G' := [.val (rL (rL rInt)) lines, .bw (rL rInt) places, .val rInt s_, .val rInt k, .val rInt v]) rfl ((Run.un fun e h_e =>
  (Run.un fun e1 h_e1 =>
  (Run.un fun e2 h_e2 =>
  (Run.un fun z h_z =>
  (Run.un fun z1 h_z1 =>
  Run.asgVP 2 scN (EvB.val (EvB.addP (EvB.v (R := rInt) (y := s_) 2) (EvB.is h_z1 (EvB.mulP (EvB.is h_z (EvB.mulP (EvB.subP (EvB.int (i := 1)) (EvB.mulLP 2 (EvB.modCP 2 (EvB.v (R := rInt) (y := k) 3)))) (EvB.is h_e2 (EvB.ixP (EvO.lendV (EvO.is h_e (EvV.ixP (EvV.v (R := (rL (rL rInt))) (y := lines) 0) (EvB.int (i := 0))))) (EvB.is h_e1 (EvB.ixP (EvB.w (R := (rL rInt)) (y := places) 1) (EvB.v (R := rInt) (y := k) 3))))))) (EvB.v (R := rInt) (y := v) 4))))) (Run.cx (G' := [.val (rL (rL rInt)) lines, .bw (rL rInt) places, .val rInt (s_ + z1), .val rInt k, .val rInt v]) rfl (Run.nil (Sub.m [false, false, false, true, true] rfl)))))))))))))) (fun s_1 => Run.retP (EvB.val (EvB.v (R := rInt) (y := s_1) 2))) PassesOwn.never)))))
    (fun _ h => nomatch h) (fun z y h => h)
theorem w__law_square_4 {f : Addr} {fd : FuncData} (F : Fun K "_law_square" "_law_square" s__law_square f fd) (gm : mg "_law_square" = some (.ref f)) (b : Binds K fd ["lines", "places"] []) (c__law_square_3 : Fn P w K mg base 3 "_law_square" (aV (rL (rL rInt)) (aB (rL rInt) aNil)) (oV rInt) f__law_square_3 []) (m_len : mg "len" = none) (m_range : mg "range" = none) :
  Fn P w K mg base 4 "_law_square" (aV (rL (rL rInt)) (aB (rL rInt) aNil)) (oV rInt) f__law_square_4 [] := Fn.of (o__law_square_4 F c__law_square_3 m_len m_range) gm F.kp b .nil
theorem o__law_square_5 {f : Addr} {fd : FuncData} (F : Fun K "_law_square" "_law_square" s__law_square f fd) (c__law_square_4 : Fn P w K mg base 4 "_law_square" (aV (rL (rL rInt)) (aB (rL rInt) aNil)) (oV rInt) f__law_square_4 []) (m_len : mg "len" = none) (m_range : mg "range" = none) :
  FnOk P w K mg base CX0 5 f fd ["lines", "places"] (spOf (aV (rL (rL rInt)) (aB (rL rInt) aNil)) (oV rInt) f__law_square_5) :=
  fn_ok (k := 4) (d := none) (fb := fun z => b__law_square_5 z.1 z.2.1) F sc__law_square (fun {S H vs z} h => by obtain ⟨lines, places, _⟩ := z; obtain ⟨_, _, rfl, _, ⟨_, _, rfl, _, rfl⟩⟩ := h; rfl)
    (fun cdv Ar outer s H E hr S z => by
      obtain ⟨lines, places, _⟩ := z
      have scN := sc__law_square.nd
      refine Run.cx (G' := [.val (rL (rL rInt)) lines, .bw (rL rInt) places, .any, .any, .any]) rfl ?_
      exact Run.ifrP (Cm.t (Cm.eqdP hr.units (EvO.lendV (EvV.v (R := (rL (rL rInt))) (y := lines) 0)) (EvO.lendL (EvO.lst (EvIt.nil (O := oV (rL rInt))))))) (EvB.val (EvB.int (i := 1))) (Run.asgVP 2 scN (EvB.val (EvB.int (i := 0))) (Run.cx (G' := [.val (rL (rL rInt)) lines, .bw (rL rInt) places, .val rInt 0, .any, .any]) rfl ((Run.un fun r h_r =>
  Run.forP (bm := m__law_square_5_b1 places lines) (fun s : Int => [.val (rL (rL rInt)) lines, .bw (rL rInt) places, .val rInt s, .any, .any]) 0 (Sub.m [] rfl) (ItS.is h_r (ItS.rng1P m_range (EvB.lenP m_len (EvB.w (R := (rL rInt)) (y := places) 1)))) (pg_name (i := 3) scN rfl (by first | exact .inl rfl | exact .inr rfl)) (tg1 3 (fun x : Int => .val rInt x)) (fun k s_ => Run.cx (G' := [.val (rL (rL rInt)) lines, .bw (rL rInt) places, .val rInt s_, .val rInt k, .any]) rfl ((Run.un fun l h_l =>
  (Run.un fun v h_v =>
  Run.asgVP 4 scN (EvB.val (EvO.lendV (EvO.is h_v (EvO.callP (f := f__law_square_4) (z := ((cutL lines (some 1) none), l, ())) c__law_square_4 hr (EvA.consVP (EvO.stayL (EvO.slVP (EvV.v (R := (rL (rL rInt))) (y := lines) 0) (PoOk.some (EvB.int (i := 1))) PoOk.none)) (EvA.consBP (EvO.lendL (EvO.is h_l (EvO.catBP (EvO.lendL (EvO.slBP (EvB.w (R := (rL rInt)) (y := places) 1) PoOk.none (PoOk.some (EvB.v (R := rInt) (y := k) 3)))) (EvO.lendL (EvO.slBP (EvB.w (R := (rL rInt)) (y := places) 1) (PoOk.some (EvB.addP (EvB.v (R := rInt) (y := k) 3) (EvB.int (i := 1)))) PoOk.none))))) (EvA.nil))))))) (Run.cx (G' := [.val (rL (rL rInt)) lines, .bw (rL rInt) places, .val rInt s_, .val rInt k, .val rInt v]) rfl ((Run.un fun e h_e =>
  (Run.un fun e1 h_e1 =>
  (Run.un fun e2 h_e2 =>
  (Run.un fun z h_z =>
  (Run.un fun z1 h_z1 =>
  Run.asgVP 2 scN (EvB.val (EvB.addP (EvB.v (R := rInt) (y := s_) 2) (EvB.is h_z1 (EvB.mulP (EvB.is h_z (EvB.mulP (EvB.subP (EvB.int (i := 1)) (EvB.mulLP 2 (EvB.modCP 2 (EvB.v (R := rInt) (y := k) 3)))) (EvB.is h_e2 (EvB.ixP (EvO.lendV (EvO.is h_e (EvV.ixP (EvV.v (R := (rL (rL rInt))) (y := lines) 0) (EvB.int (i := 0))))) (EvB.is h_e1 (EvB.ixP (EvB.w (R := (rL rInt)) (y := places) 1) (EvB.v (R := rInt) (y := k) 3))))))) (EvB.v (R := rInt) (y := v) 4))))) (Run.cx (G' := [.val (rL (rL rInt)) lines, .bw (rL rInt) places, .val rInt (s_ + z1), .val rInt k, .val rInt v]) rfl (Run.nil (Sub.m [false, false, false, true, true] rfl)))))))))))))) (fun s_1 => Run.retP (EvB.val (EvB.v (R := rInt) (y := s_1) 2))) PassesOwn.never)))))
    (fun _ h => nomatch h) (fun z y h => h)
theorem w__law_square_5 {f : Addr} {fd : FuncData} (F : Fun K "_law_square" "_law_square" s__law_square f fd) (gm : mg "_law_square" = some (.ref f)) (b : Binds K fd ["lines", "places"] []) (c__law_square_4 : Fn P w K mg base 4 "_law_square" (aV (rL (rL rInt)) (aB (rL rInt) aNil)) (oV rInt) f__law_square_4 []) (m_len : mg "len" = none) (m_range : mg "range" = none) :
  Fn P w K mg base 5 "_law_square" (aV (rL (rL rInt)) (aB (rL rInt) aNil)) (oV rInt) f__law_square_5 [] := Fn.of (o__law_square_5 F c__law_square_4 m_len m_range) gm F.kp b .nil
theorem o__law_square_6 {f : Addr} {fd : FuncData} (F : Fun K "_law_square" "_law_square" s__law_square f fd) (c__law_square_5 : Fn P w K mg base 5 "_law_square" (aV (rL (rL rInt)) (aB (rL rInt) aNil)) (oV rInt) f__law_square_5 []) (m_len : mg "len" = none) (m_range : mg "range" = none) :
  FnOk P w K mg base CX0 6 f fd ["lines", "places"] (spOf (aV (rL (rL rInt)) (aB (rL rInt) aNil)) (oV rInt) f__law_square_6) :=
  fn_ok (k := 5) (d := none) (fb := fun z => b__law_square_6 z.1 z.2.1) F sc__law_square (fun {S H vs z} h => by obtain ⟨lines, places, _⟩ := z; obtain ⟨_, _, rfl, _, ⟨_, _, rfl, _, rfl⟩⟩ := h; rfl)
    (fun cdv Ar outer s H E hr S z => by
      obtain ⟨lines, places, _⟩ := z
      have scN := sc__law_square.nd
      refine Run.cx (G' := [.val (rL (rL rInt)) lines, .bw (rL rInt) places, .any, .any, .any]) rfl ?_
      exact Run.ifrP (Cm.t (Cm.eqdP hr.units (EvO.lendV (EvV.v (R := (rL (rL rInt))) (y := lines) 0)) (EvO.lendL (EvO.lst (EvIt.nil (O := oV (rL rInt))))))) (EvB.val (EvB.int (i := 1))) (Run.asgVP 2 scN (EvB.val (EvB.int (i := 0))) (Run.cx (G' := [.val (rL (rL rInt)) lines, .bw (rL rInt) places, .val rInt 0, .any, .any]) rfl ((Run.un fun r h_r =>
  Run.forP (bm := m__law_square_6_b1 places lines) (fun s : Int => [.val (rL (rL rInt)) lines, .bw (rL rInt) places, .val rInt s, .any, .any]) 0 (Sub.m [] rfl) (ItS.is h_r (ItS.rng1P m_range (EvB.lenP m_len (EvB.w (R := (rL rInt)) (y := places) 1)))) (pg_name (i := 3) scN rfl (by first | exact .inl rfl | exact .inr rfl)) (tg1 3 (fun x : Int => .val rInt x)) (fun k s_ => Run.cx (G' := [.val (rL (rL rInt)) lines, .bw (rL rInt) places, .val rInt s_, .val rInt k, .any]) rfl ((Run.un fun l h_l =>
  (Run.un fun v h_v =>
  Run.asgVP 4 scN (EvB.val (EvO.lendV (EvO.is h_v (EvO.callP (f := f__law_square_5) (z := ((cutL lines (some 1) none), l, ())) c__law_square_5 hr (EvA.consVP (EvO.stayL (EvO.slVP (EvV.v (R := (rL (rL rInt))) (y := lines) 0) (PoOk.some (EvB.int (i := 1))) PoOk.none)) (EvA.consBP (EvO.lendL (EvO.is h_l (EvO.catBP (EvO.lendL (EvO.slBP (EvB.w (R := (rL rInt)) (y := places) 1) PoOk.none (PoOk.some (EvB.v (R := rInt) (y := k) 3)))) (EvO.lendL (EvO.slBP (EvB.w (R := (rL rInt)) (y := places) 1) (PoOk.some (EvB.addP (EvB.v (R := rInt) (y := k) 3) (EvB.int (i := 1)))) PoOk.none))))) (EvA.nil))))))) (Run.cx (G' := [.val (rL (rL rInt)) lines, .bw (rL rInt) places, .val rInt s_, .val rInt k, .val rInt v]) rfl ((Run.un fun e h_e =>
  (Run.un fun e1 h_e1 =>
  (Run.un fun e2 h_e2 =>
  (Run.un fun z h_z =>
  (Run.un fun z1 h_z1 =>
  Run.asgVP 2 scN (EvB.val (EvB.addP (EvB.v (R := rInt) (y := s_) 2) (EvB.is h_z1 (EvB.mulP (EvB.is h_z (EvB.mulP (EvB.subP (EvB.int (i := 1)) (EvB.mulLP 2 (EvB.modCP 2 (EvB.v (R := rInt) (y := k) 3)))) (EvB.is h_e2 (EvB.ixP (EvO.lendV (EvO.is h_e (EvV.ixP (EvV.v (R := (rL (rL rInt))) (y := lines) 0) (EvB.int (i := 0))))) (EvB.is h_e1 (EvB.ixP (EvB.w (R := (rL rInt)) (y := places) 1) (EvB.v (R := rInt) (y := k) 3))))))) (EvB.v (R := rInt) (y := v) 4))))) (Run.cx (G' := [.val (rL (rL rInt)) lines, .bw (rL rInt) places, .val rInt (s_ + z1), .val rInt k, .val rInt v]) rfl (Run.nil (Sub.m [false, false, false, true, true] rfl)))))))))))))) (fun s_1 => Run.retP (EvB.val (EvB.v (R := rInt) (y := s_1) 2))) PassesOwn.never)))))
    (fun _ h => nomatch h) (fun z y h => h)
theorem w__law_square_6 {f : Addr} {fd : FuncData} (F : Fun K "_law_square" "_law_square" s__law_square f fd) (gm : mg "_law_square" = some (.ref f)) (b : Binds K fd ["lines", "places"] []) (c__law_square_5 : Fn P w K mg base 5 "_law_square" (aV (rL (rL rInt)) (aB (rL rInt) aNil)) (oV rInt) f__law_square_5 []) (m_len : mg "len" = none) (m_range : mg "range" = none) :
  Fn P w K mg base 6 "_law_square" (aV (rL (rL rInt)) (aB (rL rInt) aNil)) (oV rInt) f__law_square_6 [] := Fn.of (o__law_square_6 F c__law_square_5 m_len m_range) gm F.kp b .nil
theorem o__law_square_7 {f : Addr} {fd : FuncData} (F : Fun K "_law_square" "_law_square" s__law_square f fd) (c__law_square_6 : Fn P w K mg base 6 "_law_square" (aV (rL (rL rInt)) (aB (rL rInt) aNil)) (oV rInt) f__law_square_6 []) (m_len : mg "len" = none) (m_range : mg "range" = none) :
  FnOk P w K mg base CX0 7 f fd ["lines", "places"] (spOf (aV (rL (rL rInt)) (aB (rL rInt) aNil)) (oV rInt) f__law_square_7) :=
  fn_ok (k := 6) (d := none) (fb := fun z => b__law_square_7 z.1 z.2.1) F sc__law_square (fun {S H vs z} h => by obtain ⟨lines, places, _⟩ := z; obtain ⟨_, _, rfl, _, ⟨_, _, rfl, _, rfl⟩⟩ := h; rfl)
    (fun cdv Ar outer s H E hr S z => by
      obtain ⟨lines, places, _⟩ := z
      have scN := sc__law_square.nd
      refine Run.cx (G' := [.val (rL (rL rInt)) lines, .bw (rL rInt) places, .any, .any, .any]) rfl ?_
      exact Run.ifrP (Cm.t (Cm.eqdP hr.units (EvO.lendV (EvV.v (R := (rL (rL rInt))) (y := lines) 0)) (EvO.lendL (EvO.lst (EvIt.nil (O := oV (rL rInt))))))) (EvB.val (EvB.int (i := 1))) (Run.asgVP 2 scN (EvB.val (EvB.int (i := 0))) (Run.cx (G' := [.val (rL (rL rInt)) lines, .bw (rL rInt) places, .val rInt 0, .any, .any]) rfl ((Run.un fun r h_r =>
  Run.forP (bm := m__law_square_7_b1 places lines) (fun s : Int => [.val (rL (rL rInt)) lines, .bw (rL rInt) places, .val rInt s, .any, .any]) 0 (Sub.m [] rfl) (ItS.is h_r (ItS.rng1P m_range (EvB.lenP m_len (EvB.w (R := (rL rInt)) (y := places) 1)))) (pg_name (i := 3) scN rfl (by first | exact .inl rfl | exact .inr rfl)) (tg1 3 (fun x : Int => .val rInt x)) (fun k s_ => Run.cx (G' := [.val (rL (rL rInt)) lines, .bw (rL rInt) places, .val rInt s_, .val rInt k, .any]) rfl ((Run.un fun l h_l =>
  (Run.un fun v h_v =>
  Run.asgVP 4 scN (EvB.val (EvO.lendV (EvO.is h_v (EvO.callP (f := f__law_square_6) (z := ((cutL lines (some 1) none), l, ())) c__law_square_6 hr (EvA.consVP (EvO.stayL (EvO.slVP (EvV.v (R := (rL (rL rInt))) (y := lines) 0) (PoOk.some (EvB.int (i := 1))) PoOk.none)) (EvA.consBP (EvO.lendL (EvO.is h_l (EvO.catBP (EvO.lendL (EvO.slBP (EvB.w (R := (rL rInt)) (y := places) 1) PoOk.none (PoOk.some (EvB.v (R := rInt) (y := k) 3)))) (EvO.lendL (EvO.slBP (EvB.w (R := (rL rInt)) (y := places) 1) (PoOk.some (EvB.addP (EvB.v (R := rInt) (y := k) 3) (EvB.int (i := 1)))) PoOk.none))))) (EvA.nil))))))) (Run.cx (G' := [.val (rL (rL rInt)) lines, .bw (rL rInt) places, .val rInt s_, .val rInt k, .val rInt v]) rfl ((Run.un fun e h_e =>
  (Run.un fun e1 h_e1 =>
  (Run.un fun e2 h_e2 =>
  (Run.un fun z h_z =>
  (Run.un fun z1 h_z1 =>
  Run.asgVP 2 scN (EvB.val (EvB.addP (EvB.v (R := rInt) (y := s_) 2) (EvB.is h_z1 (EvB.mulP (EvB.is h_z (EvB.mulP (EvB.subP (EvB.int (i := 1)) (EvB.mulLP 2 (EvB.modCP 2 (EvB.v (R := rInt) (y := k) 3)))) (EvB.is h_e2 (EvB.ixP (EvO.lendV (EvO.is h_e (EvV.ixP (EvV.v (R := (rL (rL rInt))) (y := lines) 0) (EvB.int (i := 0))))) (EvB.is h_e1 (EvB.ixP (EvB.w (R := (rL rInt)) (y := places) 1) (EvB.v (R := rInt) (y := k) 3))))))) (EvB.v (R := rInt) (y := v) 4))))) (Run.cx (G' := [.val (rL (rL rInt)) lines, .bw (rL rInt) places, .val rInt (s_ + z1), .val rInt k, .val rInt v]) rfl (Run.nil (Sub.m [false, false, false, true, true] rfl)))))))))))))) (fun s_1 => Run.retP (EvB.val (EvB.v (R := rInt) (y := s_1) 2))) PassesOwn.never)))))
    (fun _ h => nomatch h) (fun z y h => h)
theorem w__law_square_7 {f : Addr} {fd : FuncData} (F : Fun K "_law_square" "_law_square" s__law_square f fd) (gm : mg "_law_square" = some (.ref f)) (b : Binds K fd ["lines", "places"] []) (c__law_square_6 : Fn P w K mg base 6 "_law_square" (aV (rL (rL rInt)) (aB (rL rInt) aNil)) (oV rInt) f__law_square_6 []) (m_len : mg "len" = none) (m_range : mg "range" = none) :
  Fn P w K mg base 7 "_law_square" (aV (rL (rL rInt)) (aB (rL rInt) aNil)) (oV rInt) f__law_square_7 [] := Fn.of (o__law_square_7 F c__law_square_6 m_len m_range) gm F.kp b .nil
theorem o__law_are_free {f : Addr} {fd : FuncData} (F : Fun K "_law_are_free" "_law_are_free" s__law_are_free f fd) (c__law_square_7 : Fn P w K mg base 7 "_law_square" (aV (rL (rL rInt)) (aB (rL rInt) aNil)) (oV rInt) f__law_square_7 []) (m_len : mg "len" = none) (m_range : mg "range" = none) :
  FnOk P w K mg base CX0 8 f fd ["lines", "width"] (spOf (aV (rL (rL rInt)) (aV rInt aNil)) (oV rBool) f__law_are_free) :=
  fn_ok (k := 7) (d := none) (fb := fun z => b__law_are_free z.1 z.2.1) F sc__law_are_free (fun {S H vs z} h => by obtain ⟨lines, width, _⟩ := z; obtain ⟨_, _, rfl, _, ⟨_, _, rfl, _, rfl⟩⟩ := h; rfl)
    (fun cdv Ar outer s H E hr S z => by
      obtain ⟨lines, width, _⟩ := z
      have scN := sc__law_are_free.nd
      refine Run.cx (G' := [.val (rL (rL rInt)) lines, .val rInt width, .any, .any, .any]) rfl ?_
      exact (Run.un fun z h_z =>
  (Run.un fun r h_r =>
  Run.forP (bm := m__law_are_free_b1 width lines) (fun s : Unit => [.val (rL (rL rInt)) lines, .val rInt width, .any, .any, .any]) () (Sub.m [] rfl) (ItS.is h_r (ItS.rng1P m_range (EvB.is h_z (EvB.shlP (EvB.int (i := 1)) (EvB.v (R := rInt) (y := width) 1))))) (pg_name (i := 2) scN rfl (by first | exact .inl rfl | exact .inr rfl)) (tg1 2 (fun x : Int => .val rInt x)) (fun places _s => Run.cx (G' := [.val (rL (rL rInt)) lines, .val rInt width, .val rInt places, .any, .any]) rfl ((Run.un fun r1 h_r1 =>
  (Run.un fun some_ h_some_ =>
  Run.asgLcP 3 scN (LcOk.is h_some_ (LcOk.if (c := fun (k : Int) => (shrO places k).bind fun z1 =>
  some (decide ((Builtin.bitAnd z1 1) = 1))) (f := fun (k : Int) => some k) [("k", 4)] (ItC.is h_r1 (ItC.rng1P m_range (EvB.v (R := rInt) (y := width) 1))) (blkOk_by (N := N__law_are_free) (sc := defScope s__law_are_free) (by decide +kernel)) (fun _ _ _ _ _ => pg_name (i := 4) scN rfl (by first | exact .inl rfl | exact .inr rfl)) (tg1 4 (fun x : Int => .val rInt x)) (fun k _ _ _ _ _ _ _ => Tst.cx (G' := [.val (rL (rL rInt)) lines, .val rInt width, .val rInt places, .any, .val rInt k]) rfl ((Tst.un fun z1 h_z1 =>
  Cm.t (Cm.eqeP (EvB.bandP (EvB.is h_z1 (EvB.shrP (EvB.v (R := rInt) (y := places) 2) (EvB.v (R := rInt) (y := k) 4))) (EvB.int (i := 1))) (EvB.int (i := 1)))))) (fun k _ _ _ _ _ _ _ => EvO.cx (G' := [.val (rL (rL rInt)) lines, .val rInt width, .val rInt places, .any, .val rInt k]) rfl (EvB.val (EvB.v (R := rInt) (y := k) 4))))) (Run.freeze (O' := (oL (oV rInt))) 3 rfl (Run.cx (G' := [.val (rL (rL rInt)) lines, .val rInt width, .val rInt places, .val (rL rInt) some_, .any]) rfl ((Run.un fun t h_t =>
  Run.ifrP (Tst.is h_t (TsW.t (TsW.andM (Cm.t (Cm.eqeP (EvB.lenP m_len (EvO.lendV (EvV.v (R := (rL rInt)) (y := some_) 3))) (EvB.lenP m_len (EvO.lendV (EvV.v (R := (rL (rL rInt))) (y := lines) 0))))) ((TsW.un fun v h_v =>
  TsW.and1 (Cm.t (Cm.neP (EvO.lendV (EvO.is h_v (EvO.callP (f := f__law_square_7) (z := (lines, some_, ())) c__law_square_7 hr (EvA.consVP (EvV.v (R := (rL (rL rInt))) (y := lines) 0) (EvA.consBP (EvO.lendV (EvV.v (R := (rL rInt)) (y := some_) 3)) (EvA.nil)))))) (EvB.int (i := 0))))))))) (EvB.val (EvB.bl)) (Run.nil (Sub.m [false, false, true, true] rfl)))))) (sw_true rfl rfl rfl (by decide +kernel)))))) (fun _ => Run.retP (EvB.val (EvB.bl))) PassesOwn.never)))
    (fun _ h => nomatch h) (fun z y h => h)
theorem w__law_are_free {f : Addr} {fd : FuncData} (F : Fun K "_law_are_free" "_law_are_free" s__law_are_free f fd) (gm : mg "_law_are_free" = some (.ref f)) (b : Binds K fd ["lines", "width"] []) (c__law_square_7 : Fn P w K mg base 7 "_law_square" (aV (rL (rL rInt)) (aB (rL rInt) aNil)) (oV rInt) f__law_square_7 []) (m_len : mg "len" = none) (m_range : mg "range" = none) :
  Fn P w K mg base 8 "_law_are_free" (aV (rL (rL rInt)) (aV rInt aNil)) (oV rBool) f__law_are_free [] := Fn.of (o__law_are_free F c__law_square_7 m_len m_range) gm F.kp b .nil
theorem o_law {f : Addr} {fd : FuncData} (F : Fun K "law" "law" s_law f fd) (c__law_cell : Fn P w K mg base 1 "_law_cell" (aB (rSq K rInt) (aV rInt aNil)) (oV rInt) f__law_cell []) (c__law_lines : Fn P w K mg base 3 "_law_lines" (aB (rSq K rInt) (aV rInt (aV rInt aNil))) (oL (oV (rL rInt))) f__law_lines []) (c_from_lines : Fn P w K mg base 3 "from_lines" (aV (rL (rL rInt)) aNil) (oL (oV rInt)) f_from_lines []) (c__law_hands : Fn P w K mg base 1 "_law_hands" (aV rInt aNil) (oL (oV rInt)) f__law_hands []) (c__law_are_free : Fn P w K mg base 8 "_law_are_free" (aV (rL (rL rInt)) (aV rInt aNil)) (oV rBool) f__law_are_free []) (c__law_numbers : Fn P w K mg base 2 "_law_numbers" (aB (rL rInt) (aB (rL rInt) aNil)) (oV rBool) f__law_numbers []) (c__law_breaks : Fn P w K mg base 1 "_law_breaks" (aB (rL rInt) (aV rInt aNil)) (oL (oV (rT (rsCons rInt (rsCons rInt (rsOne rInt)))))) f__law_breaks []) (m_len : mg "len" = none) (m_list : mg "list" = none) (m_max : mg "max" = none) (m_range : mg "range" = none) :
  FnOk P w K mg base CX0 9 f fd ["script"] (spOf (aB (rSq K rInt) aNil) (oV rBool) f_law) :=
  fn_ok (k := 8) (d := none) (fb := fun z => b_law z.1) F sc_law (fun {S H vs z} h => by obtain ⟨script, _⟩ := z; obtain ⟨_, _, rfl, _, rfl⟩ := h; rfl)
    (fun cdv Ar outer s H E hr S z => by
      obtain ⟨script, _⟩ := z
      have scN := sc_law.nd
      refine Run.cx (G' := [.bw (rSq K rInt) script, .any, .any, .any, .any, .any, .any, .any, .any, .any, .any, .any]) rfl ?_
      exact (Run.un fun v h_v =>
  (Run.letP fun many h_many =>
  Run.asgVP 1 scN (EvO.isP h_many (EvB.val (EvB.addP (EvB.int (i := 1)) (EvB.modCP 4 (EvO.lendV (EvO.is h_v (EvO.callP (f := f__law_cell) (z := (script, 0, ())) c__law_cell hr (EvA.consBP (EvB.w (R := (rSq K rInt)) (y := script) 0) (EvA.consVP (EvB.val (EvB.int (i := 0))) (EvA.nil)))))))))) (Run.cx (G' := [.bw (rSq K rInt) script, .val rInt many, .any, .any, .any, .any, .any, .any, .any, .any, .any, .any]) rfl ((Run.un fun v1 h_v1 =>
  (Run.letP fun width h_width =>
  Run.asgVP 2 scN (EvO.isP h_width (EvB.val (EvB.modCP 5 (EvB.fdivCP 4 (EvO.lendV (EvO.is h_v1 (EvO.callP (f := f__law_cell) (z := (script, 0, ())) c__law_cell hr (EvA.consBP (EvB.w (R := (rSq K rInt)) (y := script) 0) (EvA.consVP (EvB.val (EvB.int (i := 0))) (EvA.nil)))))))))) (Run.cx (G' := [.bw (rSq K rInt) script, .val rInt many, .val rInt width, .any, .any, .any, .any, .any, .any, .any, .any, .any]) rfl ((Run.un fun v2 h_v2 =>
  Run.itePP (fun s : Int × Int => [.bw (rSq K rInt) script, .val rInt s.1, .val rInt s.2, .any, .any, .any, .any, .any, .any, .any, .any, .any]) (Cm.t (Cm.eqeP (EvB.modCP 16 (EvB.fdivCP 20 (EvO.lendV (EvO.is h_v2 (EvO.callP (f := f__law_cell) (z := (script, 0, ())) c__law_cell hr (EvA.consBP (EvB.w (R := (rSq K rInt)) (y := script) 0) (EvA.consVP (EvB.val (EvB.int (i := 0))) (EvA.nil)))))))) (EvB.int (i := 7)))) ((Run.un fun v3 h_v3 =>
  (Run.letP fun many1 h_many1 =>
  Run.asgVP 1 scN (EvO.isP h_many1 (EvB.val (EvB.addP (EvB.int (i := 5)) (EvB.modCP 2 (EvB.fdivCP 320 (EvO.lendV (EvO.is h_v3 (EvO.callP (f := f__law_cell) (z := (script, 0, ())) c__law_cell hr (EvA.consBP (EvB.w (R := (rSq K rInt)) (y := script) 0) (EvA.consVP (EvB.val (EvB.int (i := 0))) (EvA.nil))))))))))) (Run.cx (G' := [.bw (rSq K rInt) script, .val rInt many1, .val rInt width, .any, .any, .any, .any, .any, .any, .any, .any, .any]) rfl ((Run.un fun v4 h_v4 =>
  (Run.letP fun width1 h_width1 =>
  Run.asgVP 2 scN (EvO.isP h_width1 (EvB.val (EvB.addP (EvB.int (i := 2)) (EvB.modCP 2 (EvB.fdivCP 640 (EvO.lendV (EvO.is h_v4 (EvO.callP (f := f__law_cell) (z := (script, 0, ())) c__law_cell hr (EvA.consBP (EvB.w (R := (rSq K rInt)) (y := script) 0) (EvA.consVP (EvB.val (EvB.int (i := 0))) (EvA.nil))))))))))) (Run.cx (G' := [.bw (rSq K rInt) script, .val rInt many1, .val rInt width1, .any, .any, .any, .any, .any, .any, .any, .any, .any]) rfl (Run.nil (Sub.m [] rfl)))))))))) (Run.nil (Sub.m [] rfl)) (fun (s_ : Int × Int) => (Run.un fun l h_l =>
  Run.asgVP 3 scN (EvO.stayL (EvO.is h_l (EvO.callP (f := f__law_lines) (z := (script, s_.1, s_.2, ())) c__law_lines hr (EvA.consBP (EvB.w (R := (rSq K rInt)) (y := script) 0) (EvA.consVP (EvB.val (EvB.v (R := rInt) (y := s_.1) 1)) (EvA.consVP (EvB.val (EvB.v (R := rInt) (y := s_.2) 2)) (EvA.nil))))))) (Run.cx (G' := [.bw (rSq K rInt) script, .val rInt s_.1, .val rInt s_.2, .val (rL (rL rInt)) l, .any, .any, .any, .any, .any, .any, .any, .any]) rfl ((Run.letP fun handed h_handed =>
  Run.asgLcP 4 scN (LcOk.isP h_handed (LcOk.mapP (g := fun (line : List Int) => line) (LcOk.all (f := fun (line : List Int) => some line) [("line", 10)] (ItC.lstV (EvV.v (R := (rL (rL rInt))) (y := l) 3)) (blkOk_by (N := N_law) (sc := defScope s_law) (by decide +kernel)) (fun _ _ _ _ _ => pg_name (i := 10) scN rfl (by first | exact .inl rfl | exact .inr rfl)) (tg1 10 (fun x : List Int => .val (rL rInt) x)) (fun line _ _ _ _ _ _ _ => EvO.cx (G' := [.bw (rSq K rInt) script, .val rInt s_.1, .val rInt s_.2, .val (rL (rL rInt)) l, .any, .any, .any, .any, .any, .any, .val (rL rInt) line, .any]) rfl (EvO.stayL (EvO.listBP m_list (EvO.lendV (EvV.v (R := (rL rInt)) (y := line) 10)))))))) (Run.freeze (O' := (oL (oV (rL rInt)))) 4 rfl (Run.cx (G' := [.bw (rSq K rInt) script, .val rInt s_.1, .val rInt s_.2, .val (rL (rL rInt)) l, .val (rL (rL rInt)) handed, .any, .any, .any, .any, .any, .any, .any]) rfl ((Run.un fun l1 h_l1 =>
  Run.asgVP 5 scN (EvO.stayL (EvO.is h_l1 (EvO.callP (f := f_from_lines) (z := (handed, ())) c_from_lines hr (EvA.consVP (EvV.v (R := (rL (rL rInt))) (y := handed) 4) (EvA.nil))))) (Run.cx (G' := [.bw (rSq K rInt) script, .val rInt s_.1, .val rInt s_.2, .val (rL (rL rInt)) l, .val (rL (rL rInt)) handed, .val (rL rInt) l1, .any, .any, .any, .any, .any, .any]) rfl ((Run.un fun z h_z =>
  (Run.un fun r h_r =>
  (Run.letP fun due h_due =>
  Run.asgLcP 6 scN (LcOk.isP h_due (LcOk.mapP (g := fun (group : Int) => 0) (LcOk.all (f := fun (group : Int) => some 0) [("group", 9)] (ItC.is h_r (ItC.rng1P m_range (EvB.is h_z (EvB.shlP (EvB.int (i := 1)) (EvB.v (R := rInt) (y := s_.1) 1))))) (blkOk_by (N := N_law) (sc := defScope s_law) (by decide +kernel)) (fun _ _ _ _ _ => pg_name (i := 9) scN rfl (by first | exact .inl rfl | exact .inr rfl)) (tg1 9 (fun x : Int => .val rInt x)) (fun group _ _ _ _ _ _ _ => EvO.cx (G' := [.bw (rSq K rInt) script, .val rInt s_.1, .val rInt s_.2, .val (rL (rL rInt)) l, .val (rL (rL rInt)) handed, .val (rL rInt) l1, .any, .any, .any, .val rInt group, .any, .any]) rfl (EvB.val (EvB.int (i := 0))))))) (Run.cx (G' := [.bw (rSq K rInt) script, .val rInt s_.1, .val rInt s_.2, .val (rL (rL rInt)) l, .val (rL (rL rInt)) handed, .val (rL rInt) l1, .ow (oL (oV rInt)) due, .any, .any, .any, .any, .any]) rfl ((Run.un fun z1 h_z1 =>
  (Run.un fun r1 h_r1 =>
  Run.forP (bm := m_law_b2 l s_) (fun s : (List Int) => [.bw (rSq K rInt) script, .val rInt s_.1, .val rInt s_.2, .val (rL (rL rInt)) l, .val (rL (rL rInt)) handed, .val (rL rInt) l1, .ow (oL (oV rInt)) s, .any, .any, .any, .any, .any]) due (Sub.m [] rfl) (ItS.is h_r1 (ItS.rng1P m_range (EvB.is h_z1 (EvB.shlP (EvB.int (i := 1)) (EvB.v (R := rInt) (y := s_.1) 1))))) (pg_name (i := 7) scN rfl (by first | exact .inl rfl | exact .inr rfl)) (tg1 7 (fun x : Int => .val rInt x)) (fun part s_1 => Run.cx (G' := [.bw (rSq K rInt) script, .val rInt s_.1, .val rInt s_.2, .val (rL (rL rInt)) l, .val (rL (rL rInt)) handed, .val (rL rInt) l1, .ow (oL (oV rInt)) s_1, .val rInt part, .any, .any, .any, .any]) rfl ((Run.un fun l2 h_l2 =>
  Run.asgVP 8 scN (EvO.stayL (EvO.is h_l2 (EvO.callP (f := f__law_hands) (z := (part, ())) c__law_hands hr (EvA.consVP (EvB.val (EvB.v (R := rInt) (y := part) 7)) (EvA.nil))))) (Run.cx (G' := [.bw (rSq K rInt) script, .val rInt s_.1, .val rInt s_.2, .val (rL (rL rInt)) l, .val (rL (rL rInt)) handed, .val (rL rInt) l1, .ow (oL (oV rInt)) s_1, .val rInt part, .val (rL rInt) l2, .any, .any, .any]) rfl ((Run.un fun l3 h_l3 =>
  (Run.un fun b h_b =>
  Run.itePP (fun s : (List Int) => [.bw (rSq K rInt) script, .val rInt s_.1, .val rInt s_.2, .val (rL (rL rInt)) l, .val (rL (rL rInt)) handed, .val (rL rInt) l1, .ow (oL (oV rInt)) s, .val rInt part, .val (rL rInt) l2, .any, .any, .any]) (EvB.tstP (EvO.lendV (EvO.is h_b (EvO.callP (f := f__law_are_free) (z := (l3, s_.2, ())) c__law_are_free hr (EvA.consVP (EvO.stayL (EvO.lc (LcOk.is h_l3 (LcOk.all (f := fun (k : Int) => (atI l k).bind fun e =>
  some e) [("k", 11)] (ItC.lstF (EvO.lendV (EvV.v (R := (rL rInt)) (y := l2) 8))) (blkOk_by (N := N_law) (sc := defScope s_law) (by decide +kernel)) (fun _ _ _ _ _ => pg_name (i := 11) scN rfl (by first | exact .inl rfl | exact .inr rfl)) (tg1 11 (fun x : Int => .val rInt x)) (fun k _ _ _ _ _ _ _ => EvO.cx (G' := [.bw (rSq K rInt) script, .val rInt s_.1, .val rInt s_.2, .val (rL (rL rInt)) l, .val (rL (rL rInt)) handed, .val (rL rInt) l1, .bw (rL rInt) s_1, .val rInt part, .val (rL rInt) l2, .any, .any, .val rInt k]) rfl ((EvO.un fun e h_e =>
  EvO.is h_e (EvV.ixP (EvV.v (R := (rL (rL rInt))) (y := l) 3) (EvB.v (R := rInt) (y := k) 11))))))) scN)) (EvA.consVP (EvB.val (EvB.v (R := rInt) (y := s_.2) 2)) (EvA.nil))))))) ((Run.un fun z2 h_z2 =>
  (Run.un fun r2 h_r2 =>
  Run.forP (bm := m_law_b1 part l2) (fun s : (List Int) => [.bw (rSq K rInt) script, .val rInt s_.1, .val rInt s_.2, .val (rL (rL rInt)) l, .val (rL (rL rInt)) handed, .val (rL rInt) l1, .ow (oL (oV rInt)) s, .val rInt part, .val (rL rInt) l2, .any, .any, .any]) s_1 (Sub.m [] rfl) (ItS.is h_r2 (ItS.rng1P m_range (EvB.is h_z2 (EvB.shlP (EvB.int (i := 1)) (EvB.v (R := rInt) (y := s_.1) 1))))) (pg_name (i := 9) scN rfl (by first | exact .inl rfl | exact .inr rfl)) (tg1 9 (fun x : Int => .val rInt x)) (fun group1 s_2 => Run.cx (G' := [.bw (rSq K rInt) script, .val rInt s_.1, .val rInt s_.2, .val (rL (rL rInt)) l, .val (rL (rL rInt)) handed, .val (rL rInt) l1, .ow (oL (oV rInt)) s_2, .val rInt part, .val (rL rInt) l2, .val rInt group1, .any, .any]) rfl (Run.itePP (fun s : (List Int) => [.bw (rSq K rInt) script, .val rInt s_.1, .val rInt s_.2, .val (rL (rL rInt)) l, .val (rL (rL rInt)) handed, .val (rL rInt) l1, .ow (oL (oV rInt)) s, .val rInt part, .val (rL rInt) l2, .val rInt group1, .any, .any]) (Cm.t (Cm.eqeP (EvB.bandP (EvB.v (R := rInt) (y := group1) 9) (EvB.v (R := rInt) (y := part) 7)) (EvB.v (R := rInt) (y := part) 7))) ((Run.un fun e1 h_e1 =>
  Run.setP 6 (EvB.val (EvB.max2P m_max (EvB.is h_e1 (EvB.ixP (EvB.oL (R := rInt) (y := s_2) 6) (EvB.v (R := rInt) (y := group1) 9))) (EvB.lenP m_len (EvO.lendV (EvV.v (R := (rL rInt)) (y := l2) 8))))) (EvB.v (R := rInt) (y := group1) 9) (fun due1 => Run.cx (G' := [.bw (rSq K rInt) script, .val rInt s_.1, .val rInt s_.2, .val (rL (rL rInt)) l, .val (rL (rL rInt)) handed, .val (rL rInt) l1, .ow (oL (oV rInt)) due1, .val rInt part, .val (rL rInt) l2, .val rInt group1, .any, .any]) rfl (Run.nil (Sub.m [] rfl))))) (Run.nil (Sub.m [] rfl)) (fun (s_3 : (List Int)) => Run.nil (Sub.m [false, false, false, false, false, false, false, false, false, true] rfl)))) (fun s_4 => Run.nil (Sub.m [] rfl)) PassesOwn.never))) (Run.nil (Sub.m [] rfl)) (fun (s_5 : (List Int)) => Run.nil (Sub.m [false, false, false, false, false, false, false, true, true] rfl))))))))) (fun s_6 => (Run.un fun b1 h_b1 =>
  (Run.un fun t h_t =>
  Run.retP (EvB.val (EvB.is h_t (EvB.andM (EvO.lendV (EvO.is h_b1 (EvO.callP (f := f__law_numbers) (z := (l1, s_6, ())) c__law_numbers hr (EvA.consBP (EvO.lendV (EvV.v (R := (rL rInt)) (y := l1) 5)) (EvA.consBP (EvB.oL (R := rInt) (y := s_6) 6) (EvA.nil)))))) ((EvB.un fun l4 h_l4 =>
  EvB.andP (Cm.b (Cm.eqdP hr.units (EvO.lendL (EvO.is h_l4 (EvO.callP (f := f__law_breaks) (z := (l1, 1, ())) c__law_breaks hr (EvA.consBP (EvO.lendV (EvV.v (R := (rL rInt)) (y := l1) 5)) (EvA.consVP (EvB.val (EvB.int (i := 1))) (EvA.nil)))))) (EvO.lendL (EvO.lst (EvIt.nil (O := oV (rT (rsCons rInt (rsCons rInt (rsOne rInt)))))))))) (EvB.and1 (Cm.b (Cm.eqdP hr.units (EvO.lendV (EvV.v (R := (rL (rL rInt))) (y := handed) 4)) (EvO.lendV (EvV.v (R := (rL (rL rInt))) (y := l) 3))))))))))))) PassesOwn.never)))) (sw_true rfl rfl rfl (by decide +kernel))))))))))) (sw_true rfl rfl rfl (by decide +kernel)))))))))))))))))
    (fun _ h => nomatch h) (fun z y h => h)
end
theorem all_mk {l : PySem.W.OpenLaw} {w : World} {K : PySem.W.Frag} {h : Heap} {mg : Str → Option Value} {fa : Addr} (X : K.In h) (G : h.Ns mainGlobals mg) (hfa : mg "law" = some (.ref fa))
    {f0 : Addr} {od0 an0 : Option Addr} {sl0 : Array (Option Value)} {oc0 kV0 dc0 pm0 cd0 ct0 : Value}
    {f1 : Addr} {od1 an1 : Option Addr} {sl1 : Array (Option Value)} {oc1 kV1 dc1 pm1 cd1 ct1 : Value}
    {f2 : Addr} {od2 an2 : Option Addr} {sl2 : Array (Option Value)} {oc2 kV2 dc2 pm2 cd2 ct2 : Value}
    {f3 : Addr} {od3 an3 : Option Addr} {sl3 : Array (Option Value)} {oc3 kV3 dc3 pm3 cd3 ct3 : Value}
    {f4 : Addr} {od4 an4 : Option Addr} {sl4 : Array (Option Value)} {oc4 kV4 dc4 pm4 cd4 ct4 : Value}
    {f5 : Addr} {od5 an5 : Option Addr} {sl5 : Array (Option Value)} {oc5 kV5 dc5 pm5 cd5 ct5 : Value}
    {f6 : Addr} {od6 an6 : Option Addr} {sl6 : Array (Option Value)} {oc6 kV6 dc6 pm6 cd6 ct6 : Value}
    {f7 : Addr} {od7 an7 : Option Addr} {sl7 : Array (Option Value)} {oc7 kV7 dc7 pm7 cd7 ct7 : Value}
    {f8 : Addr} {od8 an8 : Option Addr} {sl8 : Array (Option Value)} {oc8 kV8 dc8 pm8 cd8 ct8 : Value}
    {f9 : Addr} {od9 an9 : Option Addr} {sl9 : Array (Option Value)} {oc9 kV9 dc9 pm9 cd9 ct9 : Value}
    {f10 : Addr} {od10 an10 : Option Addr} {sl10 : Array (Option Value)} {oc10 kV10 dc10 pm10 cd10 ct10 : Value}
    {f11 : Addr} {od11 an11 : Option Addr} {sl11 : Array (Option Value)} {oc11 kV11 dc11 pm11 cd11 ct11 : Value}
    {f12 : Addr} {od12 an12 : Option Addr} {sl12 : Array (Option Value)} {oc12 kV12 dc12 pm12 cd12 ct12 : Value}
    {f13 : Addr} {od13 an13 : Option Addr} {sl13 : Array (Option Value)} {oc13 kV13 dc13 pm13 cd13 ct13 : Value}
    {f14 : Addr} {od14 an14 : Option Addr} {sl14 : Array (Option Value)} {oc14 kV14 dc14 pm14 cd14 ct14 : Value}
    {f15 : Addr} {od15 an15 : Option Addr} {sl15 : Array (Option Value)} {oc15 kV15 dc15 pm15 cd15 ct15 : Value}
    {f16 : Addr} {od16 an16 : Option Addr} {sl16 : Array (Option Value)} {oc16 kV16 dc16 pm16 cd16 ct16 : Value}
    (a0 : PySem.W.nsIn K mainGlobals "_law_cell" = some (some (.ref f0))) (l0 : K.lookup f0 = some ⟨oc0, od0, .func (PySem.W.fnOf "_law_cell" "_law_cell" (defArgs s__law_cell) (defBody s__law_cell) (defScope s__law_cell) .none kV0 dc0 pm0 an0 cd0 ct0), sl0⟩) (c0 : PySem.W.codeIn K cd0 "_law_cell" = true) (k0 : PySem.W.keepIn K (.ref f0) = true)
    (a1 : PySem.W.nsIn K mainGlobals "_law_mixed" = some (some (.ref f1))) (l1 : K.lookup f1 = some ⟨oc1, od1, .func (PySem.W.fnOf "_law_mixed" "_law_mixed" (defArgs s__law_mixed) (defBody s__law_mixed) (defScope s__law_mixed) .none kV1 dc1 pm1 an1 cd1 ct1), sl1⟩) (c1 : PySem.W.codeIn K cd1 "_law_mixed" = true) (k1 : PySem.W.keepIn K (.ref f1) = true)
    (a2 : PySem.W.nsIn K mainGlobals "look_at_hands" = some (some (.ref f2))) (l2 : K.lookup f2 = some ⟨oc2, od2, .func (PySem.W.fnOf "look_at_hands" "look_at_hands" (defArgs s_look_at_hands) (defBody s_look_at_hands) (defScope s_look_at_hands) .none kV2 dc2 pm2 an2 cd2 ct2), sl2⟩) (c2 : PySem.W.codeIn K cd2 "look_at_hands" = true) (k2 : PySem.W.keepIn K (.ref f2) = true)
    (a3 : PySem.W.nsIn K mainGlobals "hands_in" = some (some (.ref f3))) (l3 : K.lookup f3 = some ⟨oc3, od3, .func (PySem.W.fnOf "hands_in" "hands_in" (defArgs s_hands_in) (defBody s_hands_in) (defScope s_hands_in) .none kV3 dc3 pm3 an3 cd3 ct3), sl3⟩) (c3 : PySem.W.codeIn K cd3 "hands_in" = true) (k3 : PySem.W.keepIn K (.ref f3) = true)
    (a4 : PySem.W.nsIn K mainGlobals "lead_line" = some (some (.ref f4))) (l4 : K.lookup f4 = some ⟨oc4, od4, .func (PySem.W.fnOf "lead_line" "lead_line" (defArgs s_lead_line) (defBody s_lead_line) (defScope s_lead_line) .none kV4 dc4 pm4 an4 cd4 ct4), sl4⟩) (c4 : PySem.W.codeIn K cd4 "lead_line" = true) (k4 : PySem.W.keepIn K (.ref f4) = true)
    (a5 : PySem.W.nsIn K mainGlobals "less_lead" = some (some (.ref f5))) (l5 : K.lookup f5 = some ⟨oc5, od5, .func (PySem.W.fnOf "less_lead" "less_lead" (defArgs s_less_lead) (defBody s_less_lead) (defScope s_less_lead) .none kV5 dc5 pm5 an5 cd5 ct5), sl5⟩) (c5 : PySem.W.codeIn K cd5 "less_lead" = true) (k5 : PySem.W.keepIn K (.ref f5) = true)
    (a6 : PySem.W.nsIn K mainGlobals "_law_hands" = some (some (.ref f6))) (l6 : K.lookup f6 = some ⟨oc6, od6, .func (PySem.W.fnOf "_law_hands" "_law_hands" (defArgs s__law_hands) (defBody s__law_hands) (defScope s__law_hands) .none kV6 dc6 pm6 an6 cd6 ct6), sl6⟩) (c6 : PySem.W.codeIn K cd6 "_law_hands" = true) (k6 : PySem.W.keepIn K (.ref f6) = true)
    (a7 : PySem.W.nsIn K mainGlobals "_law_square" = some (some (.ref f7))) (l7 : K.lookup f7 = some ⟨oc7, od7, .func (PySem.W.fnOf "_law_square" "_law_square" (defArgs s__law_square) (defBody s__law_square) (defScope s__law_square) .none kV7 dc7 pm7 an7 cd7 ct7), sl7⟩) (c7 : PySem.W.codeIn K cd7 "_law_square" = true) (k7 : PySem.W.keepIn K (.ref f7) = true)
    (a8 : PySem.W.nsIn K mainGlobals "_law_breaks" = some (some (.ref f8))) (l8 : K.lookup f8 = some ⟨oc8, od8, .func (PySem.W.fnOf "_law_breaks" "_law_breaks" (defArgs s__law_breaks) (defBody s__law_breaks) (defScope s__law_breaks) .none kV8 dc8 pm8 an8 cd8 ct8), sl8⟩) (c8 : PySem.W.codeIn K cd8 "_law_breaks" = true) (k8 : PySem.W.keepIn K (.ref f8) = true)
    (a9 : PySem.W.nsIn K mainGlobals "_law_whole" = some (some (.ref f9))) (l9 : K.lookup f9 = some ⟨oc9, od9, .func (PySem.W.fnOf "_law_whole" "_law_whole" (defArgs s__law_whole) (defBody s__law_whole) (defScope s__law_whole) .none kV9 dc9 pm9 an9 cd9 ct9), sl9⟩) (c9 : PySem.W.codeIn K cd9 "_law_whole" = true) (k9 : PySem.W.keepIn K (.ref f9) = true)
    (a10 : PySem.W.nsIn K mainGlobals "_law_poured" = some (some (.ref f10))) (l10 : K.lookup f10 = some ⟨oc10, od10, .func (PySem.W.fnOf "_law_poured" "_law_poured" (defArgs s__law_poured) (defBody s__law_poured) (defScope s__law_poured) .none kV10 dc10 pm10 an10 cd10 ct10), sl10⟩) (c10 : PySem.W.codeIn K cd10 "_law_poured" = true) (k10 : PySem.W.keepIn K (.ref f10) = true)
    (a11 : PySem.W.nsIn K mainGlobals "free_count" = some (some (.ref f11))) (l11 : K.lookup f11 = some ⟨oc11, od11, .func (PySem.W.fnOf "free_count" "free_count" (defArgs s_free_count) (defBody s_free_count) (defScope s_free_count) .none kV11 dc11 pm11 an11 cd11 ct11), sl11⟩) (c11 : PySem.W.codeIn K cd11 "free_count" = true) (k11 : PySem.W.keepIn K (.ref f11) = true)
    (a12 : PySem.W.nsIn K mainGlobals "_law_numbers" = some (some (.ref f12))) (l12 : K.lookup f12 = some ⟨oc12, od12, .func (PySem.W.fnOf "_law_numbers" "_law_numbers" (defArgs s__law_numbers) (defBody s__law_numbers) (defScope s__law_numbers) .none kV12 dc12 pm12 an12 cd12 ct12), sl12⟩) (c12 : PySem.W.codeIn K cd12 "_law_numbers" = true) (k12 : PySem.W.keepIn K (.ref f12) = true)
    (a13 : PySem.W.nsIn K mainGlobals "_law_lines" = some (some (.ref f13))) (l13 : K.lookup f13 = some ⟨oc13, od13, .func (PySem.W.fnOf "_law_lines" "_law_lines" (defArgs s__law_lines) (defBody s__law_lines) (defScope s__law_lines) .none kV13 dc13 pm13 an13 cd13 ct13), sl13⟩) (c13 : PySem.W.codeIn K cd13 "_law_lines" = true) (k13 : PySem.W.keepIn K (.ref f13) = true)
    (a14 : PySem.W.nsIn K mainGlobals "from_lines" = some (some (.ref f14))) (l14 : K.lookup f14 = some ⟨oc14, od14, .func (PySem.W.fnOf "from_lines" "from_lines" (defArgs s_from_lines) (defBody s_from_lines) (defScope s_from_lines) .none kV14 dc14 pm14 an14 cd14 ct14), sl14⟩) (c14 : PySem.W.codeIn K cd14 "from_lines" = true) (k14 : PySem.W.keepIn K (.ref f14) = true)
    (a15 : PySem.W.nsIn K mainGlobals "_law_are_free" = some (some (.ref f15))) (l15 : K.lookup f15 = some ⟨oc15, od15, .func (PySem.W.fnOf "_law_are_free" "_law_are_free" (defArgs s__law_are_free) (defBody s__law_are_free) (defScope s__law_are_free) .none kV15 dc15 pm15 an15 cd15 ct15), sl15⟩) (c15 : PySem.W.codeIn K cd15 "_law_are_free" = true) (k15 : PySem.W.keepIn K (.ref f15) = true)
    (a16 : PySem.W.nsIn K mainGlobals "law" = some (some (.ref f16))) (l16 : K.lookup f16 = some ⟨oc16, od16, .func (PySem.W.fnOf "law" "law" (defArgs s_law) (defBody s_law) (defScope s_law) .none kV16 dc16 pm16 an16 cd16 ct16), sl16⟩) (c16 : PySem.W.codeIn K cd16 "law" = true) (k16 : PySem.W.keepIn K (.ref f16) = true)
    {tk_MOST_HANDS : Tok} (y_MOST_HANDS : PySem.W.nsIn K mainGlobals "MOST_HANDS" = some (some (.int 6 tk_MOST_HANDS)))
    (z_bool : PySem.W.nsIn K mainGlobals "bool" = some none)
    (z_enumerate : PySem.W.nsIn K mainGlobals "enumerate" = some none)
    (z_int : PySem.W.nsIn K mainGlobals "int" = some none)
    (z_isinstance : PySem.W.nsIn K mainGlobals "isinstance" = some none)
    (z_len : PySem.W.nsIn K mainGlobals "len" = some none)
    (z_list : PySem.W.nsIn K mainGlobals "list" = some none)
    (z_max : PySem.W.nsIn K mainGlobals "max" = some none)
    (z_range : PySem.W.nsIn K mainGlobals "range" = some none)
    (z_zip : PySem.W.nsIn K mainGlobals "zip" = some none)
    : ∃ fd : FuncData, (∀ (s : Shared) (v : Value), BindsTo s fd ⟨[v], []⟩ [("script", v)]) ∧ ∀ base : Heap, K.In base → base.Ns mainGlobals mg → FnOk l.prog w K mg base CX0 9 fa fd ["script"] (spOf (aB (rSq K rInt) aNil) (oV rBool) f_law) := by
  have e := hfa.symm.trans (PySem.W.mg_of X G a16)
  cases e
  have F0 := fun_mk (st := s__law_cell) l0 c0 k0
  have g0 := PySem.W.mg_of X G a0
  have b0 := F0.binds (ps := ["script", "k"]) fun _ _ _ _ _ _ us hl => match us, hl with | [_, _], _ => rfl
  have F1 := fun_mk (st := s__law_mixed) l1 c1 k1
  have g1 := PySem.W.mg_of X G a1
  have b1 := F1.binds (ps := ["cell", "k"]) fun _ _ _ _ _ _ us hl => match us, hl with | [_, _], _ => rfl
  have F2 := fun_mk (st := s_look_at_hands) l2 c2 k2
  have g2 := PySem.W.mg_of X G a2
  have b2 := F2.binds (ps := ["hands"]) fun _ _ _ _ _ _ us hl => match us, hl with | [_], _ => rfl
  have F3 := fun_mk (st := s_hands_in) l3 c3 k3
  have g3 := PySem.W.mg_of X G a3
  have b3 := F3.binds (ps := ["group"]) fun _ _ _ _ _ _ us hl => match us, hl with | [_], _ => rfl
  have F4 := fun_mk (st := s_lead_line) l4 c4 k4
  have g4 := PySem.W.mg_of X G a4
  have b4 := F4.binds (ps := ["lines", "place"]) fun _ _ _ _ _ _ us hl => match us, hl with | [_, _], _ => rfl
  have F5 := fun_mk (st := s_less_lead) l5 c5 k5
  have g5 := PySem.W.mg_of X G a5
  have b5 := F5.binds (ps := ["line", "lead", "place"]) fun _ _ _ _ _ _ us hl => match us, hl with | [_, _, _], _ => rfl
  have F6 := fun_mk (st := s__law_hands) l6 c6 k6
  have g6 := PySem.W.mg_of X G a6
  have b6 := F6.binds (ps := ["group"]) fun _ _ _ _ _ _ us hl => match us, hl with | [_], _ => rfl
  have F7 := fun_mk (st := s__law_square) l7 c7 k7
  have g7 := PySem.W.mg_of X G a7
  have b7 := F7.binds (ps := ["lines", "places"]) fun _ _ _ _ _ _ us hl => match us, hl with | [_, _], _ => rfl
  have F8 := fun_mk (st := s__law_breaks) l8 c8 k8
  have g8 := PySem.W.mg_of X G a8
  have b8 := F8.binds (ps := ["table", "sign"]) fun _ _ _ _ _ _ us hl => match us, hl with | [_, _], _ => rfl
  have F9 := fun_mk (st := s__law_whole) l9 c9 k9
  have g9 := PySem.W.mg_of X G a9
  have b9 := F9.binds (ps := ["found"]) fun _ _ _ _ _ _ us hl => match us, hl with | [_], _ => rfl
  have F10 := fun_mk (st := s__law_poured) l10 c10 k10
  have g10 := PySem.W.mg_of X G a10
  have b10 := F10.binds (ps := ["script", "many"]) fun _ _ _ _ _ _ us hl => match us, hl with | [_, _], _ => rfl
  have F11 := fun_mk (st := s_free_count) l11 c11 k11
  have g11 := PySem.W.mg_of X G a11
  have b11 := F11.binds (ps := ["lines"]) fun _ _ _ _ _ _ us hl => match us, hl with | [_], _ => rfl
  have F12 := fun_mk (st := s__law_numbers) l12 c12 k12
  have g12 := PySem.W.mg_of X G a12
  have b12 := F12.binds (ps := ["found", "due"]) fun _ _ _ _ _ _ us hl => match us, hl with | [_, _], _ => rfl
  have F13 := fun_mk (st := s__law_lines) l13 c13 k13
  have g13 := PySem.W.mg_of X G a13
  have b13 := F13.binds (ps := ["script", "many", "width"]) fun _ _ _ _ _ _ us hl => match us, hl with | [_, _, _], _ => rfl
  have F14 := fun_mk (st := s_from_lines) l14 c14 k14
  have g14 := PySem.W.mg_of X G a14
  have b14 := F14.binds (ps := ["lines"]) fun _ _ _ _ _ _ us hl => match us, hl with | [_], _ => rfl
  have F15 := fun_mk (st := s__law_are_free) l15 c15 k15
  have g15 := PySem.W.mg_of X G a15
  have b15 := F15.binds (ps := ["lines", "width"]) fun _ _ _ _ _ _ us hl => match us, hl with | [_, _], _ => rfl
  have F16 := fun_mk (st := s_law) l16 c16 k16
  have m_bool := PySem.W.mg_none_of X G z_bool
  have m_enumerate := PySem.W.mg_none_of X G z_enumerate
  have m_int := PySem.W.mg_none_of X G z_int
  have m_isinstance := PySem.W.mg_none_of X G z_isinstance
  have m_len := PySem.W.mg_none_of X G z_len
  have m_list := PySem.W.mg_none_of X G z_list
  have m_max := PySem.W.mg_none_of X G z_max
  have m_range := PySem.W.mg_none_of X G z_range
  have m_zip := PySem.W.mg_none_of X G z_zip
  have q_MOST_HANDS := PySem.W.mg_of X G y_MOST_HANDS
  refine ⟨PySem.W.fnOf "law" "law" (defArgs s_law) (defBody s_law) (defScope s_law) .none kV16 dc16 pm16 an16 cd16 ct16, fun s v => .of_eq rfl, fun base _ _ => ?_⟩
  have c__law_cell := w__law_cell (P := l.prog) (w := w) (base := base) F0 g0 b0 m_len
  have c__law_mixed := w__law_mixed (P := l.prog) (w := w) (base := base) F1 g1 b1 
  have c_look_at_hands := w_look_at_hands (P := l.prog) (w := w) (base := base) F2 g2 b2 q_MOST_HANDS
  have c_hands_in := w_hands_in (P := l.prog) (w := w) (base := base) F3 g3 b3 
  have c_lead_line := w_lead_line (P := l.prog) (w := w) (base := base) F4 g4 b4 m_enumerate
  have c_less_lead := w_less_lead (P := l.prog) (w := w) (base := base) F5 g5 b5 m_zip
  have c__law_hands := w__law_hands (P := l.prog) (w := w) (base := base) F6 g6 b6 m_range
  have c__law_square := w__law_square (P := l.prog) (w := w) (base := base) F7 g7 b7 m_len m_range
  have c__law_breaks := w__law_breaks (P := l.prog) (w := w) (base := base) F8 g8 b8 m_len m_range
  have c__law_whole := w__law_whole (P := l.prog) (w := w) (base := base) F9 g9 b9 m_bool m_int m_isinstance
  have c__law_poured := w__law_poured (P := l.prog) (w := w) (base := base) F10 g10 b10 c__law_mixed m_len m_range
  have c_free_count := w_free_count (P := l.prog) (w := w) (base := base) F11 g11 b11 c_lead_line c_less_lead m_len m_list m_range
  have c__law_square_2 := w__law_square_2 (P := l.prog) (w := w) (base := base) F7 g7 b7 c__law_square m_len m_range
  have c__law_numbers := w__law_numbers (P := l.prog) (w := w) (base := base) F12 g12 b12 c__law_whole m_isinstance m_len m_list m_range
  have c__law_lines := w__law_lines (P := l.prog) (w := w) (base := base) F13 g13 b13 c__law_poured m_range
  have c_from_lines := w_from_lines (P := l.prog) (w := w) (base := base) F14 g14 b14 c_look_at_hands c_hands_in c_free_count q_MOST_HANDS m_len m_range
  have c__law_square_3 := w__law_square_3 (P := l.prog) (w := w) (base := base) F7 g7 b7 c__law_square_2 m_len m_range
  have c__law_square_4 := w__law_square_4 (P := l.prog) (w := w) (base := base) F7 g7 b7 c__law_square_3 m_len m_range
  have c__law_square_5 := w__law_square_5 (P := l.prog) (w := w) (base := base) F7 g7 b7 c__law_square_4 m_len m_range
  have c__law_square_6 := w__law_square_6 (P := l.prog) (w := w) (base := base) F7 g7 b7 c__law_square_5 m_len m_range
  have c__law_square_7 := w__law_square_7 (P := l.prog) (w := w) (base := base) F7 g7 b7 c__law_square_6 m_len m_range
  have c__law_are_free := w__law_are_free (P := l.prog) (w := w) (base := base) F15 g15 b15 c__law_square_7 m_len m_range
  exact o_law F16 c__law_cell c__law_lines c_from_lines c__law_hands c__law_are_free c__law_numbers c__law_breaks m_len m_list m_max m_range
end Lw

open PySem PySem.W PyProof.Rows
set_option maxHeartbeats 0 in
theorem PySem.Challenge.cw_groupcost_k17_whole_lines_free_holds : PySem.Challenge.rw_groupcost_k17_whole_lines_free.Holds := by
  w_on; o_law; k_head; (case hw => w_witness2)
  k_fill
  refine L2.walk_of (l := PySem.Challenge.rw_groupcost_k17_whole_lines_free) (n := 63) (k := 9) (x := "script") (CX := fun _ => L2.CX0) (sp := fun w => Gc.spOf (Gc.aB (Gc.rSq _ Gc.rInt) Gc.aNil) (Gc.oV Gc.rBool) Lw.f_law) rfl (by decide) rfl ⟨rfl, by decide, by decide⟩ (fun w h Y => PySem.W.kIn_of Y) ?F (fun _ _ a ns hl _ hS => Gc.law_spB rfl hS hl (Lw.main ns hl)) (fun _ _ _ _ _ h => h)
  case F =>
    intro w mg fa h KX G hmg
    refine' Lw.all_mk KX G hmg ?a0 ?l0 ?c0 ?k0 ?a1 ?l1 ?c1 ?k1 ?a2 ?l2 ?c2 ?k2 ?a3 ?l3 ?c3 ?k3 ?a4 ?l4 ?c4 ?k4 ?a5 ?l5 ?c5 ?k5 ?a6 ?l6 ?c6 ?k6 ?a7 ?l7 ?c7 ?k7 ?a8 ?l8 ?c8 ?k8 ?a9 ?l9 ?c9 ?k9 ?a10 ?l10 ?c10 ?k10 ?a11 ?l11 ?c11 ?k11 ?a12 ?l12 ?c12 ?k12 ?a13 ?l13 ?c13 ?k13 ?a14 ?l14 ?c14 ?k14 ?a15 ?l15 ?c15 ?k15 ?a16 ?l16 ?c16 ?k16 ?y_MOST_HANDS ?z_bool ?z_enumerate ?z_int ?z_isinstance ?z_len ?z_list ?z_max ?z_range ?z_zip
    (case a0 => k_is); (case l0 => k_is); (case c0 => k_is); (case k0 => k_is); (case a1 => k_is); (case l1 => k_is); (case c1 => k_is); (case k1 => k_is); (case a2 => k_is); (case l2 => k_is); (case c2 => k_is); (case k2 => k_is); (case a3 => k_is); (case l3 => k_is); (case c3 => k_is); (case k3 => k_is); (case a4 => k_is); (case l4 => k_is); (case c4 => k_is); (case k4 => k_is); (case a5 => k_is); (case l5 => k_is); (case c5 => k_is); (case k5 => k_is); (case a6 => k_is); (case l6 => k_is); (case c6 => k_is); (case k6 => k_is); (case a7 => k_is); (case l7 => k_is); (case c7 => k_is); (case k7 => k_is); (case a8 => k_is); (case l8 => k_is); (case c8 => k_is); (case k8 => k_is); (case a9 => k_is); (case l9 => k_is); (case c9 => k_is); (case k9 => k_is); (case a10 => k_is); (case l10 => k_is); (case c10 => k_is); (case k10 => k_is); (case a11 => k_is); (case l11 => k_is); (case c11 => k_is); (case k11 => k_is); (case a12 => k_is); (case l12 => k_is); (case c12 => k_is); (case k12 => k_is); (case a13 => k_is); (case l13 => k_is); (case c13 => k_is); (case k13 => k_is); (case a14 => k_is); (case l14 => k_is); (case c14 => k_is); (case k14 => k_is); (case a15 => k_is); (case l15 => k_is); (case c15 => k_is); (case k15 => k_is); (case a16 => k_is); (case l16 => k_is); (case c16 => k_is); (case k16 => k_is); (case y_MOST_HANDS => k_is); (case z_bool => k_is); (case z_enumerate => k_is); (case z_int => k_is); (case z_isinstance => k_is); (case z_len => k_is); (case z_list => k_is); (case z_max => k_is); (case z_range => k_is); (case z_zip => k_is)

