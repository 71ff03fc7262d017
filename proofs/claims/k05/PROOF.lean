import PyProof.Rows.All
import Wide.All
import OpenK.AllK
import Wide.FinOn
import HandS.ForMost
import HandS.IsInst
import HandS.Zip
import HandS.Deep
import HandS.TupAny
import HandS.Wide
import HandS.SetKeys
import HandS.Style
import HandS.TupMul
import HandS.DictComp
import HandS.StrMore
import HandS.StrSplit
import HandS.NoneIn
import KE.GoesMore
import HandS.SortOrd
import HandS.SortInts
import HandS.SortRule
import KE.SortData
import PyProof.Draws
import PySem.Challenge.RW_ruleroom_k05_why_a_rule_has_no_match
set_option Elab.async false
set_option linter.all false
set_option maxRecDepth 100000
set_option maxHeartbeats 4000000
/-! DL: data of any depth as values, cells for what changes: a second reading over HandS. -/
namespace DL
open PySem PySem.Spec L2
open PyProof.Rows hiding St

/-- a value with all that it holds -/
inductive D where
  | non | bl (b : Bool) | int (i : Int) | str (x : Str) | tup (ds : List D) | lst (ds : List D) | dct (kvs : List (Key × D)) | ref (a : Addr) | ty (n : String)

section
variable (K : PySem.W.Frag) (G : Hp)
mutual
/-- v stands for d, by what stays in G -/
inductive Rp : D → V → Prop
  | non : Rp .non .non
  | bl (b : Bool) : Rp (.bl b) (.bl b)
  | int (i : Int) : Rp (.int i) (.int i)
  | str (x : Str) : Rp (.str x) (.str x)
  | ref (a : Addr) : Rp (.ref a) (.ref a)
  | ty (n : String) : Rp (.ty n) (.ty n)
  | tup {ds : List D} {a : Addr} {xs : List V} : SqT K G a xs → RpL ds xs → Rp (.tup ds) (.ref a)
  | lst {ds : List D} {a : Addr} {xs : List V} : Rd G a (.lst xs) → RpL ds xs → Rp (.lst ds) (.ref a)
  | dct {kvs : List (Key × D)} {a : Addr} {o : Obj} {ks : List (Key × V)} : G a = some (.frz o (.dK ks)) → RpK kvs ks → Rp (.dct kvs) (.ref a)
inductive RpL : List D → List V → Prop
  | nil : RpL [] []
  | cons {d : D} {ds : List D} {v : V} {vs : List V} : Rp d v → RpL ds vs → RpL (d :: ds) (v :: vs)
inductive RpK : List (Key × D) → List (Key × V) → Prop
  | nil : RpK [] []
  | cons {k : Key} {d : D} {ds : List (Key × D)} {v : V} {vs : List (Key × V)} : Rp d v → RpK ds vs → RpK ((k, d) :: ds) ((k, v) :: vs)
end
end

theorem rd_mono {H H' : Hp} {a : Addr} {u : HO} (e : Same H H') (h : Rd H a u) : Rd H' a u := by
  rcases h with h | ⟨o, h⟩
  · exact .inl (e _ _ h)
  · exact .inr ⟨o, e _ _ h⟩
theorem sqT_mono {K : PySem.W.Frag} {H H' : Hp} {a : Addr} {xs : List V} (e : Same H H') (h : SqT K H a xs) : SqT K H' a xs := by
  rcases h with (h | ⟨o, h⟩) | h
  · exact .inl (.inl (e _ _ h))
  · exact .inl (.inr ⟨o, e _ _ h⟩)
  · exact .inr h

section
variable {K : PySem.W.Frag} {G G' : Hp}
mutual
theorem Rp.mono (s : Same G G') : ∀ {d : D} {v : V}, Rp K G d v → Rp K G' d v
  | _, _, .non => .non
  | _, _, .bl b => .bl b
  | _, _, .int i => .int i
  | _, _, .str x => .str x
  | _, _, .ref a => .ref a
  | _, _, .ty n => .ty n
  | _, _, .tup h r => .tup (sqT_mono s h) (RpL.mono s r)
  | _, _, .lst h r => .lst (rd_mono s h) (RpL.mono s r)
  | _, _, .dct h r => .dct (s _ _ h) (RpK.mono s r)
theorem RpL.mono (s : Same G G') : ∀ {d : List D} {v : List V}, RpL K G d v → RpL K G' d v
  | _, _, .nil => .nil
  | _, _, .cons a b => .cons (Rp.mono s a) (RpL.mono s b)
theorem RpK.mono (s : Same G G') : ∀ {d : List (Key × D)} {v : List (Key × V)}, RpK K G d v → RpK K G' d v
  | _, _, .nil => .nil
  | _, _, .cons a b => .cons (Rp.mono s a) (RpK.mono s b)
end
end

section
variable {K : PySem.W.Frag} {G : Hp}
theorem RpL.length : ∀ {ds : List D} {vs : List V}, RpL K G ds vs → ds.length = vs.length
  | _, _, .nil => rfl
  | _, _, .cons _ t => congrArg (· + 1) (RpL.length t)
theorem RpL.get : ∀ {ds : List D} {vs : List V} {i : Nat} {v : V}, RpL K G ds vs → vs[i]? = some v → ∃ d, ds[i]? = some d ∧ Rp K G d v
  | _, _, i, v, .nil, e => by simp at e
  | _, _, 0, v, .cons r _, e => by simp at e; subst e; exact ⟨_, rfl, r⟩
  | _, _, i + 1, v, .cons _ t, e => by
    obtain ⟨d, h1, h2⟩ := RpL.get (i := i) t (by simpa using e)
    exact ⟨d, by simpa using h1, h2⟩
theorem RpL.getD : ∀ {ds : List D} {vs : List V} {i : Nat} {d : D}, RpL K G ds vs → ds[i]? = some d → ∃ v, vs[i]? = some v ∧ Rp K G d v
  | _, _, i, v, .nil, e => by simp at e
  | _, _, 0, v, .cons r _, e => by simp at e; subst e; exact ⟨_, rfl, r⟩
  | _, _, i + 1, v, .cons _ t, e => by
    obtain ⟨d, h1, h2⟩ := RpL.getD (i := i) t (by simpa using e)
    exact ⟨d, by simpa using h1, h2⟩
theorem RpL.append : ∀ {ds es : List D} {vs us : List V}, RpL K G ds vs → RpL K G es us → RpL K G (ds ++ es) (vs ++ us)
  | _, _, _, _, .nil, s => s
  | _, _, _, _, .cons r t, s => .cons r (RpL.append t s)
theorem RpL.take : ∀ {ds : List D} {vs : List V} (n : Nat), RpL K G ds vs → RpL K G (ds.take n) (vs.take n)
  | _, _, 0, _ => .nil
  | _, _, _ + 1, .nil => .nil
  | _, _, n + 1, .cons r t => .cons r (RpL.take n t)
theorem RpL.drop : ∀ {ds : List D} {vs : List V} (n : Nat), RpL K G ds vs → RpL K G (ds.drop n) (vs.drop n)
  | _, _, 0, r => r
  | _, _, _ + 1, .nil => .nil
  | _, _, n + 1, .cons _ t => RpL.drop n t
theorem RpL.set {d : D} {v : V} (q : Rp K G d v) : ∀ {ds : List D} {vs : List V} (n : Nat), RpL K G ds vs → RpL K G (ds.set n d) (vs.set n v)
  | _, _, _, .nil => .nil
  | _, _, 0, .cons _ t => .cons q t
  | _, _, n + 1, .cons r t => .cons r (RpL.set q n t)
theorem RpL.dropLast : ∀ {ds : List D} {vs : List V}, RpL K G ds vs → RpL K G ds.dropLast vs.dropLast := fun {ds vs} r => by
  rw [List.dropLast_eq_take, List.dropLast_eq_take, r.length]
  exact r.take _
theorem RpK.length : ∀ {ds : List (Key × D)} {vs : List (Key × V)}, RpK K G ds vs → ds.length = vs.length
  | _, _, .nil => rfl
  | _, _, .cons _ t => congrArg (· + 1) (RpK.length t)
end

/-! ### slots -/
abbrev DSt := List (Option D)
inductive RpS (K : PySem.W.Frag) (G : Hp) : DSt → St → Prop
  | nil : RpS K G [] []
  | some {d : D} {ds : DSt} {v : V} {vs : St} : Rp K G d v → RpS K G ds vs → RpS K G (some d :: ds) (some v :: vs)
  | none {ds : DSt} {o : Option V} {vs : St} : RpS K G ds vs → RpS K G (none :: ds) (o :: vs)
section
variable {K : PySem.W.Frag} {G G' : Hp}
theorem RpS.mono (s : Same G G') : ∀ {δ : DSt} {σ : St}, RpS K G δ σ → RpS K G' δ σ
  | _, _, .nil => .nil
  | _, _, .some a b => .some (a.mono s) (RpS.mono s b)
  | _, _, .none b => .none (RpS.mono s b)
theorem RpS.get : ∀ {δ : DSt} {σ : St} {i : Nat} {d : D}, RpS K G δ σ → δ[i]? = Option.some (Option.some d) → ∃ v, σ[i]? = Option.some (Option.some v) ∧ Rp K G d v
  | _, _, i, d, .nil, e => by simp at e
  | _, _, 0, d, .some r _, e => by simp at e; subst e; exact ⟨_, rfl, r⟩
  | _, _, 0, d, .none _, e => by simp at e
  | _, _, i + 1, d, .some _ t, e => by
    obtain ⟨v, h1, h2⟩ := RpS.get (i := i) t (by simpa using e)
    exact ⟨v, by simpa using h1, h2⟩
  | _, _, i + 1, d, .none t, e => by
    obtain ⟨v, h1, h2⟩ := RpS.get (i := i) t (by simpa using e)
    exact ⟨v, by simpa using h1, h2⟩
theorem RpS.set {d : D} {v : V} (q : Rp K G d v) : ∀ {δ : DSt} {σ : St} (i : Nat), RpS K G δ σ → RpS K G (δ.set i (Option.some d)) (σ.set i (Option.some v))
  | _, _, _, .nil => .nil
  | _, _, 0, .some _ t => .some q t
  | _, _, 0, .none t => .some q t
  | _, _, i + 1, .some r t => .some r (RpS.set q i t)
  | _, _, i + 1, .none t => .none (RpS.set q i t)
theorem RpS.start : ∀ {ds : List D} {vs : List V}, RpL K G ds vs → ∀ n, RpS K G (ds.map Option.some ++ List.replicate n Option.none) (vs.map Option.some ++ List.replicate n Option.none)
  | _, _, .nil, 0 => .nil
  | _, _, .nil, n + 1 => .none (RpS.start .nil n)
  | _, _, .cons r t, n => .some r (RpS.start t n)
end

/-! ### cells -/
inductive Cell where
  | lst (ds : List D) | dct (kvs : List (Key × D)) | dcn (kvs : List (D × D)) | ins (C : Addr) (fs : List (Str × D)) | lck (o : Obj) (c : Cell)
abbrev Cells := Addr → Option Cell
def updC (C : Cells) (a : Addr) (c : Cell) : Cells := fun b => if b = a then some c else C b
def delC (C : Cells) (a : Addr) : Cells := fun b => if b = a then none else C b
theorem updC_same {C : Cells} {a : Addr} {c : Cell} : updC C a c a = some c := if_pos rfl
theorem updC_ne {C : Cells} {a b : Addr} {c : Cell} (h : b ≠ a) : updC C a c b = C b := if_neg h
theorem updC_upd {C : Cells} {a : Addr} {c d : Cell} : updC (updC C a c) a d = updC C a d := by
  funext b; unfold updC; split <;> rfl
theorem delC_upd {C : Cells} {a : Addr} {c : Cell} (h : C a = none) : delC (updC C a c) a = C := by
  funext b; unfold updC delC; split
  · rename_i e; rw [e, h]
  · rename_i e; exact if_neg e

inductive RpF (K : PySem.W.Frag) (G : Hp) : List (Str × D) → List (Str × V) → Prop
  | nil : RpF K G [] []
  | cons {f : Str} {d : D} {ds : List (Str × D)} {v : V} {vs : List (Str × V)} : Rp K G d v → RpF K G ds vs → RpF K G ((f, d) :: ds) ((f, v) :: vs)
theorem RpF.mono {K : PySem.W.Frag} {G G' : Hp} (s : Same G G') : ∀ {δ : List (Str × D)} {σ : List (Str × V)}, RpF K G δ σ → RpF K G' δ σ
  | _, _, .nil => .nil
  | _, _, .cons a b => .cons (a.mono s) (RpF.mono s b)

/-- what stands at a in the abstract heap for a cell -/
inductive HoOk (K : PySem.W.Frag) (G : Hp) : Addr → Cell → HO → Prop
  | lst {a : Addr} {ds : List D} {xs : List V} : RpL K G ds xs → HoOk K G a (.lst ds) (.lst xs)
  | dct {a : Addr} {kvs : List (Key × D)} {ks : List (Key × V)} : RpK K G kvs ks → HoOk K G a (.dct kvs) (.dK ks)
  | ins {a C dx : Addr} {fs : List (Str × D)} {gs : List (Str × V)} : RpF K G fs gs → HoOk K G a (.ins C fs) (.ins C dx gs)
  | lck {a : Addr} {o : Obj} {c : Cell} {u : HO} : HoOk K G a c u → HoOk K G a (.lck o c) (.frz o u)
theorem HoOk.mono {K : PySem.W.Frag} {G G' : Hp} (s : Same G G') : ∀ {a : Addr} {c : Cell} {u : HO}, HoOk K G a c u → HoOk K G' a c u
  | _, _, _, .lst r => .lst (r.mono s)
  | _, _, _, .dct r => .dct (r.mono s)
  | _, _, _, .ins r => .ins (r.mono s)
  | _, _, _, .lck r => .lck (HoOk.mono s r)

/-- the heap: what stays (G) and the cells -/
structure Ab (K : PySem.W.Frag) (F : Cells) (G H : Hp) (C : Cells) : Prop where
  sub : Same G H
  cell : ∀ a c, C a = some c → G a = none ∧ ∃ u, H a = some u ∧ HoOk K G a c u
  fr : ∀ a c, F a = some c → C a = none ∧ G a = none ∧ ∃ u, H a = some u ∧ HoOk K G a c u

section
variable {K : PySem.W.Frag} {G G' H H' : Hp} {F C C' : Cells} {a p : Addr} {c : Cell} {u : HO}
theorem Ab.free (A : Ab K F G H C) (h : H p = none) : C p = none := by
  cases e : C p with
  | none => rfl
  | some c =>
    obtain ⟨_, u, e2, _⟩ := A.cell p c e
    rw [h] at e2; cases e2
theorem Ab.freeF (A : Ab K F G H C) (h : H p = none) : F p = none := by
  cases e : F p with
  | none => rfl
  | some c =>
    obtain ⟨_, _, u, e2, _⟩ := A.fr p c e
    rw [h] at e2; cases e2
theorem Ab.noF {c : Cell} (A : Ab K F G H C) (h : C p = some c) : F p = none := by
  cases e : F p with
  | none => rfl
  | some c' =>
    obtain ⟨e2, _⟩ := A.fr p c' e
    rw [h] at e2; cases e2
theorem Ab.freeG (A : Ab K F G H C) (h : H p = none) : G p = none := A.sub.free h
theorem same_upd (hG : G p = none) : Same G (upd G p u) := fun b o e => by rw [upd_ne (ne_of_none e hG)]; exact e
/-- a new thing that stays -/
theorem Ab.grow (A : Ab K F G H C) (h : H p = none) : Ab K F (upd G p u) (upd H p u) C ∧ Same G (upd G p u) := by
  have hG := A.freeG h
  have sm : Same G (upd G p u) := same_upd hG
  refine ⟨⟨fun b o e => ?_, fun b c e => ?_, fun b c e => ?_⟩, sm⟩
  · by_cases hb : b = p
    · subst hb; rw [upd_same] at e; rw [upd_same]; exact e
    · rw [upd_ne hb] at e; rw [upd_ne hb]; exact A.sub b o e
  · obtain ⟨h1, v, h2, h3⟩ := A.cell b c e
    have hb : b ≠ p := ne_of_none h2 h
    exact ⟨by rw [upd_ne hb]; exact h1, v, by rw [upd_ne hb]; exact h2, h3.mono sm⟩
  · obtain ⟨h0, h1, v, h2, h3⟩ := A.fr b c e
    have hb : b ≠ p := ne_of_none h2 h
    exact ⟨h0, by rw [upd_ne hb]; exact h1, v, by rw [upd_ne hb]; exact h2, h3.mono sm⟩
/-- a cell put -/
theorem Ab.put (A : Ab K F G H C) (hG : G p = none) (hF : F p = none) (ok : HoOk K G p c u) : Ab K F G (upd H p u) (updC C p c) := by
  refine ⟨fun b o e => ?_, fun b d e => ?_, fun b d e => ?_⟩
  · rw [upd_ne (ne_of_none e hG)]; exact A.sub b o e
  · by_cases hb : b = p
    · subst hb; rw [updC_same] at e; cases e
      exact ⟨hG, u, upd_same, ok⟩
    · rw [updC_ne hb] at e
      obtain ⟨h1, v, h2, h3⟩ := A.cell b d e
      exact ⟨h1, v, by rw [upd_ne hb]; exact h2, h3⟩
  · obtain ⟨h0, h1, v, h2, h3⟩ := A.fr b d e
    have hb : b ≠ p := by rintro rfl; rw [hF] at e; cases e
    exact ⟨by rw [updC_ne hb]; exact h0, h1, v, by rw [upd_ne hb]; exact h2, h3⟩
/-- a new cell -/
theorem Ab.cellNew (A : Ab K F G H C) (h : H p = none) (ok : HoOk K G p c u) : Ab K F G (upd H p u) (updC C p c) := A.put (A.freeG h) (A.freeF h) ok
/-- a cell written -/
theorem Ab.write {c0 : Cell} (A : Ab K F G H C) (h : C p = some c0) (ok : HoOk K G p c u) : Ab K F G (upd H p u) (updC C p c) := A.put (A.cell p c0 h).1 (A.noF h) ok
/-- a cell is let go: it stays from now on as it is -/
theorem Ab.freeze (A : Ab K F G H C) (h : C p = some c) : ∃ u, H p = some u ∧ HoOk K G p c u ∧ Same G (upd G p u) ∧ Ab K F (upd G p u) H (delC C p) := by
  obtain ⟨hG, u, hH, ok⟩ := A.cell p c h
  have hF := A.noF h
  have sm : Same G (upd G p u) := same_upd hG
  refine ⟨u, hH, ok, sm, ⟨fun b o e => ?_, fun b d e => ?_, fun b d e => ?_⟩⟩
  · by_cases hb : b = p
    · subst hb; rw [upd_same] at e; cases e; exact hH
    · rw [upd_ne hb] at e; exact A.sub b o e
  · have hb : b ≠ p := by
      rintro rfl
      unfold delC at e; rw [if_pos rfl] at e; cases e
    unfold delC at e; rw [if_neg hb] at e
    obtain ⟨h1, v, h2, h3⟩ := A.cell b d e
    exact ⟨by rw [upd_ne hb]; exact h1, v, h2, h3.mono sm⟩
  · obtain ⟨h0, h1, v, h2, h3⟩ := A.fr b d e
    have hb : b ≠ p := by rintro rfl; rw [hF] at e; cases e
    exact ⟨by unfold delC; rw [if_neg hb]; exact h0, by rw [upd_ne hb]; exact h1, v, h2, h3.mono sm⟩
/-- a cell is forgotten -/
theorem Ab.less (A : Ab K F G H C) (h : ∀ a c, C' a = some c → C a = some c) : Ab K F G H C' := ⟨A.sub, fun b c e => A.cell b c (h b c e), fun b c e => by
  obtain ⟨h0, h1⟩ := A.fr b c e
  refine ⟨?_, h1⟩
  cases q : C' b with
  | none => rfl
  | some c' => rw [h b c' q] at h0; cases h0⟩
/-- a cell goes into the frame -/
theorem Ab.hide (A : Ab K F G H C) (h : C p = some c) : Ab K (updC F p c) G H (delC C p) := by
  refine ⟨A.sub, fun b d e => ?_, fun b d e => ?_⟩
  · unfold delC at e
    by_cases hb : b = p
    · rw [if_pos hb] at e; cases e
    · rw [if_neg hb] at e; exact A.cell b d e
  · by_cases hb : b = p
    · subst hb
      rw [updC_same] at e; cases e
      obtain ⟨h1, h2⟩ := A.cell _ _ h
      exact ⟨if_pos rfl, h1, h2⟩
    · rw [updC_ne hb] at e
      obtain ⟨h0, h1⟩ := A.fr b d e
      exact ⟨by unfold delC; rw [if_neg hb]; exact h0, h1⟩
/-- .. and comes back -/
theorem Ab.show (A : Ab K (updC F p c) G H C) (h : F p = none) : Ab K F G H (updC C p c) ∧ C p = none := by
  obtain ⟨e0, e1, u, e2, e3⟩ := A.fr p c updC_same
  refine ⟨⟨A.sub, fun b d e => ?_, fun b d e => ?_⟩, e0⟩
  · by_cases hb : b = p
    · subst hb; rw [updC_same] at e; cases e
      exact ⟨e1, u, e2, e3⟩
    · rw [updC_ne hb] at e; exact A.cell b d e
  · have hb : b ≠ p := by rintro rfl; rw [h] at e; cases e
    obtain ⟨h0, h1⟩ := A.fr b d (by rw [updC_ne hb]; exact e)
    exact ⟨by rw [updC_ne hb]; exact h0, h1⟩
end

/-! ### readings over data, and their lift -/
abbrev DE := DSt → Cells → (D → Cells → Prop) → Prop
abbrev DT := DSt → Cells → (Bool → Cells → Prop) → Prop
abbrev DA := DSt → Cells → (List D → Cells → Prop) → Prop
structure DEnds where
  nx : DSt → Cells → Prop
  rt : D → Cells → Prop
  bk : DSt → Cells → Prop := fun _ _ => False
  ct : DSt → Cells → Prop := fun _ _ => False
abbrev DS := DEnds → DSt → Cells → Prop

section
variable (K : PySem.W.Frag)
def ToE (F : Cells) (G : Hp) (R : D → Cells → Prop) (Q : VK) : Prop := ∀ d C, R d C → ∀ v H' G', Same G G' → Ab K F G' H' C → Rp K G' d v → Q v H'
def ToT (F : Cells) (G : Hp) (R : Bool → Cells → Prop) (Q : Bool → Hp → Prop) : Prop := ∀ b C, R b C → ∀ H' G', Same G G' → Ab K F G' H' C → Q b H'
def ToA (F : Cells) (G : Hp) (R : List D → Cells → Prop) (Q : List V → Hp → Prop) : Prop := ∀ ds C, R ds C → ∀ vs H' G', Same G G' → Ab K F G' H' C → RpL K G' ds vs → Q vs H'
def ToN (F : Cells) (G : Hp) (R : DSt → Cells → Prop) (Q : St → Hp → Prop) : Prop := ∀ δ C, R δ C → ∀ σ H' G', Same G G' → Ab K F G' H' C → RpS K G' δ σ → Q σ H'
structure ToS (F : Cells) (G : Hp) (R : DEnds) (N : Ends) : Prop where
  nx : ToN K F G R.nx N.nx
  rt : ToE K F G R.rt N.rt
  bk : ToN K F G R.bk N.bk
  ct : ToN K F G R.ct N.ct
def liftE (t : DE) : TE := fun σ H Q => ∃ F G δ C R, Ab K F G H C ∧ RpS K G δ σ ∧ t δ C R ∧ ToE K F G R Q
def liftT (t : DT) : TT := fun σ H Q => ∃ F G δ C R, Ab K F G H C ∧ RpS K G δ σ ∧ t δ C R ∧ ToT K F G R Q
def liftA (t : DA) : TA := fun σ H Q => ∃ F G δ C R, Ab K F G H C ∧ RpS K G δ σ ∧ t δ C R ∧ ToA K F G R Q
def liftS (t : DS) : TS := fun N σ H => ∃ F G δ C R, Ab K F G H C ∧ RpS K G δ σ ∧ t R δ C ∧ ToS K F G R N
end
section
variable {K : PySem.W.Frag} {F : Cells} {G G' : Hp}
theorem ToE.mono {R : D → Cells → Prop} {Q : VK} (h : ToE K F G R Q) (s : Same G G') : ToE K F G' R Q := fun d C r v H' G2 s2 => h d C r v H' G2 (s.trans s2)
theorem ToT.mono {R : Bool → Cells → Prop} {Q : Bool → Hp → Prop} (h : ToT K F G R Q) (s : Same G G') : ToT K F G' R Q := fun d C r H' G2 s2 => h d C r H' G2 (s.trans s2)
theorem ToA.mono {R : List D → Cells → Prop} {Q : List V → Hp → Prop} (h : ToA K F G R Q) (s : Same G G') : ToA K F G' R Q := fun d C r v H' G2 s2 => h d C r v H' G2 (s.trans s2)
theorem ToN.mono {R : DSt → Cells → Prop} {Q : St → Hp → Prop} (h : ToN K F G R Q) (s : Same G G') : ToN K F G' R Q := fun d C r v H' G2 s2 => h d C r v H' G2 (s.trans s2)
theorem ToS.mono {R : DEnds} {N : Ends} (h : ToS K F G R N) (s : Same G G') : ToS K F G' R N := ⟨h.nx.mono s, h.rt.mono s, h.bk.mono s, h.ct.mono s⟩
end

/-! ### a dict is locked for good -/
def lockQ (Q : VK) : VK := fun v H => Q v H ∨ ∃ d kvs, v = .ref d ∧ H d = some (.dK kvs) ∧ ∀ od, Q v (upd H d (.frz od (.dK kvs)))
theorem EP.lock {X : Cx} {pins : List (Addr × Obj)} {σ : St} {Q : VK} {u : Value} {s' : Shared} (h : EP X pins σ (lockQ Q) u s') : EP X pins σ Q u s' := by
  obtain ⟨v, H', I, r, q⟩ := h
  rcases q with q | ⟨d, kvs, rfl, hd, q⟩
  · exact ⟨v, H', I, r, q⟩
  · obtain ⟨od, I'⟩ := I.lock hd trivial
    exact ⟨_, _, I', r, q od⟩
theorem pe_lockQ {X : Cx} {e : Expr} {t : TE} (h : PE X e t) : PE X e (fun σ H Q => t σ H (lockQ Q)) := ⟨fun pins s σ H Q I q => thn (h.run pins s σ H _ I q) fun u s1 z => EP.lock z⟩
theorem callR_lock {X : Cx} {f : Value} {r : List V → Hp → VK → Prop} (h : CallR X f r) : CallR X f (fun xs H Q => r xs H (lockQ Q)) := fun pins s σ H xs us Q I r' q => thn (h pins s σ H xs us _ I r' q) fun u s1 z => EP.lock z

/-! ### weaker readings -/
section
variable {X : Cx}
theorem _root_.L2.PE.weak {e : Expr} {t t' : TE} (h : PE X e t) (w : ∀ σ H Q, t' σ H Q → t σ H Q) : PE X e t' := ⟨fun pins s σ H Q I q => h.run pins s σ H Q I (w σ H Q q)⟩
theorem _root_.L2.PT.weak {e : Expr} {t t' : TT} (h : PT X e t) (w : ∀ σ H Q, t' σ H Q → t σ H Q) : PT X e t' := ⟨fun pins s σ H Q I q => h.run pins s σ H Q I (w σ H Q q)⟩
theorem _root_.L2.PW.weak {e : Expr} {t t' : TT} (h : PW X e t) (w : ∀ σ H Q, t' σ H Q → t σ H Q) : PW X e t' := ⟨fun wh pins s σ H Q I q => h.run wh pins s σ H Q I (w σ H Q q)⟩
theorem _root_.L2.PA.weak {e : List Expr} {t t' : TA} (h : PA X e t) (w : ∀ σ H Q, t' σ H Q → t σ H Q) : PA X e t' := ⟨fun pos pins s σ H Q I q => h.run pos pins s σ H Q I (w σ H Q q)⟩
theorem _root_.L2.PS.weak {e : Stmt} {t t' : TS} (h : PS X e t) (w : ∀ D σ H, t' D σ H → t D σ H) : PS X e t' := ⟨fun pins s σ H D I q => h.run pins s σ H D I (w D σ H q)⟩
theorem _root_.L2.PSs.weak {e : List Stmt} {t t' : TS} (h : PSs X e t) (w : ∀ D σ H, t' D σ H → t D σ H) : PSs X e t' := ⟨fun pins s σ H D I q => h.run pins s σ H D I (w D σ H q)⟩
end
end DL
/-! DLb: names, constants, operators, comparisons, tests, displays. -/
namespace DL
open PySem PySem.Spec L2
open PyProof.Rows hiding St

section
variable {X : Cx}
/-! ### names, constants -/
def dVar (i : Nat) : DE := fun δ C R => ∃ d, δ[i]? = some (some d) ∧ R d C
def dC (d : D) : DE := fun _ C R => R d C
theorem dv (i : Nat) {x : Str} {pos : Pos} (hN : X.N[i]? = some x := by rfl) (hv : Vis X.env.scope x := by first | exact Or.inl rfl | exact Or.inr (Or.inl rfl) | exact Or.inr (Or.inr rfl)) (hd : (x == ("__debug__" : Str)) = false := by decide)
    (hcd : (x == ("__classdict__" : Str)) = false := by decide) : PE X (.Name x pos) (liftE X.K (dVar i)) :=
  (pe_var hN hv hd hcd).weak fun σ H Q ⟨F, G, δ, C, R, A, S, ⟨d, e, q⟩, k⟩ => by
    obtain ⟨v, e1, r⟩ := S.get e
    exact ⟨v, e1, k d C q v H G (Same.refl G) A r⟩
theorem lift_c {K : PySem.W.Frag} {d : D} {v : V} (r : ∀ G, Rp K G d v) : ∀ σ H Q, liftE K (dC d) σ H Q → tC v σ H Q := fun σ H Q ⟨F, G, δ, C, R, A, S, q, k⟩ => k d C q v H G (Same.refl G) A (r G)
theorem de_int {i j pos} : PE X (.Constant (.int i) j pos) (liftE X.K (dC (.int i))) := pe_int.weak (lift_c fun _ => .int i)
theorem de_bl {b j pos} : PE X (.Constant (.bool b) j pos) (liftE X.K (dC (.bl b))) := pe_bl.weak (lift_c fun _ => .bl b)
theorem de_non {j pos} : PE X (.Constant .none j pos) (liftE X.K (dC .non)) := pe_non.weak (lift_c fun _ => .non)
theorem de_str {x j pos} : PE X (.Constant (.str x) j pos) (liftE X.K (dC (.str x))) := pe_str.weak (lift_c fun _ => .str x)
/-- a module's constant, as data -/
structure GlD (K : PySem.W.Frag) (mg : Str → Option Value) (x : Str) (d : D) : Prop where
  at_ : ∃ v u, mg x = some u ∧ RelV v u ∧ ∀ G, Rp K G d v
theorem de_glob {x : Str} {d : D} {pos : Pos} (hg : Gl X x) (g : GlD X.K X.mg x d) (hd : (x == ("__debug__" : Str)) = false := by decide) : PE X (.Name x pos) (liftE X.K (dC d)) := by
  obtain ⟨v, u, h1, h2, h3⟩ := g.at_
  exact (pe_glob hg h1 h2 hd).weak (lift_c h3)
/-- a built-in type as a value -/
theorem de_bltn {x : Str} {T : String} {pos : Pos} (hg : Gl X x) (hm : X.mg x = none) (hv : bootBuiltins x = some (.type T)) (hn : x ≠ "__name__" := by decide) (hd : (x == ("__debug__" : Str)) = false := by decide) : PE X (.Name x pos) (liftE X.K (dC (.ty T))) :=
  (pe_bltn (v := .ty T) hg hm hv rfl hn hd).weak (lift_c fun _ => .ty T)
end

/-! ### operators by values -/
abbrev DO1 := D → Cells → (D → Cells → Prop) → Prop
abbrev DO2 := D → D → Cells → (D → Cells → Prop) → Prop
abbrev DOs := List D → Cells → (D → Cells → Prop) → Prop
def dOp (o : DO2) (ta tb : DE) : DE := fun δ C R => ta δ C fun x C1 => tb δ C1 fun y C2 => o x y C2 R
def dUn (o : DO1) (ta : DE) : DE := fun δ C R => ta δ C fun x C1 => o x C1 R
def dFn (o : DOs) (ta : DA) : DE := fun δ C R => ta δ C fun xs C1 => o xs C1 R
def LO2 (K : PySem.W.Frag) (r : R2) (o : DO2) : Prop := ∀ F G H C x y v u R Q, Ab K F G H C → Rp K G x v → Rp K G y u → o x y C R → ToE K F G R Q → r v u H Q
def LO1 (K : PySem.W.Frag) (r : V → Hp → VK → Prop) (o : DO1) : Prop := ∀ F G H C x v R Q, Ab K F G H C → Rp K G x v → o x C R → ToE K F G R Q → r v H Q
def LOs (K : PySem.W.Frag) (r : List V → Hp → VK → Prop) (o : DOs) : Prop := ∀ F G H C xs vs R Q, Ab K F G H C → RpL K G xs vs → o xs C R → ToE K F G R Q → r vs H Q
section
variable {K : PySem.W.Frag}
theorem lift_op {r : R2} {o : DO2} {ta tb : DE} (h : LO2 K r o) : ∀ σ H Q, liftE K (dOp o ta tb) σ H Q → tOp r (liftE K ta) (liftE K tb) σ H Q := by
  rintro σ H Q ⟨F, G, δ, C, R, A, S, t, k⟩
  refine ⟨F, G, δ, C, _, A, S, t, fun x C1 q1 v H1 G1 s1 A1 r1 => ⟨F, G1, δ, C1, _, A1, S.mono s1, q1, fun y C2 q2 u H2 G2 s2 A2 r2 => ?_⟩⟩
  exact h F G2 H2 C2 x y v u R Q A2 (r1.mono s2) r2 q2 (k.mono (s1.trans s2))
theorem lift_un {r : V → Hp → VK → Prop} {o : DO1} {ta : DE} (h : LO1 K r o) : ∀ σ H Q, liftE K (dUn o ta) σ H Q → tUn r (liftE K ta) σ H Q := by
  rintro σ H Q ⟨F, G, δ, C, R, A, S, t, k⟩
  exact ⟨F, G, δ, C, _, A, S, t, fun x C1 q1 v H1 G1 s1 A1 r1 => h F G1 H1 C1 x v R Q A1 r1 q1 (k.mono s1)⟩
theorem lift_fn {r : List V → Hp → VK → Prop} {o : DOs} {ta : DA} (h : LOs K r o) : ∀ σ H Q, liftE K (dFn o ta) σ H Q → liftA K ta σ H fun vs H1 => r vs H1 Q := by
  rintro σ H Q ⟨F, G, δ, C, R, A, S, t, k⟩
  exact ⟨F, G, δ, C, _, A, S, t, fun x C1 q1 v H1 G1 s1 A1 r1 => h F G1 H1 C1 x v R Q A1 r1 q1 (k.mono s1)⟩
/-- a result that stands in what stays already -/
theorem ToE.now {G H : Hp} {F C : Cells} {R : D → Cells → Prop} {Q : VK} {d : D} {v : V} (k : ToE K F G R Q) (A : Ab K F G H C) (q : R d C) (r : Rp K G d v) : Q v H := k d C q v H G (Same.refl G) A r
/-- a new thing that stays -/
theorem ToE.new {G H : Hp} {F C : Cells} {R : D → Cells → Prop} {Q : VK} {d : D} {p : Addr} {u : HO} (k : ToE K F G R Q) (A : Ab K F G H C) (hp : H p = none) (q : R d C) (r : Rp K (upd G p u) d (.ref p)) : Q (.ref p) (upd H p u) :=
  k d C q _ _ _ (A.grow (u := u) hp).2 (A.grow hp).1 r
/-- a new cell -/
theorem ToE.cell {G H : Hp} {F C : Cells} {R : D → Cells → Prop} {Q : VK} {c : Cell} {p : Addr} {u : HO} (k : ToE K F G R Q) (A : Ab K F G H C) (hp : H p = none) (q : R (.ref p) (updC C p c)) (ok : HoOk K G p c u) : Q (.ref p) (upd H p u) :=
  k _ _ q _ _ _ (Same.refl G) (A.cellNew hp ok) (.ref p)
end

section
variable {X : Cx} {a b : Expr} {ta tb : DE} {pos : Pos}
theorem de_op {op : Operator} {r : R2} {o : DO2} (ho : OpR X (binaryOp op) r) (h : LO2 X.K r o) (ha : PE X a (liftE X.K ta)) (hb : PE X b (liftE X.K tb)) : PE X (.BinOp a op b pos) (liftE X.K (dOp o ta tb)) := (pe_op ho ha hb).weak (lift_op h)
theorem de_un {op : UnaryOp} {r : V → Hp → VK → Prop} {o : DO1} (ho : UnR X (unaryOp op) r) (h : LO1 X.K r o) (ha : PE X a (liftE X.K ta)) : PE X (.UnaryOp op a pos) (liftE X.K (dUn o ta)) := (pe_un ho ha).weak (lift_un h)
theorem de_cmp {op : CmpOp} {r : R2} {o : DO2} (ho : OpR X (compareOp op) r) (h : LO2 X.K r o) (ha : PE X a (liftE X.K ta)) (hb : PE X b (liftE X.K tb)) (hm : behindInMarks op b = false) : PE X (.Compare a [op] [b] pos) (liftE X.K (dOp o ta tb)) := (pe_cmpR ho ha hb hm).weak (lift_op h)
/-- a value that is a bool, as a test -/
def dTest (t : DE) : DT := fun δ C R => t δ C fun d C1 => ∃ b, d = .bl b ∧ R b C1
theorem lift_test {K : PySem.W.Frag} {t : DE} : ∀ σ H Q, liftT K (dTest t) σ H Q → tTest (liftE K t) σ H Q := by
  rintro σ H Q ⟨F, G, δ, C, R, A, S, t, k⟩
  refine ⟨F, G, δ, C, _, A, S, t, ?_⟩
  rintro x C1 ⟨b, rfl, q⟩ v H1 G1 s1 A1 r1
  cases r1
  exact ⟨b, rfl, k b C1 q H1 G1 s1 A1⟩
theorem dt_cmp {op : CmpOp} {r : R2} {o : DO2} (ho : OpR X (compareOp op) r) (h : LO2 X.K r o) (ha : PE X a (liftE X.K ta)) (hb : PE X b (liftE X.K tb)) (hm : behindInMarks op b = false) : PT X (.Compare a [op] [b] pos) (liftT X.K (dTest (dOp o ta tb))) := by
  refine (pt_cmpR ho ha hb hm).weak fun σ H Q q => ?_
  obtain ⟨F, G, δ, C, R, A, S, t, k⟩ := lift_test σ H Q q
  exact lift_op h σ H _ ⟨F, G, δ, C, R, A, S, t, k⟩
/-- another expression whose value is a bool, as a test -/
theorem dt_val {e : Expr} {t : DE} (h : PE X e (liftE X.K t)) (he : ∀ whole, isTrue e X.env whole = (do let v ← whole; standAt e.pos; holding [v] (truthy v)) := by intro _; rfl) : PT X e (liftT X.K (dTest t)) :=
  (pt_val h he).weak fun σ H Q q => lift_test σ H Q q

/-! ### and, or, not, if-else -/
variable {tA tB' : DT} {rest : List Expr} {c : Expr}
def dAnd (t u : DT) : DT := fun δ C R => t δ C fun b C1 => if b = true then u δ C1 R else R false C1
def dOr (t u : DT) : DT := fun δ C R => t δ C fun b C1 => if b = true then R true C1 else u δ C1 R
def dNot (t : DT) : DT := fun δ C R => t δ C fun b C1 => R (!b) C1
theorem lift_and {K : PySem.W.Frag} {t u : DT} : ∀ σ H Q, liftT K (dAnd t u) σ H Q → tAnd (liftT K t) (liftT K u) σ H Q := by
  rintro σ H Q ⟨F, G, δ, C, R, A, S, t, k⟩
  refine ⟨F, G, δ, C, _, A, S, t, fun b C1 q H1 G1 s1 A1 => ?_⟩
  cases b with
  | true => rw [if_pos rfl] at q ⊢; exact ⟨F, G1, δ, C1, R, A1, S.mono s1, q, k.mono s1⟩
  | false => rw [if_neg Bool.false_ne_true] at q ⊢; exact k _ _ q H1 G1 s1 A1
theorem lift_or {K : PySem.W.Frag} {t u : DT} : ∀ σ H Q, liftT K (dOr t u) σ H Q → tOr (liftT K t) (liftT K u) σ H Q := by
  rintro σ H Q ⟨F, G, δ, C, R, A, S, t, k⟩
  refine ⟨F, G, δ, C, _, A, S, t, fun b C1 q H1 G1 s1 A1 => ?_⟩
  cases b with
  | true => rw [if_pos rfl] at q ⊢; exact k _ _ q H1 G1 s1 A1
  | false => rw [if_neg Bool.false_ne_true] at q ⊢; exact ⟨F, G1, δ, C1, R, A1, S.mono s1, q, k.mono s1⟩
theorem lift_not {K : PySem.W.Frag} {t : DT} : ∀ σ H Q, liftT K (dNot t) σ H Q → tNot (liftT K t) σ H Q := by
  rintro σ H Q ⟨F, G, δ, C, R, A, S, t, k⟩
  exact ⟨F, G, δ, C, _, A, S, t, fun b C1 q H1 G1 s1 A1 => k _ _ q H1 G1 s1 A1⟩
theorem dw_and1 (ha : PT X a (liftT X.K tA)) : PW X (.BoolOp .And [a] pos) (liftT X.K tA) := pw_and1 ha
theorem dw_or1 (ha : PT X a (liftT X.K tA)) : PW X (.BoolOp .Or [a] pos) (liftT X.K tA) := pw_or1 ha
theorem dw_and (ha : PT X a (liftT X.K tA)) (hb : PW X (.BoolOp .And (b :: rest) pos) (liftT X.K tB')) : PW X (.BoolOp .And (a :: b :: rest) pos) (liftT X.K (dAnd tA tB')) := (pw_and ha hb).weak lift_and
theorem dw_or (ha : PT X a (liftT X.K tA)) (hb : PW X (.BoolOp .Or (b :: rest) pos) (liftT X.K tB')) : PW X (.BoolOp .Or (a :: b :: rest) pos) (liftT X.K (dOr tA tB')) := (pw_or ha hb).weak lift_or
theorem dt_not (ha : PT X a (liftT X.K tA)) : PT X (.UnaryOp .Not a pos) (liftT X.K (dNot tA)) := (pt_not ha).weak lift_not
/-- as values: the left ones are bools -/
def dAndV (ta tb : DE) : DE := fun δ C R => ta δ C fun d C1 => ∃ b, d = .bl b ∧ if b = true then tb δ C1 R else R (.bl false) C1
def dOrV (ta tb : DE) : DE := fun δ C R => ta δ C fun d C1 => ∃ b, d = .bl b ∧ if b = true then R (.bl true) C1 else tb δ C1 R
def dNotV (ta : DE) : DE := fun δ C R => ta δ C fun d C1 => ∃ b, d = .bl b ∧ R (.bl (!b)) C1
theorem de_one {op} {t : DE} (h : PE X a (liftE X.K t)) : PE X (.BoolOp op [a] pos) (liftE X.K t) := pe_one h
theorem de_and (ha : PE X a (liftE X.K ta)) (hb : PE X (.BoolOp .And (b :: rest) pos) (liftE X.K tb)) : PE X (.BoolOp .And (a :: b :: rest) pos) (liftE X.K (dAndV ta tb)) := by
  refine (pe_and ha hb).weak ?_
  rintro σ H Q ⟨F, G, δ, C, R, A, S, t, k⟩
  refine ⟨F, G, δ, C, _, A, S, t, ?_⟩
  rintro d C1 ⟨b, rfl, q⟩ v H1 G1 s1 A1 r1
  cases r1
  refine ⟨b, rfl, ?_⟩
  cases b with
  | true => rw [if_pos rfl] at q ⊢; exact ⟨F, G1, δ, C1, R, A1, S.mono s1, q, k.mono s1⟩
  | false => rw [if_neg Bool.false_ne_true] at q ⊢; exact k _ _ q _ H1 G1 s1 A1 (.bl false)
theorem de_or (ha : PE X a (liftE X.K ta)) (hb : PE X (.BoolOp .Or (b :: rest) pos) (liftE X.K tb)) : PE X (.BoolOp .Or (a :: b :: rest) pos) (liftE X.K (dOrV ta tb)) := by
  refine (pe_or ha hb).weak ?_
  rintro σ H Q ⟨F, G, δ, C, R, A, S, t, k⟩
  refine ⟨F, G, δ, C, _, A, S, t, ?_⟩
  rintro d C1 ⟨b, rfl, q⟩ v H1 G1 s1 A1 r1
  cases r1
  refine ⟨b, rfl, ?_⟩
  cases b with
  | true => rw [if_pos rfl] at q ⊢; exact k _ _ q _ H1 G1 s1 A1 (.bl true)
  | false => rw [if_neg Bool.false_ne_true] at q ⊢; exact ⟨F, G1, δ, C1, R, A1, S.mono s1, q, k.mono s1⟩
theorem de_not (ha : PE X a (liftE X.K ta)) : PE X (.UnaryOp .Not a pos) (liftE X.K (dNotV ta)) := by
  refine (pe_not ha).weak ?_
  rintro σ H Q ⟨F, G, δ, C, R, A, S, t, k⟩
  refine ⟨F, G, δ, C, _, A, S, t, ?_⟩
  rintro d C1 ⟨b, rfl, q⟩ v H1 G1 s1 A1 r1
  cases r1
  exact ⟨b, rfl, k _ _ q _ H1 G1 s1 A1 (.bl _)⟩
def dIf (t : DT) (ta tb : DE) : DE := fun δ C R => t δ C fun b C1 => if b = true then ta δ C1 R else tb δ C1 R
theorem de_ifExp (hc : PT X c (liftT X.K tA)) (ha : PE X a (liftE X.K ta)) (hb : PE X b (liftE X.K tb)) : PE X (.IfExp c a b pos) (liftE X.K (dIf tA ta tb)) := by
  refine (pe_ifExp hc ha hb).weak ?_
  rintro σ H Q ⟨F, G, δ, C, R, A, S, t, k⟩
  refine ⟨F, G, δ, C, _, A, S, t, fun b C1 q H1 G1 s1 A1 => ?_⟩
  cases b with
  | true => rw [if_pos rfl] at q ⊢; exact ⟨F, G1, δ, C1, R, A1, S.mono s1, q, k.mono s1⟩
  | false => rw [if_neg Bool.false_ne_true] at q ⊢; exact ⟨F, G1, δ, C1, R, A1, S.mono s1, q, k.mono s1⟩
/-- a <= b <= c, by values -/
def dChain (o o' : DO2) (ta tb tc : DE) : DE := fun δ C R => ta δ C fun x C1 => tb δ C1 fun y C2 => o x y C2 fun z C3 => ∃ b, z = .bl b ∧ if b = true then tc δ C3 fun x' C4 => o' y x' C4 R else R (.bl false) C3
theorem lift_chain {K : PySem.W.Frag} {r r' : R2} {o o' : DO2} {ta tb tc : DE} (h : LO2 K r o) (h' : LO2 K r' o') : ∀ σ H Q, liftE K (dChain o o' ta tb tc) σ H Q → tChain r r' (liftE K ta) (liftE K tb) (liftE K tc) σ H Q := by
  rintro σ H Q ⟨F, G, δ, C, R, A, S, t, k⟩
  refine ⟨F, G, δ, C, _, A, S, t, fun x C1 q1 v H1 G1 s1 A1 r1 => ⟨F, G1, δ, C1, _, A1, S.mono s1, q1, fun y C2 q2 u H2 G2 s2 A2 r2 => ?_⟩⟩
  refine h F G2 H2 C2 x y v u _ _ A2 (r1.mono s2) r2 q2 ?_
  rintro z C3 ⟨b, rfl, q3⟩ w H3 G3 s3 A3 r3
  cases r3
  refine ⟨b, rfl, ?_⟩
  cases b with
  | true =>
    rw [if_pos rfl] at q3 ⊢
    exact ⟨F, G3, δ, C3, _, A3, S.mono (s1.trans (s2.trans s3)), q3, fun x' C4 q4 v' H4 G4 s4 A4 r4 => h' F G4 H4 C4 y x' u v' R Q A4 (r2.mono (s3.trans s4)) r4 q4 (k.mono (s1.trans (s2.trans (s3.trans s4))))⟩
  | false =>
    rw [if_neg Bool.false_ne_true] at q3 ⊢
    exact k _ _ q3 _ H3 G3 (s1.trans (s2.trans s3)) A3 (.bl false)
variable {tc : DE}
theorem de_chain {op op' : CmpOp} {r r' : R2} {o o' : DO2} (ho : OpR X (compareOp op) r) (h : LO2 X.K r o) (ho' : OpR X (compareOp op') r') (h' : LO2 X.K r' o') (ha : PE X a (liftE X.K ta)) (hb : PE X b (liftE X.K tb)) (hc : PE X c (liftE X.K tc))
    (hm : lastMarks [op, op'] [b, c] = false := by with_unfolding_all rfl) : PE X (.Compare a [op, op'] [b, c] pos) (liftE X.K (dChain o o' ta tb tc)) := (pe_chain ho ho' ha hb hc hm).weak (lift_chain h h')
theorem dt_chain {op op' : CmpOp} {r r' : R2} {o o' : DO2} (ho : OpR X (compareOp op) r) (h : LO2 X.K r o) (ho' : OpR X (compareOp op') r') (h' : LO2 X.K r' o') (ha : PE X a (liftE X.K ta)) (hb : PE X b (liftE X.K tb)) (hc : PE X c (liftE X.K tc))
    (hm : lastMarks [op, op'] [b, c] = false := by with_unfolding_all rfl) : PT X (.Compare a [op, op'] [b, c] pos) (liftT X.K (dTest (dChain o o' ta tb tc))) := by
  refine (pt_chain ho ho' ha hb hc hm).weak fun σ H Q q => ?_
  obtain ⟨F, G, δ, C, R, A, S, t, k⟩ := lift_test σ H Q q
  exact lift_chain h h' σ H _ ⟨F, G, δ, C, R, A, S, t, k⟩
end
end DL
/-! DLc: equality of data; the operators. -/
namespace DL
open PySem PySem.Spec L2
open PyProof.Rows hiding St

/-! ### data of any depth: the same, equal as Python has it -/
mutual
def D.same : D → D → Bool
  | .non, .non => true
  | .bl a, .bl b => a == b
  | .int a, .int b => a == b
  | .str a, .str b => a == b
  | .tup xs, .tup ys => D.sameL xs ys
  | .lst xs, .lst ys => D.sameL xs ys
  | .dct xs, .dct ys => D.sameK xs ys
  | .ref a, .ref b => decide (a = b)
  | .ty a, .ty b => a == b
  | _, _ => false
def D.sameL : List D → List D → Bool
  | [], [] => true
  | x :: xs, y :: ys => D.same x y && D.sameL xs ys
  | _, _ => false
def D.sameK : List (Key × D) → List (Key × D) → Bool
  | [], [] => true
  | (k, x) :: xs, (l, y) :: ys => decide (k = l) && D.same x y && D.sameK xs ys
  | _, _ => false
end
mutual
theorem D.same_iff : ∀ x y : D, D.same x y = true ↔ x = y
  | x, y => by
    cases x <;> cases y <;> simp [D.same]
    · exact D.sameL_iff _ _
    · exact D.sameL_iff _ _
    · exact D.sameK_iff _ _
theorem D.sameL_iff : ∀ x y : List D, D.sameL x y = true ↔ x = y
  | [], [] => by simp [D.sameL]
  | [], _ :: _ => by simp [D.sameL]
  | _ :: _, [] => by simp [D.sameL]
  | x :: xs, y :: ys => by simp [D.sameL, D.same_iff x y, D.sameL_iff xs ys]
theorem D.sameK_iff : ∀ x y : List (Key × D), D.sameK x y = true ↔ x = y
  | [], [] => by simp [D.sameK]
  | [], _ :: _ => by simp [D.sameK]
  | _ :: _, [] => by simp [D.sameK]
  | (k, x) :: xs, (l, y) :: ys => by simp [D.sameK, D.same_iff x y, D.sameK_iff xs ys, and_assoc]
end
instance : DecidableEq D := fun x y => decidable_of_iff _ (D.same_iff x y)

mutual
def D.eqv : D → D → Bool
  | .non, .non => true
  | .bl a, .bl b => a == b
  | .bl a, .int j => (if a then 1 else 0) == j
  | .int i, .bl b => i == (if b then 1 else 0)
  | .int a, .int b => a == b
  | .str a, .str b => a == b
  | .tup xs, .tup ys => D.eqvL xs ys
  | .lst xs, .lst ys => D.eqvL xs ys
  | _, _ => false
def D.eqvL : List D → List D → Bool
  | [], [] => true
  | x :: xs, y :: ys => D.eqv x y && D.eqvL xs ys
  | _, _ => false
end
/-- ints, texts, None, bools, tuples and lists of such, at most n deep -/
def okD : Nat → D → Bool
  | _, .non => true
  | _, .bl _ => true
  | _, .int _ => true
  | _, .str x => PyData.strOk x
  | n + 1, .tup ds => ds.all (okD n)
  | n + 1, .lst ds => ds.all (okD n)
  | _, _ => false
mutual
def toPy : D → PyData
  | .bl b => .bool b
  | .int i => .int i
  | .str x => .str x
  | .tup ds => .tuple (toPyL ds)
  | .lst ds => .list (toPyL ds)
  | _ => .none
def toPyL : List D → List PyData
  | [] => []
  | d :: ds => toPy d :: toPyL ds
end
theorem depthAll_le {n : Nat} : ∀ {ds : List D}, (∀ d ∈ ds, (toPy d).depth ≤ n) → PyData.depthAll (toPyL ds) ≤ n
  | [], _ => by simp [toPyL, PyData.depthAll]
  | d :: ds, h => by
    have h1 := h d (by simp)
    have h2 := depthAll_le (ds := ds) fun e he => h e (by simp [he])
    simp only [toPyL, PyData.depthAll]
    omega
theorem layAll_of : ∀ {ds : List D}, (∀ d ∈ ds, (toPy d).canLay0 = true) → PyData.canLayAll0 (toPyL ds) = true
  | [], _ => by simp [toPyL, PyData.canLayAll0]
  | d :: ds, h => by
    simp only [toPyL, PyData.canLayAll0, Bool.and_eq_true]
    exact ⟨h d (by simp), layAll_of fun e he => h e (by simp [he])⟩
theorem okD_lay : ∀ (n : Nat) (d : D), okD n d = true → (toPy d).canLay0 = true ∧ (toPy d).depth ≤ n
  | n, .non, _ => by simp [toPy, PyData.canLay0, PyData.depth]
  | n, .bl _, _ => by simp [toPy, PyData.canLay0, PyData.depth]
  | n, .int _, _ => by simp [toPy, PyData.canLay0, PyData.depth]
  | n, .str x, h => by
    have h : PyData.strOk x = true := by cases n <;> exact h
    simp [toPy, PyData.canLay0, PyData.depth]
    exact h
  | 0, .tup _, h => by cases h
  | 0, .lst _, h => by cases h
  | n + 1, .tup ds, h => by
    have h' : ∀ d ∈ ds, okD n d = true := List.all_eq_true.mp h
    have h1 := layAll_of (ds := ds) fun d hd => (okD_lay n d (h' d hd)).1
    have h2 := depthAll_le (ds := ds) fun d hd => (okD_lay n d (h' d hd)).2
    simp only [toPy, PyData.canLay0, PyData.depth]
    exact ⟨h1, by omega⟩
  | n + 1, .lst ds, h => by
    have h' : ∀ d ∈ ds, okD n d = true := List.all_eq_true.mp h
    have h1 := layAll_of (ds := ds) fun d hd => (okD_lay n d (h' d hd)).1
    have h2 := depthAll_le (ds := ds) fun d hd => (okD_lay n d (h' d hd)).2
    simp only [toPy, PyData.canLay0, PyData.depth]
    exact ⟨h1, by omega⟩
  | 0, .dct _, h => by cases h
  | n + 1, .dct _, h => by cases h
  | 0, .ref _, h => by cases h
  | n + 1, .ref _, h => by cases h
  | 0, .ty _, h => by cases h
  | n + 1, .ty _, h => by cases h
theorem okD_shaped {n : Nat} {d : D} (h : okD n d = true) (hn : n ≤ 64) : SeqAt.shaped (toPy d) = true := by
  obtain ⟨h1, h2⟩ := okD_lay n d h
  simp only [SeqAt.shaped, Bool.and_eq_true, decide_eq_true_eq]
  exact ⟨h1, by omega⟩
theorem eqvL_py {n : Nat} (ih : ∀ x y : D, okD n x = true → okD n y = true → PyData.eqv (toPy x) (toPy y) = D.eqv x y) : ∀ (x y : List D), (∀ d ∈ x, okD n d = true) → (∀ d ∈ y, okD n d = true) → PyData.eqvAll (toPyL x) (toPyL y) = D.eqvL x y
  | [], [], _, _ => by simp [toPyL, PyData.eqvAll, D.eqvL]
  | [], _ :: _, _, _ => by simp [toPyL, PyData.eqvAll, D.eqvL]
  | _ :: _, [], _, _ => by simp [toPyL, PyData.eqvAll, D.eqvL]
  | x :: xs, y :: ys, hx, hy => by
    simp only [toPyL, PyData.eqvAll, D.eqvL]
    rw [ih x y (hx x (by simp)) (hy y (by simp)), eqvL_py ih xs ys (fun d hd => hx d (by simp [hd])) (fun d hd => hy d (by simp [hd]))]
theorem eqv_py : ∀ (n : Nat) (x y : D), okD n x = true → okD n y = true → PyData.eqv (toPy x) (toPy y) = D.eqv x y
  | 0, x, y, hx, hy => by
    cases x <;> cases y <;> first
      | (simp [toPy, PyData.eqv, D.eqv]; done)
      | (exfalso; revert hx hy; simp [okD]; done)
  | n + 1, x, y, hx, hy => by
    cases x <;> cases y <;> first
      | (simp [toPy, PyData.eqv, D.eqv]; done)
      | (exfalso; revert hx hy; simp [okD]; done)
      | (simp only [toPy, PyData.eqv, D.eqv]
         exact eqvL_py (eqv_py n) _ _ (fun d hd => List.all_eq_true.mp hx d hd) (fun d hd => List.all_eq_true.mp hy d hd))
/-- no bools in it: equal is the same -/
def clean : Nat → D → Bool
  | _, .non => true
  | _, .int _ => true
  | _, .str x => PyData.strOk x
  | n + 1, .tup ds => ds.all (clean n)
  | n + 1, .lst ds => ds.all (clean n)
  | _, _ => false
theorem all_imp {p q : D → Bool} (h : ∀ d, p d = true → q d = true) {ds : List D} (k : ds.all p = true) : ds.all q = true := List.all_eq_true.mpr fun d hd => h d (List.all_eq_true.mp k d hd)
theorem clean_ok : ∀ {n : Nat} {d : D}, clean n d = true → okD n d = true
  | 0, d, h => by cases d <;> first | exact h | (revert h; simp [clean]; done)
  | n + 1, d, h => by
    cases d <;> first
      | exact h
      | (revert h; simp [clean]; done)
      | exact all_imp (fun d => clean_ok (n := n)) h
theorem eqvL_clean {n : Nat} (ih : ∀ x y : D, clean n x = true → clean n y = true → D.eqv x y = decide (x = y)) : ∀ (x y : List D), (∀ d ∈ x, clean n d = true) → (∀ d ∈ y, clean n d = true) → D.eqvL x y = decide (x = y)
  | [], [], _, _ => by simp [D.eqvL]
  | [], _ :: _, _, _ => by simp [D.eqvL]
  | _ :: _, [], _, _ => by simp [D.eqvL]
  | x :: xs, y :: ys, hx, hy => by
    simp only [D.eqvL]
    rw [ih x y (hx x (by simp)) (hy y (by simp)), eqvL_clean ih xs ys (fun d hd => hx d (by simp [hd])) (fun d hd => hy d (by simp [hd]))]
    simp
theorem eqv_clean : ∀ (n : Nat) (x y : D), clean n x = true → clean n y = true → D.eqv x y = decide (x = y)
  | 0, x, y, hx, hy => by
    cases x <;> cases y <;> first
      | (simp [D.eqv]; done)
      | (simp only [D.eqv]; rw [Bool.eq_iff_iff]; simp; done)
      | (exfalso; revert hx hy; simp [clean]; done)
  | n + 1, x, y, hx, hy => by
    cases x <;> cases y <;> first
      | (simp [D.eqv]; done)
      | (simp only [D.eqv]; rw [Bool.eq_iff_iff]; simp; done)
      | (exfalso; revert hx hy; simp [clean]; done)
      | (simp only [D.eqv]
         rw [eqvL_clean (eqv_clean n) _ _ (fun d hd => List.all_eq_true.mp hx d hd) (fun d hd => List.all_eq_true.mp hy d hd)]
         simp)
end DL
/-! DLd: operators. -/
namespace DL
open PySem PySem.Spec L2
open PyProof.Rows hiding St

theorem dpAll_of {K : PySem.W.Frag} {G H : Hp} {n : Nat} (ih : ∀ (d : D) (v : V), okD n d = true → Rp K G d v → Dp K H v (toPy d)) : ∀ {ds : List D} {vs : List V}, (∀ d ∈ ds, okD n d = true) → RpL K G ds vs → DpAll K H vs (toPyL ds)
  | _, _, _, .nil => .nil
  | _, _, h, .cons r t => .cons (ih _ _ (h _ (by simp)) r) (dpAll_of ih (fun d hd => h d (by simp [hd])) t)
theorem Rp.dp {K : PySem.W.Frag} {G H : Hp} (s : Same G H) : ∀ (n : Nat) (d : D) (v : V), okD n d = true → Rp K G d v → Dp K H v (toPy d)
  | n, _, _, _, .non => .non
  | n, _, _, _, .bl b => .bl b
  | n, _, _, _, .int i => .int i
  | n, _, _, _, .str x => .str x
  | 0, _, _, h, .tup _ _ => by cases h
  | 0, _, _, h, .lst _ _ => by cases h
  | n + 1, _, _, h, .tup hs r => by
    simp only [toPy]
    exact .tup (sqT_mono s hs) (dpAll_of (Rp.dp s n) (List.all_eq_true.mp h) r)
  | n + 1, _, _, h, .lst hs r => by
    simp only [toPy]
    exact .lst (.inl (rd_mono s hs)) (dpAll_of (Rp.dp s n) (List.all_eq_true.mp h) r)
  | 0, _, _, h, .dct _ _ => by cases h
  | n + 1, _, _, h, .dct _ _ => by cases h
  | 0, _, _, h, .ref _ => by cases h
  | n + 1, _, _, h, .ref _ => by cases h
  | 0, _, _, h, .ty _ => by cases h
  | n + 1, _, _, h, .ty _ => by cases h

/-! ### what a value or a cell holds -/
def cellLst : Cell → Option (List D)
  | .lst ds => some ds
  | .lck _ (.lst ds) => some ds
  | _ => none
def cellDct : Cell → Option (List (Key × D))
  | .dct kvs => some kvs
  | .lck _ (.dct kvs) => some kvs
  | _ => none
def lstOf (C : Cells) : D → Option (List D)
  | .lst ds => some ds
  | .ref p => (C p).bind cellLst
  | _ => none
def tupOf : D → Option (List D)
  | .tup ds => some ds
  | _ => none
def dctOf (C : Cells) : D → Option (List (Key × D))
  | .dct kvs => some kvs
  | .ref p => (C p).bind cellDct
  | _ => none
def strOf : D → Option Str
  | .str x => some x
  | _ => none
def intOf : D → Option Int
  | .int x => some x
  | _ => none
def keyOf : D → Option Key
  | .int i => some (.inl i)
  | .str x => some (.inr x)
  | _ => none
def getK (kvs : List (Key × D)) (k : Key) : Option D := (kvs.find? fun kv => decide (kv.1 = k)).map (·.2)
def putD (kvs : List (Key × D)) (k : Key) (v : D) : List (Key × D) := if (kvs.any fun kv => decide (kv.1 = k)) = true then kvs.map fun kv => if kv.1 = k then (kv.1, v) else kv else kvs ++ [(k, v)]
def delK (kvs : List (Key × D)) (k : Key) : List (Key × D) := kvs.filter fun kv => decide (kv.1 ≠ k)
def flatD : D → Bool
  | .non => true
  | .bl _ => true
  | .int _ => true
  | .str _ => true
  | _ => false
def cutL {α : Type} (xs : List α) (lo hi : Option Int) : List α := (xs.drop (HT.sIx xs.length 0 lo)).take (HT.sIx xs.length xs.length hi - HT.sIx xs.length 0 lo)
/-- x in y, of texts -/
def strIn (i j : Str) : Bool := !(Builtin.Str.occurrences j i 0 j.length 1).isEmpty
section
variable {K : PySem.W.Frag} {G H : Hp} {F C : Cells} {d : D} {v : V}
theorem Rp.key {k : Key} (r : Rp K G d v) (e : keyOf d = some k) : v = kV k := by
  cases r <;> cases e <;> rfl
theorem Rp.intV {i : Int} (r : Rp K G d v) (e : intOf d = some i) : v = .int i := by
  cases r <;> cases e <;> rfl
theorem Rp.strV {i : Str} (r : Rp K G d v) (e : strOf d = some i) : v = .str i := by
  cases r <;> cases e <;> rfl
theorem lst_at {ds : List D} (A : Ab K F G H C) (r : Rp K G d v) (e : lstOf C d = some ds) : ∃ a xs, v = .ref a ∧ Rd H a (.lst xs) ∧ RpL K G ds xs := by
  cases r <;> first | cases e | skip
  · rename_i a
    simp only [lstOf] at e
    obtain ⟨c, hc, e⟩ := Option.bind_eq_some_iff.mp e
    obtain ⟨_, u, hu, ok⟩ := A.cell _ _ hc
    cases ok <;> first | cases e | skip
    · rename_i xs r
      exact ⟨a, xs, rfl, .inl hu, r⟩
    · rename_i ok
      cases ok <;> first | cases e | skip
      rename_i xs r
      exact ⟨a, xs, rfl, .inr ⟨_, hu⟩, r⟩
  · rename_i a xs h r
    exact ⟨a, xs, rfl, rd_mono A.sub h, r⟩
theorem tup_at {ds : List D} (A : Ab K F G H C) (r : Rp K G d v) (e : tupOf d = some ds) : ∃ a xs, v = .ref a ∧ SqT K H a xs ∧ RpL K G ds xs := by
  cases r <;> first | cases e | skip
  rename_i a xs h r
  exact ⟨a, xs, rfl, sqT_mono A.sub h, r⟩
theorem dct_at {ds : List (Key × D)} (A : Ab K F G H C) (r : Rp K G d v) (e : dctOf C d = some ds) : ∃ a xs, v = .ref a ∧ Rd H a (.dK xs) ∧ RpK K G ds xs := by
  cases r <;> first | cases e | skip
  · rename_i a
    simp only [dctOf] at e
    obtain ⟨c, hc, e⟩ := Option.bind_eq_some_iff.mp e
    obtain ⟨_, u, hu, ok⟩ := A.cell _ _ hc
    cases ok <;> first | cases e | skip
    · rename_i xs r
      exact ⟨a, xs, rfl, .inl hu, r⟩
    · rename_i ok
      cases ok <;> first | cases e | skip
      rename_i xs r
      exact ⟨a, xs, rfl, .inr ⟨_, hu⟩, r⟩
  · rename_i a o ks h r
    exact ⟨a, ks, rfl, .inr ⟨o, A.sub _ _ h⟩, r⟩
theorem RpK.val {k : Key} : ∀ {kvs : List (Key × D)} {ks : List (Key × V)}, RpK K G kvs ks → (∀ d, getK kvs k = some d → ∃ v, valV ks k = some v ∧ Rp K G d v) ∧ (getK kvs k = none → valV ks k = none)
  | _, _, .nil => ⟨fun d e => by simp [getK] at e, fun _ => rfl⟩
  | _, _, .cons (k := l) (d := d0) (v := v0) r t => by
    obtain ⟨h1, h2⟩ := RpK.val (k := k) t
    by_cases hk : l = k
    · simp only [getK, valV, List.find?_cons, hk, decide_true, Option.map_some]
      exact ⟨fun d e => by cases e; exact ⟨_, rfl, r⟩, fun e => by cases e⟩
    · simp only [getK, valV, List.find?_cons, hk, decide_false] at h1 h2 ⊢
      exact ⟨h1, h2⟩
theorem RpK.any {k : Key} : ∀ {kvs : List (Key × D)} {ks : List (Key × V)}, RpK K G kvs ks → (kvs.any fun kv => decide (kv.1 = k)) = ks.any fun kv => decide (kv.1 = k)
  | _, _, .nil => rfl
  | _, _, .cons r t => by simp only [List.any_cons]; rw [RpK.any t]
theorem RpK.snoc {k : Key} (r : Rp K G d v) : ∀ {kvs : List (Key × D)} {ks : List (Key × V)}, RpK K G kvs ks → RpK K G (kvs ++ [(k, d)]) (ks ++ [(k, v)])
  | _, _, .nil => .cons r .nil
  | _, _, .cons r0 t => .cons r0 (RpK.snoc r t)
theorem RpK.repl {k : Key} (r : Rp K G d v) : ∀ {kvs : List (Key × D)} {ks : List (Key × V)}, RpK K G kvs ks → RpK K G (kvs.map fun kv => if kv.1 = k then (kv.1, d) else kv) (ks.map fun kv => if kv.1 = k then (kv.1, v) else kv)
  | _, _, .nil => .nil
  | _, _, .cons (k := l) r0 t => by
    simp only [List.map_cons]
    by_cases hk : l = k
    · rw [if_pos hk, if_pos hk]; exact .cons r (RpK.repl r t)
    · rw [if_neg hk, if_neg hk]; exact .cons r0 (RpK.repl r t)
theorem RpK.put {k : Key} (r : Rp K G d v) {kvs : List (Key × D)} {ks : List (Key × V)} (h : RpK K G kvs ks) : RpK K G (putD kvs k d) (putK ks k v) := by
  unfold putD putK
  rw [h.any]
  split
  · exact h.repl r
  · exact h.snoc r
theorem RpK.del {k : Key} : ∀ {kvs : List (Key × D)} {ks : List (Key × V)}, RpK K G kvs ks → RpK K G (delK kvs k) (dropK ks k)
  | _, _, .nil => .nil
  | _, _, .cons (k := l) r0 t => by
    have ih := RpK.del (k := k) t
    unfold delK dropK at ih ⊢
    simp only [List.filter_cons]
    by_cases hk : l = k
    · simp only [hk, ne_eq, not_true_eq_false, decide_false, Bool.false_eq_true, if_false]; exact ih
    · simp only [hk, ne_eq, not_false_eq_true, decide_true, if_true]; exact .cons r0 ih
theorem RpL.cut {ds : List D} {vs : List V} (r : RpL K G ds vs) (lo hi : Option Int) : RpL K G (cutL ds lo hi) (cutV vs lo hi) := by
  unfold cutL cutV
  rw [r.length]
  exact (r.drop _).take _
theorem RpL.at {ds : List D} {vs : List V} {i : Int} {d : D} (r : RpL K G ds vs) (e : atI ds i = some d) : ∃ v, atI vs i = some v ∧ Rp K G d v := by
  unfold atI at e ⊢
  rw [r.length] at e
  obtain ⟨j, h1, h2⟩ := Option.bind_eq_some_iff.mp e
  obtain ⟨v, h3, h4⟩ := r.getD h2
  exact ⟨v, by rw [h1]; exact h3, h4⟩
theorem Rp.flat (r : Rp K G d v) (h : flatD d = true) : flatV v = true := by
  cases r <;> first | rfl | cases h
theorem RpL.flat : ∀ {ds : List D} {vs : List V}, RpL K G ds vs → ds.all flatD = true → vs.all flatV = true
  | _, _, .nil, _ => rfl
  | _, _, .cons r t, h => by
    simp only [List.all_cons, Bool.and_eq_true] at h ⊢
    exact ⟨r.flat h.1, RpL.flat t h.2⟩
theorem Rp.eqv {e : D} {u : V} (r : Rp K G d v) (q : Rp K G e u) (h : flatD d = true) (h' : flatD e = true) : eqV v u = D.eqv d e := by
  cases r <;> cases q <;> first | (simp [eqV, D.eqv]; done) | (exfalso; revert h h'; simp [flatD]; done)
theorem RpL.inV {e : D} {u : V} (q : Rp K G e u) (h' : flatD e = true) : ∀ {ds : List D} {vs : List V}, RpL K G ds vs → ds.all flatD = true → inV u vs = ds.any fun z => D.eqv z e
  | _, _, .nil, _ => rfl
  | _, _, .cons r t, h => by
    simp only [List.all_cons, Bool.and_eq_true] at h
    have ih := RpL.inV q h' t h.2
    unfold L2.inV at ih ⊢
    simp only [List.any_cons]
    rw [ih, r.eqv q h.1 h']
theorem any_py {n : Nat} {d : D} (hd : okD n d = true) : ∀ {ds : List D}, ds.all (okD n) = true → ((toPyL ds).any fun z => PyData.eqv z (toPy d)) = ds.any fun z => D.eqv z d
  | [], _ => rfl
  | e :: ds, h => by
    simp only [List.all_cons, Bool.and_eq_true] at h
    simp only [toPyL, List.any_cons]
    rw [any_py hd h.2, eqv_py n e d h.1 hd]
end
end DL
/-! DLe: operators by values, lifted. -/
namespace DL
open PySem PySem.Spec L2
open PyProof.Rows hiding St

/-! ### operators over HandS that it lacks -/
section
variable {X : Cx}
theorem lstRd {pins : List (Addr × Obj)} {σ : St} {H : Hp} {s : Shared} {l : Addr} {xs : List V} (I : Inv X pins σ H s) (h : Rd H l (.lst xs)) :
    xs.length ≤ sizeLine ∧ ∃ (its : List Value) (n : Nat), Vals xs its ∧ xs.length = its.length ∧ s.heap.get? l = some { cls := .type "list", data := .seq its.toArray n } := by
  obtain ⟨z, its, n, r, e⟩ := h.ok I.hok
  exact ⟨z, its, n, r, r.length, e⟩
def rCatF : R2 := fun x y H Q => ∃ l b xs zs, x = .ref l ∧ y = .ref b ∧ Rd H l (.lst xs) ∧ Rd H b (.lst zs) ∧ xs.length + zs.length ≤ sizeLine ∧ ∀ p, H p = none → Q (.ref p) (upd H p (.lst (xs ++ zs)))
theorem op_catF : OpR X (binaryOp .Add) rCatF := by
  intro pins s σ H x y v u Q I rx ry h
  obtain ⟨l, b, xs, zs, rfl, rfl, hH, hB, hz, q⟩ := h
  cases rx
  cases ry
  obtain ⟨z, its, n, r, hl, e⟩ := lstRd I hH
  obtain ⟨z2, its2, n2, r2, hl2, e2⟩ := lstRd I hB
  refine PySem.P.add_list e e2 ?_ (by rw [List.size_toArray, List.size_toArray]; omega)
  have ea : its.toArray ++ its2.toArray = (its ++ its2).toArray := by simp
  rw [ea]
  exact ⟨.ref _, _, I.lnew (t' := s.toks) (r.append r2) (by rw [List.length_append]; omega), rfl, q _ I.fresh⟩
/-- lists of different lengths -/
def rEqLen (b : Bool) : R2 := fun x y H Q => ∃ l m xs zs, x = .ref l ∧ y = .ref m ∧ Rd H l (.lst xs) ∧ Rd H m (.lst zs) ∧ xs.length ≠ zs.length ∧ Q (.bl b) H
theorem op_eqLen (hu : X.A.units + 64 < cLine) : OpR X (compareOp .Eq) (rEqLen false) := by
  intro pins s σ H x y v u Q I rx ry h
  obtain ⟨l, b, xs, zs, rfl, rfl, hH, hB, hz, q⟩ := h
  cases rx
  cases ry
  obtain ⟨_, its, n, r, hl, e⟩ := lstRd I hH
  obtain ⟨_, its2, n2, r2, hl2, e2⟩ := lstRd I hB
  exact SeqAt.RcAt.lists_lengths (A := X.A) (s := s) (items := its.toArray) (items2 := its2.toArray) ⟨_, e, rfl, n, rfl⟩ ⟨_, e2, rfl, n2, rfl⟩ (by simp; omega) (by omega) X.prog X.w X.xe _ ⟨.bl false, H, I, rfl, q⟩
theorem op_neLen (hu : X.A.units + 64 < cLine) : OpR X (compareOp .NotEq) (rEqLen true) := by
  intro pins s σ H x y v u Q I rx ry h
  obtain ⟨l, b, xs, zs, rfl, rfl, hH, hB, hz, q⟩ := h
  cases rx
  cases ry
  obtain ⟨_, its, n, r, hl, e⟩ := lstRd I hH
  obtain ⟨_, its2, n2, r2, hl2, e2⟩ := lstRd I hB
  exact SeqAt.RcNeAt.lists_lengths (A := X.A) (s := s) (items := its.toArray) (items2 := its2.toArray) ⟨_, e, rfl, n, rfl⟩ ⟨_, e2, rfl, n2, rfl⟩ (by simp; omega) (by omega) X.prog X.w X.xe _ ⟨.bl true, H, I, rfl, q⟩
/-- list * int, the list only read -/
def rRepF : R2 := fun x y H Q => ∃ l k xs, x = .ref l ∧ y = .int k ∧ Rd H l (.lst xs) ∧ 0 ≤ k ∧ k ≤ 1000 ∧ xs.length ≤ 1000 ∧ ∀ p, H p = none → Q (.ref p) (upd H p (.lst (List.replicate k.toNat xs).flatten))
theorem op_repF : OpR X (binaryOp .Mult) rRepF := by
  intro pins s σ H x y v u Q I rx ry h
  obtain ⟨l, k, xs, rfl, rfl, hH, h1, h2, hz, q⟩ := h
  cases rx
  obtain ⟨t, rfl⟩ := ry
  obtain ⟨z, its, n, r, hl, e⟩ := lstRd I hH
  have hzz : xs.length * k.toNat ≤ sizeLine := by
    have : xs.length * k.toNat ≤ 1000 * 1000 := Nat.mul_le_mul hz (by omega)
    rw [sizeLine_eq]; omega
  have hlen : its.toArray.size * k.toNat ≤ sizeLine := by rw [List.size_toArray, ← hl]; exact hzz
  have hcap : ¬ its.toArray.size * k.toNat > (2 ^ 63 - 1) / 8 := by
    have : (sizeLine : Nat) ≤ (2 ^ 63 - 1) / 8 := by decide
    omega
  have hfit : ¬ (!Builtin.List.listFitsIndex k) = true := by
    rw [fitsIndex_both (by omega) (by omega)]
    exact Bool.false_ne_true
  have hlong : ¬ Builtin.List.listTooLong (its.toArray.size * k.toNat) = true := by
    rw [notLongL hlen]
    exact Bool.false_ne_true
  have hnew : List.foldl (fun x1 x2 => x1 ++ x2) #[] (List.replicate (if its.toArray.isEmpty = true then 0 else k.toNat) its.toArray) = (List.replicate k.toNat its).flatten.toArray := by
    have f0 : ∀ m : Nat, List.foldl (fun x1 x2 => x1 ++ x2) #[] (List.replicate m its.toArray) = (List.replicate m its).flatten.toArray := fun m => by
      have := foldl_rep its m []
      rw [List.nil_append] at this
      exact this
    rw [f0]
    cases its with
    | nil => simp
    | cons a r' => rw [if_neg (by simp)]
  refine wpAny_binaryOp_repeat_ref (T := "list") (U := "int") (by decide) ⟨_, e, rfl⟩ (fun s' => typeIs_int s' k t) noFill_list_mul F.fills_int_mul F.slot_int_rmul repeat_list F.slot_int_index.lookup
    (call_meets F.slot_int_rmul (typeIs_int s k t) F.entry_int_rmul (F.args_int_rmul_2 _ _) (int___rmul___int_list k t l its.toArray n)
      ⟨e, rfl, ⟨_, e, rfl⟩, call_meets F.slot_list_mul ⟨_, e, rfl⟩ F.entry_list_mul (F.args_list_mul_2 _ _) (AutoListH.list___mul___list_int_3 l its.toArray n k t hfit hcap hlong) ⟨e, ?_⟩⟩)
  rw [hnew]
  exact ⟨.ref _, _, I.lnew (t' := s.toks) (r.rep k.toNat) (by rw [PyProof.Rows.lm_len_rep_flat, Nat.mul_comm]; exact hzz), rfl, q _ I.fresh⟩
/-- y in a dict -/
def rInK (neg : Bool) : R2 := fun y x H Q => ∃ a kvs k, x = .ref a ∧ Rd H a (.dK kvs) ∧ y = kV k ∧ Q (.bl (if neg then !(valV kvs k).isSome else (valV kvs k).isSome)) H
theorem op_inK (hu : X.A.units + 64 < cLine) : OpR X (compareOp .In) (rInK false) := by
  intro pins s σ H y x u v Q I ry rx h
  obtain ⟨a, kvs, k, rfl, hd, rfl, q⟩ := h
  obtain rfl : v = Value.ref a := rx
  exact d_in (by omega) I (.inl ⟨kvs, k, hd, rfl, rfl⟩) ry fun s3 I3 => ⟨.bl _, H, I3, rfl, q⟩
theorem op_notinK (hu : X.A.units + 64 < cLine) : OpR X (compareOp .NotIn) (rInK true) := by
  intro pins s σ H y x u v Q I ry rx h
  obtain ⟨a, kvs, k, rfl, hd, rfl, q⟩ := h
  obtain rfl : v = Value.ref a := rx
  exact d_notIn (by omega) I (.inl ⟨kvs, k, hd, rfl, rfl⟩) ry fun s3 I3 => ⟨.bl _, H, I3, rfl, q⟩
/-- d[k], there -/
def rGetK : R2 := fun x y H Q => ∃ a kvs k v, x = .ref a ∧ Rd H a (.dK kvs) ∧ y = kV k ∧ valV kvs k = some v ∧ Q v H
end

/-! ### over data -/
def oAdd : DO2 := fun x y C R => match x, y with
  | .int i, .int j => R (.int (i + j)) C
  | .str i, .str j => i.length + j.length ≤ sizeLine ∧ R (.str (i ++ j)) C
  | .tup xs, .tup ys => xs.length + ys.length ≤ sizeLine ∧ R (.tup (xs ++ ys)) C
  | x, y => ∃ xs ys, lstOf C x = some xs ∧ lstOf C y = some ys ∧ xs.length + ys.length ≤ sizeLine ∧ R (.lst (xs ++ ys)) C
def oSub : DO2 := fun x y C R => match x, y with
  | .int i, .int j => R (.int (i - j)) C
  | _, _ => False
def oMul : DO2 := fun x y C R => match x, y with
  | .int i, .int j => CMul i j ∧ R (.int (i * j)) C
  | x, .int k => ∃ xs, lstOf C x = some xs ∧ 0 ≤ k ∧ k ≤ 1000 ∧ xs.length ≤ 1000 ∧ R (.lst (List.replicate k.toNat xs).flatten) C
  | _, _ => False
def oDiv : DO2 := fun x y C R => match x, y with
  | .int i, .int j => CDiv i j ∧ R (.int (i / j)) C
  | _, _ => False
def oMod : DO2 := fun x y C R => match x, y with
  | .int i, .int j => 0 < j ∧ R (.int (i % j)) C
  | _, _ => False
def oPow : DO2 := fun x y C R => match x, y with
  | .int i, .int j => CPow i j ∧ R (.int (i ^ j.toNat)) C
  | _, _ => False
def oNeg : DO1 := fun x C R => match x with
  | .int i => R (.int (-i)) C
  | _ => False
def oLt : DO2 := fun x y C R => match x, y with
  | .int i, .int j => R (.bl (decide (i < j))) C
  | .str i, .str j => R (.bl (decide (i.cps.toList < j.cps.toList))) C
  | _, _ => False
def oLe : DO2 := fun x y C R => match x, y with
  | .int i, .int j => R (.bl (decide (i ≤ j))) C
  | .str i, .str j => R (.bl (!decide (j.cps.toList < i.cps.toList))) C
  | _, _ => False
def oGt : DO2 := fun x y C R => match x, y with
  | .int i, .int j => R (.bl (decide (j < i))) C
  | _, _ => False
def oGe : DO2 := fun x y C R => match x, y with
  | .int i, .int j => R (.bl (decide (j ≤ i))) C
  | _, _ => False
/-- what x == y gives -/
def eqO (C : Cells) (x y : D) : Option Bool :=
  if okD 60 x = true ∧ okD 60 y = true then some (D.eqv x y) else
  match lstOf C x, lstOf C y with
  | some xs, some ys => if xs.length ≠ ys.length then some false else if xs.all (okD 59) = true ∧ ys.all (okD 59) = true then some (D.eqvL xs ys) else none
  | _, _ => none
def oEq : DO2 := fun x y C R => ∃ b, eqO C x y = some b ∧ R (.bl b) C
def oNe : DO2 := fun x y C R => ∃ b, eqO C x y = some b ∧ R (.bl (!b)) C
/-- what x in y gives -/
def inO (C : Cells) (x y : D) : Option Bool :=
  match strOf y with
  | some j => (strOf x).map fun i => strIn i j
  | none => match dctOf C y with
    | some kvs => (keyOf x).map fun k => (getK kvs k).isSome
    | none => match tupOf y with
      | some ds => if flatD x = true ∧ ds.all flatD = true then some (ds.any fun z => D.eqv z x) else none
      | none => match lstOf C y with
        | some ds => if okD 60 x = true ∧ ds.all (okD 60) = true then some (ds.any fun z => D.eqv z x) else none
        | none => none
def oIn : DO2 := fun x y C R => ∃ b, inO C x y = some b ∧ R (.bl b) C
def oNotIn : DO2 := fun x y C R => ∃ b, inO C x y = some b ∧ R (.bl (!b)) C
def isNon : D → Bool
  | .non => true
  | _ => false
def oIs : DO2 := fun x y C R => match x, y with
  | x, .non => R (.bl (isNon x)) C
  | .bl a, .bl b => R (.bl (decide (a = b))) C
  | _, _ => False
def oIsNot : DO2 := fun x y C R => match x, y with
  | x, .non => R (.bl (!isNon x)) C
  | .bl a, .bl b => R (.bl (!decide (a = b))) C
  | _, _ => False

section
variable {K : PySem.W.Frag}
theorem Rp.intI {G : Hp} {i : Int} {v : V} (r : Rp K G (.int i) v) : v = .int i := by cases r; rfl
theorem Rp.strI {G : Hp} {i : Str} {v : V} (r : Rp K G (.str i) v) : v = .str i := by cases r; rfl
theorem Rp.blI {G : Hp} {i : Bool} {v : V} (r : Rp K G (.bl i) v) : v = .bl i := by cases r; rfl
theorem lo_lst {G H : Hp} {F C : Cells} {x y : D} {v u : V} {R : D → Cells → Prop} {Q : VK} (A : Ab K F G H C) (rx : Rp K G x v) (ry : Rp K G y u) (k : ToE K F G R Q)
    (h : ∃ xs ys, lstOf C x = some xs ∧ lstOf C y = some ys ∧ xs.length + ys.length ≤ sizeLine ∧ R (.lst (xs ++ ys)) C) : rCatF v u H Q := by
  obtain ⟨xs, ys, e1, e2, hl, q⟩ := h
  obtain ⟨a, as, rfl, ha, ra⟩ := lst_at A rx e1
  obtain ⟨b, bs, rfl, hb, rb⟩ := lst_at A ry e2
  refine ⟨a, b, as, bs, rfl, rfl, ha, hb, by rw [← ra.length, ← rb.length]; exact hl, fun p hp => k.new A hp q ?_⟩
  have s := (A.grow (u := .lst (as ++ bs)) hp).2
  exact .lst (.inl upd_same) ((ra.append rb).mono s)
theorem lo_add : LO2 K (fun x y H Q => rI0 (fun i j => .int (i + j)) x y H Q ∨ (∃ i j, x = .str i ∧ y = .str j ∧ i.length + j.length ≤ sizeLine ∧ Q (.str (i ++ j)) H) ∨ rCatA K x y H Q ∨ rCatF x y H Q) oAdd := by
  intro F G H C x y v u R Q A rx ry h k
  have L := fun hh => lo_lst A rx ry k hh
  cases x <;> cases y <;> first | exact .inr (.inr (.inr (L h))) | skip
  · cases rx.intI; cases ry.intI
    exact .inl ⟨_, _, rfl, rfl, k.now A h (.int _)⟩
  · cases rx.strI; cases ry.strI
    exact .inr (.inl ⟨_, _, rfl, rfl, h.1, k.now A h.2 (.str _)⟩)
  · cases rx with
    | tup hx qx => cases ry with
      | tup hy qy =>
        rename_i a as b bs
        obtain ⟨hl, q⟩ := h
        refine .inr (.inr (.inl ⟨a, b, as, bs, rfl, rfl, sqT_mono A.sub hx, sqT_mono A.sub hy, by rw [← qx.length, ← qy.length]; exact hl, fun e => ?_, fun _ e => ?_, fun _ _ p hp => ?_⟩))
        · subst e
          cases qx
          exact k.now A q (.tup hy qy)
        · subst e
          cases qy
          rw [List.append_nil] at q
          exact k.now A q (.tup hx qx)
        · have s := (A.grow (u := .tup (as ++ bs)) hp).2
          exact k.new A hp q (.tup (.inl (.inl upd_same)) ((qx.append qy).mono s))
theorem lo_sub : LO2 K (rI0 fun i j => .int (i - j)) oSub := by
  intro F G H C x y v u R Q A rx ry h k
  cases x <;> cases y <;> first | exact h.elim | skip
  cases rx.intI; cases ry.intI
  exact ⟨_, _, rfl, rfl, k.now A h (.int _)⟩
theorem lo_mul : LO2 K (fun x y H Q => rI CMul (fun i j => .int (i * j)) x y H Q ∨ rRepF x y H Q) oMul := by
  intro F G H C x y v u R Q A rx ry h k
  cases y <;> first | (exfalso; revert h; cases x <;> exact fun z => z) | skip
  cases x
  case int =>
    cases rx.intI; cases ry.intI
    exact .inl ⟨_, _, rfl, rfl, h.1, k.now A h.2 (.int _)⟩
  all_goals
    cases ry.intI
    obtain ⟨xs, e1, h0, h1, hl, q⟩ := h
    obtain ⟨a, as, rfl, ha, ra⟩ := lst_at A rx e1
    refine .inr ⟨a, _, as, rfl, rfl, ha, h0, h1, by rw [← ra.length]; exact hl, fun p hp => k.new A hp q ?_⟩
    refine .lst (.inl upd_same) (RpL.mono (A.grow hp).2 ?_)
    generalize Int.toNat _ = n
    induction n with
    | zero => exact .nil
    | succ n ih => rw [List.replicate_succ, List.replicate_succ, List.flatten_cons, List.flatten_cons]; exact ra.append ih
theorem lo_int {Cnd : Int → Int → Prop} {g : Int → Int → Int} {o : DO2} (h1 : ∀ i j C R, o (.int i) (.int j) C R → Cnd i j ∧ R (.int (g i j)) C) (h2 : ∀ x y C R, o x y C R → ∃ i j, x = .int i ∧ y = .int j) : LO2 K (rI Cnd fun i j => .int (g i j)) o := by
  intro F G H C x y v u R Q A rx ry h k
  obtain ⟨i, j, rfl, rfl⟩ := h2 _ _ _ _ h
  cases rx.intI; cases ry.intI
  obtain ⟨c, q⟩ := h1 _ _ _ _ h
  exact ⟨_, _, rfl, rfl, c, k.now A q (.int _)⟩
theorem lo_div : LO2 K (rI CDiv fun i j => .int (i / j)) oDiv := lo_int (g := fun i j => i / j) (fun _ _ _ _ h => h) fun x y _ _ h => by cases x <;> cases y <;> first | exact h.elim | exact ⟨_, _, rfl, rfl⟩
theorem lo_mod : LO2 K (rI (fun _ j => 0 < j) fun i j => .int (i % j)) oMod := lo_int (g := fun i j => i % j) (fun _ _ _ _ h => h) fun x y _ _ h => by cases x <;> cases y <;> first | exact h.elim | exact ⟨_, _, rfl, rfl⟩
theorem lo_pow : LO2 K (rI CPow fun i j => .int (i ^ j.toNat)) oPow := lo_int (g := fun i j => i ^ j.toNat) (fun _ _ _ _ h => h) fun x y _ _ h => by cases x <;> cases y <;> first | exact h.elim | exact ⟨_, _, rfl, rfl⟩
theorem lo_neg : LO1 K (rU fun i => .int (-i)) oNeg := by
  intro F G H C x v R Q A rx h k
  cases x <;> first | exact h.elim | skip
  cases rx.intI
  exact ⟨_, rfl, k.now A h (.int _)⟩
theorem lo_lt : LO2 K (fun x y H Q => rI0 (fun i j => .bl (decide (i < j))) x y H Q ∨ ∃ i j, x = .str i ∧ y = .str j ∧ Q (.bl (decide (i.cps.toList < j.cps.toList))) H) oLt := by
  intro F G H C x y v u R Q A rx ry h k
  cases x <;> cases y <;> first | exact h.elim | skip
  · cases rx.intI; cases ry.intI
    exact .inl ⟨_, _, rfl, rfl, k.now A h (.bl _)⟩
  · cases rx.strI; cases ry.strI
    exact .inr ⟨_, _, rfl, rfl, k.now A h (.bl _)⟩
theorem lo_le : LO2 K (fun x y H Q => rI0 (fun i j => .bl (decide (i ≤ j))) x y H Q ∨ ∃ i j, x = .str i ∧ y = .str j ∧ Q (.bl (!decide (j.cps.toList < i.cps.toList))) H) oLe := by
  intro F G H C x y v u R Q A rx ry h k
  cases x <;> cases y <;> first | exact h.elim | skip
  · cases rx.intI; cases ry.intI
    exact .inl ⟨_, _, rfl, rfl, k.now A h (.bl _)⟩
  · cases rx.strI; cases ry.strI
    exact .inr ⟨_, _, rfl, rfl, k.now A h (.bl _)⟩
theorem lo_gt : LO2 K (rI0 fun i j => .bl (decide (j < i))) oGt := by
  intro F G H C x y v u R Q A rx ry h k
  cases x <;> cases y <;> first | exact h.elim | skip
  cases rx.intI; cases ry.intI
  exact ⟨_, _, rfl, rfl, k.now A h (.bl _)⟩
theorem lo_ge : LO2 K (rI0 fun i j => .bl (decide (j ≤ i))) oGe := by
  intro F G H C x y v u R Q A rx ry h k
  cases x <;> cases y <;> first | exact h.elim | skip
  cases rx.intI; cases ry.intI
  exact ⟨_, _, rfl, rfl, k.now A h (.bl _)⟩
theorem RpL.dpl {G H : Hp} {ds : List D} {vs : List V} {n : Nat} (s : Same G H) (r : RpL K G ds vs) (h : ds.all (okD n) = true) : DpAll K H vs (toPyL ds) := dpAll_of (fun d v hd rd => Rp.dp s n d v hd rd) (List.all_eq_true.mp h) r
theorem lo_eqg {neg : Bool} {o : DO2} {rD : R2} (hoD : ∀ x y H Q, (∃ d e, Dp K H x d ∧ Dp K H y e ∧ SeqAt.shaped d = true ∧ SeqAt.shaped e = true ∧ Q (.bl (if neg then !PyData.eqv d e else PyData.eqv d e)) H) → rD x y H Q)
    (ho : ∀ x y C R, o x y C R → ∃ b, eqO C x y = some b ∧ R (.bl (if neg then !b else b)) C) : LO2 K (fun x y H Q => rD x y H Q ∨ rEqLen neg x y H Q) o := by
  intro F G H C x y v u R Q A rx ry h k
  obtain ⟨b, e, q⟩ := ho _ _ _ _ h
  unfold eqO at e
  split at e
  · rename_i c
    cases e
    refine .inl (hoD _ _ _ _ ⟨toPy x, toPy y, Rp.dp A.sub 60 x v c.1 rx, Rp.dp A.sub 60 y u c.2 ry, okD_shaped c.1 (by omega), okD_shaped c.2 (by omega), ?_⟩)
    rw [eqv_py 60 x y c.1 c.2]
    exact k.now A q (.bl _)
  · split at e
    · rename_i xs ys e1 e2
      obtain ⟨a, as, rfl, ha, ra⟩ := lst_at A rx e1
      obtain ⟨b', bs, rfl, hb, rb⟩ := lst_at A ry e2
      split at e
      · rename_i hl
        cases e
        refine .inr ⟨a, b', as, bs, rfl, rfl, ha, hb, by rw [← ra.length, ← rb.length]; exact hl, ?_⟩
        have : (if neg then !false else false) = neg := by cases neg <;> rfl
        rw [this] at q
        exact k.now A q (.bl _)
      · split at e
        · rename_i c
          cases e
          refine .inl (hoD _ _ _ _ ⟨toPy (.lst xs), toPy (.lst ys), ?_, ?_, okD_shaped (n := 60) (d := .lst xs) c.1 (by omega), okD_shaped (n := 60) (d := .lst ys) c.2 (by omega), ?_⟩)
          · simp only [toPy]; exact .lst (.inl ha) (ra.dpl A.sub c.1)
          · simp only [toPy]; exact .lst (.inl hb) (rb.dpl A.sub c.2)
          · rw [eqv_py 60 (.lst xs) (.lst ys) c.1 c.2]
            simp only [D.eqv]
            exact k.now A q (.bl _)
        · cases e
    · cases e
theorem lo_eq : LO2 K (fun x y H Q => rEqD K x y H Q ∨ rEqLen false x y H Q) oEq := lo_eqg (neg := false) (fun _ _ _ _ ⟨d, e, h1, h2, h3, h4, q⟩ => ⟨d, e, h1, h2, h3, h4, q⟩) fun _ _ _ _ h => h
theorem lo_ne : LO2 K (fun x y H Q => rNeD K x y H Q ∨ rEqLen true x y H Q) oNe := lo_eqg (neg := true) (fun _ _ _ _ ⟨d, e, h1, h2, h3, h4, q⟩ => ⟨d, e, h1, h2, h3, h4, q⟩) fun _ _ _ _ h => h
end
end DL
/-! DLf: in, is, subscripts, slices, arguments, displays. -/
namespace DL
open PySem PySem.Spec L2
open PyProof.Rows hiding St

section
variable {K : PySem.W.Frag}
theorem lo_ing {neg : Bool} {o : DO2} {rS rD : R2} (hoS : ∀ x y H Q, (∃ i j, x = .str i ∧ y = .str j ∧ Q (.bl (if neg then !strIn i j else strIn i j)) H) → rS x y H Q)
    (hoD : ∀ x y H Q, (∃ d ds, Dp K H x d ∧ Dp K H y (.list ds) ∧ SeqAt.shaped d = true ∧ SeqAt.shaped (.list ds) = true ∧ Q (.bl (if neg then !(ds.any fun z => PyData.eqv z d) else ds.any fun z => PyData.eqv z d)) H) → rD x y H Q)
    (ho : ∀ x y C R, o x y C R → ∃ b, inO C x y = some b ∧ R (.bl (if neg then !b else b)) C) : LO2 K (fun x y H Q => rS x y H Q ∨ rInK neg x y H Q ∨ rIn K neg x y H Q ∨ rD x y H Q) o := by
  intro F G H C x y v u R Q A rx ry h k
  obtain ⟨b, e, q⟩ := ho _ _ _ _ h
  unfold inO at e
  split at e
  · rename_i j ej
    cases ei : strOf x with
    | none => rw [ei] at e; cases e
    | some i =>
      rw [ei] at e; cases e
      refine .inl (hoS _ _ _ _ ⟨i, j, rx.strV ei, ry.strV ej, k.now A q (.bl _)⟩)
  · split at e
    · rename_i kvs ek
      cases ei : keyOf x with
      | none => rw [ei] at e; cases e
      | some i =>
        rw [ei] at e; cases e
        obtain ⟨a, ks, rfl, ha, ra⟩ := dct_at A ry ek
        refine .inr (.inl ⟨a, ks, i, rfl, ha, rx.key ei, ?_⟩)
        have hb : (valV ks i).isSome = (getK kvs i).isSome := by
          obtain ⟨h1, h2⟩ := ra.val (k := i)
          cases eg : getK kvs i with
          | none => rw [h2 eg]; rfl
          | some d => obtain ⟨v, e1, _⟩ := h1 d eg; rw [e1]; rfl
        rw [hb]
        exact k.now A q (.bl _)
    · split at e
      · rename_i ds et
        split at e
        · rename_i c
          cases e
          obtain ⟨a, as, rfl, ha, ra⟩ := tup_at A ry et
          refine .inr (.inr (.inl ⟨a, as, rfl, .inr ha, rx.flat c.1, ra.flat c.2, ?_⟩))
          rw [RpL.inV rx c.1 ra c.2]
          exact k.now A q (.bl _)
        · cases e
      · split at e
        · rename_i ds el
          split at e
          · rename_i c
            cases e
            obtain ⟨a, as, rfl, ha, ra⟩ := lst_at A ry el
            refine .inr (.inr (.inr (hoD _ _ _ _ ⟨toPy x, toPyL ds, Rp.dp A.sub 60 x v c.1 rx, .lst (.inl ha) (ra.dpl A.sub c.2), okD_shaped c.1 (by omega), ?_, ?_⟩)))
            · have := okD_shaped (n := 61) (d := .lst ds) c.2 (by omega)
              simpa only [toPy] using this
            · rw [any_py c.1 c.2]
              exact k.now A q (.bl _)
          · cases e
        · cases e
theorem lo_in : LO2 K (fun x y H Q => (∃ i j, x = .str i ∧ y = .str j ∧ Q (.bl (!(Builtin.Str.occurrences j i 0 j.length 1).isEmpty)) H) ∨ rInK false x y H Q ∨ rIn K false x y H Q ∨ rInD K x y H Q) oIn :=
  lo_ing (neg := false) (fun _ _ _ _ h => h) (fun _ _ _ _ h => h) fun _ _ _ _ h => h
theorem lo_notin : LO2 K (fun x y H Q => (∃ i j, x = .str i ∧ y = .str j ∧ Q (.bl (!(!(Builtin.Str.occurrences j i 0 j.length 1).isEmpty))) H) ∨ rInK true x y H Q ∨ rIn K true x y H Q ∨ rNotInD K x y H Q) oNotIn :=
  lo_ing (neg := true) (fun _ _ _ _ h => h) (fun _ _ _ _ h => h) fun _ _ _ _ h => h
theorem Rp.isNon {G : Hp} {x : D} {v : V} (r : Rp K G x v) : decide (v = .non) = isNon x := by cases r <;> simp [DL.isNon]
theorem lo_is : LO2 K (fun x y H Q => (y = .non ∧ Q (.bl (decide (x = .non))) H) ∨ rIsB x y H Q) oIs := by
  intro F G H C x y v u R Q A rx ry h k
  cases y
  case non =>
    cases ry
    refine .inl ⟨rfl, ?_⟩
    rw [rx.isNon]
    have h' : R (.bl (isNon x)) C := by cases x <;> exact h
    exact k.now A h' (.bl _)
  case bl =>
    cases x <;> first | exact h.elim | skip
    cases rx.blI; cases ry.blI
    exact .inr ⟨_, _, rfl, rfl, k.now A h (.bl _)⟩
  all_goals (exfalso; revert h; cases x <;> exact fun z => z)
theorem lo_isnot : LO2 K (fun x y H Q => (y = .non ∧ Q (.bl (!decide (x = .non))) H) ∨ rNotB x y H Q) oIsNot := by
  intro F G H C x y v u R Q A rx ry h k
  cases y
  case non =>
    cases ry
    refine .inl ⟨rfl, ?_⟩
    rw [rx.isNon]
    have h' : R (.bl (!isNon x)) C := by cases x <;> exact h
    exact k.now A h' (.bl _)
  case bl =>
    cases x <;> first | exact h.elim | skip
    cases rx.blI; cases ry.blI
    exact .inr ⟨_, _, rfl, rfl, k.now A h (.bl _)⟩
  all_goals (exfalso; revert h; cases x <;> exact fun z => z)
end

/-! ### the operators' rules, whole -/
section
variable {X : Cx} {a b c : Expr} {ta tb tc : DE} {pos : Pos}
theorem OpR.or' {f : Value → Value → Sem Value} {r r' : R2} (h : OpR X f r) (h' : OpR X f r') : OpR X f (fun x y H Q => r x y H Q ∨ r' x y H Q) := h.or h'
theorem de_add (ha : PE X a (liftE X.K ta)) (hb : PE X b (liftE X.K tb)) : PE X (.BinOp a .Add b pos) (liftE X.K (dOp oAdd ta tb)) := de_op (op_add.or (op_add_str.or (op_catA.or op_catF))) lo_add ha hb
theorem de_sub (ha : PE X a (liftE X.K ta)) (hb : PE X b (liftE X.K tb)) : PE X (.BinOp a .Sub b pos) (liftE X.K (dOp oSub ta tb)) := de_op op_sub lo_sub ha hb
theorem de_mul (ha : PE X a (liftE X.K ta)) (hb : PE X b (liftE X.K tb)) : PE X (.BinOp a .Mult b pos) (liftE X.K (dOp oMul ta tb)) := de_op (op_mul.or op_repF) lo_mul ha hb
theorem de_div (ha : PE X a (liftE X.K ta)) (hb : PE X b (liftE X.K tb)) : PE X (.BinOp a .FloorDiv b pos) (liftE X.K (dOp oDiv ta tb)) := de_op op_fdiv lo_div ha hb
theorem de_mod (ha : PE X a (liftE X.K ta)) (hb : PE X b (liftE X.K tb)) : PE X (.BinOp a .Mod b pos) (liftE X.K (dOp oMod ta tb)) := de_op op_mod lo_mod ha hb
theorem de_pow (ha : PE X a (liftE X.K ta)) (hb : PE X b (liftE X.K tb)) : PE X (.BinOp a .Pow b pos) (liftE X.K (dOp oPow ta tb)) := de_op op_pow lo_pow ha hb
theorem de_neg (ha : PE X a (liftE X.K ta)) : PE X (.UnaryOp .USub a pos) (liftE X.K (dUn oNeg ta)) := de_un un_neg lo_neg ha
/-- a comparison by its operator: how it stands in HandS, over data -/
structure CmpD (X : Cx) (op : CmpOp) (o : DO2) : Prop where
  ex : ∃ r, OpR X (compareOp op) r ∧ LO2 X.K r o
theorem cd_eq (hu : X.A.units + 64 < cLine) : CmpD X .Eq oEq := ⟨_, (op_eqD hu).or (op_eqLen hu), lo_eq⟩
theorem cd_ne (hu : X.A.units + 64 < cLine) : CmpD X .NotEq oNe := ⟨_, (op_neD hu).or (op_neLen hu), lo_ne⟩
theorem cd_lt : CmpD X .Lt oLt := ⟨_, op_lt.or op_lt_str, lo_lt⟩
theorem cd_le : CmpD X .LtE oLe := ⟨_, op_le.or op_le_str, lo_le⟩
theorem cd_gt : CmpD X .Gt oGt := ⟨_, op_gt, lo_gt⟩
theorem cd_ge : CmpD X .GtE oGe := ⟨_, op_ge, lo_ge⟩
theorem cd_in (hu : X.A.units + 65 < cLine) : CmpD X .In oIn := ⟨_, op_in_str.or ((op_inK (by omega)).or (op_in_seq.or (op_inD hu))), lo_in⟩
theorem cd_notin (hu : X.A.units + 65 < cLine) : CmpD X .NotIn oNotIn := ⟨_, op_notIn_str.or ((op_notinK (by omega)).or (op_notIn_seq.or (op_notInD hu))), lo_notin⟩
theorem cd_is : CmpD X .Is oIs := ⟨_, op_isN.or op_isBl, lo_is⟩
theorem cd_isnot : CmpD X .IsNot oIsNot := ⟨_, op_notN.or op_notBl, lo_isnot⟩
theorem de_cm {op : CmpOp} {o : DO2} (h : CmpD X op o) (ha : PE X a (liftE X.K ta)) (hb : PE X b (liftE X.K tb)) (hm : behindInMarks op b = false := by first | exact nobehind _ (by decide) (by decide) | rfl) : PE X (.Compare a [op] [b] pos) (liftE X.K (dOp o ta tb)) := by
  obtain ⟨r, h1, h2⟩ := h.ex
  exact de_cmp h1 h2 ha hb hm
theorem dt_cm {op : CmpOp} {o : DO2} (h : CmpD X op o) (ha : PE X a (liftE X.K ta)) (hb : PE X b (liftE X.K tb)) (hm : behindInMarks op b = false := by first | exact nobehind _ (by decide) (by decide) | rfl) : PT X (.Compare a [op] [b] pos) (liftT X.K (dTest (dOp o ta tb))) := by
  obtain ⟨r, h1, h2⟩ := h.ex
  exact dt_cmp h1 h2 ha hb hm
theorem de_ch {op op' : CmpOp} {o o' : DO2} (h : CmpD X op o) (h' : CmpD X op' o') (ha : PE X a (liftE X.K ta)) (hb : PE X b (liftE X.K tb)) (hc : PE X c (liftE X.K tc)) (hm : lastMarks [op, op'] [b, c] = false := by with_unfolding_all rfl) :
    PE X (.Compare a [op, op'] [b, c] pos) (liftE X.K (dChain o o' ta tb tc)) := by
  obtain ⟨r, h1, h2⟩ := h.ex
  obtain ⟨r', h3, h4⟩ := h'.ex
  exact de_chain h1 h2 h3 h4 ha hb hc hm
theorem dt_ch {op op' : CmpOp} {o o' : DO2} (h : CmpD X op o) (h' : CmpD X op' o') (ha : PE X a (liftE X.K ta)) (hb : PE X b (liftE X.K tb)) (hc : PE X c (liftE X.K tc)) (hm : lastMarks [op, op'] [b, c] = false := by with_unfolding_all rfl) :
    PT X (.Compare a [op, op'] [b, c] pos) (liftT X.K (dTest (dChain o o' ta tb tc))) := by
  obtain ⟨r, h1, h2⟩ := h.ex
  obtain ⟨r', h3, h4⟩ := h'.ex
  exact dt_chain h1 h2 h3 h4 ha hb hc hm
end

/-! ### argument lists, displays -/
def dNil : DA := fun _ C R => R [] C
def dCons (ta : DE) (tr : DA) : DA := fun δ C R => ta δ C fun x C1 => tr δ C1 fun xs C2 => R (x :: xs) C2
section
variable {X : Cx} {e : Expr} {es : List Expr} {te : DE} {t : DA} {pos : Pos}
theorem da_nil : PA X [] (liftA X.K dNil) := pa_nil.weak fun σ H Q ⟨F, G, δ, C, R, A, S, q, k⟩ => k [] C q [] H G (Same.refl G) A .nil
theorem da_cons (ha : PE X e (liftE X.K te)) (hr : PA X es (liftA X.K t)) (hs : starEach (e :: es) X.env = (false, eval e X.env) :: starEach es X.env := by rfl) : PA X (e :: es) (liftA X.K (dCons te t)) := by
  refine (pa_cons ha hr hs).weak ?_
  rintro σ H Q ⟨F, G, δ, C, R, A, S, q, k⟩
  refine ⟨F, G, δ, C, _, A, S, q, fun x C1 q1 v H1 G1 s1 A1 r1 => ⟨F, G1, δ, C1, _, A1, S.mono s1, q1, fun xs C2 q2 vs H2 G2 s2 A2 r2 => ?_⟩⟩
  exact k _ _ q2 (v :: vs) H2 G2 (s1.trans s2) A2 (.cons (r1.mono s2) r2)
def dTup (t : DA) : DE := fun δ C R => t δ C fun xs C1 => xs.length ≤ sizeLine ∧ R (.tup xs) C1
/-- a list display: a list that is never written -/
def dLst (t : DA) : DE := fun δ C R => t δ C fun xs C1 => xs.length ≤ sizeLine ∧ R (.lst xs) C1
/-- a list display: a list that may be written -/
def dLstC (t : DA) : DE := fun δ C R => t δ C fun xs C1 => xs.length ≤ sizeLine ∧ ∀ p, C1 p = none → R (.ref p) (updC C1 p (.lst xs))
theorem de_tup {x1} (h : PA X es (liftA X.K t)) : PE X (.Tuple es x1 pos) (liftE X.K (dTup t)) := by
  refine (pe_tup h).weak ?_
  rintro σ H Q ⟨F, G, δ, C, R, A, S, q, k⟩
  refine ⟨F, G, δ, C, _, A, S, q, ?_⟩
  rintro xs C1 ⟨hl, q1⟩ vs H1 G1 s1 A1 r1
  exact ⟨by rw [← r1.length]; exact hl, fun p hp => (k.mono s1).new A1 hp q1 (.tup (.inl (.inl upd_same)) (r1.mono (A1.grow hp).2))⟩
theorem de_lst (h : PA X es (liftA X.K t)) : PE X (.List es pos) (liftE X.K (dLst t)) := by
  refine (pe_lst h).weak ?_
  rintro σ H Q ⟨F, G, δ, C, R, A, S, q, k⟩
  refine ⟨F, G, δ, C, _, A, S, q, ?_⟩
  rintro xs C1 ⟨hl, q1⟩ vs H1 G1 s1 A1 r1
  exact ⟨by rw [← r1.length]; exact hl, fun p hp => (k.mono s1).new A1 hp q1 (.lst (.inl upd_same) (r1.mono (A1.grow hp).2))⟩
theorem de_lstC (h : PA X es (liftA X.K t)) : PE X (.List es pos) (liftE X.K (dLstC t)) := by
  refine (pe_lst h).weak ?_
  rintro σ H Q ⟨F, G, δ, C, R, A, S, q, k⟩
  refine ⟨F, G, δ, C, _, A, S, q, ?_⟩
  rintro xs C1 ⟨hl, q1⟩ vs H1 G1 s1 A1 r1
  exact ⟨by rw [← r1.length]; exact hl, fun p hp => (k.mono s1).cell A1 hp (q1 p (A1.free hp)) (.lst r1)⟩
/-- {} -/
def dDct0 : DE := fun _ C R => R (.dct []) C
def dDct0C : DE := fun _ C R => ∀ p, C p = none → R (.ref p) (updC C p (.dct []))
theorem de_dct0 : PE X (.Dict [] [] pos) (liftE X.K dDct0) := by
  refine (pe_lockQ pe_dnewK).weak ?_
  rintro σ H Q ⟨F, G, δ, C, R, A, S, q, k⟩ p hp
  refine .inr ⟨p, [], rfl, upd_same, fun od => ?_⟩
  rw [upd_upd]
  exact k.new A hp q (.dct upd_same .nil)
theorem de_dct0C : PE X (.Dict [] [] pos) (liftE X.K dDct0C) := by
  refine pe_dnewK.weak ?_
  rintro σ H Q ⟨F, G, δ, C, R, A, S, q, k⟩ p hp
  exact k.cell A hp (q p (A.free hp)) (.dct .nil)
end

/-! ### subscripts -/
/-- what x[y] gives -/
def ixO (C : Cells) (x y : D) : Option D :=
  match dctOf C x with
  | some kvs => (keyOf y).bind fun k => getK kvs k
  | none => match intOf y with
    | none => none
    | some i => match strOf x with
      | some z => if z.length ≤ sizeLine then (atI z.cps.toList i).map fun c => .str ⟨#[c]⟩ else none
      | none => match tupOf x with
        | some ds => atI ds i
        | none => (lstOf C x).bind fun ds => atI ds i
def oIx : DO2 := fun x y C R => ∃ d, ixO C x y = some d ∧ R d C
section
variable {X : Cx} {a b : Expr} {ta tb : DE} {pos : Pos}
theorem ix_getK (hu : X.A.units + 64 < cLine) : IxR X rGetK := by
  intro value slice pins s σ H x y v u Q I rx ry h hs
  obtain ⟨d, kvs, k, z, rfl, hd, rfl, e, q⟩ := h
  cases rx
  have g : DGet H d (kV k) (some z) := .inl ⟨kvs, k, hd, rfl, e.symm⟩
  exact tail_any (dict_typeIs I g) (PySem.F.slot_dict_getitem.lookup) (d_getItem (by omega) I g ry fun w' s' I' r' => ⟨z, H, I', r', q⟩) hs
theorem lo_ix : LO2 X.K (fun x y H Q => rGetK x y H Q ∨ rIx X.K x y H Q) oIx := by
  intro F G H C x y v u R Q A rx ry h k
  obtain ⟨d, e, q⟩ := h
  unfold ixO at e
  split at e
  · rename_i kvs ek
    obtain ⟨i, ei, e⟩ := Option.bind_eq_some_iff.mp e
    obtain ⟨a, ks, rfl, ha, ra⟩ := dct_at A rx ek
    obtain ⟨z, e1, rz⟩ := (ra.val (k := i)).1 d e
    exact .inl ⟨a, ks, i, z, rfl, ha, ry.key ei, e1, k.now A q rz⟩
  · split at e
    · cases e
    · rename_i i ei
      cases ry.intV ei
      split at e
      · rename_i z ez
        split at e
        · rename_i hl
          obtain ⟨c, ec, e⟩ := Option.map_eq_some_iff.mp e
          subst e
          exact .inr (.inr (.inr ⟨z, i, c, rx.strV ez, rfl, hl, ec, k.now A q (.str _)⟩))
        · cases e
      · split at e
        · rename_i ds et
          obtain ⟨a, as, rfl, ha, ra⟩ := tup_at A rx et
          obtain ⟨z, e1, rz⟩ := ra.at e
          exact .inr (.inr (.inl ⟨a, as, i, z, rfl, rfl, ha, e1, k.now A q rz⟩))
        · obtain ⟨ds, el, e⟩ := Option.bind_eq_some_iff.mp e
          obtain ⟨a, as, rfl, ha, ra⟩ := lst_at A rx el
          obtain ⟨z, e1, rz⟩ := ra.at e
          exact .inr (.inl ⟨a, as, i, z, rfl, rfl, .inl ha, e1, k.now A q rz⟩)
theorem de_ix (hu : X.A.units + 64 < cLine) (ha : PE X a (liftE X.K ta)) (hb : PE X b (liftE X.K tb)) (hs : PlainIx b := by exact fun _ _ => rfl) : PE X (.Subscript a b pos) (liftE X.K (dOp oIx ta tb)) :=
  (pe_ix ((ix_getK hu).or ix_seq) ha hb hs).weak (lift_op lo_ix)
end

/-! ### slices -/
def dPart (t : DE) : DSt → Cells → (Option Int → Cells → Prop) → Prop := fun δ C R => t δ C fun d C1 => ∃ i, d = .int i ∧ R (some i) C1
def dNoPart : DSt → Cells → (Option Int → Cells → Prop) → Prop := fun _ C R => R none C
abbrev DOp := DSt → Cells → (Option Int → Cells → Prop) → Prop
def ToP (K : PySem.W.Frag) (F : Cells) (G : Hp) (R : Option Int → Cells → Prop) (Q : Option Int → Hp → Prop) : Prop := ∀ b C, R b C → ∀ H' G', Same G G' → Ab K F G' H' C → Q b H'
def liftP (K : PySem.W.Frag) (t : DOp) : TO := fun σ H Q => ∃ F G δ C R, Ab K F G H C ∧ RpS K G δ σ ∧ t δ C R ∧ ToP K F G R Q
/-- what x[lo:hi] gives -/
def slO (C : Cells) (x : D) (lo hi : Option Int) : Option D :=
  match x with
  | .tup ds => some (.tup (cutL ds lo hi))
  | .str z => if z.length ≤ sizeLine then some (.str ⟨(cutL z.cps.toList lo hi).toArray⟩) else none
  | x => (lstOf C x).map fun ds => .lst (cutL ds lo hi)
def dSl (te : DE) (tl th : DOp) : DE := fun δ C R => te δ C fun x C1 => tl δ C1 fun l C2 => th δ C2 fun u C3 => ∃ d, slO C3 x l u = some d ∧ R d C3
section
variable {X : Cx} {a b : Expr} {te : DE} {pos : Pos}
theorem dp_none : PO X none (liftP X.K dNoPart) := ⟨fun pins s σ H Q I ⟨F, G, δ, C, R, A, S, q, k⟩ => po_none.run pins s σ H Q I (k none C q H G (Same.refl G) A)⟩
theorem dp_some (h : PE X a (liftE X.K te)) : PO X (some a) (liftP X.K (dPart te)) := by
  refine ⟨fun pins s σ H Q I ⟨F, G, δ, C, R, A, S, q, k⟩ => (po_some h).run pins s σ H Q I ⟨F, G, δ, C, _, A, S, q, ?_⟩⟩
  rintro d C1 ⟨i, rfl, q1⟩ v H1 G1 s1 A1 r1
  cases r1.intI
  exact ⟨i, rfl, k _ _ q1 H1 G1 s1 A1⟩
end
end DL
/-! DLg: slices, built-in functions. -/
namespace DL
open PySem PySem.Spec L2
open PyProof.Rows hiding St

/-! ### slices -/
def slOk (C : Cells) (x : D) (lo hi : Option Int) : Option D :=
  match x with
  | .tup ds => some (.tup (cutL ds lo hi))
  | .str z => if z.length ≤ sizeLine then some (.str (cutS z lo hi)) else none
  | x => (lstOf C x).map fun ds => .lst (cutL ds lo hi)
def dSlice (te : DE) (tl th : DOp) : DE := fun δ C R => te δ C fun x C1 => tl δ C1 fun l C2 => th δ C2 fun u C3 => ∃ d, slOk C3 x l u = some d ∧ R d C3
section
variable {X : Cx} {e : Expr} {lo hi : Option Expr} {te : DE} {tl th : DOp} {pos p2 : Pos}
theorem cutL_whole {α : Type} {xs : List α} {lo hi : Option Int} (h : HT.sIx xs.length 0 lo = 0 ∧ HT.sIx xs.length xs.length hi = xs.length) : cutL xs lo hi = xs := by
  unfold cutL
  rw [h.1, h.2, Nat.sub_zero, List.drop_zero, List.take_length]
theorem de_slice (he : PE X e (liftE X.K te)) (hl : PO X lo (liftP X.K tl)) (hh : PO X hi (liftP X.K th)) : PE X (.Subscript e (.Slice lo hi none p2) pos) (liftE X.K (dSlice te tl th)) := by
  refine (pe_slice (sl_tupA.or (sl_list.or sl_str)) he hl hh).weak ?_
  rintro σ H Q ⟨F, G, δ, C, R, A, S, q, k⟩
  refine ⟨F, G, δ, C, _, A, S, q, fun x C1 q1 v H1 G1 s1 A1 r1 => ⟨F, G1, δ, C1, _, A1, S.mono s1, q1, fun l C2 q2 H2 G2 s2 A2 => ⟨F, G2, δ, C2, _, A2, S.mono (s1.trans s2), q2, ?_⟩⟩⟩
  rintro u C3 ⟨d, e, q3⟩ H3 G3 s3 A3
  have r3 := r1.mono (s2.trans s3)
  have k3 := k.mono (s1.trans (s2.trans s3))
  have L : ∀ ds, lstOf C3 x = some ds → d = .lst (cutL ds l u) → rSlA X.K v l u H3 Q ∨ rSlL X.K v l u H3 Q ∨ rSlS v l u H3 Q := fun ds el ed => by
    subst ed
    obtain ⟨a, as, rfl, ha, ra⟩ := lst_at A3 r3 el
    exact .inr (.inl ⟨a, as, rfl, .inl ha, fun p hp => k3.new A3 hp q3 (.lst (.inl upd_same) ((ra.cut l u).mono (A3.grow hp).2))⟩)
  cases x
  case tup ds =>
    cases e
    cases r3 with
    | tup hx rx =>
      rename_i a as
      refine .inl ⟨a, as, rfl, sqT_mono A3.sub hx, fun hw => ?_, fun _ p hp => k3.new A3 hp q3 (.tup (.inl (.inl upd_same)) ((rx.cut l u).mono (A3.grow hp).2))⟩
      rw [← rx.length] at hw
      rw [cutL_whole hw] at q3
      exact k3.now A3 q3 (.tup hx rx)
  case str z =>
    simp only [slOk] at e
    split at e
    · rename_i hz
      cases e
      exact .inr (.inr ⟨z, r3.strI, hz, k3.now A3 q3 (.str _)⟩)
    · cases e
  all_goals
    simp only [slOk, Option.map_eq_some_iff] at e
    obtain ⟨ds, el, ed⟩ := e
    exact L ds el ed.symm
/-- xs[::-1] -/
def dRev (te : DE) : DE := fun δ C R => te δ C fun x C1 => ∃ ds, lstOf C1 x = some ds ∧ R (.lst ds.reverse) C1
end

/-! ### built-in functions -/
structure CalD (X : Cx) (f : Value) (o : DOs) : Prop where
  ex : ∃ r, CallR X f r ∧ LOs X.K r o
section
variable {X : Cx} {x : Str} {p pos : Pos} {e : Expr} {es : List Expr} {t : DA} {id T : String} {o : DOs}
theorem de_cb (hc : CalD X (.builtin id) o) (hg : Gl X x) (hm : X.mg x = none) (hv : bootBuiltins x = some (.builtin id)) (ha : PA X (e :: es) (liftA X.K t)) (hn : x ≠ "__name__" := by decide) (hdb : (x == ("__debug__" : Str)) = false := by decide)
    (he : starEach (e :: es) X.env = (false, eval e X.env) :: starEach es X.env := by rfl) (hpl : (backTo pos (starEach es X.env)).any (·.1) = false := by rfl) : PE X (.Call (.Name x p) (e :: es) [] pos) (liftE X.K (dFn o t)) := by
  obtain ⟨r, h1, h2⟩ := hc.ex
  exact (pe_callB h1 hg hm hv ha hn hdb he hpl).weak (lift_fn h2)
theorem de_ct (hc : CalD X (.type T) o) (hg : Gl X x) (hm : X.mg x = none) (hv : bootBuiltins x = some (.type T)) (ha : PA X (e :: es) (liftA X.K t)) (hn : x ≠ "__name__" := by decide) (hdb : (x == ("__debug__" : Str)) = false := by decide)
    (he : starEach (e :: es) X.env = (false, eval e X.env) :: starEach es X.env := by rfl) (hpl : (backTo pos (starEach es X.env)).any (·.1) = false := by rfl) : PE X (.Call (.Name x p) (e :: es) [] pos) (liftE X.K (dFn o t)) := by
  obtain ⟨r, h1, h2⟩ := hc.ex
  exact (pe_callTy h1 hg hm hv ha hn hdb he hpl).weak (lift_fn h2)
end
theorem RpL.one {K : PySem.W.Frag} {G : Hp} {d : D} {vs : List V} (r : RpL K G [d] vs) : ∃ v, vs = [v] ∧ Rp K G d v := by
  cases r with
  | cons a b => cases b; exact ⟨_, rfl, a⟩
theorem RpL.two {K : PySem.W.Frag} {G : Hp} {d e : D} {vs : List V} (r : RpL K G [d, e] vs) : ∃ v u, vs = [v, u] ∧ Rp K G d v ∧ Rp K G e u := by
  cases r with
  | cons a b => cases b with
    | cons c d => cases d; exact ⟨_, _, rfl, a, c⟩

/-- len(x) -/
def lenO (C : Cells) (x : D) : Option Nat :=
  match strOf x with
  | some z => if z.length ≤ sizeLine then some z.length else none
  | none => match tupOf x with
    | some ds => some ds.length
    | none => match lstOf C x with
      | some ds => some ds.length
      | none => (dctOf C x).map fun kvs => kvs.length
def oLen : DOs := fun xs C R => ∃ x n, xs = [x] ∧ lenO C x = some n ∧ R (.int (n : Nat)) C
section
variable {X : Cx}
theorem call_lenK : CallR X (.builtin "len") (fun xs H Q => ∃ a kvs, xs = [.ref a] ∧ Rd H a (.dK kvs) ∧ Q (.int kvs.length) H) := by
  intro pins s σ H xs us Q I r h
  obtain ⟨a, kvs, rfl, hd, q⟩ := h
  obtain ⟨u, rfl, rx⟩ := vals1 r
  cases rx
  exact d_len I hd fun t s' I' => ⟨.int kvs.length, H, I', ⟨t, rfl⟩, q⟩
theorem cl_len : CalD X (.builtin "len") oLen := by
  refine ⟨_, call_len.or call_lenK, ?_⟩
  intro F G H C xs vs R Q A rx h k
  obtain ⟨x, n, rfl, e, q⟩ := h
  obtain ⟨v, rfl, r⟩ := rx.one
  unfold lenO at e
  split at e
  · rename_i z ez
    split at e
    · rename_i hz
      cases e
      exact .inl ⟨v, _, rfl, by rw [r.strV ez]; exact ⟨hz, rfl⟩, k.now A q (.int _)⟩
    · cases e
  · split at e
    · rename_i ds et
      cases e
      obtain ⟨a, as, rfl, ha, ra⟩ := tup_at A r et
      exact .inl ⟨.ref a, _, rfl, .inr ⟨as, ha, by rw [ra.length]⟩, k.now A q (.int _)⟩
    · split at e
      · rename_i ds et
        cases e
        obtain ⟨a, as, rfl, ha, ra⟩ := lst_at A r et
        exact .inl ⟨.ref a, _, rfl, .inl ⟨as, .inl ha, by rw [ra.length]⟩, k.now A q (.int _)⟩
      · obtain ⟨kvs, ek, en⟩ := Option.map_eq_some_iff.mp e
        subst en
        obtain ⟨a, ks, rfl, ha, ra⟩ := dct_at A r ek
        refine .inr ⟨a, ks, rfl, ha, ?_⟩
        rw [← ra.length]
        exact k.now A q (.int _)
end

/-! isinstance -/
def kindOf (C : Cells) : D → Option String
  | .non => some "NoneType"
  | .bl _ => some "bool"
  | .int _ => some "int"
  | .str _ => some "str"
  | .tup _ => some "tuple"
  | .lst _ => some "list"
  | .dct _ => some "dict"
  | .ref p => (C p).bind fun c => match c with
    | .lst _ => some "list"
    | .dct _ => some "dict"
    | _ => none
  | .ty _ => none
/-- is a thing of built-in type k one of T? -/
def isiT (k T : String) : Bool := k == T || (k == "bool" && T == "int")
def types : List String := ["int", "bool", "str", "tuple", "list"]
def isiO (C : Cells) (x : D) (t : D) : Option Bool :=
  match t with
  | .ty T => if types.contains T then (kindOf C x).map fun k => isiT k T else none
  | .tup [.ty T, .ty U] => if types.contains T && types.contains U then (kindOf C x).map fun k => isiT k T || isiT k U else none
  | _ => none
def oIsi : DOs := fun xs C R => ∃ x t b, xs = [x, t] ∧ isiO C x t = some b ∧ R (.bl b) C
def kinds : List String := ["NoneType", "bool", "int", "str", "tuple", "list", "dict"]
theorem kit_all : ∀ k ∈ kinds, ∀ T ∈ types, kitB k T = some (isiT k T) := by decide +kernel
theorem kind_in {C : Cells} {x : D} {k : String} (h : kindOf C x = some k) : k ∈ kinds := by
  unfold kindOf at h
  split at h <;> first | (cases h; done) | (cases h; decide) | skip
  · obtain ⟨c, _, e⟩ := Option.bind_eq_some_iff.mp h
    split at e <;> first | (cases e; done) | (cases e; decide)
section
variable {K : PySem.W.Frag} {G H : Hp} {F C : Cells} {d : D} {v : V}
theorem tyX_of {k : String} (A : Ab K F G H C) (r : Rp K G d v) (h : kindOf C d = some k) : TyX K H v (.type k) := by
  cases r <;> first | cases h | skip
  · exact .base .non
  · exact .base (.bl _)
  · exact .base (.int _)
  · exact .base (.str _)
  · obtain ⟨c, hc, e⟩ := Option.bind_eq_some_iff.mp h
    obtain ⟨_, u, hu, ok⟩ := A.cell _ _ hc
    split at e
    · cases e; cases ok; exact .base (.lst hu)
    · cases e; cases ok; exact .base (.dK hu)
    · cases e
  · rename_i ds a xs hx rx
    rcases sqT_mono A.sub hx with (hx | ⟨o, hx⟩) | ⟨o, its, n, h1, h2, _⟩
    · exact .base (.tup hx)
    · exact .fTuple hx
    · exact .kTuple h1 h2
  · rename_i ds a xs hx rx
    rcases rd_mono A.sub hx with hx | ⟨o, hx⟩
    · exact .base (.lst hx)
    · exact .base (.frz hx)
  · rename_i hx _
    exact .fDict (A.sub _ _ hx)
end
/-- isinstance(x, (T, U)) by a tuple that is read -/
def rIsiS (K : PySem.W.Frag) : List V → Hp → VK → Prop := fun xs H Q => ∃ (x : V) (tp : Addr) (cs : List V) (t : Value) (us : List Value) (b : Bool), xs = [x, .ref tp] ∧ SqT K H tp cs ∧ Paired ClsV cs us ∧ TyX K H x t ∧ PySem.W.kitAny K t us = some b ∧ Q (.bl b) H
section
variable {X : Cx}
theorem call_isiS : CallR X (.builtin "isinstance") (rIsiS X.K) := by
  intro pins s σ H xs us Q I r h
  obtain ⟨x, tp, cs, t, ws, b, rfl, hT, k, ty, e, q⟩ := h
  obtain ⟨u1, u2, rfl, r1, r2⟩ := vals2 r
  cases (show u2 = Value.ref tp from r2)
  obtain ⟨P, Z, p, hx⟩ := kit_of I r1 ty
  obtain ⟨its, rv, ⟨o, h1, h2, n, h3⟩, _⟩ := I.tuple hT
  have e3 := ClsV.all k rv
  subst e3
  obtain ⟨oc, od, dt, sl⟩ := o
  simp only at h2 h3
  subst h2 h3
  exact PySem.W.kia_tup Z I.kIn p h1 e hx fun tk => ⟨.bl b, H, I.tok tk, rfl, q⟩
theorem cl_isi : CalD X (.builtin "isinstance") oIsi := by
  refine ⟨_, call_isi.or call_isiS, ?_⟩
  intro F G H C xs vs R Q A rx h k
  obtain ⟨x, t, b, rfl, e, q⟩ := h
  obtain ⟨v, u, rfl, r, rt⟩ := rx.two
  unfold isiO at e
  split at e
  · rename_i T
    split at e
    · rename_i hT
      obtain ⟨kk, ek, eb⟩ := Option.map_eq_some_iff.mp e
      subst eb
      cases rt
      exact .inl ⟨v, .ty T, .type kk, .type T, _, rfl, .ty T, tyX_of A r ek, kit_ty (kit_all kk (kind_in ek) T (List.contains_iff_mem.mp hT)), k.now A q (.bl _)⟩
    · cases e
  · rename_i T U
    split at e
    · rename_i hT
      obtain ⟨kk, ek, eb⟩ := Option.map_eq_some_iff.mp e
      subst eb
      rw [Bool.and_eq_true] at hT
      obtain ⟨a, as, rfl, ha, ra⟩ := tup_at A rt rfl
      obtain ⟨c1, c2, rfl, rc1, rc2⟩ := ra.two
      cases rc1; cases rc2
      refine .inr ⟨v, a, _, .type kk, [.type T, .type U], _, rfl, ha, .cons (.ty T) (.cons (.ty U) .nil), tyX_of A r ek, ?_, k.now A q (.bl _)⟩
      refine kitAny_cons (kit_ty (kit_all kk (kind_in ek) T (List.contains_iff_mem.mp hT.1))) (fun h => ?_) (fun h => by rw [h]; rfl)
      rw [h, Bool.false_or]
      refine kitAny_cons (kit_ty (kit_all kk (kind_in ek) U (List.contains_iff_mem.mp hT.2))) (fun h => by rw [h]; exact kitAny_nil) (fun h => h)
    · cases e
  · cases e
end
/-! all, any -/
def bools : List D → Option (List Bool)
  | [] => some []
  | .bl b :: ds => (bools ds).map (b :: ·)
  | _ => none
def oAll : DOs := fun xs C R => ∃ x ds bs, xs = [x] ∧ lstOf C x = some ds ∧ bools ds = some bs ∧ R (.bl (bs.all id)) C
theorem RpL.bools {K : PySem.W.Frag} {G : Hp} : ∀ {ds : List D} {vs : List V} {bs : List Bool}, RpL K G ds vs → DL.bools ds = some bs → vs = bs.map V.bl
  | _, _, _, .nil, e => by cases e; rfl
  | _, _, bs, .cons (d := d) r t, e => by
    cases d <;> first | cases e | skip
    simp only [DL.bools, Option.map_eq_some_iff] at e
    obtain ⟨bs', e1, rfl⟩ := e
    cases r
    rw [RpL.bools t e1]
    rfl
section
variable {X : Cx}
theorem cl_all (hc : X.calm = true) : CalD X (.builtin "all") oAll := by
  refine ⟨_, cr_all hc, ?_⟩
  intro F G H C xs vs R Q A rx h k
  obtain ⟨x, ds, bs, rfl, e, eb, q⟩ := h
  obtain ⟨v, rfl, r⟩ := rx.one
  obtain ⟨a, as, rfl, ha, ra⟩ := lst_at A r e
  have := ra.bools eb
  subst this
  exact ⟨a, bs, rfl, .inl ha, k.now A q (.bl _)⟩
/-- tuple(x) of a list or a tuple -/
def oTuple : DOs := fun xs C R => ∃ x, xs = [x] ∧ match tupOf x with
  | some ds => R (.tup ds) C
  | none => ∃ ds, lstOf C x = some ds ∧ R (.tup ds) C
theorem cl_tuple : CalD X (.type "tuple") oTuple := by
  refine ⟨_, call_tuple_of, ?_⟩
  intro F G H C xs vs R Q A rx h k
  obtain ⟨x, rfl, h⟩ := h
  obtain ⟨v, rfl, r⟩ := rx.one
  split at h
  · rename_i ds et
    cases r <;> first | cases et | skip
    rename_i a as hx rx'
    exact ⟨a, as, rfl, .inr ⟨sqT_mono A.sub hx, k.now A h (.tup hx rx')⟩⟩
  · obtain ⟨ds, el, q⟩ := h
    obtain ⟨a, as, rfl, ha, ra⟩ := lst_at A r el
    exact ⟨a, as, rfl, .inl ⟨.inl ha, fun p hp => k.new A hp q (.tup (.inl (.inl upd_same)) (ra.mono (A.grow hp).2))⟩⟩
/-- list(x) of a list or a tuple: a list that is never written; one that may be -/
def seqOf (C : Cells) (x : D) : Option (List D) := match tupOf x with
  | some ds => some ds
  | none => lstOf C x
def oList : DOs := fun xs C R => ∃ x ds, xs = [x] ∧ seqOf C x = some ds ∧ R (.lst ds) C
def oListC : DOs := fun xs C R => ∃ x ds, xs = [x] ∧ seqOf C x = some ds ∧ ∀ p, C p = none → R (.ref p) (updC C p (.lst ds))
theorem seq_at {K : PySem.W.Frag} {G H : Hp} {F C : Cells} {d : D} {v : V} {ds : List D} (A : Ab K F G H C) (r : Rp K G d v) (e : seqOf C d = some ds) : ∃ a xs, v = .ref a ∧ (SqL K H a xs ∨ SqT K H a xs) ∧ RpL K G ds xs := by
  unfold seqOf at e
  split at e
  · rename_i et
    cases e
    obtain ⟨a, as, h1, h2, h3⟩ := tup_at A r et
    exact ⟨a, as, h1, .inr h2, h3⟩
  · obtain ⟨a, as, h1, h2, h3⟩ := lst_at A r e
    exact ⟨a, as, h1, .inl (.inl h2), h3⟩
theorem cl_list : CalD X (.type "list") oList := by
  refine ⟨_, call_list_of, ?_⟩
  intro F G H C xs vs R Q A rx h k
  obtain ⟨x, ds, rfl, e, q⟩ := h
  obtain ⟨v, rfl, r⟩ := rx.one
  obtain ⟨a, as, rfl, ha, ra⟩ := seq_at A r e
  exact ⟨a, as, rfl, ha, fun p hp => k.new A hp q (.lst (.inl upd_same) (ra.mono (A.grow hp).2))⟩
theorem cl_listC : CalD X (.type "list") oListC := by
  refine ⟨_, call_list_of, ?_⟩
  intro F G H C xs vs R Q A rx h k
  obtain ⟨x, ds, rfl, e, q⟩ := h
  obtain ⟨v, rfl, r⟩ := rx.one
  obtain ⟨a, as, rfl, ha, ra⟩ := seq_at A r e
  exact ⟨a, as, rfl, ha, fun p hp => k.cell A hp (q p (A.free hp)) (.lst ra)⟩
/-- dict(d): a copy that is never written; one that may be -/
def oDict : DOs := fun xs C R => ∃ x kvs, xs = [x] ∧ dctOf C x = some kvs ∧ R (.dct kvs) C
def oDictC : DOs := fun xs C R => ∃ x kvs, xs = [x] ∧ dctOf C x = some kvs ∧ ∀ p, C p = none → R (.ref p) (updC C p (.dct kvs))
theorem cl_dict : CalD X (.type "dict") oDict := by
  refine ⟨_, callR_lock call_dictD, ?_⟩
  intro F G H C xs vs R Q A rx h k
  obtain ⟨x, ds, rfl, e, q⟩ := h
  obtain ⟨v, rfl, r⟩ := rx.one
  obtain ⟨a, as, rfl, ha, ra⟩ := dct_at A r e
  refine ⟨a, as, rfl, ha, fun p hp => .inr ⟨p, as, rfl, upd_same, fun od => ?_⟩⟩
  rw [upd_upd]
  exact k.new A hp q (.dct upd_same (ra.mono (A.grow hp).2))
theorem cl_dictC : CalD X (.type "dict") oDictC := by
  refine ⟨_, call_dictD, ?_⟩
  intro F G H C xs vs R Q A rx h k
  obtain ⟨x, ds, rfl, e, q⟩ := h
  obtain ⟨v, rfl, r⟩ := rx.one
  obtain ⟨a, as, rfl, ha, ra⟩ := dct_at A r e
  exact ⟨a, as, rfl, ha, fun p hp => k.cell A hp (q p (A.free hp)) (.dct ra)⟩
/-- int(x) of an int, a bool; abs(x) -/
def oInt : DOs := fun xs C R => match xs with
  | [.int i] => R (.int i) C
  | [.bl b] => R (.int (if b then 1 else 0)) C
  | _ => False
theorem cl_int : CalD X (.type "int") oInt := by
  refine ⟨_, call_int1, ?_⟩
  intro F G H C xs vs R Q A rx h k
  unfold oInt at h
  split at h
  · obtain ⟨v, rfl, r⟩ := rx.one
    cases r
    exact .inl ⟨_, rfl, k.now A h (.int _)⟩
  · obtain ⟨v, rfl, r⟩ := rx.one
    cases r
    exact .inr ⟨_, rfl, k.now A h (.int _)⟩
  · exact h.elim
def oAbs : DOs := fun xs C R => ∃ i, xs = [.int i] ∧ R (.int (if i < 0 then -i else i)) C
theorem cl_abs : CalD X (.builtin "abs") oAbs := by
  refine ⟨_, call_abs, ?_⟩
  intro F G H C xs vs R Q A rx h k
  obtain ⟨i, rfl, q⟩ := h
  obtain ⟨v, rfl, r⟩ := rx.one
  cases r
  exact ⟨_, rfl, k.now A q (.int _)⟩
end
end DL
/-! DLh: statements, targets, defs, loops, comprehensions. -/
namespace DL
open PySem PySem.Spec L2
open PyProof.Rows hiding St

/-! ### blocks and small statements -/
def dNext : DS := fun D δ C => D.nx δ C
def dSeq (t u : DS) : DS := fun D δ C => t { D with nx := u D } δ C
def dRet (te : DE) : DS := fun D δ C => te δ C D.rt
def dRetN : DS := fun D _ C => D.rt .non C
def dDrop (te : DE) : DS := fun D δ C => te δ C fun _ C1 => D.nx δ C1
def dIfS (c : DT) (t u : DS) : DS := fun D δ C => c δ C fun b C1 => if b = true then t D δ C1 else u D δ C1
def dNever : DS := fun _ _ _ => False
def dBreak : DS := fun D δ C => D.bk δ C
def dCont : DS := fun D δ C => D.ct δ C
abbrev DG := D → DSt → Cells → (DSt → Cells → Prop) → Prop
abbrev DGs := List D → DSt → Cells → (DSt → Cells → Prop) → Prop
def dAsg (te : DE) (g : DG) : DS := fun D δ C => te δ C fun x C1 => g x δ C1 D.nx
section
variable (K : PySem.W.Frag)
def liftG (t : DG) : TG := fun v σ H Q => ∃ F G δ C d R, Ab K F G H C ∧ RpS K G δ σ ∧ Rp K G d v ∧ t d δ C R ∧ ToN K F G R Q
def liftGs (t : DGs) : TGs := fun vs σ H Q => ∃ F G δ C ds R, Ab K F G H C ∧ RpS K G δ σ ∧ RpL K G ds vs ∧ t ds δ C R ∧ ToN K F G R Q
end
section
variable {X : Cx} {st : Stmt} {rest : List Stmt} {t u : DS} {e : Expr} {te : DE} {pos : Pos}
theorem dss_nil : PSs X [] (liftS X.K dNext) := pss_nil.weak fun D σ H ⟨F, G, δ, C, R, A, S, q, k⟩ => k.nx _ _ q σ H G (Same.refl G) A S
theorem lift_seq {K : PySem.W.Frag} : ∀ D σ H, liftS K (dSeq t u) D σ H → tSeq (liftS K t) (liftS K u) D σ H := fun D σ H ⟨F, G, δ, C, R, A, S, q, k⟩ =>
  ⟨F, G, δ, C, { R with nx := u R }, A, S, q, ⟨fun δ' C' q' σ' H' G' s' A' S' => ⟨F, G', δ', C', R, A', S', q', k.mono s'⟩, k.rt, k.bk, k.ct⟩⟩
theorem dss_cons (h1 : PS X st (liftS X.K t)) (h2 : PSs X rest (liftS X.K u)) : PSs X (st :: rest) (liftS X.K (dSeq t u)) := (pss_cons h1 h2).weak lift_seq
theorem dss_one (h1 : PS X st (liftS X.K t)) : PSs X [st] (liftS X.K t) := pss_one h1
theorem ds_pass : PS X (.Pass pos) (liftS X.K dNext) := ps_pass.weak fun D σ H ⟨F, G, δ, C, R, A, S, q, k⟩ => k.nx _ _ q σ H G (Same.refl G) A S
theorem ds_break : PS X (.Break pos) (liftS X.K dBreak) := ps_break.weak fun D σ H ⟨F, G, δ, C, R, A, S, q, k⟩ => k.bk _ _ q σ H G (Same.refl G) A S
theorem ds_cont : PS X (.Continue pos) (liftS X.K dCont) := ps_continue.weak fun D σ H ⟨F, G, δ, C, R, A, S, q, k⟩ => k.ct _ _ q σ H G (Same.refl G) A S
theorem ds_doc {x j pos pos'} : PS X (.Expr (.Constant (.str x) j pos) pos') (liftS X.K dNext) := ps_doc.weak fun D σ H ⟨F, G, δ, C, R, A, S, q, k⟩ => k.nx _ _ q σ H G (Same.refl G) A S
theorem ds_never : PS X st (liftS X.K dNever) := ps_never.weak fun D σ H ⟨F, G, δ, C, R, A, S, q, k⟩ => q
theorem dss_never {sts : List Stmt} : PSs X sts (liftS X.K dNever) := pss_never.weak fun D σ H ⟨F, G, δ, C, R, A, S, q, k⟩ => q
theorem ds_expr (he : PE X e (liftE X.K te)) (hs : swapsWith e none pos.line X.env = pure false := by rfl) : PS X (.Expr e pos) (liftS X.K (dDrop te)) :=
  (ps_expr he hs).weak fun D σ H ⟨F, G, δ, C, R, A, S, q, k⟩ => ⟨F, G, δ, C, _, A, S, q, fun d C1 q1 v H1 G1 s1 A1 r1 => k.nx _ _ q1 σ H1 G1 s1 A1 (S.mono s1)⟩
theorem ds_ret (he : PE X e (liftE X.K te)) : PS X (.Return (some e) pos) (liftS X.K (dRet te)) :=
  (ps_ret he).weak fun D σ H ⟨F, G, δ, C, R, A, S, q, k⟩ => ⟨F, G, δ, C, _, A, S, q, k.rt⟩
theorem ds_retN : PS X (.Return none pos) (liftS X.K dRetN) := ps_retN.weak fun D σ H ⟨F, G, δ, C, R, A, S, q, k⟩ => k.rt _ _ q _ H G (Same.refl G) A .non
theorem ds_if {c : Expr} {a b : List Stmt} {tc : DT} (hc : PT X c (liftT X.K tc)) (ha : PSs X a (liftS X.K t)) (hb : PSs X b (liftS X.K u)) : PS X (.If c a b pos) (liftS X.K (dIfS tc t u)) := by
  refine (ps_if hc ha hb).weak ?_
  rintro D σ H ⟨F, G, δ, C, R, A, S, q, k⟩
  refine ⟨F, G, δ, C, _, A, S, q, fun b C1 q1 H1 G1 s1 A1 => ?_⟩
  cases b with
  | true => rw [if_pos rfl] at q1 ⊢; exact ⟨F, G1, δ, C1, R, A1, S.mono s1, q1, k.mono s1⟩
  | false => rw [if_neg Bool.false_ne_true] at q1 ⊢; exact ⟨F, G1, δ, C1, R, A1, S.mono s1, q1, k.mono s1⟩
/-! targets -/
def gdName (i : Nat) : DG := fun d δ C R => R (δ.set i (some d)) C
theorem lift_name {K : PySem.W.Frag} {i : Nat} : ∀ v σ H Q, liftG K (gdName i) v σ H Q → gName i v σ H Q := fun v σ H Q ⟨F, G, δ, C, d, R, A, S, r, q, k⟩ => k _ _ q _ H G (Same.refl G) A (RpS.set r i S)
theorem _root_.L2.PG.weak {tg : Expr} {t t' : TG} (h : PG X tg t) (w : ∀ v σ H Q, t' v σ H Q → t v σ H Q) : PG X tg t' := ⟨fun pins s σ H v u Q I r q => h.run pins s σ H v u Q I r (w v σ H Q q)⟩
theorem _root_.L2.PGs.weak {tg : List Expr} {t t' : TGs} (h : PGs X tg t) (w : ∀ v σ H Q, t' v σ H Q → t v σ H Q) : PGs X tg t' := ⟨fun pins s σ H v u Q I r q => h.run pins s σ H v u Q I r (w v σ H Q q)⟩
theorem dg_name {i : Nat} {x : Str} (hN : X.N.Nodup) (hi : X.N[i]? = some x) (hx : Loc X.env.scope x) (hf : X.fn x = true ∨ X.env.scope.names.lookup x = some .local := by first | exact .inl rfl | exact .inr rfl | assumption) : PG X (.Name x pos) (liftG X.K (gdName i)) :=
  (pg_name hN hi hx hf).weak lift_name
def gdNil : DGs := fun ds δ C R => ds = [] ∧ R δ C
def gdCons (t : DG) (u : DGs) : DGs := fun ds δ C R => ∃ d r, ds = d :: r ∧ t d δ C fun δ' C' => u r δ' C' R
theorem dgs_nil : PGs X [] (liftGs X.K gdNil) := pgs_nil.weak fun vs σ H Q ⟨F, G, δ, C, ds, R, A, S, r, ⟨e, q⟩, k⟩ => by
  subst e
  cases r
  exact ⟨rfl, k _ _ q _ H G (Same.refl G) A S⟩
theorem dgs_cons {e : Expr} {es : List Expr} {t : DG} {u : DGs} (h1 : PG X e (liftG X.K t)) (h2 : PGs X es (liftGs X.K u)) (hs : (assignEach (e :: es) X.env).map (·.2) = assign e X.env :: (assignEach es X.env).map (·.2) := by rfl) :
    PGs X (e :: es) (liftGs X.K (gdCons t u)) := (pgs_cons h1 h2 hs).weak fun vs σ H Q ⟨F, G, δ, C, ds, R, A, S, r, ⟨d, dr, e, q⟩, k⟩ => by
  subst e
  cases r with
  | cons r1 r2 =>
    exact ⟨_, _, rfl, F, G, δ, C, d, _, A, S, r1, q, fun δ' C' q' σ' H' G' s' A' S' => ⟨F, G', δ', C', dr, R, A', S', r2.mono s', q', k.mono s'⟩⟩
/-- (a, b, ..) = a tuple of that length -/
def gdTup (n : Nat) (t : DGs) : DG := fun d δ C R => ∃ ds, tupOf d = some ds ∧ ds.length = n ∧ t ds δ C R
theorem dg_tup {es : List Expr} {k : Nat} {t : DGs} {n : Nat} (hc : X.calm = true) (h : PGs X es (liftGs X.K t))
    (hn : (assignEach es X.env).length = n := by rfl) (hst : (assignEach es X.env).findIdx? (·.1) = none := by rfl) : PG X (.Tuple es k pos) (liftG X.K (gdTup n t)) :=
  (pg_tup hc h hn hst).weak fun v σ H Q ⟨F, G, δ, C, d, R, A, S, r, ⟨ds, e, hl, q⟩, k⟩ => by
  obtain ⟨a, as, rfl, ha, ra⟩ := tup_at A r e
  exact ⟨a, as, rfl, ha, by rw [← ra.length]; exact hl, F, G, δ, C, ds, R, A, S, ra, q, k⟩
theorem lift_asg {K : PySem.W.Frag} {g : DG} : ∀ D σ H, liftS K (dAsg te g) D σ H → tAsg (liftE K te) (liftG K g) D σ H := fun D σ H ⟨F, G, δ, C, R, A, S, q, k⟩ =>
  ⟨F, G, δ, C, _, A, S, q, fun d C1 q1 v H1 G1 s1 A1 r1 => ⟨F, G1, δ, C1, d, R.nx, A1, S.mono s1, r1, q1, k.nx.mono s1⟩⟩
theorem ds_asg {tg e : Expr} {g : DG} (he : PE X e (liftE X.K te)) (hg : PG X tg (liftG X.K g)) (hs : swapsWithSole [tg] e pos.line X.env = pure false := by rfl) (hw : swappedStores [tg] e X.env = pure none := by rfl)
    (h1 : (assignEach [tg] X.env).map (·.2) = [assign tg X.env] := by rfl) : PS X (.Assign [tg] e pos) (liftS X.K (dAsg te g)) := (ps_asg he hg hs hw h1).weak lift_asg
/-- name = value -/
theorem ds_set {i : Nat} {x : Str} {pos' : Pos} (hN : X.N.Nodup) (hi : X.N[i]? = some x) (hx : Loc X.env.scope x) (he : PE X e (liftE X.K te)) (hs : swapsWith e (some (.Name x pos')) pos.line X.env = pure false := by rfl) (hf : X.fn x = true ∨ X.env.scope.names.lookup x = some .local := by first | exact .inl rfl | exact .inr rfl | assumption) :
    PS X (.Assign [.Name x pos'] e pos) (liftS X.K (dAsg te (gdName i))) := (ps_set hN hi hx he hs hf).weak fun D σ H q => by
  obtain ⟨F, G, δ, C, R, A, S, q, k⟩ := q
  exact ⟨F, G, δ, C, _, A, S, q, fun d C1 q1 v H1 G1 s1 A1 r1 => k.nx _ _ q1 _ H1 G1 s1 A1 (RpS.set r1 i (S.mono s1))⟩
end

/-! ### what is walked -/
structure DIt where
  go : Nat → Cells → Prop
  yld : Nat → Cells → D → Prop
  stop : Nat → Cells → Prop
abbrev DI := DSt → Cells → (DIt → Cells → Prop) → Prop
section
variable (K : PySem.W.Frag)
def ItOk (G : Hp) (J : DIt) (J' : It) : Prop := ∀ F i G2 H2 C2, Same G G2 → Ab K F G2 H2 C2 →
  (J.go i C2 → J'.go i H2 ∧ ∀ x H3, J'.yld i H2 x H3 → ∃ G3 d, Same G2 G3 ∧ Ab K F G3 H3 C2 ∧ J.yld i C2 d ∧ Rp K G3 d x) ∧ (J.stop i C2 → J'.stop i H2)
def liftI (t : DI) : TI := fun σ H Q => ∃ F G δ C R, Ab K F G H C ∧ RpS K G δ σ ∧ t δ C R ∧ ∀ J C', R J C' → ∀ J' H' G', Same G G' → Ab K F G' H' C' → ItOk K G' J J' → Q J' H'
end
theorem _root_.L2.PI.weak {X : Cx} {tg e : Expr} {t t' : TI} (h : PI X tg e t) (w : ∀ σ H Q, t' σ H Q → t σ H Q) : PI X tg e t' := ⟨fun pins s σ H Q I q => h.run pins s σ H Q I (w σ H Q q)⟩
def keyD : Key → D
  | .inl i => .int i
  | .inr x => .str x
/-- what stays is walked; a list that may change; a locked dict's keys -/
def itFix (ds : List D) : DIt := ⟨fun i _ => i < ds.length, fun i _ d => ds[i]? = some d, fun i _ => ds.length ≤ i⟩
def itLive (p : Addr) : DIt := ⟨fun i C => ∃ ds d, C p = some (.lst ds) ∧ ds[i]? = some d, fun i C d => ∃ ds, C p = some (.lst ds) ∧ ds[i]? = some d, fun i C => ∃ ds, C p = some (.lst ds) ∧ ds.length ≤ i⟩
def itLck (p : Addr) (o : Obj) (kvs : List (Key × D)) (f : Key × D → D) : DIt := ⟨fun i C => C p = some (.lck o (.dct kvs)) ∧ i < kvs.length, fun i _ d => (kvs[i]?).map f = some d, fun i C => C p = some (.lck o (.dct kvs)) ∧ kvs.length ≤ i⟩
def chars (z : Str) : List D := z.cps.toList.map fun c => .str ⟨#[c]⟩
def itOf (C : Cells) (x : D) : Option DIt := match x with
  | .str z => some (itFix (chars z))
  | .tup ds => some (itFix ds)
  | .lst ds => some (itFix ds)
  | .dct kvs => some (itFix (kvs.map fun kv => keyD kv.1))
  | .ref p => match C p with
    | some (.lst _) => some (itLive p)
    | _ => none
  | _ => none
def diSeq (te : DE) : DI := fun δ C R => te δ C fun x C1 => ∃ J, itOf C1 x = some J ∧ R J C1
/-- a list, a tuple or a text is walked -/
def iAny (K : PySem.W.Frag) (tl : TE) : TI := fun σ H R => tl σ H fun x H1 => (∃ a, x = .ref a ∧ (∃ xs, SqL K H1 a xs) ∧ R (Itl K a) H1) ∨ (∃ a, x = .ref a ∧ (∃ xs, SqT K H1 a xs) ∧ R (Itt K a) H1) ∨ (∃ d o kvs, x = .ref d ∧ H1 d = some (.frz o (.dK kvs)) ∧ R (Itk d o kvs) H1) ∨ ∃ z, x = .str z ∧ R (Its z) H1
section
variable {X : Cx} {tg e : Expr} {te : DE}
theorem pi_any {tl : TE} (hl : PE X e tl) : PI X tg e (iAny X.K tl) := by
  refine ⟨fun pins s σ H R I h => ?_⟩
  refine thn (hl.run pins s σ H _ I h) fun v s1 ⟨x, H1, I1, r1, q1⟩ => ?_
  rcases q1 with ⟨a, rfl, hq, q⟩ | ⟨a, rfl, hq, q⟩ | ⟨d, o, kvs, rfl, hd, q⟩ | ⟨z, rfl, q⟩
  · cases r1
    obtain ⟨xs, hq⟩ := hq
    obtain ⟨its, rv, p, hz⟩ := I1.list hq
    refine wpAny_pyIter_list p.isList ?_
    refine ⟨s1.heap.objs.size, [s1.heap.objs.size], _, _, H1, rfl, I1.kept (t' := s1.toks) fun b o e => Heap.get?_push_of_some _ e, turn_list a _, ⟨_, Heap.get?_push_size _ rfl, rfl, rfl⟩, fun b hb => ?_, q⟩
    have e : b = s1.heap.objs.size := by simpa using hb
    subst e
    exact I1.fpOk (Nat.le_refl _) (I1.hok.fresh (Nat.le_refl _))
  · cases r1
    obtain ⟨xs, hq⟩ := hq
    obtain ⟨its, rv, p, hz⟩ := I1.tuple hq
    refine wpAny_pyIter_tuple (show s1.heap.IsTuple a its.toArray from p) ?_
    refine ⟨s1.heap.objs.size, [s1.heap.objs.size], _, _, H1, rfl, I1.kept (t' := s1.toks) fun b o e => Heap.get?_push_of_some _ e, turn_tuple a _, ⟨_, Heap.get?_push_size _ rfl, rfl, rfl⟩, fun b hb => ?_, q⟩
    have e : b = s1.heap.objs.size := by simpa using hb
    subst e
    exact I1.fpOk (Nat.le_refl _) (I1.hok.fresh (Nat.le_refl _))
  · obtain rfl : v = Value.ref d := r1
    obtain ⟨hs, hgd, hx, es, ep, vs, hdt, hsz, kv, hm⟩ := I1.frzK hd
    refine iter_keys hs hgd hx hdt (pi_one (tk := s1.toks) I1 _ (turn_keys _ hdt) ⟨_, Heap.get?_push_size _ rfl, rfl, ?_⟩ q)
    rw [hsz] <;> rfl
  · obtain ⟨t, rfl⟩ := r1
    cases ha : z.cps.all (· < 128)
    · exact wpAny_pyIter_wide ha (pi_one (tk := s1.toks) I1 _ (turn_str _ z t "str_iterator" (.inr rfl)) ⟨_, Heap.get?_push_size _ rfl, rfl, rfl⟩ q)
    · exact wpAny_pyIter_ascii ha (pi_one (tk := s1.toks) I1 _ (turn_str _ z t "str_ascii_iterator" (.inl rfl)) ⟨_, Heap.get?_push_size _ rfl, rfl, rfl⟩ q)
theorem itok_live {K : PySem.W.Frag} {G : Hp} {a : Addr} : ItOk K G (itLive a) (Itl K a) := by
  intro F i G2 H2 C2 s2 A2
  refine ⟨?_, ?_⟩
  · rintro ⟨ds, d, e, ed⟩
    obtain ⟨b, as, eb, hb, rb⟩ := lst_at (d := .ref a) (v := .ref a) A2 (.ref a) (show (C2 a).bind cellLst = some ds by rw [e]; rfl)
    cases eb
    obtain ⟨v, hv, rv⟩ := rb.getD ed
    refine ⟨⟨as, v, .inl hb, hv⟩, ?_⟩
    rintro y H3 ⟨rfl, hy⟩
    have := hy as (.inl hb)
    rw [hv] at this
    cases this
    exact ⟨G2, d, Same.refl _, A2, ⟨ds, e, ed⟩, rv⟩
  · rintro ⟨ds, e, hl⟩
    obtain ⟨b, as, eb, hb, rb⟩ := lst_at (d := .ref a) (v := .ref a) A2 (.ref a) (show (C2 a).bind cellLst = some ds by rw [e]; rfl)
    cases eb
    exact ⟨as, .inl hb, by rw [← rb.length]; exact hl⟩
theorem itok_lst {K : PySem.W.Frag} {G : Hp} {ds : List D} {a : Addr} (r : Rp K G (.lst ds) (.ref a)) : ItOk K G (itFix ds) (Itl K a) := by
  intro F i G2 H2 C2 s2 A2
  cases r.mono s2 with
  | lst hx rx =>
    have hx := rd_mono A2.sub hx
    refine ⟨fun hi => ?_, fun hl => ⟨_, .inl hx, by rw [← rx.length]; exact hl⟩⟩
    obtain ⟨v, hv, rv⟩ := rx.getD (List.getElem?_eq_getElem hi)
    refine ⟨⟨_, v, .inl hx, hv⟩, ?_⟩
    rintro y H3 ⟨rfl, hy⟩
    have := hy _ (.inl hx)
    rw [hv] at this
    cases this
    exact ⟨G2, _, Same.refl _, A2, List.getElem?_eq_getElem hi, rv⟩
theorem itok_tup {K : PySem.W.Frag} {G : Hp} {ds : List D} {a : Addr} (r : Rp K G (.tup ds) (.ref a)) : ItOk K G (itFix ds) (Itt K a) := by
  intro F i G2 H2 C2 s2 A2
  cases r.mono s2 with
  | tup hx rx =>
    have hx := sqT_mono A2.sub hx
    refine ⟨fun hi => ?_, fun hl => ⟨_, hx, by rw [← rx.length]; exact hl⟩⟩
    obtain ⟨v, hv, rv⟩ := rx.getD (List.getElem?_eq_getElem hi)
    refine ⟨⟨_, v, hx, hv⟩, ?_⟩
    rintro y H3 ⟨rfl, hy⟩
    have := hy _ hx
    rw [hv] at this
    cases this
    exact ⟨G2, _, Same.refl _, A2, List.getElem?_eq_getElem hi, rv⟩
theorem itok_str {K : PySem.W.Frag} {G : Hp} {z : Str} : ItOk K G (itFix (chars z)) (Its z) := by
  intro F i G2 H2 C2 s2 A2
  have hlen : (chars z).length = z.cps.size := by unfold chars; simp
  refine ⟨fun hi => ?_, fun hl => ?_⟩
  · have hi : i < (chars z).length := hi
    refine ⟨show i < z.cps.size by omega, ?_⟩
    rintro y H3 ⟨rfl, c', hc', rfl⟩
    refine ⟨G2, .str ⟨#[c']⟩, Same.refl _, A2, ?_, .str _⟩
    show (chars z)[i]? = _
    unfold chars
    rw [List.getElem?_map]
    have : z.cps.toList[i]? = some c' := by simpa using hc'
    rw [this]; rfl
  · have hl : (chars z).length ≤ i := hl
    show z.cps.size ≤ i
    omega
theorem RpK.getD {K : PySem.W.Frag} {G : Hp} : ∀ {ds : List (Key × D)} {vs : List (Key × V)} {i : Nat} {k : Key} {v : V}, RpK K G ds vs → vs[i]? = some (k, v) → ∃ d, ds[i]? = some (k, d) ∧ Rp K G d v
  | _, _, i, _, _, .nil, e => by simp at e
  | _, _, 0, _, _, .cons r _, e => by simp at e; obtain ⟨rfl, rfl⟩ := e; exact ⟨_, rfl, r⟩
  | _, _, i + 1, _, _, .cons _ t, e => by
    obtain ⟨d, h1, h2⟩ := RpK.getD (i := i) t (by simpa using e)
    exact ⟨d, by simpa using h1, h2⟩
theorem rp_key {K : PySem.W.Frag} {G : Hp} (k : Key) : Rp K G (keyD k) (kV k) := by cases k <;> constructor
theorem itok_dct {K : PySem.W.Frag} {G : Hp} {kvs : List (Key × D)} {ks : List (Key × V)} {a : Addr} {o : Obj} (hx : G a = some (.frz o (.dK ks))) (rx : RpK K G kvs ks) : ItOk K G (itFix (kvs.map fun kv => keyD kv.1)) (Itk a o ks) := by
  intro F i G2 H2 C2 s2 A2
  have hx := A2.sub _ _ (s2 _ _ hx)
  refine ⟨fun hi => ?_, fun hl => ?_⟩
  · have hi : i < (kvs.map fun kv => keyD kv.1).length := hi
    rw [List.length_map, rx.length] at hi
    refine ⟨⟨hx, hi⟩, ?_⟩
    rintro y H3 ⟨rfl, k, v, hk, rfl⟩
    obtain ⟨d, h1, h2⟩ := rx.getD hk
    refine ⟨G2, keyD k, Same.refl _, A2, ?_, rp_key k⟩
    show (kvs.map fun kv => keyD kv.1)[i]? = _
    rw [List.getElem?_map, h1]; rfl
  · have hl : (kvs.map fun kv => keyD kv.1).length ≤ i := hl
    rw [List.length_map, rx.length] at hl
    exact ⟨hx, hl⟩
theorem Ab.lckCell {K : PySem.W.Frag} {F : Cells} {G H : Hp} {C : Cells} {p : Addr} {o : Obj} {kvs : List (Key × D)} (A : Ab K F G H C) (h : C p = some (.lck o (.dct kvs))) : ∃ ks, H p = some (.frz o (.dK ks)) ∧ RpK K G kvs ks := by
  obtain ⟨_, u, hu, ok⟩ := A.cell _ _ h
  cases ok
  rename_i ok
  cases ok
  exact ⟨_, hu, by assumption⟩
theorem di_seq (he : PE X e (liftE X.K te)) : PI X tg e (liftI X.K (diSeq te)) := by
  refine (pi_any he).weak ?_
  rintro σ H Q ⟨F, G, δ, C, R, A, S, q, k⟩
  refine ⟨F, G, δ, C, _, A, S, q, ?_⟩
  rintro x C1 ⟨J, hx, q1⟩ v H1 G1 s1 A1 r1
  unfold itOf at hx
  split at hx
  · cases hx
    exact .inr (.inr (.inr ⟨_, r1.strI, k _ _ q1 _ H1 G1 s1 A1 itok_str⟩))
  · cases hx
    cases r1 with
    | tup h1 h2 => exact .inr (.inl ⟨_, rfl, ⟨_, sqT_mono A1.sub h1⟩, k _ _ q1 _ H1 G1 s1 A1 (itok_tup (.tup h1 h2))⟩)
  · cases hx
    cases r1 with
    | lst h1 h2 => exact .inl ⟨_, rfl, ⟨_, .inl (rd_mono A1.sub h1)⟩, k _ _ q1 _ H1 G1 s1 A1 (itok_lst (.lst h1 h2))⟩
  · cases hx
    cases r1 with
    | dct h1 h2 => exact .inr (.inr (.inl ⟨_, _, _, rfl, A1.sub _ _ h1, k _ _ q1 _ H1 G1 s1 A1 (itok_dct h1 h2)⟩))
  · rename_i p
    split at hx
    · rename_i ds hc
      cases hx
      cases r1
      obtain ⟨b, as, eb, hb, rb⟩ := lst_at (d := .ref p) (v := .ref p) A1 (.ref p) (show (C1 p).bind cellLst = some ds by rw [hc]; rfl)
      cases eb
      exact .inl ⟨_, rfl, ⟨as, .inl hb⟩, k _ _ q1 _ H1 G1 s1 A1 itok_live⟩
    · cases hx
  · cases hx
/-- range(n), range(a, b) -/
def itRng (lo : Int) (n : Nat) : DIt := ⟨fun i _ => i < n, fun i _ d => d = .int (lo + i), fun i _ => n ≤ i⟩
def diRng1 (ta : DA) : DI := fun δ C R => ta δ C fun xs C1 => ∃ j : Int, xs = [.int j] ∧ -(2 ^ 62) ≤ j ∧ j < 2 ^ 62 ∧ R (itRng 0 j.toNat) C1
def diRng2 (ta : DA) : DI := fun δ C R => ta δ C fun xs C1 => ∃ i j : Int, xs = [.int i, .int j] ∧ (-(2 ^ 62) ≤ i ∧ i < 2 ^ 62 ∧ -(2 ^ 62) ≤ j ∧ j < 2 ^ 62) ∧ R (itRng i (j - i).toNat) C1
theorem itok_rng {K : PySem.W.Frag} {G : Hp} {lo : Int} {n : Nat} : ItOk K G (itRng lo n) (Itr lo n) := by
  intro F i G2 H2 C2 s2 A2
  refine ⟨fun h => ⟨h, ?_⟩, fun h => h⟩
  rintro y H3 ⟨rfl, rfl⟩
  exact ⟨G2, _, Same.refl _, A2, rfl, .int _⟩
theorem di_range1 {a : Expr} {ta : DA} {p pos : Pos} (hg : Gl X "range") (hm : X.mg "range" = none) (ha : PA X [a] (liftA X.K ta)) (hs : starEach [a] X.env = [(false, eval a X.env)] := by rfl) : PI X tg (.Call (.Name "range" p) [a] [] pos) (liftI X.K (diRng1 ta)) :=
  (pi_range1 hg hm ha hs).weak fun σ H Q ⟨F, G, δ, C, R, A, S, q, k⟩ => ⟨F, G, δ, C, _, A, S, q, by
    rintro xs C1 ⟨j, rfl, h1, h2, q1⟩ vs H1 G1 s1 A1 r1
    obtain ⟨v, rfl, r⟩ := r1.one
    cases r
    exact ⟨j, rfl, h1, h2, k _ _ q1 _ H1 G1 s1 A1 itok_rng⟩⟩
theorem di_range2 {a b : Expr} {ta : DA} {p pos : Pos} (hg : Gl X "range") (hm : X.mg "range" = none) (ha : PA X [a, b] (liftA X.K ta)) (hs : starEach [a, b] X.env = [(false, eval a X.env), (false, eval b X.env)] := by rfl) (hs2 : starEach [b] X.env = [(false, eval b X.env)] := by rfl) :
    PI X tg (.Call (.Name "range" p) [a, b] [] pos) (liftI X.K (diRng2 ta)) :=
  (pi_range2 hg hm ha hs hs2).weak fun σ H Q ⟨F, G, δ, C, R, A, S, q, k⟩ => ⟨F, G, δ, C, _, A, S, q, by
    rintro xs C1 ⟨i, j, rfl, h1, q1⟩ vs H1 G1 s1 A1 r1
    obtain ⟨v, u, rfl, r, r'⟩ := r1.two
    cases r; cases r'
    exact ⟨i, j, rfl, h1, k _ _ q1 _ H1 G1 s1 A1 itok_rng⟩⟩
end

/-! ### for -/
def dFor (wi : DI) (g : DG) (tb : DS) : DS := fun D δ C => wi δ C fun J C1 => ∃ W : Nat → Nat → DSt → Cells → Prop, (∃ m, W 0 m δ C1) ∧ ∀ i m δ C, W i m δ C →
  (J.stop i C ∧ D.nx δ C) ∨ (J.go i C ∧ ∃ N : DSt → Cells → Prop, (∀ δ' C', N δ' C' → ∃ m', m' < m ∧ W (i + 1) m' δ' C') ∧ ∀ d, J.yld i C d → g d δ C fun δ2 C2 => tb { D with nx := N, ct := N, bk := D.nx } δ2 C2)
section
variable {X : Cx}
theorem ds_for {tg iter : Expr} {body : List Stmt} {wi : DI} {g : DG} {tb : DS} {pos : Pos} (hp : PassesOwn (model X.prog X.w) X.A X.env X.xe) (hc : X.calm = true) (hi : PI X tg iter (liftI X.K wi)) (hg : PG X tg (liftG X.K g)) (hb : PSs X body (liftS X.K tb))
    (hs : ∀ x, foldedSetIterable iter X.env x = pure x := by intro _; rfl) : PS X (.For tg iter body [] pos) (liftS X.K (dFor wi g tb)) := by
  refine (ps_for hp hc hi hg hb hs).weak ?_
  rintro D σ H ⟨F, G, δ, C, R, A, S, q, k⟩
  refine ⟨F, G, δ, C, _, A, S, q, ?_⟩
  rintro J C1 ⟨W, ⟨m0, w0⟩, step⟩ J' H1 G1 s1 A1 ok
  refine ⟨fun i m σ H => ∃ G2 δ C, Same G1 G2 ∧ Ab X.K F G2 H C ∧ RpS X.K G2 δ σ ∧ W i m δ C, ⟨m0, G1, δ, C1, Same.refl _, A1, S.mono s1, w0⟩, ?_⟩
  rintro i m σ2 H2 ⟨G2, δ2, C2, s2, A2, S2, w2⟩
  obtain ⟨o1, o2⟩ := ok F i G2 H2 C2 s2 A2
  rcases step i m δ2 C2 w2 with ⟨st, qn⟩ | ⟨go, N, hN, body⟩
  · exact .inl ⟨o2 st, k.nx _ _ qn σ2 H2 G2 (s1.trans s2) A2 S2⟩
  · obtain ⟨go', yl⟩ := o1 go
    refine .inr ⟨go', fun σ H => ∃ G3 δ C, Same G1 G3 ∧ Ab X.K F G3 H C ∧ RpS X.K G3 δ σ ∧ N δ C, ?_, ?_⟩
    · rintro σ' H' ⟨G3, δ', C', s3, A3, S3, n3⟩
      obtain ⟨m', hm, w3⟩ := hN δ' C' n3
      exact ⟨m', hm, G3, δ', C', s3, A3, S3, w3⟩
    · intro x H' y
      obtain ⟨G3, d, s3, A3, yd, rd⟩ := yl x H' y
      refine ⟨F, G3, δ2, C2, d, _, A3, S2.mono s3, rd, body d yd, ?_⟩
      intro δ4 C4 q4 σ4 H4 G4 s4 A4 S4
      refine ⟨F, G4, δ4, C4, _, A4, S4, q4, ⟨?_, k.rt.mono (s1.trans (s2.trans (s3.trans s4))), k.nx.mono (s1.trans (s2.trans (s3.trans s4))), ?_⟩⟩
      · intro δ5 C5 q5 σ5 H5 G5 s5 A5 S5
        exact ⟨G5, δ5, C5, s2.trans (s3.trans (s4.trans s5)), A5, S5, q5⟩
      · intro δ5 C5 q5 σ5 H5 G5 s5 A5 S5
        exact ⟨G5, δ5, C5, s2.trans (s3.trans (s4.trans s5)), A5, S5, q5⟩

/-! ### list comprehensions -/
def wipeD (δ : DSt) : List Nat → DSt
  | [] => δ
  | v :: vs => (wipeD δ vs).set v none
theorem RpS.setN {K : PySem.W.Frag} {G : Hp} : ∀ {δ : DSt} {σ : St} (i : Nat), RpS K G δ σ → ∀ o, RpS K G (δ.set i Option.none) (σ.set i o)
  | _, _, _, .nil, _ => .nil
  | _, _, 0, .some _ t, _ => .none t
  | _, _, 0, .none t, _ => .none t
  | _, _, i + 1, .some r t, o => .some r (RpS.setN i t o)
  | _, _, i + 1, .none t, o => .none (RpS.setN i t o)
theorem RpS.wipe {K : PySem.W.Frag} {G : Hp} {δ : DSt} {σ : St} (r : RpS K G δ σ) : ∀ vs, RpS K G (wipeD δ vs) (L2.wipe σ vs)
  | [] => r
  | v :: vs => RpS.setN v (RpS.wipe r vs) Option.none
end
end DL
/-! DLi: list comprehensions; calls of defs. -/
namespace DL
open PySem PySem.Spec L2
open PyProof.Rows hiding St

/-! ### the targets of a comprehension -/
theorem wipe_at (σ : St) : ∀ (vs : List Nat) (k : Nat), (L2.wipe σ vs)[k]? = if k ∈ vs ∧ k < σ.length then some none else σ[k]?
  | [], k => by simp [L2.wipe]
  | v :: vs, k => by
    unfold L2.wipe
    rw [List.getElem?_set, wipe_at σ vs k, L2.wipe_length]
    by_cases hk : v = k
    · subst hk
      simp only [List.mem_cons, true_or, true_and, if_true]
      by_cases hl : v < σ.length
      · rw [if_pos hl, if_pos hl]
      · rw [if_neg hl, if_neg hl, List.getElem?_eq_none_iff.mpr (by omega)]
    · rw [if_neg hk]
      simp only [List.mem_cons, Ne.symm hk, false_or]
theorem wipe_back {σ σ' : St} {vs : List Nat} (hl : σ'.length = (L2.wipe σ vs).length) (h : ∀ k, k ∉ vs → σ'[k]? = (L2.wipe σ vs)[k]?) : L2.wipe σ' vs = L2.wipe σ vs := by
  apply List.ext_getElem?
  intro k
  rw [wipe_at σ' vs k, hl, L2.wipe_length]
  by_cases hk : k ∈ vs
  · rw [wipe_at]
    by_cases hlt : k < σ.length
    · rw [if_pos ⟨hk, hlt⟩, if_pos ⟨hk, hlt⟩]
    · rw [if_neg (fun z => hlt z.2), if_neg (fun z => hlt z.2), List.getElem?_eq_none_iff.mpr (by rw [hl, L2.wipe_length]; omega), List.getElem?_eq_none_iff.mpr (by omega)]
  · rw [if_neg (fun z => hk z.1)]
    exact h k hk
/-- a target over HandS and over data: which slots it sets -/
def TgOk (K : PySem.W.Frag) (vs : List Nat) (g : TG) (gd : DG) : Prop := ∀ F G H C d v δ σ R Q, Ab K F G H C → RpS K G δ σ → Rp K G d v → gd d δ C R →
  (∀ δ' σ', σ'.length = σ.length → (∀ k, k ∉ vs → σ'[k]? = σ[k]?) → RpS K G δ' σ' → R δ' C → Q σ' H) → g v σ H Q
def TgsOk (K : PySem.W.Frag) (vs : List Nat) (g : TGs) (gd : DGs) : Prop := ∀ F G H C ds us δ σ R Q, Ab K F G H C → RpS K G δ σ → RpL K G ds us → gd ds δ C R →
  (∀ δ' σ', σ'.length = σ.length → (∀ k, k ∉ vs → σ'[k]? = σ[k]?) → RpS K G δ' σ' → R δ' C → Q σ' H) → g us σ H Q
section
variable {K : PySem.W.Frag} {vs : List Nat}
theorem tg_name {i : Nat} (hi : i ∈ vs := by decide) : TgOk K vs (gName i) (gdName i) := by
  intro F G H C d v δ σ R Q A S r q k
  exact k _ _ (List.length_set ..) (fun j hj => by rw [List.getElem?_set_ne (by rintro rfl; exact hj hi)]) (RpS.set r i S) q
theorem tgs_nil : TgsOk K vs gNil gdNil := by
  intro F G H C ds us δ σ R Q A S r q k
  obtain ⟨rfl, q⟩ := q
  cases r
  exact ⟨rfl, k _ _ rfl (fun _ _ => rfl) S q⟩
theorem tgs_cons {g : TG} {gd : DG} {gs : TGs} {gds : DGs} (h : TgOk K vs g gd) (hs : TgsOk K vs gs gds) : TgsOk K vs (gCons g gs) (gdCons gd gds) := by
  intro F G H C ds us δ σ R Q A S r q k
  obtain ⟨d, dr, rfl, q⟩ := q
  cases r with
  | cons r1 r2 =>
    refine ⟨_, _, rfl, h F G H C d _ δ σ _ _ A S r1 q fun δ' σ' l1 k1 S1 q1 => ?_⟩
    exact hs F G H C dr _ δ' σ' R Q A S1 r2 q1 fun δ2 σ2 l2 k2 S2 q2 => k δ2 σ2 (l2.trans l1) (fun j hj => (k2 j hj).trans (k1 j hj)) S2 q2
theorem tg_tup {n : Nat} {gs : TGs} {gds : DGs} (h : TgsOk K vs gs gds) : TgOk K vs (gTup K n gs) (gdTup n gds) := by
  intro F G H C d v δ σ R Q A S r q k
  obtain ⟨ds, e, hl, q⟩ := q
  obtain ⟨a, as, rfl, ha, ra⟩ := tup_at A r e
  exact ⟨a, as, rfl, ha, by rw [← ra.length]; exact hl, h F G H C ds as δ σ R Q A S ra q k⟩
end
section
variable {K : PySem.W.Frag} {G H : Hp} {F C : Cells} {p : Addr} {c c' : Cell} {u : HO}
/-- a new cell of the frame -/
theorem Ab.frNew (A : Ab K F G H C) (h : H p = none) (ok : HoOk K G p c u) : Ab K (updC F p c) G (upd H p u) C := by
  have h1 := (A.cellNew h ok).hide (p := p) (c := c) updC_same
  rw [delC_upd (A.free h)] at h1
  exact h1
/-- a cell of the frame is written -/
theorem Ab.frWrite (A : Ab K (updC F p c) G H C) (h : F p = none) (ok : HoOk K G p c' u) : Ab K (updC F p c') G (upd H p u) C := by
  obtain ⟨A1, hc⟩ := A.show h
  have h1 := (A1.write (c0 := c) updC_same ok).hide (p := p) (c := c') updC_same
  rw [updC_upd, delC_upd hc] at h1
  exact h1
/-- a cell of the frame is let go -/
theorem Ab.frFreeze (A : Ab K (updC F p c) G H C) (h : F p = none) : ∃ u, H p = some u ∧ HoOk K G p c u ∧ Same G (upd G p u) ∧ Ab K F (upd G p u) H C := by
  obtain ⟨A1, hc⟩ := A.show h
  obtain ⟨u, h1, h2, h3, h4⟩ := A1.freeze (p := p) (c := c) updC_same
  rw [delC_upd hc] at h4
  exact ⟨u, h1, h2, h3, h4⟩
end

/-! ### [elt for target in iter if test] -/
def dLcW (fin : List D → Cells → Prop) (J : DIt) (C1 : Cells) (gd : DG) (tt : DT) (te : DE) (δ : DSt) : Prop :=
  ∃ W : Nat → Nat → List D → Cells → Prop, (∃ m, W 0 m [] C1) ∧ ∀ i m acc C, W i m acc C → (J.stop i C ∧ fin acc C) ∨ (J.go i C ∧ ∃ N : List D → Cells → Prop, (∀ acc' C', N acc' C' → ∃ m', m' < m ∧ W (i + 1) m' acc' C') ∧
    ∀ d, J.yld i C d → gd d δ C fun δ2 C2 => tt δ2 C2 fun b C3 => if b = true then te δ2 C3 fun y C4 => acc.length < sizeLine ∧ N (acc ++ [y]) C4 else N acc C3)
/-- a list that is never written -/
def dLc (wi : DI) (gd : DG) (tt : DT) (te : DE) (vs : List Nat) : DE := fun δ C R => wi δ C fun J C1 => dLcW (fun acc C => R (.lst acc) C) J C1 gd tt te (wipeD δ vs)
/-- one that may be -/
def dLcC (wi : DI) (gd : DG) (tt : DT) (te : DE) (vs : List Nat) : DE := fun δ C R => wi δ C fun J C1 => dLcW (fun acc C => ∀ p, C p = none → R (.ref p) (updC C p (.lst acc))) J C1 gd tt te (wipeD δ vs)
def dYes : DT := fun _ C R => R true C
theorem _root_.L2.PTs.weak {X : Cx} {e : List Expr} {t t' : TT} (h : PTs X e t) (w : ∀ σ H Q, t' σ H Q → t σ H Q) : PTs X e t' := ⟨fun pins s σ H Q I q => h.run pins s σ H Q I (w σ H Q q)⟩
theorem dts_nil {X : Cx} : PTs X [] (liftT X.K dYes) := pts_nil.weak fun σ H Q ⟨F, G, δ, C, R, A, S, q, k⟩ => k _ _ q H G (Same.refl G) A
theorem dts_one {X : Cx} {c : Expr} {t : DT} (h : PT X c (liftT X.K t)) : PTs X [c] (liftT X.K t) := pts_one h
theorem lift_lcg {K : PySem.W.Frag} {wi : DI} {g : TG} {gd : DG} {tt : DT} {te : DE} {vs : List Nat} (tg : TgOk K vs g gd) {fin : (D → Cells → Prop) → List D → Cells → Prop}
    (hf : ∀ {F : Cells} {G G1 H : Hp} {C : Cells} {R : D → Cells → Prop} {Q : VK} {acc : List D} {p : Addr}, ToE K F G R Q → Same G G1 → Ab K (updC F p (.lst acc)) G1 H C → F p = none → fin R acc C → Q (.ref p) H) :
    ∀ σ H Q, liftE K (fun δ C R => wi δ C fun J C1 => dLcW (fin R) J C1 gd tt te (wipeD δ vs)) σ H Q → tLc (liftI K wi) g (liftT K tt) (liftE K te) vs σ H Q := by
  rintro σ H Q ⟨F, G, δ, C, R, A, S, q, k⟩
  refine ⟨F, G, δ, C, _, A, S, q, ?_⟩
  rintro J C1 ⟨W, ⟨m0, w0⟩, step⟩ J' H1 G1 s1 A1 ok Dd hD
  have hF : F Dd = none := A1.freeF hD
  refine ⟨fun i m H => ∃ G2 acc C, Same G1 G2 ∧ Ab K (updC F Dd (.lst acc)) G2 H C ∧ W i m acc C, ⟨m0, G1, [], C1, Same.refl _, A1.frNew hD (.lst .nil), w0⟩, ?_⟩
  rintro i m H2 ⟨G2, acc, C2, s2, A2, w2⟩
  obtain ⟨o1, o2⟩ := ok _ i G2 H2 C2 s2 A2
  rcases step i m acc C2 w2 with ⟨st, qn⟩ | ⟨go, N, hN, body⟩
  · exact .inl ⟨o2 st, hf k (s1.trans s2) A2 hF qn⟩
  · obtain ⟨go', yl⟩ := o1 go
    refine .inr ⟨go', fun H => ∃ G3 acc C, Same G1 G3 ∧ Ab K (updC F Dd (.lst acc)) G3 H C ∧ N acc C, ?_, ?_⟩
    · rintro H' ⟨G3, acc', C', s3, A3, n3⟩
      obtain ⟨m', hm, w3⟩ := hN acc' C' n3
      exact ⟨m', hm, G3, acc', C', s3, A3, w3⟩
    · intro x H' y
      obtain ⟨G3, d, s3, A3, yd, rd⟩ := yl x H' y
      refine tg _ G3 H' C2 d x (wipeD δ vs) (L2.wipe σ vs) _ _ A3 ((S.wipe vs).mono (s1.trans (s2.trans s3))) rd (body d yd) fun δ4 σ4 l4 k4 S4 q4 => ⟨wipe_back l4 k4, ?_⟩
      refine ⟨_, G3, δ4, C2, _, A3, S4, q4, fun b C5 q5 H5 G5 s5 A5 => ?_⟩
      cases b with
      | false =>
        rw [if_neg Bool.false_ne_true] at q5 ⊢
        exact ⟨G5, acc, C5, s2.trans (s3.trans s5), A5, q5⟩
      | true =>
        rw [if_pos rfl] at q5 ⊢
        refine ⟨_, G5, δ4, C5, _, A5, S4.mono s5, q5, ?_⟩
        rintro y' C6 ⟨hl, n6⟩ v6 H6 G6 s6 A6 r6
        obtain ⟨_, _, u, hu, hk⟩ := A6.fr Dd _ updC_same
        cases hk
        rename_i xs rxs
        refine ⟨xs, hu, by rw [← rxs.length]; exact hl, G6, acc ++ [y'], C6, s2.trans (s3.trans (s5.trans s6)), A6.frWrite hF (.lst (rxs.append (.cons r6 .nil))), n6⟩
section
variable {X : Cx} {elt tg iter : Expr} {ifs : List Expr} {scope : Scope} {own : List (Str × Nat)} {pos : Pos} {wi : DI} {g : TG} {gd : DG} {tt : DT} {te : DE}
theorem fin_lst {K : PySem.W.Frag} {F : Cells} {G G1 H : Hp} {C : Cells} {R : D → Cells → Prop} {Q : VK} {acc : List D} {p : Addr} (k : ToE K F G R Q) (s : Same G G1) (A : Ab K (updC F p (.lst acc)) G1 H C) (h : F p = none) (q : R (.lst acc) C) : Q (.ref p) H := by
  obtain ⟨u, h1, h2, h3, h4⟩ := A.frFreeze h
  cases h2
  rename_i xs r
  exact k _ _ q _ H _ (s.trans h3) h4 (.lst (.inl upd_same) (r.mono h3))
theorem fin_lstC {K : PySem.W.Frag} {F : Cells} {G G1 H : Hp} {C : Cells} {R : D → Cells → Prop} {Q : VK} {acc : List D} {p : Addr} (k : ToE K F G R Q) (s : Same G G1) (A : Ab K (updC F p (.lst acc)) G1 H C) (h : F p = none) (q : ∀ p, C p = none → R (.ref p) (updC C p (.lst acc))) : Q (.ref p) H := by
  obtain ⟨A1, hc⟩ := A.show h
  exact k _ _ (q p hc) _ H _ s A1 (.ref p)
theorem de_lc (hc : X.calm = true) (hN : X.N.Nodup) (tgo : TgOk X.K (own.map (·.2)) g gd) (hi : PI X tg iter (liftI X.K wi)) (ok : BlkOk X.N X.env.scope scope own)
    (hg : ∀ (s : Shared) (H : Hp) (C : Addr) (cl : List (Str × Addr)) (fp : List Addr), PG (X.blk s H scope (compEnvC scope cl C X.env) fp) tg g) (ht : ∀ (s : Shared) (H : Hp) (C : Addr) (cl : List (Str × Addr)) (fp : List Addr), PTs (X.blk s H scope (compEnvC scope cl C X.env) fp) ifs (liftT X.K tt))
    (he : ∀ (s : Shared) (H : Hp) (C : Addr) (cl : List (Str × Addr)) (fp : List Addr), PE (X.blk s H scope (compEnvC scope cl C X.env) fp) elt (liftE X.K te)) (hs : ∀ x, foldedSetIterable iter X.env x = pure x := by intro _; rfl) :
    PE X (.ListComp elt [⟨tg, iter, ifs, 0⟩] scope pos) (liftE X.K (dLc wi gd tt te (own.map (·.2)))) :=
  (pe_lc hc hN hi ok hg ht he hs).weak (lift_lcg (fin := fun R acc C => R (.lst acc) C) tgo fin_lst)
theorem de_lcC (hc : X.calm = true) (hN : X.N.Nodup) (tgo : TgOk X.K (own.map (·.2)) g gd) (hi : PI X tg iter (liftI X.K wi)) (ok : BlkOk X.N X.env.scope scope own)
    (hg : ∀ (s : Shared) (H : Hp) (C : Addr) (cl : List (Str × Addr)) (fp : List Addr), PG (X.blk s H scope (compEnvC scope cl C X.env) fp) tg g) (ht : ∀ (s : Shared) (H : Hp) (C : Addr) (cl : List (Str × Addr)) (fp : List Addr), PTs (X.blk s H scope (compEnvC scope cl C X.env) fp) ifs (liftT X.K tt))
    (he : ∀ (s : Shared) (H : Hp) (C : Addr) (cl : List (Str × Addr)) (fp : List Addr), PE (X.blk s H scope (compEnvC scope cl C X.env) fp) elt (liftE X.K te)) (hs : ∀ x, foldedSetIterable iter X.env x = pure x := by intro _; rfl) :
    PE X (.ListComp elt [⟨tg, iter, ifs, 0⟩] scope pos) (liftE X.K (dLcC wi gd tt te (own.map (·.2)))) :=
  (pe_lc hc hN hi ok hg ht he hs).weak (lift_lcg (fin := fun R acc C => ∀ p, C p = none → R (.ref p) (updC C p (.lst acc))) tgo fin_lstC)
/-- name = [..] on one line -/
theorem ds_setLcg {i : Nat} {y : Str} {py spos : Pos} {fin : (D → Cells → Prop) → List D → Cells → Prop}
    (hf : ∀ {F : Cells} {G G1 H : Hp} {C : Cells} {R : D → Cells → Prop} {Q : VK} {acc : List D} {p : Addr}, ToE X.K F G R Q → Same G G1 → Ab X.K (updC F p (.lst acc)) G1 H C → F p = none → fin R acc C → Q (.ref p) H)
    (hc : X.calm = true) (hN : X.N.Nodup) (hy : X.N[i]? = some y) (hyl : X.env.scope.names.lookup y = some .local)
    (hsw : swapsWith (.ListComp elt [⟨tg, iter, ifs, 0⟩] scope pos) (some (.Name y py)) spos.line X.env = pure true) (tgo : TgOk X.K (own.map (·.2)) g gd) (hi : PI X tg iter (liftI X.K wi)) (ok : BlkOk X.N X.env.scope scope own)
    (hg : ∀ (s : Shared) (H : Hp) (C : Addr) (cl : List (Str × Addr)) (fp : List Addr), PG (X.blk s H scope (compEnvC scope cl C X.env) fp) tg g) (ht : ∀ (s : Shared) (H : Hp) (C : Addr) (cl : List (Str × Addr)) (fp : List Addr), PTs (X.blk s H scope (compEnvC scope cl C X.env) fp) ifs (liftT X.K tt))
    (he : ∀ (s : Shared) (H : Hp) (C : Addr) (cl : List (Str × Addr)) (fp : List Addr), PE (X.blk s H scope (compEnvC scope cl C X.env) fp) elt (liftE X.K te)) (hs : ∀ x, foldedSetIterable iter X.env x = pure x := by intro _; rfl) :
    PS X (.Assign [.Name y py] (.ListComp elt [⟨tg, iter, ifs, 0⟩] scope pos) spos) (liftS X.K (dAsg (fun δ C R => wi δ C fun J C1 => dLcW (fin R) J C1 gd tt te (wipeD δ (own.map (·.2)))) (gdName i))) := by
  refine (ps_setLc hc hN hy hyl hsw hi ok hg ht he hs).weak ?_
  rintro D σ H ⟨F, G, δ, C, R, A, S, q, k⟩
  exact lift_lcg tgo hf σ H _ ⟨F, G, δ, C, _, A, S, q, fun d C1 q1 v H1 G1 s1 A1 r1 => k.nx _ _ q1 _ H1 G1 s1 A1 (RpS.set r1 i (S.mono s1))⟩
theorem ds_setLc {i : Nat} {y : Str} {py spos : Pos}
    (hc : X.calm = true) (hN : X.N.Nodup) (hy : X.N[i]? = some y) (hyl : X.env.scope.names.lookup y = some .local)
    (hsw : swapsWith (.ListComp elt [⟨tg, iter, ifs, 0⟩] scope pos) (some (.Name y py)) spos.line X.env = pure true) (tgo : TgOk X.K (own.map (·.2)) g gd) (hi : PI X tg iter (liftI X.K wi)) (ok : BlkOk X.N X.env.scope scope own)
    (hg : ∀ (s : Shared) (H : Hp) (C : Addr) (cl : List (Str × Addr)) (fp : List Addr), PG (X.blk s H scope (compEnvC scope cl C X.env) fp) tg g) (ht : ∀ (s : Shared) (H : Hp) (C : Addr) (cl : List (Str × Addr)) (fp : List Addr), PTs (X.blk s H scope (compEnvC scope cl C X.env) fp) ifs (liftT X.K tt))
    (he : ∀ (s : Shared) (H : Hp) (C : Addr) (cl : List (Str × Addr)) (fp : List Addr), PE (X.blk s H scope (compEnvC scope cl C X.env) fp) elt (liftE X.K te)) (hs : ∀ x, foldedSetIterable iter X.env x = pure x := by intro _; rfl) :
    PS X (.Assign [.Name y py] (.ListComp elt [⟨tg, iter, ifs, 0⟩] scope pos) spos) (liftS X.K (dAsg (dLc wi gd tt te (own.map (·.2))) (gdName i))) :=
  ds_setLcg (fin := fun R acc C => R (.lst acc) C) fin_lst hc hN hy hyl hsw tgo hi ok hg ht he hs
theorem ds_setLcC {i : Nat} {y : Str} {py spos : Pos}
    (hc : X.calm = true) (hN : X.N.Nodup) (hy : X.N[i]? = some y) (hyl : X.env.scope.names.lookup y = some .local)
    (hsw : swapsWith (.ListComp elt [⟨tg, iter, ifs, 0⟩] scope pos) (some (.Name y py)) spos.line X.env = pure true) (tgo : TgOk X.K (own.map (·.2)) g gd) (hi : PI X tg iter (liftI X.K wi)) (ok : BlkOk X.N X.env.scope scope own)
    (hg : ∀ (s : Shared) (H : Hp) (C : Addr) (cl : List (Str × Addr)) (fp : List Addr), PG (X.blk s H scope (compEnvC scope cl C X.env) fp) tg g) (ht : ∀ (s : Shared) (H : Hp) (C : Addr) (cl : List (Str × Addr)) (fp : List Addr), PTs (X.blk s H scope (compEnvC scope cl C X.env) fp) ifs (liftT X.K tt))
    (he : ∀ (s : Shared) (H : Hp) (C : Addr) (cl : List (Str × Addr)) (fp : List Addr), PE (X.blk s H scope (compEnvC scope cl C X.env) fp) elt (liftE X.K te)) (hs : ∀ x, foldedSetIterable iter X.env x = pure x := by intro _; rfl) :
    PS X (.Assign [.Name y py] (.ListComp elt [⟨tg, iter, ifs, 0⟩] scope pos) spos) (liftS X.K (dAsg (dLcC wi gd tt te (own.map (·.2))) (gdName i))) :=
  ds_setLcg (fin := fun R acc C => ∀ p, C p = none → R (.ref p) (updC C p (.lst acc))) fin_lstC hc hN hy hyl hsw tgo hi ok hg ht he hs
end
end DL
/-! DLj: defs over data, and their calls. -/
namespace DL
open PySem PySem.Spec L2
open PyProof.Rows hiding St

/-- what a def promises over data -/
abbrev ASp := List D → Cells → (D → Cells → Prop) → Prop
def liftF (K : PySem.W.Frag) (a : ASp) : Sp := fun vs H Q _ => ∃ F G ds C R, Ab K F G H C ∧ RpL K G ds vs ∧ a ds C R ∧ ToE K F G R Q
def dstart (N : List Str) (ds : List D) : DSt := ds.map some ++ List.replicate (N.length - ds.length) none
section
variable {P : Program} {w : World} {K : PySem.W.Frag} {mg : Str → Option Value} {base : Heap}
/-- THE RULE for a def over data -/
theorem fnD {x qual : Str} {st : Stmt} {f : Addr} {fd : FuncData} {N ps : List Str} {k : Nat} {a : ASp} (F : Fun K x qual st f fd) (S : FnScope N ps (defScope st)) (len : ∀ ds C R, a ds C R → ds.length = ps.length)
    (hbody : ∀ (cdv : Value) (A : Around) (outer : List Env) (s : Shared) (H : Hp) (E : XK), Room k (A.deeper (envOfC qual (defScope st) s.heap.objs.size f cdv)) →
      ∃ t : DS, PSs (cxOf CX0 P w K mg base N qual (defScope st) f cdv A outer s H E).nox (defBody st) (liftS K t) ∧ ∀ ds C R, a ds C R → t { nx := fun _ C' => R .non C', rt := R } (dstart N ds) C) :
    FnOk P w K mg base CX0 (k + 1) f fd ps (liftF K a) := by
  refine F.ok S (fun vs H Q E h => ?_) (fun cdv A outer s H vs Q E hr h => ?_)
  · obtain ⟨F, G, ds, C, R, Ab0, r, h, k⟩ := h
    rw [← r.length]
    exact len ds C R h
  · obtain ⟨F, G, ds, C, R, A0, r, h, k⟩ := h
    obtain ⟨t, ht, hq⟩ := hbody cdv A outer s H E hr
    refine ⟨_, ht, F, G, dstart N ds, C, _, A0, ?_, hq ds C R h, ⟨?_, ?_, ?_, ?_⟩⟩
    · unfold dstart L2.start
      rw [← r.length]
      exact RpS.start r _
    · intro δ C' q σ H' G' s' A' S'
      exact k _ _ q _ H' G' s' A' .non
    · exact k
    · intro δ C' q
      exact q.elim
    · intro δ C' q
      exact q.elim
end
/-- .. where cells that the def made are forgotten behind it -/
def lss (R : D → Cells → Prop) : D → Cells → Prop := fun d C => ∃ C', (∀ a c, C' a = some c → C a = some c) ∧ R d C'
theorem lss_of {R : D → Cells → Prop} {d : D} {C : Cells} (h : R d C) : lss R d C := ⟨C, fun _ _ e => e, h⟩
theorem lss_upd {R : D → Cells → Prop} {d : D} {C : Cells} {p : Addr} {c : Cell} (hp : C p = none) (h : R d C) : lss R d (updC C p c) := ⟨C, fun a x e => by
  by_cases ha : a = p
  · subst ha; rw [hp] at e; cases e
  · rw [updC_ne ha]; exact e, h⟩
section
variable {P : Program} {w : World} {K : PySem.W.Frag} {mg : Str → Option Value} {base : Heap}
theorem fnDL {x qual : Str} {st : Stmt} {f : Addr} {fd : FuncData} {N ps : List Str} {k : Nat} {a : ASp} (F : Fun K x qual st f fd) (S : FnScope N ps (defScope st)) (len : ∀ ds C R, a ds C R → ds.length = ps.length)
    (hbody : ∀ (cdv : Value) (A : Around) (outer : List Env) (s : Shared) (H : Hp) (E : XK), Room k (A.deeper (envOfC qual (defScope st) s.heap.objs.size f cdv)) →
      ∃ t : DS, PSs (cxOf CX0 P w K mg base N qual (defScope st) f cdv A outer s H E).nox (defBody st) (liftS K t) ∧ ∀ ds C R, a ds C R → t { nx := fun _ C' => lss R .non C', rt := lss R } (dstart N ds) C) :
    FnOk P w K mg base CX0 (k + 1) f fd ps (liftF K a) := by
  have h : FnOk P w K mg base CX0 (k + 1) f fd ps (liftF K fun ds C R => ∃ R', R = lss R' ∧ a ds C R') := by
    refine fnD F S (fun ds C R ⟨R', _, q⟩ => len ds C R' q) fun cdv A outer s H E hr => ?_
    obtain ⟨t, h1, h2⟩ := hbody cdv A outer s H E hr
    exact ⟨t, h1, fun ds C R ⟨R', e, q⟩ => by subst e; exact h2 ds C R' q⟩
  refine h.imp ?_
  rintro vs H Q E ⟨F, G, ds, C, R, A, r, q, k⟩
  refine ⟨F, G, ds, C, lss R, A, r, ⟨R, rfl, q⟩, ?_⟩
  rintro d C1 ⟨C2, hs, q2⟩ v H' G' s' A' r'
  exact k d C2 q2 v H' G' s' (A'.less hs) r'
end
def dCall (a : ASp) (dvs : List D) (t : DA) : DE := fun δ C R => t δ C fun ds C1 => a (ds ++ dvs) C1 R
section
variable {X : Cx} {CX : CXT} {k : Nat} {f : Addr} {fd : FuncData} {ps : List Str} {a : ASp} {ds : List Value} {E : XK} {x : Str} {p pos : Pos} {e : Expr} {es : List Expr} {t : DA}
theorem de_call (Fk : FnOk X.prog X.w X.K X.mg X.base CX0 k f fd ps (liftF X.K a)) (hr : Room k X.A) (hg : Gl X x) (hm : X.mg x = some (.ref f)) (hk : PySem.W.keepIn X.K (.ref f) = true) (hb : Binds X.K fd ps [])
    (ha : PA X (e :: es) (liftA X.K t)) (hdb : (x == ("__debug__" : Str)) = false := by decide) (he : starEach (e :: es) X.env = (false, eval e X.env) :: starEach es X.env := by rfl) (hpl : (backTo pos (starEach es X.env)).any (·.1) = false := by rfl) :
    PE X (.Call (.Name x p) (e :: es) [] pos) (liftE X.K (dCall a [] t)) :=
  (pe_call Fk hr hg hm hk hb .nil pass0 ha hdb he hpl).weak fun σ H Q ⟨F, G, δ, C, R, A, S, q, k⟩ => ⟨F, G, δ, C, _, A, S, q, fun ds C1 q1 vs H1 G1 s1 A1 r1 => by
    rw [List.append_nil] at q1 ⊢
    exact ⟨F, G1, ds, C1, R, A1, r1, q1, k.mono s1⟩⟩
end
/-- what a class's def is, by a whole program's facts: the def stands at f, its name is bound to it -/
structure Df (K : PySem.W.Frag) (mg : Str → Option Value) (x : Str) (f : Addr) (fd : FuncData) (ps : List Str) : Prop where
  mg : mg x = some (.ref f)
  kp : PySem.W.keepIn K (.ref f) = true
  bd : Binds K fd ps []
section
variable {X : Cx} {k : Nat} {f : Addr} {fd : FuncData} {ps : List Str} {a : ASp} {x : Str} {p pos : Pos} {e : Expr} {es : List Expr} {t : DA}
theorem de_cf (d : Df X.K X.mg x f fd ps) (Fk : FnOk X.prog X.w X.K X.mg X.base CX0 k f fd ps (liftF X.K a)) (hr : Room k X.A) (hg : Gl X x)
    (ha : PA X (e :: es) (liftA X.K t)) (hdb : (x == ("__debug__" : Str)) = false := by decide) (he : starEach (e :: es) X.env = (false, eval e X.env) :: starEach es X.env := by rfl) (hpl : (backTo pos (starEach es X.env)).any (·.1) = false := by rfl) :
    PE X (.Call (.Name x p) (e :: es) [] pos) (liftE X.K (dCall a [] t)) := de_call Fk hr hg d.mg d.kp d.bd ha hdb he hpl
end
end DL
/-! DLk: methods of lists and dicts, stores. -/
namespace DL
open PySem PySem.Spec L2
open PyProof.Rows hiding St

/-- o.m(args): the receiver a cell (or what stays) -/
abbrev DOm := D → List D → Cells → (D → Cells → Prop) → Prop
def isLst (C : Cells) (x : D) : Prop := (lstOf C x).isSome = true
def dMtL (o : DOm) (to : DE) (t : DA) : DE := fun δ C R => to δ C fun x C1 => isLst C1 x ∧ t δ C1 fun xs C2 => o x xs C2 R
def LOm (K : PySem.W.Frag) (r : V → List V → Hp → VK → Prop) (o : DOm) : Prop := ∀ F G H C x v xs vs R Q, Ab K F G H C → Rp K G x v → RpL K G xs vs → o x xs C R → ToE K F G R Q → r v vs H Q
theorem lift_mtL {K : PySem.W.Frag} {r : V → List V → Hp → VK → Prop} {o : DOm} {to : DE} {t : DA} (h : LOm K r o) : ∀ σ H Q, liftE K (dMtL o to t) σ H Q → tBM K "list" r (liftE K to) (liftA K t) σ H Q := by
  rintro σ H Q ⟨F, G, δ, C, R, A, S, q, k⟩
  refine ⟨F, G, δ, C, _, A, S, q, ?_⟩
  rintro x C1 ⟨hx, q1⟩ v H1 G1 s1 A1 r1
  obtain ⟨ds, hx⟩ := Option.isSome_iff_exists.mp hx
  obtain ⟨a, as, rfl, ha, ra⟩ := lst_at A1 r1 hx
  refine ⟨.inl ⟨rfl, as, .inl ha⟩, F, G1, δ, C1, _, A1, S.mono s1, q1, fun xs C2 q2 vs H2 G2 s2 A2 r2 => ?_⟩
  exact h F G2 H2 C2 x _ xs vs R Q A2 (r1.mono s2) r2 q2 (k.mono (s1.trans s2))
structure MtD (X : Cx) (id : String) (o : DOm) : Prop where
  ex : ∃ r, MtR X id r ∧ LOm X.K r o
section
variable {X : Cx} {o e : Expr} {es : List Expr} {to : DE} {t : DA} {name : Str} {apos cpos : Pos} {id : String} {om : DOm}
theorem de_mtL (slot : Slot "list" name id) (hty : typeOf (.builtin id) = pure (.type "method_descriptor")) (hm : MtD X id om) (ho : PE X o (liftE X.K to)) (ha : PA X (e :: es) (liftA X.K t))
    (hbase : attributeBase o name X.env (eval o X.env) = eval o X.env := by rfl)
    (hfew : ((backTo cpos (starEach (e :: es) X.env)).all (fun x => !x.1) && (backToKw cpos (keywordEach [] X.env)).all (fun x => x.1.isSome)
      && decide ((e :: es).length + ([] : List Keyword).length + (if ([] : List Keyword).isEmpty then 0 else 1) < 30)) = true := by rfl)
    (hline : (apos.endLine == cpos.line) = true := by rfl) (hs : starEach (e :: es) X.env = (false, eval e X.env) :: starEach es X.env := by rfl) (hplain : (backTo cpos (starEach es X.env)).any (·.1) = false := by rfl) :
    PE X (.Call (.Attribute o name apos) (e :: es) [] cpos) (liftE X.K (dMtL om to t)) := by
  obtain ⟨r, h1, h2⟩ := hm.ex
  exact (pe_bm PySem.F.plainAttrs_list slot hty h1 ho ha hbase hfew hline hs hplain).weak (lift_mtL h2)
end
def omAppend : DOm := fun x xs C R => ∃ p ds d, x = .ref p ∧ xs = [d] ∧ C p = some (.lst ds) ∧ ds.length < sizeLine ∧ R .non (updC C p (.lst (ds ++ [d])))
def omExtend : DOm := fun x xs C R => ∃ p ds d es, x = .ref p ∧ xs = [d] ∧ C p = some (.lst ds) ∧ lstOf C d = some es ∧ ds.length + es.length ≤ sizeLine ∧ R .non (updC C p (.lst (ds ++ es)))
theorem Ab.lstCell {K : PySem.W.Frag} {F : Cells} {G H : Hp} {C : Cells} {p : Addr} {ds : List D} (A : Ab K F G H C) (h : C p = some (.lst ds)) : ∃ xs, H p = some (.lst xs) ∧ RpL K G ds xs := by
  obtain ⟨_, u, hu, ok⟩ := A.cell _ _ h
  cases ok
  exact ⟨_, hu, by assumption⟩
theorem Ab.dctCell {K : PySem.W.Frag} {F : Cells} {G H : Hp} {C : Cells} {p : Addr} {ds : List (Key × D)} (A : Ab K F G H C) (h : C p = some (.dct ds)) : ∃ xs, H p = some (.dK xs) ∧ RpK K G ds xs := by
  obtain ⟨_, u, hu, ok⟩ := A.cell _ _ h
  cases ok
  exact ⟨_, hu, by assumption⟩
section
variable {X : Cx}
theorem md_append : MtD X "list.append" omAppend := by
  refine ⟨_, mt_append, ?_⟩
  intro F G H C x v xs vs R Q A rx rxs h k
  obtain ⟨p, ds, d, rfl, rfl, hc, hl, q⟩ := h
  cases rx
  obtain ⟨u, rfl, ru⟩ := rxs.one
  obtain ⟨as, ha, ra⟩ := A.lstCell hc
  exact ⟨p, as, u, rfl, rfl, ha, by rw [← ra.length]; exact hl, k _ _ q _ _ G (Same.refl G) (A.write hc (.lst (ra.append (.cons ru .nil)))) .non⟩
def rExtendF : V → List V → Hp → VK → Prop := fun x vs H Q => ∃ l b xs zs, x = .ref l ∧ vs = [.ref b] ∧ H l = some (.lst xs) ∧ Rd H b (.lst zs) ∧ xs.length + zs.length ≤ sizeLine ∧ Q .non (upd H l (.lst (xs ++ zs)))
theorem mt_extendF : MtR X "list.extend" rExtendF := by
  intro pins s σ H x xs v us Q I rx rs h
  obtain ⟨l, b, xs, zs, rfl, rfl, hH, hB, hz, q⟩ := h
  cases rx
  obtain ⟨u, rfl, ru⟩ := rs.one
  cases ru
  obtain ⟨z, its, n, r, hl, e⟩ := I.lstM hH
  obtain ⟨z2, its2, n2, r2, hl2, e2⟩ := lstRd I hB
  have hsz : its.toArray.size + its2.toArray.size ≤ sizeLine := by rw [List.size_toArray, List.size_toArray]; omega
  have hlong : ¬ (!its.toArray.isEmpty && Builtin.List.listTooLong (its.toArray.size + its2.toArray.size)) = true := by
    rw [notLongL hsz, Bool.and_false]
    exact Bool.false_ne_true
  refine call_meets F.slot_list_extend ⟨_, e, rfl⟩ F.entry_list_extend (F.args_list_extend_2 _ _)
    (AutoSeq1.list_extend_list_list_0 l its.toArray n b its2.toArray n2 hlong (by rw [List.size_toArray]; omega) (by omega)) ⟨e, e2, ?_⟩
  refine ⟨.non, _, I.lset (its' := its ++ its2) hH e (by simp) (r.append r2) ?_, rfl, q⟩
  rw [List.length_append]
  omega
theorem md_extend : MtD X "list.extend" omExtend := by
  refine ⟨_, mt_extendF, ?_⟩
  intro F G H C x v xs vs R Q A rx rxs h k
  obtain ⟨p, ds, d, es, rfl, rfl, hc, he, hl, q⟩ := h
  cases rx
  obtain ⟨u, rfl, ru⟩ := rxs.one
  obtain ⟨as, ha, ra⟩ := A.lstCell hc
  obtain ⟨b, bs, rfl, hb, rb⟩ := lst_at A ru he
  exact ⟨p, b, as, bs, rfl, rfl, ha, hb, by rw [← ra.length, ← rb.length]; exact hl, k _ _ q _ _ G (Same.refl G) (A.write hc (.lst (ra.append rb))) .non⟩
end
/-! the two -/
section
variable {X : Cx} {o e : Expr} {es : List Expr} {to : DE} {t : DA} {apos cpos : Pos}
theorem de_append (ho : PE X o (liftE X.K to)) (ha : PA X (e :: es) (liftA X.K t))
    (hbase : attributeBase o "append" X.env (eval o X.env) = eval o X.env := by rfl)
    (hfew : ((backTo cpos (starEach (e :: es) X.env)).all (fun x => !x.1) && (backToKw cpos (keywordEach [] X.env)).all (fun x => x.1.isSome)
      && decide ((e :: es).length + ([] : List Keyword).length + (if ([] : List Keyword).isEmpty then 0 else 1) < 30)) = true := by rfl)
    (hline : (apos.endLine == cpos.line) = true := by rfl) (hs : starEach (e :: es) X.env = (false, eval e X.env) :: starEach es X.env := by rfl) (hplain : (backTo cpos (starEach es X.env)).any (·.1) = false := by rfl) :
    PE X (.Call (.Attribute o "append" apos) (e :: es) [] cpos) (liftE X.K (dMtL omAppend to t)) := de_mtL PySem.F.slot_list_append PySem.F.type_list_append md_append ho ha hbase hfew hline hs hplain
theorem de_extend (ho : PE X o (liftE X.K to)) (ha : PA X (e :: es) (liftA X.K t))
    (hbase : attributeBase o "extend" X.env (eval o X.env) = eval o X.env := by rfl)
    (hfew : ((backTo cpos (starEach (e :: es) X.env)).all (fun x => !x.1) && (backToKw cpos (keywordEach [] X.env)).all (fun x => x.1.isSome)
      && decide ((e :: es).length + ([] : List Keyword).length + (if ([] : List Keyword).isEmpty then 0 else 1) < 30)) = true := by rfl)
    (hline : (apos.endLine == cpos.line) = true := by rfl) (hs : starEach (e :: es) X.env = (false, eval e X.env) :: starEach es X.env := by rfl) (hplain : (backTo cpos (starEach es X.env)).any (·.1) = false := by rfl) :
    PE X (.Call (.Attribute o "extend" apos) (e :: es) [] cpos) (liftE X.K (dMtL omExtend to t)) := de_mtL PySem.F.slot_list_extend PySem.F.type_list_extend md_extend ho ha hbase hfew hline hs hplain
end

/-! ### dicts -/
theorem getK_any {k : Key} : ∀ kvs : List (Key × D), (kvs.any fun kv => decide (kv.1 = k)) = (getK kvs k).isSome
  | [] => rfl
  | (l, d) :: kvs => by
    have ih := getK_any (k := k) kvs
    unfold getK at ih ⊢
    simp only [List.any_cons, List.find?_cons]
    by_cases h : l = k
    · simp [h]
    · simp only [h, decide_false, Bool.false_or]; exact ih
/-- d.setdefault(k, x) of a cell -/
def dSetd (td ty tx : DE) : DE := fun δ C R => td δ C fun x C1 => (dctOf C1 x).isSome = true ∧ ty δ C1 fun y C2 => tx δ C2 fun z C3 => ∃ p kvs k, x = .ref p ∧ C3 p = some (.dct kvs) ∧ keyOf y = some k ∧ kvs.length < sizeLine ∧
  match getK kvs k with
  | some v => R v C3
  | none => R z (updC C3 p (.dct (putD kvs k z)))
/-- d.get(k, x) -/
def dGet2 (td ty tx : DE) : DE := fun δ C R => td δ C fun x C1 => (dctOf C1 x).isSome = true ∧ ty δ C1 fun y C2 => tx δ C2 fun z C3 => ∃ kvs k, dctOf C3 x = some kvs ∧ keyOf y = some k ∧ R ((getK kvs k).getD z) C3
section
variable {X : Cx} {o e f : Expr} {td ty tx : DE} {apos cpos : Pos}
theorem de_setd (ho : PE X o (liftE X.K td)) (he : PE X e (liftE X.K ty)) (hf : PE X f (liftE X.K tx)) (m : M2 X o "setdefault" apos e f cpos := by exact ⟨rfl, rfl, rfl, rfl⟩) : PE X (.Call (.Attribute o "setdefault" apos) [e, f] [] cpos) (liftE X.K (dSetd td ty tx)) := by
  refine (pe_dsetd ho he hf m).weak ?_
  rintro σ H Q ⟨F, G, δ, C, R, A, S, q, k⟩
  refine ⟨F, G, δ, C, _, A, S, q, ?_⟩
  rintro x C1 ⟨hx, q1⟩ v H1 G1 s1 A1 r1
  obtain ⟨kvs0, hx⟩ := Option.isSome_iff_exists.mp hx
  obtain ⟨a, ks, rfl, ha, _⟩ := dct_at A1 r1 hx
  refine ⟨a, rfl, .inl ⟨ks, ha⟩, F, G1, δ, C1, _, A1, S.mono s1, q1, fun y C2 q2 u H2 G2 s2 A2 r2 => ⟨F, G2, δ, C2, _, A2, S.mono (s1.trans s2), q2, ?_⟩⟩
  rintro z C3 ⟨p, kvs, kk, rfl, hc, hk, hl, q3⟩ w H3 G3 s3 A3 r3
  cases r1
  obtain ⟨ks3, h3, rk⟩ := A3.dctCell hc
  have k3 := k.mono (s1.trans (s2.trans s3))
  obtain ⟨v1, v2⟩ := rk.val (k := kk)
  refine ⟨ks3, kk, h3, (r2.mono s3).key hk, by rw [← rk.length]; exact hl, fun v hv => ?_, fun hv => ?_⟩
  · cases eg : getK kvs kk with
    | none => rw [v2 eg] at hv; cases hv
    | some d =>
      obtain ⟨v', e1, rv⟩ := v1 d eg
      rw [e1] at hv; cases hv
      rw [eg] at q3
      exact k3.now A3 q3 rv
  · cases eg : getK kvs kk with
    | some d => obtain ⟨v', e1, rv⟩ := v1 d eg; rw [e1] at hv; cases hv
    | none =>
      rw [eg] at q3
      exact k3 _ _ q3 _ _ G3 (Same.refl _) (A3.write hc (.dct (rk.put r3))) r3
theorem de_get2 (hu : X.A.units + 64 < cLine) (ho : PE X o (liftE X.K td)) (he : PE X e (liftE X.K ty)) (hf : PE X f (liftE X.K tx)) (m : M2 X o "get" apos e f cpos := by exact ⟨rfl, rfl, rfl, rfl⟩) : PE X (.Call (.Attribute o "get" apos) [e, f] [] cpos) (liftE X.K (dGet2 td ty tx)) := by
  refine (pe_dget2 (by omega) ho he hf m).weak ?_
  rintro σ H Q ⟨F, G, δ, C, R, A, S, q, k⟩
  refine ⟨F, G, δ, C, _, A, S, q, ?_⟩
  rintro x C1 ⟨hx, q1⟩ v H1 G1 s1 A1 r1
  obtain ⟨kvs0, hx⟩ := Option.isSome_iff_exists.mp hx
  obtain ⟨a, ks, rfl, ha, _⟩ := dct_at A1 r1 hx
  refine ⟨a, rfl, .inl ⟨ks, ha⟩, F, G1, δ, C1, _, A1, S.mono s1, q1, fun y C2 q2 u H2 G2 s2 A2 r2 => ⟨F, G2, δ, C2, _, A2, S.mono (s1.trans s2), q2, ?_⟩⟩
  rintro z C3 ⟨kvs, kk, hc, hk, q3⟩ w H3 G3 s3 A3 r3
  obtain ⟨b, ks3, eb, h3, rk⟩ := dct_at A3 (r1.mono (s2.trans s3)) hc
  cases eb
  have k3 := k.mono (s1.trans (s2.trans s3))
  obtain ⟨v1, v2⟩ := rk.val (k := kk)
  refine ⟨valV ks3 kk, .inl ⟨ks3, kk, h3, (r2.mono s3).key hk, rfl⟩, ?_⟩
  cases eg : getK kvs kk with
  | none => rw [v2 eg]; rw [eg] at q3; exact k3.now A3 q3 r3
  | some d =>
    obtain ⟨v', e1, rv⟩ := v1 d eg
    rw [e1]; rw [eg] at q3
    exact k3.now A3 q3 rv
end
/-! ### stores -/
/-- xs[i] = v, xs a cell -/
def gdSubL (to ti : DE) : DG := fun d δ C R => to δ C fun o C1 => ti δ C1 fun i C2 => ∃ p ds n j, o = .ref p ∧ i = .int n ∧ C2 p = some (.lst ds) ∧ ixN ds.length n = some j ∧ R δ (updC C2 p (.lst (ds.set j d)))
/-- d[k] = v, d a cell -/
def dPut (td ty tv : DE) : DS := fun D δ C => tv δ C fun v C1 => td δ C1 fun x C2 => ty δ C2 fun y C3 => ∃ p kvs k, x = .ref p ∧ C3 p = some (.dct kvs) ∧ keyOf y = some k ∧ kvs.length < sizeLine ∧ D.nx δ (updC C3 p (.dct (putD kvs k v)))
section
variable {X : Cx} {o i value : Expr} {to ti td ty tv : DE} {pos pos' : Pos}
theorem dg_subL (ho : PE X o (liftE X.K to)) (hi : PE X i (liftE X.K ti))
    (ha : ∀ v, assign (.Subscript o i pos) X.env v = (do
      let ov ← holding [v] (eval o X.env)
      let iv ← holding [v, ov] (eval i X.env)
      standAt pos
      holding [v, ov, iv] (setItem ov iv v)
      release [v, ov, iv] []) := by intro _; rfl) : PG X (.Subscript o i pos) (liftG X.K (gdSubL to ti)) := by
  refine (pg_sub ho hi set_list ha).weak ?_
  rintro v σ H Q ⟨F, G, δ, C, d, R, A, S, r, q, k⟩
  refine ⟨F, G, δ, C, _, A, S, q, fun x C1 q1 ov H1 G1 s1 A1 r1 => ⟨F, G1, δ, C1, _, A1, S.mono s1, q1, ?_⟩⟩
  rintro y C2 ⟨p, ds, n, j, rfl, rfl, hc, hj, q2⟩ iv H2 G2 s2 A2 r2
  cases r1
  cases r2
  obtain ⟨as, has, ra⟩ := A2.lstCell hc
  refine ⟨p, as, n, j, rfl, rfl, has, by rw [← ra.length]; exact hj, ?_⟩
  exact k _ _ q2 _ _ G2 (s1.trans s2) (A2.write hc (.lst (RpL.set (r.mono (s1.trans s2)) j ra))) (S.mono (s1.trans s2))
theorem ds_put (hu : X.A.units + 64 < cLine) (ho : PE X o (liftE X.K td)) (hi : PE X i (liftE X.K ty)) (hv : PE X value (liftE X.K tv)) (hs : swapsWith value (some (.Subscript o i pos')) pos.line X.env = pure false := by rfl) :
    PS X (.Assign [.Subscript o i pos'] value pos) (liftS X.K (dPut td ty tv)) := by
  refine (ps_dput (by omega) ho hi hv hs).weak ?_
  rintro D σ H ⟨F, G, δ, C, R, A, S, q, k⟩
  refine ⟨F, G, δ, C, _, A, S, q, fun v C1 q1 vv H1 G1 s1 A1 r1 => ⟨F, G1, δ, C1, _, A1, S.mono s1, q1, fun x C2 q2 xv H2 G2 s2 A2 r2 => ⟨F, G2, δ, C2, _, A2, S.mono (s1.trans s2), q2, ?_⟩⟩⟩
  rintro y C3 ⟨p, kvs, kk, rfl, hc, hk, hl, q3⟩ yv H3 G3 s3 A3 r3
  cases r2
  obtain ⟨ks3, h3, rk⟩ := A3.dctCell hc
  refine ⟨p, _, rfl, .inl ⟨ks3, kk, h3, r3.key hk, by rw [← rk.length]; exact hl, rfl⟩, ?_⟩
  exact k.nx _ _ q3 _ _ G3 (s1.trans (s2.trans s3)) (A3.write hc (.dct (rk.put (r1.mono (s2.trans s3))))) (S.mono (s1.trans (s2.trans s3)))
end
/-! ### a cell is let go: what x names stays as it is -/
def frzO (C : Cells) (x : D) : Option (D × Cells) := match x with
  | .ref p => match C p with
    | some (.lst ds) => some (.lst ds, delC C p)
    | some (.dct kvs) => some (.dct kvs, delC C p)
    | _ => none
  | _ => none
def dFrz (t : DE) : DE := fun δ C R => t δ C fun x C1 => ∃ y C2, frzO C1 x = some (y, C2) ∧ R y C2
/-- a cell's thing stays from now on, otherwise written (locked) -/
theorem Ab.freezeAs {K : PySem.W.Frag} {F : Cells} {G H : Hp} {C : Cells} {p : Addr} {c : Cell} {u : HO} (A : Ab K F G H C) (h : C p = some c) : Same G (upd G p u) ∧ Ab K F (upd G p u) (upd H p u) (delC C p) := by
  obtain ⟨hG, _, hH, _⟩ := A.cell p c h
  have hF := A.noF h
  have sm : Same G (upd G p u) := same_upd hG
  refine ⟨sm, ⟨fun b o e => ?_, fun b d e => ?_, fun b d e => ?_⟩⟩
  · by_cases hb : b = p
    · subst hb; rw [upd_same] at e ⊢; exact e
    · rw [upd_ne hb] at e ⊢; exact A.sub b o e
  · have hb : b ≠ p := by
      rintro rfl
      unfold delC at e; rw [if_pos rfl] at e; cases e
    unfold delC at e; rw [if_neg hb] at e
    obtain ⟨h1, v, h2, h3⟩ := A.cell b d e
    exact ⟨by rw [upd_ne hb]; exact h1, v, by rw [upd_ne hb]; exact h2, h3.mono sm⟩
  · obtain ⟨h0, h1, v, h2, h3⟩ := A.fr b d e
    have hb : b ≠ p := by rintro rfl; rw [hF] at e; cases e
    exact ⟨by unfold delC; rw [if_neg hb]; exact h0, by rw [upd_ne hb]; exact h1, v, by rw [upd_ne hb]; exact h2, h3.mono sm⟩
theorem lift_frz {K : PySem.W.Frag} {t : DE} : ∀ σ H Q, liftE K (dFrz t) σ H Q → liftE K t σ H (lockQ Q) := by
  rintro σ H Q ⟨F, G, δ, C, R, A, S, q, k⟩
  refine ⟨F, G, δ, C, _, A, S, q, ?_⟩
  rintro x C1 ⟨y, C2, e, q1⟩ v H1 G1 s1 A1 r1
  unfold frzO at e
  split at e
  · rename_i p
    split at e
    · rename_i ds hc
      cases e
      cases r1
      obtain ⟨u, h1, h2, h3, h4⟩ := A1.freeze hc
      cases h2
      rename_i xs r
      exact .inl (k _ _ q1 _ _ _ (s1.trans h3) h4 (.lst (.inl upd_same) (r.mono h3)))
    · rename_i ds hc
      cases e
      cases r1
      obtain ⟨ks, h1, r⟩ := A1.dctCell hc
      refine .inr ⟨p, ks, rfl, h1, fun od => ?_⟩
      obtain ⟨h3, h4⟩ := A1.freezeAs (u := .frz od (.dK ks)) hc
      exact k _ _ q1 _ _ _ (s1.trans h3) h4 (.dct upd_same (r.mono h3))
    · cases e
  · cases e
theorem de_frz {X : Cx} {e : Expr} {t : DE} (h : PE X e (liftE X.K t)) : PE X e (liftE X.K (dFrz t)) := (pe_lockQ h).weak lift_frz
end DL
/-! DLl: enumerate, zip; names stored together. -/
namespace DL
open PySem PySem.Spec L2
open PyProof.Rows hiding St

section
open AutoSeq1 (wpAny_loadPart')
set_option maxHeartbeats 4000000 in
theorem meets_enumerate_newB1 {v : Value} {o : Obj} {H : Heap → Prop} (B : Begins v o H) :
    Meets (Builtin.«enumerate.__new__» ⟨[.type "enumerate", v], []⟩) (fun _ R s => H s.heap ∧
      R (.ok (.ret (.ref (s.heap.push o).objs.size))) { s with heap := (s.heap.push o).push { cls := .type "enumerate", data := .fields #[.none, .bool false, .ref s.heap.objs.size, rawInt 0, .none, .none] } }) :=
  .of_wp fun prog w A R s h => by
    obtain ⟨hp, g, d, tk, os⟩ := s; obtain ⟨h1, h⟩ := h
    have hsub := sub_enumerate
    have q1 : ∀ {A' : Around} {E : Value → Shared → Prop} {Q : Value → Shared → Prop}, Q (.ref hp.objs.size) ⟨hp.push o, g, d, tk, os⟩ → wpAny (model prog w) A' (pyIter v) Q E ⟨hp, g, d, tk, os⟩ :=
      fun q => B.iter prog w _ _ ⟨hp, g, d, tk, os⟩ _ h1 q
    wp_walk using q1
    refine wpAny_stack_any fun st => wpAny_pure ?_
    split
    · rename_i c _ _ _ _ _
      cases (c == Value.type "enumerate")
      · wp_walk using q1
        exact ⟨_, rfl, h⟩
      · wp_walk using q1
        exact ⟨_, rfl, h⟩
    · wp_walk using q1
      exact ⟨_, rfl, h⟩
theorem enum_begins1 {prog : Program} {w : World} {A : Around} {E : Value → Shared → Prop} {s : Shared} {v : Value} {o : Obj} {H : Heap → Prop} {Q : Value → Shared → Prop} (B : Begins v o H) (h1 : H s.heap)
    (h : ∀ h', IsEnum h' (s.heap.objs.size + 1) s.heap.objs.size 0 .none → h'.get? s.heap.objs.size = some o → h'.objs.size = s.heap.objs.size + 2 →
      (∀ b o, s.heap.get? b = some o → h'.get? b = some o) → Q (.ref (s.heap.objs.size + 1)) { s with heap := h' }) :
    wpAny (model prog w) A (call (.type "enumerate") [v]) Q E s := by
  refine callType_new F.called_enumerate (by decide) (F.typeCall_enumerate_1 _) (F.newCall_enumerate_1 _) (fun obj => F.args_object_init_2 obj _) F.entry_enumerate_new
    (meets_enumerate_newB1 B) ⟨h1, ?_⟩
  have hz : (s.heap.push o).objs.size = s.heap.objs.size + 1 := Heap.size_push ..
  show _ ∧ _
  rw [hz]
  have he : IsEnum ((s.heap.push o).push { cls := .type "enumerate", data := .fields #[.none, .bool false, .ref s.heap.objs.size, rawInt 0, .none, .none] }) (s.heap.objs.size + 1) s.heap.objs.size 0 .none := by
    have := Heap.get?_push_size (s.heap.push o) (o := { cls := .type "enumerate", data := .fields #[.none, .bool false, .ref s.heap.objs.size, rawInt 0, .none, .none] }) rfl
    rw [hz] at this; exact this
  refine ⟨⟨_, he, rfl⟩, h _ he (Heap.get?_push_of_some _ (Heap.get?_push_size _ B.free)) (by rw [Heap.size_push, hz]) fun b o x => Heap.get?_push_of_some _ (Heap.get?_push_of_some _ x)⟩
end
theorem enumT_end {prog : Program} {w : World} {A : Around} {E : Value → Shared → Prop} {s : Shared} {e it l : Addr} {i : Nat} {items : Array Value} {j : Int} {old : Value} {Q : Option Value → Shared → Prop} (hh : A.handled = none)
    (he : IsEnum s.heap e it j old) (hit : s.heap.IsTupleIter it l i) (hl : s.heap.IsTuple l items) (hx : items[i]? = none)
    (hQ : ∀ h', Heap.ExtBut it s.heap h' → Q none { s with heap := h' }) : wpAny (model prog w) A (pyNext (.ref e)) Q E s := by
  have hT : s.TypeIs (.ref e) "enumerate" := ⟨_, he, rfl⟩
  unfold pyNext
  refine wpAny_bind (wpAny_attempt (wpAny_callSpecial?_slot (name := Str.ofString "__next__") hT F.slot_enumerate_next
    (wpAny_call_entry F.slot_enumerate_next hT F.entry_enumerate_next ?_ (F.args_enumerate_next_1 _))))
  show wpAny _ _ (field (.ref e) 2 >>= _) _ _ _
  refine wpAny_bind (wpAny_field he rfl (x := .ref it) rfl ?_)
  refine wpAny_bind (wpAny_nextOf_tuple_end hh hit hl hx fun h' x he' hx' => ?_)
  obtain ⟨o, ho, hc⟩ := hx'
  refine wpAny_bind (wpAny_isInstance (T := "StopIteration") (b := true) ⟨o, ho, hc⟩ isSubtype_stop ?_)
  exact wpAny_pure (hQ _ he')
/-- the tuple at a, each item in a new pair -/
def IteT (K : PySem.W.Frag) (a : Addr) : It :=
  ⟨fun i H => ∃ (xs : List V) (x : V), SqT K H a xs ∧ xs[i]? = some x, fun i H v H' => ∃ T x, v = .ref T ∧ H T = none ∧ H' = upd H T (.tup [.int (i : Nat), x]) ∧ ∀ xs, SqT K H a xs → xs[i]? = some x, fun i H => ∃ xs : List V, SqT K H a xs ∧ xs.length ≤ i⟩
theorem turn_enumT {P : Program} {w : World} {K : PySem.W.Frag} {elts : List Expr} {kk : Nat} {tpos : Pos} (a e it : Addr) (hae : a ≠ it) :
    Turn P w K (.Tuple elts kk tpos) (IteT K a) [e, it] e (fun i h => (∃ old, IsEnum h e it ((i : Nat) : Int) old) ∧ h.IsTupleIter it a i ∧ e ≠ it) where
  mem := by simp
  obj := fun i h st b hb => by
    obtain ⟨⟨old, he⟩, ⟨o, ho, hc, hd⟩, _⟩ := st
    have e' : b = e ∨ b = it := by simpa using hb
    rcases e' with z | z
    · rw [z]; exact ⟨_, he, fun v q => nomatch q⟩
    · rw [z]; exact ⟨o, ho, fun v q => by rw [hd] at q; cases q⟩
  keep := fun i h h' st k => let ⟨⟨old, he⟩, hi, hne⟩ := st; ⟨⟨old, k e (by simp) _ he⟩, hi.at fun o q => k it (by simp) o q, hne⟩
  item := by
    intro X hP hw hK hc i pins s σ H E I hf st hg
    subst hP hw hK
    obtain ⟨⟨old, he⟩, hit, hne⟩ := st
    obtain ⟨xs, x, hq, hx⟩ := hg
    obtain ⟨its, rv, p, hz⟩ := I.tuple hq
    obtain ⟨u, hu, ru⟩ := rv.get hx
    have hel : e < s.heap.objs.size := Heap.lt_size he
    have hil : it < s.heap.objs.size := by obtain ⟨_, q, _⟩ := hit; exact Heap.lt_size q
    have hea : e ≠ a := by
      intro z
      obtain ⟨o, ho, hcls, _⟩ := p
      rw [← z, he] at ho
      cases ho
      have hcls' : Value.type "enumerate" = Value.type "tuple" := hcls
      exact absurd hcls' (by decide)
    have hlt : i < its.toArray.size := by
      have := (List.getElem?_eq_some_iff.mp hu).1
      simpa using this
    refine wpAny_pyNext_enum_itemD (Draws.tuple (A := X.A.in1) (I.ok.hd hc) it a hae its.toArray) he ⟨hit, show s.heap.IsTuple a its.toArray from p⟩ hlt hne (by simp [hne, hea]) fun y h' tk hy ho st' hT hsz hk => ?_
    have : y = u := by
      have h1 : its[i]? = some y := by simpa using hy
      rw [hu] at h1
      exact (Option.some.inj h1).symm
    subst this
    refine ⟨_, rfl, wpAny_letOwnedTupleGo_enum (s := { s with heap := h', toks := tk + 1 }) ho fun h'' he' sb => ?_⟩
    have hT2 : h''.get? s.heap.objs.size = some { cls := .type "tuple", data := .seq #[.int i tk, y] } := (sb.2 _ (Nat.ne_of_gt hel)).trans hT
    have new : ObjOk X.prog X.w (upd H s.heap.objs.size (.tup [.int (i : Nat), x])) h'' s.heap.objs.size (.tup [.int (i : Nat), x]) :=
      ⟨by show 2 ≤ sizeLine; decide, [.int i tk, y], .cons ⟨_, rfl⟩ (.cons ru .nil), ⟨_, hT2, rfl, _, rfl⟩⟩
    have I1 : Inv X pins σ (upd H s.heap.objs.size (.tup [.int (i : Nat), x])) { s with heap := h'', toks := tk + 1 } :=
      I.turnedNew (ch := [e, it]) (fun b ob hb q => (sb.2 b (fun z => hb (by simp [z]))).trans (hk b ob (fun z => hb (by simp [z])) (fun z => hb (by simp [z])) q)) hf (Nat.le_refl _) new
    refine ⟨.ref s.heap.objs.size, _, I1, rfl, ⟨_, x, rfl, I.hok.fresh (Nat.le_refl _), rfl, fun ys hy => by rw [I.tuple_inj hy hq]; exact hx⟩, ⟨⟨y, ?_⟩, st'.1.at fun o q => (sb.2 it (Ne.symm hne)).trans q, hne⟩, fun b hb => ?_⟩
    · have e1 : ((i + 1 : Nat) : Int) = (i : Int) + 1 := by omega
      rw [e1]; exact he'
    · have hb' : b < s.heap.objs.size := by
        have e' : b = e ∨ b = it := by simpa using hb
        rcases e' with z | z
        · rw [z]; exact hel
        · rw [z]; exact hil
      rw [upd_ne (Nat.ne_of_lt hb')]
      exact (hf b hb).1
  done := by
    intro X hP hw hK hc i pins s σ H E I hf st hg
    subst hP hw hK
    obtain ⟨⟨old, he⟩, hit, hne⟩ := st
    obtain ⟨xs, hq, hx⟩ := hg
    obtain ⟨its, rv, p, hz⟩ := I.tuple hq
    obtain ⟨f0, f1, f2, f3, f4, f5⟩ := hf it (by simp)
    have hl := rv.length
    exact enumT_end (I.ok.hd hc) he hit (show s.heap.IsTuple a its.toArray from p) (by simp; omega) fun h' eb => ⟨rfl, I.turned (t' := s.toks) (fun b o hb q => eb b o hb q) f0 f1 f3 f4 f5⟩
  self := fun A i s Q E st h => let ⟨⟨_, he⟩, _⟩ := st; wpAny_pyIter_enum he h

def iEnumA (K : PySem.W.Frag) (ta : TA) : TI := fun σ H R => ta σ H fun vs H1 => ∃ a xs, vs = [.ref a] ∧ ((SqL K H1 a xs ∧ R (Ite K a) H1) ∨ (SqT K H1 a xs ∧ R (IteT K a) H1))
theorem pi_enumA {X : Cx} {e : Expr} {ta : TA} {p pos tpos : Pos} {elts : List Expr} {kk : Nat} (hg : Gl X "enumerate") (hm : X.mg "enumerate" = none) (ha : PA X [e] ta) (hs : starEach [e] X.env = [(false, eval e X.env)] := by rfl) :
    PI X (.Tuple elts kk tpos) (.Call (.Name "enumerate" p) [e] [] pos) (iEnumA X.K ta) := by
  refine ⟨fun pins s σ H R I h => ?_⟩
  refine Call_ (ld_blt I hg hm PyProof.Rows.boot_enumerate (PyProof.Rows.callWith_type1 (thn (ha.run pos pins s σ H _ I h) fun us s1 ⟨vs, H1, I1, r1, q1⟩ => ?_) hs rfl))
  obtain ⟨a, xs, ex, q⟩ := q1
  subst ex
  cases r1 with
  | cons r rr =>
    cases rr
    cases r
    have fresh2 : ∀ b ∈ [s1.heap.objs.size + 1, s1.heap.objs.size], FpOk X pins H1 b := fun b hb => by
      have e' : b = s1.heap.objs.size + 1 ∨ b = s1.heap.objs.size := by simpa using hb
      have hle : s1.heap.objs.size ≤ b := by
        rcases e' with z | z
        · rw [z]; exact Nat.le_add_right _ _
        · rw [z]; exact Nat.le_refl _
      exact I1.fpOk hle (I1.hok.fresh hle)
    rcases q with ⟨hq, q⟩ | ⟨hq, q⟩
    · obtain ⟨its, rv, p', hz⟩ := I1.list hq
      refine call_enumerate_list p'.isList fun h' he hit hsz hk => wpAny_pyIter_enum he ?_
      have I2 : Inv X pins σ H1 { s1 with heap := h' } := I1.kept (t' := s1.toks) hk
      exact ⟨s1.heap.objs.size + 1, [s1.heap.objs.size + 1, s1.heap.objs.size], _, _, H1, rfl, I2, turn_enum a (s1.heap.objs.size + 1) s1.heap.objs.size, ⟨⟨.none, he⟩, hit, Nat.succ_ne_self _⟩, fresh2, q⟩
    · obtain ⟨its, rv, p', hz⟩ := I1.tuple hq
      have hal : a < s1.heap.objs.size := p'.lt
      refine enum_begins1 (begins_tuple a its.toArray) (show s1.heap.IsTuple a its.toArray from p') fun h' he hit hsz hk => wpAny_pyIter_enum he ?_
      have I2 : Inv X pins σ H1 { s1 with heap := h' } := I1.kept (t' := s1.toks) hk
      exact ⟨s1.heap.objs.size + 1, [s1.heap.objs.size + 1, s1.heap.objs.size], _, _, H1, rfl, I2, turn_enumT a (s1.heap.objs.size + 1) s1.heap.objs.size (Nat.ne_of_lt hal), ⟨⟨.none, he⟩, ⟨_, hit, rfl, rfl⟩, Nat.succ_ne_self _⟩, fresh2, q⟩

/-! ### over data -/
theorem itok_pair {K : PySem.W.Frag} {G : Hp} {J : DIt} {J' : It} (h : ∀ F i G2 H2 C2, Same G G2 → Ab K F G2 H2 C2 →
    (J.go i C2 → J'.go i H2 ∧ ∀ x H3, J'.yld i H2 x H3 → ∃ T y z dy dz, x = .ref T ∧ H2 T = none ∧ H3 = upd H2 T (.tup [y, z]) ∧ J.yld i C2 (.tup [dy, dz]) ∧ Rp K G2 dy y ∧ Rp K G2 dz z) ∧ (J.stop i C2 → J'.stop i H2)) : ItOk K G J J' := by
  intro F i G2 H2 C2 s2 A2
  obtain ⟨h1, h2⟩ := h F i G2 H2 C2 s2 A2
  refine ⟨fun g => ?_, h2⟩
  obtain ⟨h3, h4⟩ := h1 g
  refine ⟨h3, fun x H3 yy => ?_⟩
  obtain ⟨T, y, z, dy, dz, rfl, hT, rfl, yd, ry, rz⟩ := h4 x H3 yy
  obtain ⟨A3, s3⟩ := A2.grow (u := .tup [y, z]) hT
  exact ⟨_, _, s3, A3, yd, .tup (.inl (.inl upd_same)) (.cons (ry.mono s3) (.cons (rz.mono s3) .nil))⟩
/-- enumerate(x) of a list or a tuple -/
def itEnum (x : D) : DIt := ⟨fun i C => ∃ ds d, seqOf C x = some ds ∧ ds[i]? = some d, fun i C e => ∃ ds d, seqOf C x = some ds ∧ ds[i]? = some d ∧ e = .tup [.int (i : Nat), d], fun i C => ∃ ds, seqOf C x = some ds ∧ ds.length ≤ i⟩
def diEnum (ta : DA) : DI := fun δ C R => ta δ C fun xs C1 => ∃ x, xs = [x] ∧ (seqOf C1 x).isSome = true ∧ R (itEnum x) C1
/-- zip(x, y) of two lists or two tuples -/
def itZip (x y : D) : DIt := ⟨fun i C => ∃ ds es d e, seqOf C x = some ds ∧ seqOf C y = some es ∧ ds[i]? = some d ∧ es[i]? = some e, fun i C z => ∃ ds es d e, seqOf C x = some ds ∧ seqOf C y = some es ∧ ds[i]? = some d ∧ es[i]? = some e ∧ z = .tup [d, e],
  fun i C => ∃ ds es, seqOf C x = some ds ∧ seqOf C y = some es ∧ (ds.length ≤ i ∨ es.length ≤ i)⟩
def diZip (ta : DA) : DI := fun δ C R => ta δ C fun xs C1 => ∃ x y, xs = [x, y] ∧ (((tupOf x).isSome = true ∧ (tupOf y).isSome = true) ∨ (tupOf x = none ∧ tupOf y = none ∧ (lstOf C1 x).isSome = true ∧ (lstOf C1 y).isSome = true)) ∧ R (itZip x y) C1
theorem seqOf_lst {C : Cells} {x : D} (h : tupOf x = none) : seqOf C x = lstOf C x := by unfold seqOf; rw [h]
theorem seqOf_tup {C : Cells} {x : D} {ds : List D} (h : tupOf x = some ds) : seqOf C x = some ds := by unfold seqOf; rw [h]
section
variable {X : Cx}
theorem di_enum {e : Expr} {ta : DA} {p pos tpos : Pos} {elts : List Expr} {kk : Nat} (hg : Gl X "enumerate") (hm : X.mg "enumerate" = none) (ha : PA X [e] (liftA X.K ta)) (hs : starEach [e] X.env = [(false, eval e X.env)] := by rfl) :
    PI X (.Tuple elts kk tpos) (.Call (.Name "enumerate" p) [e] [] pos) (liftI X.K (diEnum ta)) := by
  refine (pi_enumA hg hm ha hs).weak ?_
  rintro σ H Q ⟨F, G, δ, C, R, A, S, q, k⟩
  refine ⟨F, G, δ, C, _, A, S, q, ?_⟩
  rintro xs C1 ⟨x, rfl, hx, q1⟩ vs H1 G1 s1 A1 r1
  obtain ⟨v, rfl, r⟩ := r1.one
  obtain ⟨ds, hx⟩ := Option.isSome_iff_exists.mp hx
  cases et : tupOf x with
  | some ds' =>
    obtain ⟨a, as, rfl, ha, ra⟩ := tup_at A1 r et
    refine ⟨a, as, rfl, .inr ⟨ha, k _ _ q1 _ H1 G1 s1 A1 (itok_pair fun F' i G2 H2 C2 s2 A2 => ⟨?_, ?_⟩)⟩⟩
    · rintro ⟨ds2, d, e2, ed⟩
      rw [seqOf_tup et] at e2; cases e2
      obtain ⟨b, bs, eb, hb, rb⟩ := tup_at A2 (r.mono s2) et
      cases eb
      obtain ⟨y, hy, ry⟩ := rb.getD ed
      refine ⟨⟨bs, y, hb, hy⟩, ?_⟩
      rintro x3 H3 ⟨T, z, rfl, hT, rfl, hz⟩
      have := hz bs hb
      rw [hy] at this; cases this
      exact ⟨T, _, _, _, d, rfl, hT, rfl, ⟨_, d, seqOf_tup et, ed, rfl⟩, .int _, ry⟩
    · rintro ⟨ds2, e2, hl⟩
      rw [seqOf_tup et] at e2; cases e2
      obtain ⟨b, bs, eb, hb, rb⟩ := tup_at A2 (r.mono s2) et
      cases eb
      exact ⟨bs, hb, by rw [← rb.length]; exact hl⟩
  | none =>
    rw [seqOf_lst et] at hx
    obtain ⟨a, as, rfl, ha, ra⟩ := lst_at A1 r hx
    refine ⟨a, as, rfl, .inl ⟨.inl ha, k _ _ q1 _ H1 G1 s1 A1 (itok_pair fun F' i G2 H2 C2 s2 A2 => ⟨?_, ?_⟩)⟩⟩
    · rintro ⟨ds2, d, e2, ed⟩
      rw [seqOf_lst et] at e2
      obtain ⟨b, bs, eb, hb, rb⟩ := lst_at A2 (r.mono s2) e2
      cases eb
      obtain ⟨y, hy, ry⟩ := rb.getD ed
      refine ⟨⟨bs, y, .inl hb, hy⟩, ?_⟩
      rintro x3 H3 ⟨T, z, rfl, hT, rfl, hz⟩
      have := hz bs (.inl hb)
      rw [hy] at this; cases this
      exact ⟨T, _, _, _, d, rfl, hT, rfl, ⟨_, d, by rw [seqOf_lst et]; exact e2, ed, rfl⟩, .int _, ry⟩
    · rintro ⟨ds2, e2, hl⟩
      rw [seqOf_lst et] at e2
      obtain ⟨b, bs, eb, hb, rb⟩ := lst_at A2 (r.mono s2) e2
      cases eb
      exact ⟨bs, .inl hb, by rw [← rb.length]; exact hl⟩
theorem di_zip {e e2 : Expr} {ta : DA} {p pos tpos : Pos} {elts : List Expr} {kk : Nat} (hg : Gl X "zip") (hm : X.mg "zip" = none) (ha : PA X [e, e2] (liftA X.K ta))
    (hs : starEach [e, e2] X.env = (false, eval e X.env) :: starEach [e2] X.env := by rfl) (hpl : (backTo pos (starEach [e2] X.env)).any (·.1) = false := by rfl) :
    PI X (.Tuple elts kk tpos) (.Call (.Name "zip" p) [e, e2] [] pos) (liftI X.K (diZip ta)) := by
  refine (RZ.pi_zipA hg hm ha hs hpl).weak ?_
  rintro σ H Q ⟨F, G, δ, C, R, A, S, q, k⟩
  refine ⟨F, G, δ, C, _, A, S, q, ?_⟩
  rintro xs C1 ⟨x, y, rfl, hxy, q1⟩ vs H1 G1 s1 A1 r1
  obtain ⟨v, u, rfl, r, r'⟩ := r1.two
  rcases hxy with ⟨hx, hy⟩ | ⟨tx, ty, hx, hy⟩
  · obtain ⟨ds, et⟩ := Option.isSome_iff_exists.mp hx
    obtain ⟨es, et'⟩ := Option.isSome_iff_exists.mp hy
    obtain ⟨a, as, rfl, ha, ra⟩ := tup_at A1 r et
    obtain ⟨b, bs, rfl, hb, rb⟩ := tup_at A1 r' et'
    refine ⟨a, b, as, bs, rfl, .inr ⟨ha, hb, k _ _ q1 _ H1 G1 s1 A1 (itok_pair fun F' i G2 H2 C2 s2 A2 => ?_)⟩⟩
    obtain ⟨a', as2, ea, ha2, ra2⟩ := tup_at A2 (r.mono s2) et
    cases ea
    obtain ⟨b', bs2, eb, hb2, rb2⟩ := tup_at A2 (r'.mono s2) et'
    cases eb
    refine ⟨?_, ?_⟩
    · rintro ⟨ds2, es2, d, e, e1, e2, ed, ee⟩
      rw [seqOf_tup et] at e1; cases e1
      rw [seqOf_tup et'] at e2; cases e2
      obtain ⟨z, hz, rz⟩ := ra2.getD ed
      obtain ⟨z', hz', rz'⟩ := rb2.getD ee
      refine ⟨⟨as2, bs2, z, z', ha2, hb2, hz, hz'⟩, ?_⟩
      rintro x3 H3 ⟨T, w1, w2, rfl, hT, rfl, h1, h2⟩
      have k1 := h1 as2 ha2
      have k2 := h2 bs2 hb2
      rw [hz] at k1; cases k1
      rw [hz'] at k2; cases k2
      exact ⟨T, _, _, d, e, rfl, hT, rfl, ⟨_, _, d, e, seqOf_tup et, seqOf_tup et', ed, ee, rfl⟩, rz, rz'⟩
    · rintro ⟨ds2, es2, e1, e2, hl⟩
      rw [seqOf_tup et] at e1; cases e1
      rw [seqOf_tup et'] at e2; cases e2
      exact ⟨as2, bs2, ha2, hb2, by rw [← ra2.length, ← rb2.length]; exact hl⟩
  · obtain ⟨ds, et⟩ := Option.isSome_iff_exists.mp hx
    obtain ⟨es, et'⟩ := Option.isSome_iff_exists.mp hy
    obtain ⟨a, as, rfl, ha, ra⟩ := lst_at A1 r et
    obtain ⟨b, bs, rfl, hb, rb⟩ := lst_at A1 r' et'
    refine ⟨a, b, as, bs, rfl, .inl ⟨.inl ha, .inl hb, k _ _ q1 _ H1 G1 s1 A1 (itok_pair fun F' i G2 H2 C2 s2 A2 => ⟨?_, ?_⟩)⟩⟩
    · rintro ⟨ds2, es2, d, e, e1, e2, ed, ee⟩
      rw [seqOf_lst tx] at e1
      rw [seqOf_lst ty] at e2
      obtain ⟨a', as2, ea, ha2, ra2⟩ := lst_at A2 (r.mono s2) e1
      cases ea
      obtain ⟨b', bs2, eb, hb2, rb2⟩ := lst_at A2 (r'.mono s2) e2
      cases eb
      obtain ⟨z, hz, rz⟩ := ra2.getD ed
      obtain ⟨z', hz', rz'⟩ := rb2.getD ee
      refine ⟨⟨as2, bs2, z, z', .inl ha2, .inl hb2, hz, hz'⟩, ?_⟩
      rintro x3 H3 ⟨T, w1, w2, rfl, hT, rfl, h1, h2⟩
      have k1 := h1 as2 (.inl ha2)
      have k2 := h2 bs2 (.inl hb2)
      rw [hz] at k1; cases k1
      rw [hz'] at k2; cases k2
      exact ⟨T, _, _, d, e, rfl, hT, rfl, ⟨_, _, d, e, by rw [seqOf_lst tx]; exact e1, by rw [seqOf_lst ty]; exact e2, ed, ee, rfl⟩, rz, rz'⟩
    · rintro ⟨ds2, es2, e1, e2, hl⟩
      rw [seqOf_lst tx] at e1
      rw [seqOf_lst ty] at e2
      obtain ⟨a', as2, ea, ha2, ra2⟩ := lst_at A2 (r.mono s2) e1
      cases ea
      obtain ⟨b', bs2, eb, hb2, rb2⟩ := lst_at A2 (r'.mono s2) e2
      cases eb
      exact ⟨as2, bs2, .inl ha2, .inl hb2, by rw [← ra2.length, ← rb2.length]; exact hl⟩
/-- a, b = x, y of plain local names -/
def dPar (i j : Nat) (ta : DA) : DS := fun N δ C => ta δ C fun ds C1 => ∃ v w, ds = [v, w] ∧ N.nx ((δ.set i (some v)).set j (some w)) C1
theorem ds_par {i j : Nat} {x y : Str} {a b : Expr} {ta : DA} {px py pt pos : Pos} {kt k2 pt2} (hc : X.calm = true) (hN : X.N.Nodup) (hi : X.N[i]? = some x) (hj : X.N[j]? = some y) (hij : i ≠ j)
    (hx : X.env.scope.names.lookup x = some .local) (hy : X.env.scope.names.lookup y = some .local) (ha : PA X [a, b] (liftA X.K ta))
    (hw : swappedStores [.Tuple [.Name x px, .Name y py] kt pt] (.Tuple [a, b] k2 pt2) X.env = pure (some [x, y]))
    (hs : swapsWithSole [.Tuple [.Name x px, .Name y py] kt pt] (.Tuple [a, b] k2 pt2) pos.line X.env = pure false := by rfl) :
    PS X (.Assign [.Tuple [.Name x px, .Name y py] kt pt] (.Tuple [a, b] k2 pt2) pos) (liftS X.K (dPar i j ta)) :=
  (ps_par hc hN hi hj hij hx hy ha hw hs).weak fun D σ H ⟨F, G, δ, C, R, A, S, q, k⟩ => ⟨F, G, δ, C, _, A, S, q, by
    rintro ds C1 ⟨v, w, rfl, q1⟩ vs H1 G1 s1 A1 r1
    obtain ⟨v', w', rfl, rv, rw'⟩ := r1.two
    exact ⟨v', w', rfl, k.nx _ _ q1 _ H1 G1 s1 A1 (RpS.set rw' j (RpS.set rv i (S.mono s1)))⟩⟩
/-- (a, b) = a list of that length -/
def gdUnl (n : Nat) (t : DGs) : DG := fun d δ C R => ∃ ds, tupOf d = none ∧ lstOf C d = some ds ∧ ds.length = n ∧ t ds δ C R
theorem dg_unl {es : List Expr} {k : Nat} {t : DGs} {n : Nat} {pos : Pos} (hc : X.calm = true) (h : PGs X es (liftGs X.K t))
    (hn : (assignEach es X.env).length = n := by rfl) (hst : (assignEach es X.env).findIdx? (·.1) = none := by rfl) : PG X (.Tuple es k pos) (liftG X.K (gdUnl n t)) :=
  (pg_unl hc h hn hst).weak fun v σ H Q ⟨F, G, δ, C, d, R, A, S, r, ⟨ds, _, e, hl, q⟩, k⟩ => by
  obtain ⟨a, as, rfl, ha, ra⟩ := lst_at A r e
  exact ⟨a, as, rfl, .inl ha, by rw [← ra.length]; exact hl, F, G, δ, C, ds, R, A, S, ra, q, k⟩
end
end DL
/-! DLm: sorted; dict of pairs. -/
namespace DL
open PySem PySem.Spec L2
open PyProof.Rows hiding St

/-! ### sorted -/
def leD (a b : D) : Bool := PySem.W.dataLe false toPy a b
def sortD (ds : List D) : List D := ds.mergeSort (PySem.W.dataLe false toPy)
def sortDR (ds : List D) : List D := ds.mergeSort (PySem.W.dataLe true toPy)
/-- what sorted may be told -/
structure SortOk (ds : List D) : Prop where
  ok : ds.all (okD 50) = true
  al : PySem.W.AllAlike (ds.map toPy)
  so : PySem.W.Sortable (ds.map toPy)
def oSorted : DOs := fun xs C R => ∃ x ds, xs = [x] ∧ lstOf C x = some ds ∧ SortOk ds ∧ R (.lst (sortD ds)) C
/-- a value of the machine stands for d -/
def Rv (K : PySem.W.Frag) (G : Hp) (u : Value) (d : D) : Prop := ∃ v, Rp K G d v ∧ RelV v u
theorem rv_each {K : PySem.W.Frag} {G : Hp} : ∀ {ds : List D} {vs : List V} {us : List Value}, RpL K G ds vs → Vals vs us → PySem.W.EachIs (Rv K G) us ds
  | _, _, _, .nil, .nil => .nil
  | _, _, _, .cons r t, .cons r' t' => .cons ⟨_, r, r'⟩ (rv_each t t')
theorem each_rv {K : PySem.W.Frag} {G : Hp} : ∀ {us : List Value} {ds : List D}, PySem.W.EachIs (Rv K G) us ds → ∃ vs, RpL K G ds vs ∧ Vals vs us
  | _, _, .nil => ⟨[], .nil, .nil⟩
  | _, _, .cons ⟨v, r, r'⟩ t => by
    obtain ⟨vs, h1, h2⟩ := each_rv t
    exact ⟨v :: vs, .cons r h1, .cons r' h2⟩
theorem rv_reads {X : Cx} {pins : List (Addr × Obj)} {σ : St} {G H : Hp} {s : Shared} (I : Inv X pins σ H s) (sm : Same G H) : ∀ {us : List Value} {ds : List D}, PySem.W.EachIs (Rv X.K G) us ds → ds.all (okD 50) = true → PySem.W.EachIs (fun v b => ∃ as, Reads s.heap v (toPy b) as) us ds
  | _, _, .nil, _ => .nil
  | _, _, .cons ⟨v, r, r'⟩ t, h => by
    simp only [List.all_cons, Bool.and_eq_true] at h
    exact .cons (Dp.reads I _ _ _ (Rp.dp sm 50 _ _ h.1 r) r') (rv_reads I sm t h.2)
section
variable {X : Cx}
/-- sorted, over data as it stands -/
def rSortedD (K : PySem.W.Frag) : List V → Hp → VK → Prop := fun vs H Q => ∃ F G C xs R, Ab K F G H C ∧ RpL K G xs vs ∧ oSorted xs C R ∧ ToE K F G R Q
theorem call_sortedD (hu : X.A.units + 64 < cLine) : CallR X (.builtin "sorted") (rSortedD X.K) := by
  intro pins s σ H vs us Q I r h
  obtain ⟨F, G, C, xs, R, A, rx, ⟨x, ds, rfl, el, so, q⟩, k⟩ := h
  obtain ⟨v, rfl, r1⟩ := rx.one
  obtain ⟨u, rfl, ru⟩ := vals1 r
  obtain ⟨a, as, rfl, ha, ra⟩ := lst_at A r1 el
  obtain rfl : u = Value.ref a := ru
  obtain ⟨its, rv, hl, hz⟩ := I.list (.inl ha)
  have e := rv_each ra rv
  have hlen : ds.length = as.length := ra.length
  refine PySem.W.sorted_data hl.isList e (rv_reads I A.sub e so.ok) so.al so.so (by omega) (fun d hd => ?_) fun out ho eo => ?_
  · have := (okD_lay 50 d (List.all_eq_true.mp so.ok d hd)).2
    omega
  · obtain ⟨vs', h1, h2⟩ := each_rv eo
    have hp : H (s.heap.objs.size + 1) = none := I.hok.fresh (Nat.le_succ _)
    have hout : out.length ≤ sizeLine := by rw [ho, hlen]; exact hz
    obtain ⟨n, hn⟩ := PyProof.Rows.sortedAll_at s.heap its out.toArray
    refine ⟨.ref (s.heap.objs.size + 1), upd H (s.heap.objs.size + 1) (.lst vs'), I.laid (t' := s.toks) (fun b o q => PyProof.Rows.sortedAll_old q) (Nat.le_succ _) ⟨by rw [h2.length]; exact hout, out, n, h2, hn⟩, rfl, ?_⟩
    · exact k.new A hp q (.lst (.inl upd_same) (h1.mono (A.grow hp).2))
theorem cl_sorted (hu : X.A.units + 64 < cLine) : CalD X (.builtin "sorted") oSorted := ⟨_, call_sortedD hu, fun F G H C xs vs R Q A rx h k => ⟨F, G, C, xs, R, A, rx, h, k⟩⟩
/-- .. a list that may be written -/
def oSortedC : DOs := fun xs C R => ∃ x ds, xs = [x] ∧ lstOf C x = some ds ∧ SortOk ds ∧ ∀ p, C p = none → R (.ref p) (updC C p (.lst (sortD ds)))
def rSortedDC (K : PySem.W.Frag) : List V → Hp → VK → Prop := fun vs H Q => ∃ F G C xs R, Ab K F G H C ∧ RpL K G xs vs ∧ oSortedC xs C R ∧ ToE K F G R Q
theorem call_sortedDC (hu : X.A.units + 64 < cLine) : CallR X (.builtin "sorted") (rSortedDC X.K) := by
  intro pins s σ H vs us Q I r h
  obtain ⟨F, G, C, xs, R, A, rx, ⟨x, ds, rfl, el, so, q⟩, k⟩ := h
  obtain ⟨v, rfl, r1⟩ := rx.one
  obtain ⟨u, rfl, ru⟩ := vals1 r
  obtain ⟨a, as, rfl, ha, ra⟩ := lst_at A r1 el
  obtain rfl : u = Value.ref a := ru
  obtain ⟨its, rv, hl, hz⟩ := I.list (.inl ha)
  have e := rv_each ra rv
  have hlen : ds.length = as.length := ra.length
  refine PySem.W.sorted_data hl.isList e (rv_reads I A.sub e so.ok) so.al so.so (by omega) (fun d hd => ?_) fun out ho eo => ?_
  · have := (okD_lay 50 d (List.all_eq_true.mp so.ok d hd)).2
    omega
  · obtain ⟨vs', h1, h2⟩ := each_rv eo
    have hp : H (s.heap.objs.size + 1) = none := I.hok.fresh (Nat.le_succ _)
    have hout : out.length ≤ sizeLine := by rw [ho, hlen]; exact hz
    obtain ⟨n, hn⟩ := PyProof.Rows.sortedAll_at s.heap its out.toArray
    refine ⟨.ref (s.heap.objs.size + 1), upd H (s.heap.objs.size + 1) (.lst vs'), I.laid (t' := s.toks) (fun b o q => PyProof.Rows.sortedAll_old q) (Nat.le_succ _) ⟨by rw [h2.length]; exact hout, out, n, h2, hn⟩, rfl, ?_⟩
    · exact k.cell A hp (q _ (A.free hp)) (.lst h1)
theorem cl_sortedC (hu : X.A.units + 64 < cLine) : CalD X (.builtin "sorted") oSortedC := ⟨_, call_sortedDC hu, fun F G H C xs vs R Q A rx h k => ⟨F, G, C, xs, R, A, rx, h, k⟩⟩
/-! ### dict of pairs -/
def pairsD : List D → Option (List (Key × D))
  | [] => some []
  | .tup [k, d] :: ds => (keyOf k).bind fun k => (pairsD ds).map ((k, d) :: ·)
  | _ => none
def mergeD (kvs more : List (Key × D)) : List (Key × D) := more.foldl (fun acc kv => putD acc kv.1 kv.2) kvs
def oDictP : DOs := fun xs C R => ∃ x ds kvs, xs = [x] ∧ lstOf C x = some ds ∧ pairsD ds = some kvs ∧ R (.dct (mergeD [] kvs)) C
theorem rp_merge {K : PySem.W.Frag} {G : Hp} : ∀ {more : List (Key × D)} {rs : List (Key × V)} {kvs : List (Key × D)} {vs : List (Key × V)}, RpK K G more rs → RpK K G kvs vs → RpK K G (mergeD kvs more) (mergeK vs rs)
  | [], _, _, _, .nil, h => h
  | _ :: more, _ :: rs, _, _, .cons r t, h => rp_merge (more := more) (rs := rs) t (h.put r)
theorem rp_pairs {K : PySem.W.Frag} {G H : Hp} (s : Same G H) : ∀ {ds : List D} {vs : List V} {kvs : List (Key × D)}, RpL K G ds vs → pairsD ds = some kvs → ∃ ps ks, vs = ps.map V.ref ∧ RpK K G kvs ks ∧ Paired (fun p (kv : Key × V) => SqT K H p [kV kv.1, kv.2]) ps ks
  | _, _, _, .nil, e => by cases e; exact ⟨[], [], rfl, .nil, .nil⟩
  | _, _, kvs, .cons (d := d) r t, e => by
    unfold pairsD at e
    split at e
    · rename_i h1; cases h1
    · rename_i k d' ds' heq
      cases heq
      obtain ⟨kk, hk, e⟩ := Option.bind_eq_some_iff.mp e
      obtain ⟨kvs', hk', rfl⟩ := Option.map_eq_some_iff.mp e
      obtain ⟨ps, ks, rfl, h1, h2⟩ := rp_pairs s t hk'
      cases r with
      | tup hx rx =>
        rename_i a xs
        obtain ⟨v1, v2, rfl, r1, r2⟩ := rx.two
        refine ⟨a :: ps, (kk, v2) :: ks, rfl, .cons r2 h1, .cons ?_ h2⟩
        have := r1.key hk
        subst this
        exact sqT_mono s hx
    · cases e
theorem cl_dictP (hc : X.calm = true) : CalD X (.type "dict") oDictP := by
  refine ⟨_, callR_lock (call_dictP hc), ?_⟩
  intro F G H C xs vs R Q A rx h k
  obtain ⟨x, ds, kvs, rfl, e, ep, q⟩ := h
  obtain ⟨v, rfl, r⟩ := rx.one
  obtain ⟨a, as, rfl, ha, ra⟩ := lst_at A r e
  obtain ⟨ps, ks, rfl, h1, h2⟩ := rp_pairs A.sub ra ep
  refine ⟨a, ps, ks, rfl, .inl ha, h2, fun p hp => .inr ⟨p, _, rfl, upd_same, fun od => ?_⟩⟩
  rw [upd_upd]
  exact k.new A hp q (.dct upd_same ((rp_merge h1 .nil).mono (A.grow hp).2))
end
end DL
/-! DLs: how readings are read: equations for simp. -/
namespace DL
open PySem PySem.Spec L2
open PyProof.Rows hiding St kindOf

/-- no reference, no type -/
def dat : D → Bool
  | .ref _ => false
  | .ty _ => false
  | _ => true
def isIntD : D → Bool
  | .int _ => true
  | .bl _ => true
  | _ => false
def isBlD : D → Bool
  | .bl _ => true
  | _ => false
def isStrD : D → Bool
  | .str _ => true
  | _ => false
def isTupD : D → Bool
  | .tup _ => true
  | _ => false
def isLstD : D → Bool
  | .lst _ => true
  | _ => false
section
variable {C : Cells} {R : D → Cells → Prop} {x y : D}
theorem ex_some {α : Type} {a : α} {P : α → Prop} : (∃ b, some a = some b ∧ P b) = P a := by simp
theorem oIsi_def {t : D} : oIsi [x, t] C R = ∃ b, isiO C x t = some b ∧ R (.bl b) C := propext ⟨by rintro ⟨x', t', b, e, h⟩; cases e; exact ⟨b, h⟩, fun ⟨b, h⟩ => ⟨x, t, b, rfl, h⟩⟩
theorem oLen_def : oLen [x] C R = ∃ n, lenO C x = some n ∧ R (.int (n : Nat)) C := propext ⟨by rintro ⟨x', n, e, h⟩; cases e; exact ⟨n, h⟩, fun ⟨b, h⟩ => ⟨x, b, rfl, h⟩⟩
theorem oAll_def : oAll [x] C R = ∃ ds bs, lstOf C x = some ds ∧ bools ds = some bs ∧ R (.bl (bs.all id)) C := propext ⟨by rintro ⟨x', n, m, e, h⟩; cases e; exact ⟨n, m, h⟩, fun ⟨b, c, h⟩ => ⟨x, b, c, rfl, h⟩⟩
theorem oTuple_def : oTuple [x] C R = match tupOf x with
  | some ds => R (.tup ds) C
  | none => ∃ ds, lstOf C x = some ds ∧ R (.tup ds) C := propext ⟨by rintro ⟨x', e, h⟩; cases e; exact h, fun h => ⟨x, rfl, h⟩⟩
theorem oList_def : oList [x] C R = ∃ ds, seqOf C x = some ds ∧ R (.lst ds) C := propext ⟨by rintro ⟨x', n, e, h⟩; cases e; exact ⟨n, h⟩, fun ⟨b, h⟩ => ⟨x, b, rfl, h⟩⟩
theorem oListC_def : oListC [x] C R = ∃ ds, seqOf C x = some ds ∧ ∀ p, C p = none → R (.ref p) (updC C p (.lst ds)) := propext ⟨by rintro ⟨x', n, e, h⟩; cases e; exact ⟨n, h⟩, fun ⟨b, h⟩ => ⟨x, b, rfl, h⟩⟩
theorem oDict_def : oDict [x] C R = ∃ ds, dctOf C x = some ds ∧ R (.dct ds) C := propext ⟨by rintro ⟨x', n, e, h⟩; cases e; exact ⟨n, h⟩, fun ⟨b, h⟩ => ⟨x, b, rfl, h⟩⟩
theorem oDictC_def : oDictC [x] C R = ∃ ds, dctOf C x = some ds ∧ ∀ p, C p = none → R (.ref p) (updC C p (.dct ds)) := propext ⟨by rintro ⟨x', n, e, h⟩; cases e; exact ⟨n, h⟩, fun ⟨b, h⟩ => ⟨x, b, rfl, h⟩⟩
theorem oDictP_def : oDictP [x] C R = ∃ ds kvs, lstOf C x = some ds ∧ pairsD ds = some kvs ∧ R (.dct (mergeD [] kvs)) C := propext ⟨by rintro ⟨x', n, m, e, h⟩; cases e; exact ⟨n, m, h⟩, fun ⟨b, c, h⟩ => ⟨x, b, c, rfl, h⟩⟩
theorem oSorted_def : oSorted [x] C R = ∃ ds, lstOf C x = some ds ∧ SortOk ds ∧ R (.lst (sortD ds)) C := propext ⟨by rintro ⟨x', n, e, h⟩; cases e; exact ⟨n, h⟩, fun ⟨b, h⟩ => ⟨x, b, rfl, h⟩⟩
theorem oSortedC_def : oSortedC [x] C R = ∃ ds, lstOf C x = some ds ∧ SortOk ds ∧ ∀ p, C p = none → R (.ref p) (updC C p (.lst (sortD ds))) := propext ⟨by rintro ⟨x', n, e, h⟩; cases e; exact ⟨n, h⟩, fun ⟨b, h⟩ => ⟨x, b, rfl, h⟩⟩
theorem oIsi_int (h : dat x = true) : oIsi [x, .ty "int"] C R = R (.bl (isIntD x)) C := by
  cases x <;> first | (simp [oIsi_def, isiO, DL.kindOf, types, isiT, isIntD]; done) | cases h
theorem oIsi_bool (h : dat x = true) : oIsi [x, .ty "bool"] C R = R (.bl (isBlD x)) C := by
  cases x <;> first | (simp [oIsi_def, isiO, DL.kindOf, types, isiT, isBlD]; done) | cases h
theorem oIsi_str (h : dat x = true) : oIsi [x, .ty "str"] C R = R (.bl (isStrD x)) C := by
  cases x <;> first | (simp [oIsi_def, isiO, DL.kindOf, types, isiT, isStrD]; done) | cases h
theorem oIsi_tuple (h : dat x = true) : oIsi [x, .ty "tuple"] C R = R (.bl (isTupD x)) C := by
  cases x <;> first | (simp [oIsi_def, isiO, DL.kindOf, types, isiT, isTupD]; done) | cases h
theorem oIsi_list (h : dat x = true) : oIsi [x, .ty "list"] C R = R (.bl (isLstD x)) C := by
  cases x <;> first | (simp [oIsi_def, isiO, DL.kindOf, types, isiT, isLstD]; done) | cases h
theorem oIsi_listC {p : Addr} {ds : List D} {T : String} (h : C p = some (.lst ds)) (hT : types.contains T = true) : oIsi [.ref p, .ty T] C R = R (.bl (isiT "list" T)) C := by
  rw [oIsi_def]
  have e : isiO C (.ref p) (.ty T) = some (isiT "list" T) := by
    show (if types.contains T = true then (DL.kindOf C (.ref p)).map (fun k => isiT k T) else none) = _
    rw [if_pos hT]
    show ((C p).bind _).map _ = _
    rw [h]; rfl
  rw [e]; simp only [Option.some.injEq, exists_eq_left']
theorem oLen_tup {ds : List D} : oLen [.tup ds] C R = R (.int (ds.length : Nat)) C := by simp [oLen_def, lenO, strOf, tupOf]
theorem oLen_lst {ds : List D} : oLen [.lst ds] C R = R (.int (ds.length : Nat)) C := by simp [oLen_def, lenO, strOf, tupOf, lstOf]
theorem oLen_str {z : Str} (h : z.length ≤ sizeLine) : oLen [.str z] C R = R (.int (z.length : Nat)) C := by simp [oLen_def, lenO, strOf, h]
theorem oLen_ref {p : Addr} {ds : List D} (h : C p = some (.lst ds)) : oLen [.ref p] C R = R (.int (ds.length : Nat)) C := by simp [oLen_def, lenO, strOf, tupOf, lstOf, h, cellLst]
theorem oLen_dct {kvs : List (Key × D)} : oLen [.dct kvs] C R = R (.int (kvs.length : Nat)) C := by simp [oLen_def, lenO, strOf, tupOf, lstOf, dctOf]
theorem oIx_tup {ds : List D} {i : Int} : oIx (.tup ds) (.int i) C R = ∃ d, atI ds i = some d ∧ R d C := by simp [oIx, ixO, dctOf, intOf, strOf, tupOf]
theorem oIx_lst {ds : List D} {i : Int} : oIx (.lst ds) (.int i) C R = ∃ d, atI ds i = some d ∧ R d C := by simp [oIx, ixO, dctOf, intOf, strOf, tupOf, lstOf]
theorem oIx_ref {p : Addr} {ds : List D} {i : Int} (h : C p = some (.lst ds)) : oIx (.ref p) (.int i) C R = ∃ d, atI ds i = some d ∧ R d C := by simp [oIx, ixO, dctOf, intOf, strOf, tupOf, lstOf, h, cellLst, cellDct]
theorem oIx_str {z : Str} {i : Int} (h : z.length ≤ sizeLine) : oIx (.str z) (.int i) C R = ∃ d, (atI z.cps.toList i).map (fun c => D.str ⟨#[c]⟩) = some d ∧ R d C := by simp [oIx, ixO, dctOf, intOf, strOf, h]
theorem oIx_dct {kvs : List (Key × D)} {k : Key} (h : keyOf y = some k) : oIx (.dct kvs) y C R = ∃ d, getK kvs k = some d ∧ R d C := by simp [oIx, ixO, dctOf, h]
theorem oIx_refD {p : Addr} {kvs : List (Key × D)} {k : Key} (h : C p = some (.dct kvs)) (hk : keyOf y = some k) : oIx (.ref p) y C R = ∃ d, getK kvs k = some d ∧ R d C := by simp [oIx, ixO, dctOf, h, hk, cellDct]
theorem oEq_ok (h1 : okD 60 x = true) (h2 : okD 60 y = true) : oEq x y C R = R (.bl (D.eqv x y)) C := by simp [oEq, eqO, h1, h2]
theorem oNe_ok (h1 : okD 60 x = true) (h2 : okD 60 y = true) : oNe x y C R = R (.bl (!D.eqv x y)) C := by simp [oNe, eqO, h1, h2]
theorem oIn_str {i j : Str} : oIn (.str i) (.str j) C R = R (.bl (strIn i j)) C := by simp [oIn, inO, strOf]
theorem oIn_of {b : Bool} (h : inO C x y = some b) : oIn x y C R = R (.bl b) C := by unfold oIn; rw [h]; simp only [Option.some.injEq, exists_eq_left']
theorem oIn_tup {ds : List D} (h1 : flatD x = true) (h2 : ds.all flatD = true) : oIn x (.tup ds) C R = R (.bl (ds.any fun z => D.eqv z x)) C :=
  oIn_of (show (if flatD x = true ∧ ds.all flatD = true then some (ds.any fun z => D.eqv z x) else none) = _ from if_pos ⟨h1, h2⟩)
theorem oIn_lst {ds : List D} (h1 : okD 60 x = true) (h2 : ds.all (okD 60) = true) : oIn x (.lst ds) C R = R (.bl (ds.any fun z => D.eqv z x)) C :=
  oIn_of (show (if okD 60 x = true ∧ ds.all (okD 60) = true then some (ds.any fun z => D.eqv z x) else none) = _ from if_pos ⟨h1, h2⟩)
theorem oIn_ref {p : Addr} {ds : List D} (h : C p = some (.lst ds)) (h1 : okD 60 x = true) (h2 : ds.all (okD 60) = true) : oIn x (.ref p) C R = R (.bl (ds.any fun z => D.eqv z x)) C := by
  refine oIn_of ?_
  have e1 : dctOf C (.ref p) = none := by show (C p).bind cellDct = none; rw [h]; rfl
  have e2 : lstOf C (.ref p) = some ds := by show (C p).bind cellLst = some ds; rw [h]; rfl
  unfold inO
  simp only [strOf, tupOf, e1, e2]
  exact if_pos ⟨h1, h2⟩
theorem oIn_dct {kvs : List (Key × D)} {k : Key} (h : keyOf x = some k) : oIn x (.dct kvs) C R = R (.bl (getK kvs k).isSome) C :=
  oIn_of (show (keyOf x).map (fun k => (getK kvs k).isSome) = _ by rw [h]; rfl)
theorem oIn_refD {p : Addr} {kvs : List (Key × D)} {k : Key} (h : C p = some (.dct kvs)) (hk : keyOf x = some k) : oIn x (.ref p) C R = R (.bl (getK kvs k).isSome) C := by
  refine oIn_of ?_
  have e1 : dctOf C (.ref p) = some kvs := by show (C p).bind cellDct = some kvs; rw [h]; rfl
  unfold inO
  simp only [strOf, e1, hk]
  rfl
theorem oNotIn_eq : oNotIn x y C R = oIn x y C (fun d C => ∃ b, d = .bl b ∧ R (.bl (!b)) C) := by simp [oNotIn, oIn]
theorem oIs_non : oIs x .non C R = R (.bl (isNon x)) C := by cases x <;> rfl
theorem oIsNot_non : oIsNot x .non C R = R (.bl (!isNon x)) C := by cases x <;> rfl
theorem oLe_int {i j : Int} : oLe (.int i) (.int j) C R = R (.bl (decide (i ≤ j))) C := rfl
theorem oLt_int {i j : Int} : oLt (.int i) (.int j) C R = R (.bl (decide (i < j))) C := rfl
theorem oGt_int {i j : Int} : oGt (.int i) (.int j) C R = R (.bl (decide (j < i))) C := rfl
theorem oGe_int {i j : Int} : oGe (.int i) (.int j) C R = R (.bl (decide (j ≤ i))) C := rfl
theorem oLe_str {i j : Str} : oLe (.str i) (.str j) C R = R (.bl (!decide (j.cps.toList < i.cps.toList))) C := rfl
theorem oAdd_int {i j : Int} : oAdd (.int i) (.int j) C R = R (.int (i + j)) C := rfl
theorem oSub_int {i j : Int} : oSub (.int i) (.int j) C R = R (.int (i - j)) C := rfl
theorem oAdd_tup {xs ys : List D} (h : xs.length + ys.length ≤ sizeLine) : oAdd (.tup xs) (.tup ys) C R = R (.tup (xs ++ ys)) C := by simp [oAdd, h]
theorem oAdd_lst {xs ys : List D} (h : xs.length + ys.length ≤ sizeLine) : oAdd (.lst xs) (.lst ys) C R = R (.lst (xs ++ ys)) C := by simp [oAdd, lstOf, h]
theorem oAll_lst {ds : List D} {bs : List Bool} (h : bools ds = some bs) : oAll [.lst ds] C R = R (.bl (bs.all id)) C := by simp [oAll_def, lstOf, h]
theorem bools_map {α : Type} {f : α → Bool} : ∀ xs : List α, bools (xs.map fun x => D.bl (f x)) = some (xs.map f)
  | [] => rfl
  | x :: xs => by simp [bools, bools_map xs]
theorem bl_and {b c : Bool} : (if b = true then R (.bl c) C else R (.bl false) C) = R (.bl (b && c)) C := by cases b <;> simp
theorem bl_or {b c : Bool} : (if b = true then R (.bl true) C else R (.bl c) C) = R (.bl (b || c)) C := by cases b <;> simp
theorem bl_andT {b c : Bool} {R : Bool → Cells → Prop} : (if b = true then R c C else R false C) = R (b && c) C := by cases b <;> simp
theorem bl_orT {b c : Bool} {R : Bool → Cells → Prop} : (if b = true then R true C else R c C) = R (b || c) C := by cases b <;> simp
theorem dTest_def {t : DE} {δ : DSt} {R : Bool → Cells → Prop} : dTest t δ C R = t δ C fun d C1 => ∃ b, d = .bl b ∧ R b C1 := rfl
end
theorem atI_cast {α : Type} (xs : List α) (n : Nat) : atI xs ((n : Nat) : Int) = xs[n]? := by
  unfold atI ixN
  by_cases h : n < xs.length
  · simp [h]
  · simp [h]
theorem atI_0 {α : Type} (xs : List α) : atI xs (0 : Int) = xs[0]? := atI_cast xs 0
theorem atI_1 {α : Type} (xs : List α) : atI xs (1 : Int) = xs[1]? := atI_cast xs 1
theorem atI_2 {α : Type} (xs : List α) : atI xs (2 : Int) = xs[2]? := atI_cast xs 2
theorem atI_3 {α : Type} (xs : List α) : atI xs (3 : Int) = xs[3]? := atI_cast xs 3
theorem atI_m1 {α : Type} (xs : List α) : atI xs (-1 : Int) = xs.getLast? := by
  unfold atI ixN
  cases xs with
  | nil => simp
  | cons x xs =>
    rw [List.getLast?_eq_getElem?]
    have h1 : ¬ (0 : Int) ≤ -1 := by decide
    have h2 : -(((x :: xs).length : Nat) : Int) ≤ -1 := by simp; omega
    rw [if_neg h1, if_pos h2]
    have h3 : (-1 + (((x :: xs).length : Nat) : Int)).toNat = (x :: xs).length - 1 := by omega
    rw [h3]
    rfl

/-! ### loops and comprehensions over what stays -/
/-- a loop over items that stay: Pv by how many are gone through -/
theorem for_fix {ds : List D} {g : DG} {tb : DS} {N : DEnds} {δ : DSt} {C : Cells} (Pv : Nat → DSt → Cells → Prop) (h0 : Pv 0 δ C)
    (hs : ∀ i d δ C, ds[i]? = some d → Pv i δ C → g d δ C fun δ2 C2 => tb { N with nx := Pv (i + 1), ct := Pv (i + 1), bk := N.nx } δ2 C2) (hd : ∀ δ C, Pv ds.length δ C → N.nx δ C) :
    ∃ W : Nat → Nat → DSt → Cells → Prop, (∃ m, W 0 m δ C) ∧ ∀ i m δ C, W i m δ C →
      ((itFix ds).stop i C ∧ N.nx δ C) ∨ ((itFix ds).go i C ∧ ∃ Nx : DSt → Cells → Prop, (∀ δ' C', Nx δ' C' → ∃ m', m' < m ∧ W (i + 1) m' δ' C') ∧ ∀ d, (itFix ds).yld i C d → g d δ C fun δ2 C2 => tb { N with nx := Nx, ct := Nx, bk := N.nx } δ2 C2) := by
  refine ⟨fun i m δ C => m = ds.length - i ∧ i ≤ ds.length ∧ Pv i δ C, ⟨ds.length, by simp, Nat.zero_le _, h0⟩, ?_⟩
  rintro i m δ C ⟨rfl, hi, p⟩
  by_cases hlt : i < ds.length
  · exact .inr ⟨hlt, Pv (i + 1), fun δ' C' p' => ⟨ds.length - (i + 1), by omega, rfl, hlt, p'⟩, fun d y => hs i d δ C y p⟩
  · have e : i = ds.length := by omega
    subst e
    exact .inl ⟨Nat.le_refl _, hd δ C p⟩
/-- .. over a range -/
theorem for_rng {lo : Int} {n : Nat} {g : DG} {tb : DS} {N : DEnds} {δ : DSt} {C : Cells} (Pv : Nat → DSt → Cells → Prop) (h0 : Pv 0 δ C)
    (hs : ∀ i δ C, i < n → Pv i δ C → g (.int (lo + i)) δ C fun δ2 C2 => tb { N with nx := Pv (i + 1), ct := Pv (i + 1), bk := N.nx } δ2 C2) (hd : ∀ δ C, Pv n δ C → N.nx δ C) :
    ∃ W : Nat → Nat → DSt → Cells → Prop, (∃ m, W 0 m δ C) ∧ ∀ i m δ C, W i m δ C →
      ((itRng lo n).stop i C ∧ N.nx δ C) ∨ ((itRng lo n).go i C ∧ ∃ Nx : DSt → Cells → Prop, (∀ δ' C', Nx δ' C' → ∃ m', m' < m ∧ W (i + 1) m' δ' C') ∧ ∀ d, (itRng lo n).yld i C d → g d δ C fun δ2 C2 => tb { N with nx := Nx, ct := Nx, bk := N.nx } δ2 C2) := by
  refine ⟨fun i m δ C => m = n - i ∧ i ≤ n ∧ Pv i δ C, ⟨n, by simp, Nat.zero_le _, h0⟩, ?_⟩
  rintro i m δ C ⟨rfl, hi, p⟩
  by_cases hlt : i < n
  · refine .inr ⟨hlt, Pv (i + 1), fun δ' C' p' => ⟨n - (i + 1), by omega, rfl, hlt, p'⟩, fun d y => ?_⟩
    have y : d = .int (lo + i) := y
    subst y
    exact hs i δ C hlt p
  · have e : i = n := by omega
    subst e
    exact .inl ⟨Nat.le_refl _, hd δ C p⟩
/-- enumerate of what stays -/
theorem for_enum {x : D} {ds : List D} (hx : ∀ C, seqOf C x = some ds) {g : DG} {tb : DS} {N : DEnds} {δ : DSt} {C : Cells} (Pv : Nat → DSt → Cells → Prop) (h0 : Pv 0 δ C)
    (hs : ∀ i d δ C, ds[i]? = some d → Pv i δ C → g (.tup [.int (i : Nat), d]) δ C fun δ2 C2 => tb { N with nx := Pv (i + 1), ct := Pv (i + 1), bk := N.nx } δ2 C2) (hd : ∀ δ C, Pv ds.length δ C → N.nx δ C) :
    ∃ W : Nat → Nat → DSt → Cells → Prop, (∃ m, W 0 m δ C) ∧ ∀ i m δ C, W i m δ C →
      ((itEnum x).stop i C ∧ N.nx δ C) ∨ ((itEnum x).go i C ∧ ∃ Nx : DSt → Cells → Prop, (∀ δ' C', Nx δ' C' → ∃ m', m' < m ∧ W (i + 1) m' δ' C') ∧ ∀ d, (itEnum x).yld i C d → g d δ C fun δ2 C2 => tb { N with nx := Nx, ct := Nx, bk := N.nx } δ2 C2) := by
  refine ⟨fun i m δ C => m = ds.length - i ∧ i ≤ ds.length ∧ Pv i δ C, ⟨ds.length, by simp, Nat.zero_le _, h0⟩, ?_⟩
  rintro i m δ C ⟨rfl, hi, p⟩
  by_cases hlt : i < ds.length
  · refine .inr ⟨⟨ds, ds[i], hx C, List.getElem?_eq_getElem hlt⟩, Pv (i + 1), fun δ' C' p' => ⟨ds.length - (i + 1), by omega, rfl, hlt, p'⟩, fun d y => ?_⟩
    obtain ⟨es, e, h1, h2, rfl⟩ := y
    rw [hx C] at h1; cases h1
    exact hs i e δ C h2 p
  · have e : i = ds.length := by omega
    subst e
    exact .inl ⟨⟨ds, hx C, Nat.le_refl _⟩, hd δ C p⟩
/-- zip of what stays -/
theorem for_zip {x y : D} {ds es : List D} (hx : ∀ C, seqOf C x = some ds) (hy : ∀ C, seqOf C y = some es) (hl : ds.length = es.length) {g : DG} {tb : DS} {N : DEnds} {δ : DSt} {C : Cells} (Pv : Nat → DSt → Cells → Prop) (h0 : Pv 0 δ C)
    (hs : ∀ i d e δ C, ds[i]? = some d → es[i]? = some e → Pv i δ C → g (.tup [d, e]) δ C fun δ2 C2 => tb { N with nx := Pv (i + 1), ct := Pv (i + 1), bk := N.nx } δ2 C2) (hd : ∀ δ C, Pv ds.length δ C → N.nx δ C) :
    ∃ W : Nat → Nat → DSt → Cells → Prop, (∃ m, W 0 m δ C) ∧ ∀ i m δ C, W i m δ C →
      ((itZip x y).stop i C ∧ N.nx δ C) ∨ ((itZip x y).go i C ∧ ∃ Nx : DSt → Cells → Prop, (∀ δ' C', Nx δ' C' → ∃ m', m' < m ∧ W (i + 1) m' δ' C') ∧ ∀ d, (itZip x y).yld i C d → g d δ C fun δ2 C2 => tb { N with nx := Nx, ct := Nx, bk := N.nx } δ2 C2) := by
  refine ⟨fun i m δ C => m = ds.length - i ∧ i ≤ ds.length ∧ Pv i δ C, ⟨ds.length, by simp, Nat.zero_le _, h0⟩, ?_⟩
  rintro i m δ C ⟨rfl, hi, p⟩
  by_cases hlt : i < ds.length
  · refine .inr ⟨⟨ds, es, ds[i], es[i], hx C, hy C, List.getElem?_eq_getElem hlt, List.getElem?_eq_getElem (by omega)⟩, Pv (i + 1), fun δ' C' p' => ⟨ds.length - (i + 1), by omega, rfl, hlt, p'⟩, fun d yy => ?_⟩
    obtain ⟨as, bs, d', e', h1, h2, h3, h4, rfl⟩ := yy
    rw [hx C] at h1; cases h1
    rw [hy C] at h2; cases h2
    exact hs i d' e' δ C h3 h4 p
  · have e : i = ds.length := by omega
    subst e
    exact .inl ⟨⟨ds, es, hx C, hy C, .inl (Nat.le_refl _)⟩, hd δ C p⟩
theorem fm_step {f : D → Option D} {ds : List D} {i : Nat} {d : D} (h : ds[i]? = some d) : (ds.take (i + 1)).filterMap f = (ds.take i).filterMap f ++ (f d).toList := by
  rw [List.take_succ, h, List.filterMap_append]
  cases e : f d <;> simp [e]
/-- a comprehension by an invariant of the list so far -/
theorem lc_inv {J : DIt} {n : Nat} {fin : List D → Cells → Prop} {gd : DG} {tt : DT} {te : DE} {δ : DSt} {C : Cells} (Pv : Nat → List D → Cells → Prop) (hgo : ∀ i C, i < n → J.go i C) (hst : ∀ C, J.stop n C) (h0 : Pv 0 [] C)
    (hs : ∀ (i : Nat) (d : D) acc C, i < n → J.yld i C d → Pv i acc C → gd d δ C fun δ2 C2 => tt δ2 C2 fun b C3 => if b = true then te δ2 C3 fun y C4 => acc.length < sizeLine ∧ Pv (i + 1) (acc ++ [y]) C4 else Pv (i + 1) acc C3)
    (hd : ∀ acc C, Pv n acc C → fin acc C) : dLcW fin J C gd tt te δ := by
  refine ⟨fun i m acc C => m = n - i ∧ i ≤ n ∧ Pv i acc C, ⟨n, by simp, Nat.zero_le _, h0⟩, ?_⟩
  rintro i m acc C ⟨rfl, hi, p⟩
  by_cases hlt : i < n
  · exact .inr ⟨hgo i C hlt, Pv (i + 1), fun acc' C' p' => ⟨n - (i + 1), by omega, rfl, hlt, p'⟩, fun d y => hs i d acc C hlt y p⟩
  · have e : i = n := by omega
    subst e
    exact .inl ⟨hst C, hd acc C p⟩
/-- a comprehension over what stays, its test and element without a trace: f says what comes of each item -/
theorem lc_fix {ds : List D} {fin : List D → Cells → Prop} {gd : DG} {tt : DT} {te : DE} {δ : DSt} {C : Cells} (f : D → Option D) (hl : ds.length ≤ sizeLine)
    (hs : ∀ (i : Nat) (d : D), ds[i]? = some d → ∀ K : Option D → Cells → Prop, K (f d) C → gd d δ C fun δ2 C2 => tt δ2 C2 fun b C3 => if b = true then te δ2 C3 fun y C4 => K (some y) C4 else K none C3) (hd : fin (ds.filterMap f) C) :
    dLcW fin (itFix ds) C gd tt te δ := by
  refine lc_inv (n := ds.length) (fun i acc C' => C' = C ∧ acc = (ds.take i).filterMap f) (fun i _ h => h) (fun _ => Nat.le_refl _) ⟨rfl, by simp⟩ (fun i d acc C' hi y => ?_) (fun acc C' => ?_)
  · rintro ⟨rfl, rfl⟩
    have y : ds[i]? = some d := y
    have hlen : ((ds.take i).filterMap f).length < sizeLine := by
      refine Nat.lt_of_le_of_lt (List.length_filterMap_le _ _) ?_
      rw [List.length_take]
      omega
    refine hs i d y (fun o c => match o with
      | some y => ((ds.take i).filterMap f).length < sizeLine ∧ c = C' ∧ (ds.take i).filterMap f ++ [y] = (ds.take (i + 1)).filterMap f
      | none => c = C' ∧ (ds.take i).filterMap f = (ds.take (i + 1)).filterMap f) ?_
    cases e : f d with
    | some z => exact ⟨hlen, rfl, by rw [fm_step y, e]; rfl⟩
    | none => exact ⟨rfl, by rw [fm_step y, e]; simp⟩
  · rintro ⟨rfl, rfl⟩
    rw [List.take_length]
    exact hd
theorem fm_map {f : D → D} (ds : List D) : ds.filterMap (fun d => some (f d)) = ds.map f := by simp
theorem fm_filter {p : D → Bool} {f : D → D} (ds : List D) : ds.filterMap (fun d => if p d = true then some (f d) else none) = (ds.filter p).map f := by
  induction ds with
  | nil => rfl
  | cons d ds ih => cases e : p d <;> simp [e, ih]
theorem lc_map {ds : List D} {fin : List D → Cells → Prop} {gd : DG} {te : DE} {δ : DSt} {C : Cells} (f : D → D) (hl : ds.length ≤ sizeLine)
    (hs : ∀ d, d ∈ ds → ∀ K : D → Cells → Prop, K (f d) C → gd d δ C fun δ2 C2 => te δ2 C2 K) (hd : fin (ds.map f) C) : dLcW fin (itFix ds) C gd dYes te δ := by
  refine lc_fix (fun d => some (f d)) hl (fun i d hi K hK => ?_) (by rw [fm_map]; exact hd)
  simp only [dYes, if_true]
  exact hs d (List.mem_of_getElem? hi) (fun y c => K (some y) c) hK
theorem lc_all {ds : List D} {gd : DG} {te : DE} {δ : DSt} {C : Cells} {R : D → Cells → Prop} (p : D → Bool) (hl : ds.length ≤ sizeLine)
    (hs : ∀ d, d ∈ ds → ∀ K : D → Cells → Prop, K (.bl (p d)) C → gd d δ C fun δ2 C2 => te δ2 C2 K) (hd : R (.bl (ds.all p)) C) : dLcW (fun acc C => oAll [.lst acc] C R) (itFix ds) C gd dYes te δ := by
  refine lc_map (fun d => .bl (p d)) hl hs ?_
  rw [oAll_lst (bools_map ds)]
  have : (ds.map p).all id = ds.all p := by rw [List.all_map]; rfl
  rw [this]
  exact hd
theorem lc_filter {ds : List D} {fin : List D → Cells → Prop} {gd : DG} {tt : DT} {te : DE} {δ : DSt} {C : Cells} (p : D → Bool) (f : D → D) (hl : ds.length ≤ sizeLine)
    (hs : ∀ d, d ∈ ds → ∀ K : Option D → Cells → Prop, K (if p d = true then some (f d) else none) C → gd d δ C fun δ2 C2 => tt δ2 C2 fun b C3 => if b = true then te δ2 C3 fun y C4 => K (some y) C4 else K none C3)
    (hd : fin ((ds.filter p).map f) C) : dLcW fin (itFix ds) C gd tt te δ :=
  lc_fix (fun d => if p d = true then some (f d) else none) hl (fun i d hi K hK => hs d (List.mem_of_getElem? hi) K hK) (by rw [fm_filter]; exact hd)
theorem cutL_drop {α : Type} (xs : List α) (k : Nat) : cutL xs (some (k : Int)) none = xs.drop k := by
  unfold cutL
  rw [HT.sIx_nat, HT.sIx_none]
  by_cases h : k ≤ xs.length
  · rw [Nat.min_eq_left h, List.take_of_length_le (by rw [List.length_drop]; omega)]
  · rw [Nat.min_eq_right (by omega), List.drop_eq_nil_of_le (Nat.le_refl _), List.drop_eq_nil_of_le (by omega), List.take_nil]
theorem cutL_take {α : Type} (xs : List α) (k : Nat) : cutL xs none (some (k : Int)) = xs.take k := by
  unfold cutL
  rw [HT.sIx_nat, HT.sIx_none, Nat.sub_zero, List.drop_zero]
  by_cases h : k ≤ xs.length
  · rw [Nat.min_eq_left h]
  · rw [Nat.min_eq_right (by omega), List.take_of_length_le (Nat.le_refl _), List.take_of_length_le (by omega)]
theorem cutL_1 {α : Type} (xs : List α) : cutL xs (some (1 : Int)) none = xs.drop 1 := cutL_drop xs 1
theorem slOk_tup {C : Cells} {ds : List D} {lo hi : Option Int} : slOk C (.tup ds) lo hi = some (.tup (cutL ds lo hi)) := rfl
theorem itOf_tup {C : Cells} {ds : List D} : itOf C (.tup ds) = some (itFix ds) := rfl
theorem itOf_lst {C : Cells} {ds : List D} : itOf C (.lst ds) = some (itFix ds) := rfl
theorem itOf_str {C : Cells} {z : Str} : itOf C (.str z) = some (itFix (chars z)) := rfl
theorem itOf_dct {C : Cells} {kvs : List (Key × D)} : itOf C (.dct kvs) = some (itFix (kvs.map fun kv => keyD kv.1)) := rfl
end DL
namespace DL
open PySem PySem.Spec L2
open PyProof.Rows hiding St kindOf
/-- a loop over what is walked, its body still folded -/
def LoopG (J : DIt) (g : DG) (tb : DS) (N : DEnds) (δ : DSt) (C : Cells) : Prop := ∃ W : Nat → Nat → DSt → Cells → Prop, (∃ m, W 0 m δ C) ∧ ∀ i m δ C, W i m δ C →
  (J.stop i C ∧ N.nx δ C) ∨ (J.go i C ∧ ∃ Nx : DSt → Cells → Prop, (∀ δ' C', Nx δ' C' → ∃ m', m' < m ∧ W (i + 1) m' δ' C') ∧ ∀ d, J.yld i C d → g d δ C fun δ2 C2 => tb { N with nx := Nx, ct := Nx, bk := N.nx } δ2 C2)
theorem dFor_eq {wi : DI} {g : DG} {tb : DS} {N : DEnds} {δ : DSt} {C : Cells} : dFor wi g tb N δ C = wi δ C fun J C1 => LoopG J g tb N δ C1 := rfl
section
variable {C : Cells} {p q : Addr} {c c' : Cell} {ds : List D} {kvs : List (Key × D)} {R : D → Cells → Prop} {x y : D}
theorem updC_at : updC C p c p = some c := by simp [updC]
theorem updC_comm (h : q ≠ p) : updC (updC C p c) q c' = updC (updC C q c') p c := by
  funext a; unfold updC; split <;> split <;> simp_all
theorem lstOf_upd : lstOf (updC C p (.lst ds)) (.ref p) = some ds := by simp [lstOf, updC_at, cellLst]
theorem dctOf_upd : dctOf (updC C p (.dct kvs)) (.ref p) = some kvs := by simp [dctOf, updC_at, cellDct]
theorem lstOf_at (h : C p = some (.lst ds)) : lstOf C (.ref p) = some ds := by simp [lstOf, h, cellLst]
theorem dctOf_at (h : C p = some (.dct kvs)) : dctOf C (.ref p) = some kvs := by simp [dctOf, h, cellDct]
theorem dctOf_dct : dctOf C (.dct kvs) = some kvs := rfl
theorem lstOf_lst : lstOf C (.lst ds) = some ds := rfl
theorem isLst_upd : isLst (updC C p (.lst ds)) (.ref p) = True := by unfold isLst; rw [lstOf_upd]; simp
theorem frz_upd (h : C p = none) : frzO (updC C p (.lst ds)) (.ref p) = some (.lst ds, C) := by
  unfold frzO; simp only [updC_at]; rw [delC_upd h]
theorem frz_updD (h : C p = none) : frzO (updC C p (.dct kvs)) (.ref p) = some (.dct kvs, C) := by
  unfold frzO; simp only [updC_at]; rw [delC_upd h]
theorem app_upd {d : D} : omAppend (.ref p) [d] (updC C p (.lst ds)) R = (ds.length < sizeLine ∧ R .non (updC C p (.lst (ds ++ [d])))) := propext ⟨by
  rintro ⟨p', ds', d', e1, e2, e3, h1, h2⟩
  cases e1; cases e2
  rw [updC_at] at e3
  cases e3
  rw [updC_upd] at h2
  exact ⟨h1, h2⟩, fun ⟨h1, h2⟩ => ⟨p, ds, d, rfl, rfl, updC_at, h1, by rw [updC_upd]; exact h2⟩⟩
theorem app_at {d : D} (h : C p = some (.lst ds)) (hl : ds.length < sizeLine) (k : R .non (updC C p (.lst (ds ++ [d])))) : omAppend (.ref p) [d] C R := ⟨p, ds, d, rfl, rfl, h, hl, k⟩
theorem ext_upd {d : D} {es : List D} (h : lstOf (updC C p (.lst ds)) d = some es) (hl : ds.length + es.length ≤ sizeLine) (k : R .non (updC C p (.lst (ds ++ es)))) : omExtend (.ref p) [d] (updC C p (.lst ds)) R :=
  ⟨p, ds, d, es, rfl, rfl, updC_at, h, hl, by rw [updC_upd]; exact k⟩
theorem gdCons_cons {t : DG} {u : DGs} {d : D} {r : List D} {δ : DSt} {R : DSt → Cells → Prop} : gdCons t u (d :: r) δ C R = t d δ C fun δ' C' => u r δ' C' R := propext ⟨by
  rintro ⟨d', r', e, h⟩
  cases e
  exact h, fun h => ⟨d, r, rfl, h⟩⟩
theorem gdNil_nil {δ : DSt} {R : DSt → Cells → Prop} : gdNil [] δ C R = R δ C := by simp [gdNil]
theorem gdTup_tup {n : Nat} {t : DGs} {δ : DSt} {R : DSt → Cells → Prop} : gdTup n t (.tup ds) δ C R = (ds.length = n ∧ t ds δ C R) := by simp [gdTup, tupOf]
theorem gdUnl_lst {n : Nat} {t : DGs} {δ : DSt} {R : DSt → Cells → Prop} : gdUnl n t (.lst ds) δ C R = (ds.length = n ∧ t ds δ C R) := by simp [gdUnl, tupOf, lstOf]
end
theorem oEq_int {i j : Int} {C : Cells} {R : D → Cells → Prop} : oEq (.int i) (.int j) C R = R (.bl (decide (i = j))) C := by
  rw [oEq_ok rfl rfl]
  have : D.eqv (.int i) (.int j) = decide (i = j) := by show (i == j) = _; rw [Bool.eq_iff_iff, beq_iff_eq, decide_eq_true_eq]
  rw [this]
theorem oNe_int {i j : Int} {C : Cells} {R : D → Cells → Prop} : oNe (.int i) (.int j) C R = R (.bl (!decide (i = j))) C := by
  rw [oNe_ok rfl rfl]
  have : D.eqv (.int i) (.int j) = decide (i = j) := by show (i == j) = _; rw [Bool.eq_iff_iff, beq_iff_eq, decide_eq_true_eq]
  rw [this]
theorem oEq_bl {i j : Bool} {C : Cells} {R : D → Cells → Prop} : oEq (.bl i) (.bl j) C R = R (.bl (i == j)) C := by
  rw [oEq_ok rfl rfl]
  rfl
theorem ex_two {a b : D} {P : D → D → Prop} : (∃ v w, [a, b] = [v, w] ∧ P v w) = P a b := propext ⟨by
  rintro ⟨v, w, e, h⟩
  cases e
  exact h, fun h => ⟨a, b, rfl, h⟩⟩
theorem ex_three {a b c : D} {P : D → D → D → Prop} : (∃ u v w, [a, b, c] = [u, v, w] ∧ P u v w) = P a b c := propext ⟨by
  rintro ⟨u, v, w, e, h⟩
  cases e
  exact h, fun h => ⟨a, b, c, rfl, h⟩⟩
theorem sz_0 : (0 ≤ sizeLine) = True := by rw [sizeLine_eq]; simp
theorem sl_0 : (0 < sizeLine) = True := by rw [sizeLine_eq]; simp
theorem sz_1 : (1 ≤ sizeLine) = True := by rw [sizeLine_eq]; simp
theorem sl_1 : (1 < sizeLine) = True := by rw [sizeLine_eq]; simp
theorem sz_2 : (2 ≤ sizeLine) = True := by rw [sizeLine_eq]; simp
theorem sl_2 : (2 < sizeLine) = True := by rw [sizeLine_eq]; simp
theorem sz_3 : (3 ≤ sizeLine) = True := by rw [sizeLine_eq]; simp
theorem sl_3 : (3 < sizeLine) = True := by rw [sizeLine_eq]; simp
theorem sz_4 : (4 ≤ sizeLine) = True := by rw [sizeLine_eq]; simp
theorem sl_4 : (4 < sizeLine) = True := by rw [sizeLine_eq]; simp
theorem sz_5 : (5 ≤ sizeLine) = True := by rw [sizeLine_eq]; simp
theorem sl_5 : (5 < sizeLine) = True := by rw [sizeLine_eq]; simp
theorem sz_6 : (6 ≤ sizeLine) = True := by rw [sizeLine_eq]; simp
theorem sl_6 : (6 < sizeLine) = True := by rw [sizeLine_eq]; simp
theorem sz_7 : (7 ≤ sizeLine) = True := by rw [sizeLine_eq]; simp
theorem sl_7 : (7 < sizeLine) = True := by rw [sizeLine_eq]; simp
theorem sz_8 : (8 ≤ sizeLine) = True := by rw [sizeLine_eq]; simp
theorem sl_8 : (8 < sizeLine) = True := by rw [sizeLine_eq]; simp
theorem sz_9 : (9 ≤ sizeLine) = True := by rw [sizeLine_eq]; simp
theorem sl_9 : (9 < sizeLine) = True := by rw [sizeLine_eq]; simp
theorem sz_10 : (10 ≤ sizeLine) = True := by rw [sizeLine_eq]; simp
theorem sl_10 : (10 < sizeLine) = True := by rw [sizeLine_eq]; simp
theorem sz_11 : (11 ≤ sizeLine) = True := by rw [sizeLine_eq]; simp
theorem sl_11 : (11 < sizeLine) = True := by rw [sizeLine_eq]; simp
theorem sz_12 : (12 ≤ sizeLine) = True := by rw [sizeLine_eq]; simp
theorem sl_12 : (12 < sizeLine) = True := by rw [sizeLine_eq]; simp
theorem sz_13 : (13 ≤ sizeLine) = True := by rw [sizeLine_eq]; simp
theorem sl_13 : (13 < sizeLine) = True := by rw [sizeLine_eq]; simp
theorem sz_14 : (14 ≤ sizeLine) = True := by rw [sizeLine_eq]; simp
theorem sl_14 : (14 < sizeLine) = True := by rw [sizeLine_eq]; simp
end DL
namespace RR
open PySem PySem.Spec L2 DL
open PyProof.Rows hiding St
def t_is_number : DS := dRet (dAndV (dFn oIsi (dCons (dVar 0) (dCons (dC (.ty "int")) (dNil)))) (dAndV (dNotV (dFn oIsi (dCons (dVar 0) (dCons (dC (.ty "bool")) (dNil))))) (dChain oLe oLe (dVar 1) (dVar 0) (dVar 2))))
def t_is_word : DS := dSeq (dIfS (dOr (dNot (dTest (dFn oIsi (dCons (dVar 0) (dCons (dC (.ty "str")) (dNil)))))) (dNot (dTest (dChain oLe oLe (dC (.int 1)) (dFn oLen (dCons (dVar 0) (dNil))) (dC (.int 4)))))) (dRet (dC (.bl false))) (dNext)) (dRet (dFn oAll (dCons (dLc (diSeq (dVar 0)) (gdName 1) (dYes) (dOp oIn (dVar 1) (dC (.str "abcdefghijklmnopqrstuvwxyz"))) [1]) (dNil))))
def t_is_worth (a_is_word : ASp) (a_is_number : ASp) : DS := dRet (dOrV (dCall a_is_word [] (dCons (dVar 0) (dNil))) (dCall a_is_number [] (dCons (dVar 0) (dCons (dOp oSub (dC (.int 0)) (dC (.int 99))) (dCons (dC (.int 99)) (dNil))))))
def t_is_blank : DS := dRet (dAndV (dFn oIsi (dCons (dVar 0) (dCons (dC (.ty "str")) (dNil)))) (dAndV (dOp oEq (dFn oLen (dCons (dVar 0) (dNil))) (dC (.int 1))) (dOp oIn (dVar 0) (dC (.str "ABCDEFGHIJKLMNOPQRSTUVWXYZ")))))
def t_is_thing (a_is_word : ASp) (a_is_worth : ASp) : DS := dSeq (dIfS (dOr (dNot (dTest (dFn oIsi (dCons (dVar 0) (dCons (dC (.ty "tuple")) (dNil)))))) (dOr (dNot (dTest (dChain oLe oLe (dC (.int 1)) (dFn oLen (dCons (dVar 0) (dNil))) (dC (.int 5))))) (dNot (dTest (dCall a_is_word [] (dCons (dOp oIx (dVar 0) (dC (.int 0))) (dNil))))))) (dRet (dC (.bl false))) (dNext)) (dRet (dFn oAll (dCons (dLc (diSeq (dSlice (dVar 0) (dPart (dC (.int 1))) (dNoPart))) (gdName 1) (dYes) (dCall a_is_worth [] (dCons (dVar 1) (dNil))) [1]) (dNil))))
def t_is_pattern (a_is_word : ASp) (a_is_worth : ASp) (a_is_blank : ASp) : DS := dSeq (dIfS (dOr (dNot (dTest (dFn oIsi (dCons (dVar 0) (dCons (dC (.ty "tuple")) (dNil)))))) (dOr (dNot (dTest (dChain oLe oLe (dC (.int 1)) (dFn oLen (dCons (dVar 0) (dNil))) (dC (.int 5))))) (dNot (dTest (dCall a_is_word [] (dCons (dOp oIx (dVar 0) (dC (.int 0))) (dNil))))))) (dRet (dC (.bl false))) (dNext)) (dRet (dFn oAll (dCons (dLc (diSeq (dSlice (dVar 0) (dPart (dC (.int 1))) (dNoPart))) (gdName 1) (dYes) (dOrV (dCall a_is_worth [] (dCons (dVar 1) (dNil))) (dOrV (dCall a_is_blank [] (dCons (dVar 1) (dNil))) (dAndV (dFn oIsi (dCons (dVar 1) (dCons (dC (.ty "str")) (dNil)))) (dOp oEq (dVar 1) (dC (.str "_")))))) [1]) (dNil))))
def t_need_things (a_is_thing : ASp) : DS := dSeq (dIfS (dNot (dTest (dFn oIsi (dCons (dVar 0) (dCons (dC (.ty "list")) (dNil)))))) (dNever) (dNext)) (dFor (diEnum (dCons (dVar 0) (dNil))) (gdTup 2 (gdCons (gdName 1) (gdCons (gdName 2) (gdNil)))) (dIfS (dOr (dTest (dOp oEq (dVar 1) (dC (.int 30)))) (dNot (dTest (dCall a_is_thing [] (dCons (dVar 2) (dNil)))))) (dNever) (dNext)))
def t_are_same : DS := dRet (dAndV (dOp oEq (dFn oIsi (dCons (dVar 0) (dCons (dC (.ty "str")) (dNil)))) (dFn oIsi (dCons (dVar 1) (dCons (dC (.ty "str")) (dNil))))) (dOp oEq (dVar 0) (dVar 1)))
def t_is_alike : DS := dRet (dAndV (dOp oEq (dOp oIx (dVar 0) (dC (.int 0))) (dOp oIx (dVar 1) (dC (.int 0)))) (dOp oEq (dFn oLen (dCons (dVar 0) (dNil))) (dFn oLen (dCons (dVar 1) (dNil)))))
def t_fitted (a_is_alike : ASp) (a_is_blank : ASp) (a_are_same : ASp) : DS := dSeq (dIfS (dNot (dTest (dCall a_is_alike [] (dCons (dVar 0) (dCons (dVar 1) (dNil)))))) (dRet (dC .non)) (dNext)) (dSeq (dAsg (dFn oDictC (dCons (dVar 2) (dNil))) (gdName 3)) (dSeq (dFor (diZip (dCons (dSlice (dVar 0) (dPart (dC (.int 1))) (dNoPart)) (dCons (dSlice (dVar 1) (dPart (dC (.int 1))) (dNoPart)) (dNil)))) (gdTup 2 (gdCons (gdName 4) (gdCons (gdName 5) (gdNil)))) (dIfS (dTest (dCall a_is_blank [] (dCons (dVar 4) (dNil)))) (dIfS (dNot (dTest (dCall a_are_same [] (dCons (dSetd (dVar 3) (dVar 4) (dVar 5)) (dCons (dVar 5) (dNil)))))) (dRet (dC .non)) (dNext)) (dIfS (dAnd (dTest (dOp oNe (dVar 4) (dC (.str "_")))) (dNot (dTest (dCall a_are_same [] (dCons (dVar 4) (dCons (dVar 5) (dNil))))))) (dRet (dC .non)) (dNext)))) (dRet (dFrz (dVar 3)))))
def t_blanks_of (a_is_blank : ASp) : DS := dRet (dLc (diSeq (dSlice (dVar 0) (dPart (dC (.int 1))) (dNoPart))) (gdName 1) (dTest (dCall a_is_blank [] (dCons (dVar 1) (dNil)))) (dVar 1) [1])
def t_is_side (a_is_worth : ASp) (a_is_blank : ASp) : DS := dRet (dOrV (dCall a_is_worth [] (dCons (dVar 0) (dNil))) (dAndV (dCall a_is_blank [] (dCons (dVar 0) (dNil))) (dOp oIn (dVar 0) (dVar 1))))
def t_is_want (a_is_pattern : ASp) (a_is_side : ASp) : DS := dSeq (dIfS (dOr (dNot (dTest (dFn oIsi (dCons (dVar 0) (dCons (dC (.ty "tuple")) (dNil)))))) (dOr (dTest (dOp oEq (dVar 0) (dTup (dNil)))) (dNot (dTest (dFn oIsi (dCons (dOp oIx (dVar 0) (dC (.int 0))) (dCons (dC (.ty "str")) (dNil)))))))) (dRet (dC (.bl false))) (dNext)) (dSeq (dIfS (dTest (dOp oIn (dOp oIx (dVar 0) (dC (.int 0))) (dTup (dCons (dC (.str "is")) (dCons (dC (.str "not")) (dNil)))))) (dRet (dAndV (dOp oEq (dFn oLen (dCons (dVar 0) (dNil))) (dC (.int 2))) (dCall a_is_pattern [] (dCons (dOp oIx (dVar 0) (dC (.int 1))) (dNil))))) (dNext)) (dRet (dAndV (dOp oIn (dOp oIx (dVar 0) (dC (.int 0))) (dC (.tup [(.str "less"), (.str "same"), (.str "unlike")]))) (dAndV (dOp oEq (dFn oLen (dCons (dVar 0) (dNil))) (dC (.int 3))) (dFn oAll (dCons (dLc (diSeq (dSlice (dVar 0) (dPart (dC (.int 1))) (dNoPart))) (gdName 2) (dYes) (dCall a_is_side [] (dCons (dVar 2) (dCons (dVar 1) (dNil)))) [2]) (dNil)))))))
def t_is_template (a_is_word : ASp) (a_is_blank : ASp) (a_is_number : ASp) (a_is_side : ASp) : DS := dSeq (dIfS (dOr (dNot (dTest (dFn oIsi (dCons (dVar 0) (dCons (dC (.ty "tuple")) (dNil)))))) (dOr (dNot (dTest (dChain oLe oLe (dC (.int 1)) (dFn oLen (dCons (dVar 0) (dNil))) (dC (.int 5))))) (dNot (dTest (dCall a_is_word [] (dCons (dOp oIx (dVar 0) (dC (.int 0))) (dNil))))))) (dRet (dC (.bl false))) (dNext)) (dSeq (dFor (diSeq (dSlice (dVar 0) (dPart (dC (.int 1))) (dNoPart))) (gdName 2) (dIfS (dTest (dFn oIsi (dCons (dVar 2) (dCons (dC (.ty "tuple")) (dNil))))) (dSeq (dIfS (dOr (dTest (dOp oNe (dFn oLen (dCons (dVar 2) (dNil))) (dC (.int 2)))) (dOr (dNot (dTest (dCall a_is_blank [] (dCons (dOp oIx (dVar 2) (dC (.int 0))) (dNil))))) (dTest (dOp oNotIn (dOp oIx (dVar 2) (dC (.int 0))) (dVar 1))))) (dRet (dC (.bl false))) (dNext)) (dIfS (dNot (dTest (dCall a_is_number [] (dCons (dOp oIx (dVar 2) (dC (.int 1))) (dCons (dOp oSub (dC (.int 0)) (dC (.int 99))) (dCons (dC (.int 99)) (dNil))))))) (dRet (dC (.bl false))) (dNext))) (dIfS (dNot (dTest (dCall a_is_side [] (dCons (dVar 2) (dCons (dVar 1) (dNil)))))) (dRet (dC (.bl false))) (dNext)))) (dRet (dC (.bl true))))
def t_is_deed (a_is_number : ASp) (a_is_template : ASp) : DS := dSeq (dIfS (dOr (dNot (dTest (dFn oIsi (dCons (dVar 0) (dCons (dC (.ty "tuple")) (dNil)))))) (dOr (dTest (dOp oNe (dFn oLen (dCons (dVar 0) (dNil))) (dC (.int 2)))) (dNot (dTest (dFn oIsi (dCons (dOp oIx (dVar 0) (dC (.int 0))) (dCons (dC (.ty "str")) (dNil)))))))) (dRet (dC (.bl false))) (dNext)) (dSeq (dIfS (dTest (dOp oEq (dOp oIx (dVar 0) (dC (.int 0))) (dC (.str "take")))) (dRet (dAndV (dCall a_is_number [] (dCons (dOp oIx (dVar 0) (dC (.int 1))) (dCons (dC (.int 0)) (dCons (dOp oSub (dFn oLen (dCons (dVar 1) (dNil))) (dC (.int 1))) (dNil))))) (dOp oEq (dOp oIx (dOp oIx (dVar 1) (dOp oIx (dVar 0) (dC (.int 1)))) (dC (.int 0))) (dC (.str "is"))))) (dNext)) (dRet (dAndV (dOp oIn (dOp oIx (dVar 0) (dC (.int 0))) (dC (.tup [(.str "add"), (.str "hold"), (.str "say")]))) (dCall a_is_template [] (dCons (dOp oIx (dVar 0) (dC (.int 1))) (dCons (dVar 2) (dNil)))))))
def t_bad_part (a_is_word : ASp) (a_is_number : ASp) (a_is_want : ASp) (a_blanks_of : ASp) (a_is_deed : ASp) : DS := dSeq (dIfS (dOr (dNot (dTest (dFn oIsi (dCons (dVar 0) (dCons (dC (.ty "tuple")) (dNil)))))) (dTest (dOp oNe (dFn oLen (dCons (dVar 0) (dNil))) (dC (.int 4))))) (dRet (dUn oNeg (dC (.int 1)))) (dNext)) (dSeq (dAsg (dVar 0) (gdTup 4 (gdCons (gdName 2) (gdCons (gdName 3) (gdCons (gdName 4) (gdCons (gdName 5) (gdNil))))))) (dSeq (dIfS (dOr (dNot (dTest (dCall a_is_word [] (dCons (dVar 2) (dNil))))) (dTest (dOp oIn (dVar 2) (dVar 1)))) (dRet (dC (.int 0))) (dNext)) (dSeq (dIfS (dNot (dTest (dCall a_is_number [] (dCons (dVar 3) (dCons (dOp oSub (dC (.int 0)) (dC (.int 9))) (dCons (dC (.int 9)) (dNil))))))) (dRet (dC (.int 1))) (dNext)) (dSeq (dIfS (dOr (dNot (dTest (dFn oIsi (dCons (dVar 4) (dCons (dC (.ty "tuple")) (dNil)))))) (dNot (dTest (dChain oLe oLe (dC (.int 1)) (dFn oLen (dCons (dVar 4) (dNil))) (dC (.int 5)))))) (dRet (dC (.int 2))) (dNext)) (dSeq (dAsg (dLstC (dNil)) (gdName 6)) (dSeq (dFor (diEnum (dCons (dVar 4) (dNil))) (gdTup 2 (gdCons (gdName 7) (gdCons (gdName 8) (gdNil)))) (dSeq (dIfS (dOr (dNot (dTest (dCall a_is_want [] (dCons (dVar 8) (dCons (dVar 6) (dNil)))))) (dAnd (dTest (dOp oEq (dVar 7) (dC (.int 0)))) (dTest (dOp oNe (dOp oIx (dVar 8) (dC (.int 0))) (dC (.str "is")))))) (dRet (dC (.int 2))) (dNext)) (dDrop (dMtL omExtend (dVar 6) (dCons (dIf (dTest (dOp oEq (dOp oIx (dVar 8) (dC (.int 0))) (dC (.str "is")))) (dCall a_blanks_of [] (dCons (dOp oIx (dVar 8) (dC (.int 1))) (dNil))) (dLst (dNil))) (dNil)))))) (dSeq (dIfS (dOr (dNot (dTest (dFn oIsi (dCons (dVar 5) (dCons (dC (.ty "tuple")) (dNil)))))) (dNot (dTest (dChain oLe oLe (dC (.int 1)) (dFn oLen (dCons (dVar 5) (dNil))) (dC (.int 4)))))) (dRet (dC (.int 3))) (dNext)) (dRet (dIf (dTest (dFn oAll (dCons (dLc (diSeq (dVar 5)) (gdName 9) (dYes) (dCall a_is_deed [] (dCons (dVar 9) (dCons (dVar 4) (dCons (dVar 6) (dNil))))) [9]) (dNil)))) (dC .non) (dC (.int 3)))))))))))
def t_need_rules (a_bad_part : ASp) : DS := dSeq (dIfS (dOr (dNot (dTest (dFn oIsi (dCons (dVar 0) (dCons (dC (.ty "tuple")) (dNil)))))) (dTest (dOp oEq (dVar 0) (dTup (dNil))))) (dNever) (dNext)) (dSeq (dAsg (dLstC (dNil)) (gdName 1)) (dFor (diEnum (dCons (dVar 0) (dNil))) (gdTup 2 (gdCons (gdName 2) (gdCons (gdName 3) (gdNil)))) (dSeq (dAsg (dIf (dTest (dOp oEq (dVar 2) (dC (.int 8)))) (dUn oNeg (dC (.int 1))) (dCall a_bad_part [] (dCons (dVar 3) (dCons (dVar 1) (dNil))))) (gdName 4)) (dSeq (dIfS (dTest (dOp oIsNot (dVar 4) (dC .non))) (dNever) (dNext)) (dDrop (dMtL omAppend (dVar 1) (dCons (dOp oIx (dVar 3) (dC (.int 0))) (dNil))))))))
def t_side_of (a_is_blank : ASp) : DS := dRet (dIf (dTest (dCall a_is_blank [] (dCons (dVar 0) (dNil)))) (dOp oIx (dVar 1) (dVar 0)) (dVar 0))
def t_holds (a_side_of : ASp) (a_are_same : ASp) : DS := dSeq (dPar 2 3 (dCons (dCall a_side_of [] (dCons (dOp oIx (dVar 0) (dC (.int 1))) (dCons (dVar 1) (dNil)))) (dCons (dCall a_side_of [] (dCons (dOp oIx (dVar 0) (dC (.int 2))) (dCons (dVar 1) (dNil)))) (dNil)))) (dSeq (dIfS (dTest (dOp oEq (dOp oIx (dVar 0) (dC (.int 0))) (dC (.str "less")))) (dRet (dAndV (dNotV (dFn oIsi (dCons (dVar 2) (dCons (dC (.ty "str")) (dNil))))) (dAndV (dNotV (dFn oIsi (dCons (dVar 3) (dCons (dC (.ty "str")) (dNil))))) (dOp oLt (dVar 2) (dVar 3))))) (dNext)) (dRet (dOp oEq (dCall a_are_same [] (dCons (dVar 2) (dCons (dVar 3) (dNil)))) (dOp oEq (dOp oIx (dVar 0) (dC (.int 0))) (dC (.str "same"))))))
def t_passed (a_fitted : ASp) (a_holds : ASp) : DS := dSeq (dAsg (dLstC (dNil)) (gdName 3)) (dSeq (dFor (diSeq (dVar 1)) (gdTup 2 (gdCons (gdName 4) (gdCons (gdName 5) (gdNil)))) (dIfS (dTest (dOp oEq (dOp oIx (dVar 0) (dC (.int 0))) (dC (.str "is")))) (dFor (diSeq (dVar 2)) (gdTup 2 (gdCons (gdName 6) (gdCons (gdName 7) (gdNil)))) (dSeq (dAsg (dCall a_fitted [] (dCons (dOp oIx (dVar 0) (dC (.int 1))) (dCons (dVar 7) (dCons (dVar 5) (dNil))))) (gdName 8)) (dIfS (dTest (dOp oIsNot (dVar 8) (dC .non))) (dDrop (dMtL omAppend (dVar 3) (dCons (dTup (dCons (dOp oAdd (dVar 4) (dTup (dCons (dVar 6) (dNil)))) (dCons (dVar 8) (dNil)))) (dNil)))) (dNext)))) (dIfS (dTest (dOp oEq (dOp oIx (dVar 0) (dC (.int 0))) (dC (.str "not")))) (dIfS (dTest (dFn oAll (dCons (dLc (diSeq (dVar 2)) (gdTup 2 (gdCons (gdName 6) (gdCons (gdName 7) (gdNil)))) (dYes) (dOp oIs (dCall a_fitted [] (dCons (dOp oIx (dVar 0) (dC (.int 1))) (dCons (dVar 7) (dCons (dVar 5) (dNil))))) (dC .non)) [6, 7]) (dNil)))) (dDrop (dMtL omAppend (dVar 3) (dCons (dTup (dCons (dVar 4) (dCons (dVar 5) (dNil)))) (dNil)))) (dNext)) (dIfS (dTest (dCall a_holds [] (dCons (dVar 0) (dCons (dVar 5) (dNil))))) (dDrop (dMtL omAppend (dVar 3) (dCons (dTup (dCons (dVar 4) (dCons (dVar 5) (dNil)))) (dNil)))) (dNext))))) (dRet (dFrz (dVar 3))))
def t_numbered : DS := dSeq (dAsg (dLstC (dNil)) (gdName 1)) (dSeq (dFor (diSeq (dVar 0)) (gdName 2) (dIfS (dTest (dOp oNotIn (dVar 2) (dLc (diSeq (dVar 1)) (gdTup 2 (gdCons (gdName 3) (gdCons (gdName 4) (gdNil)))) (dYes) (dVar 4) [3, 4]))) (dDrop (dMtL omAppend (dVar 1) (dCons (dTup (dCons (dFn oLen (dCons (dVar 1) (dNil))) (dCons (dVar 2) (dNil)))) (dNil)))) (dNext))) (dRet (dFrz (dVar 1))))
def t_stuck (a_need_rules : ASp) (a_need_things : ASp) (a_is_number : ASp) (a_numbered : ASp) (a_passed : ASp) : DS := dSeq (dDrop (dCall a_need_rules [] (dCons (dVar 0) (dNil)))) (dSeq (dDrop (dCall a_need_things [] (dCons (dVar 1) (dNil)))) (dSeq (dIfS (dNot (dTest (dCall a_is_number [] (dCons (dVar 2) (dCons (dC (.int 0)) (dCons (dOp oSub (dFn oLen (dCons (dVar 0) (dNil))) (dC (.int 1))) (dNil))))))) (dNever) (dNext)) (dSeq (dAsg (dLst (dCons (dTup (dCons (dTup (dNil)) (dCons (dDct0) (dNil)))) (dNil))) (gdName 3)) (dSeq (dFor (diEnum (dCons (dOp oIx (dOp oIx (dVar 0) (dVar 2)) (dC (.int 2))) (dNil))) (gdTup 2 (gdCons (gdName 4) (gdCons (gdName 5) (gdNil)))) (dSeq (dAsg (dCall a_passed [] (dCons (dVar 5) (dCons (dVar 3) (dCons (dCall a_numbered [] (dCons (dVar 1) (dNil))) (dNil))))) (gdName 3)) (dIfS (dTest (dOp oEq (dVar 3) (dLst (dNil)))) (dRet (dVar 4)) (dNext)))) (dRet (dC .non))))))
def t__law_row : DS := dSeq (dAsg (dC (.int 7)) (gdName 1)) (dSeq (dFor (diSeq (dVar 0)) (gdName 2) (dAsg (dOp oMod (dOp oAdd (dOp oAdd (dOp oMul (dVar 1) (dC (.int 48271))) (dVar 2)) (dC (.int 11))) (dC (.int 2147483647))) (gdName 1))) (dRet (dLstC (dCons (dVar 0) (dCons (dC (.int 0)) (dCons (dC (.int 0)) (dCons (dVar 1) (dNil))))))))
def t__law_taken : DS := dSeq (dIfS (dTest (dOp oGt (dOp oIx (dVar 0) (dC (.int 2))) (dC (.int 0)))) (dSeq (dAsg (dOp oMod (dOp oIx (dVar 0) (dC (.int 2))) (dVar 1)) (gdName 2)) (dSeq (dAsg (dOp oDiv (dOp oIx (dVar 0) (dC (.int 2))) (dVar 1)) (gdSubL (dVar 0) (dC (.int 2)))) (dRet (dVar 2)))) (dNext)) (dSeq (dIfS (dTest (dOp oLt (dOp oIx (dVar 0) (dC (.int 1))) (dFn oLen (dCons (dOp oIx (dVar 0) (dC (.int 0))) (dNil))))) (dSeq (dAsg (dOp oIx (dOp oIx (dVar 0) (dC (.int 0))) (dOp oIx (dVar 0) (dC (.int 1)))) (gdName 3)) (dSeq (dAsg (dOp oAdd (dOp oIx (dVar 0) (dC (.int 1))) (dC (.int 1))) (gdSubL (dVar 0) (dC (.int 1)))) (dSeq (dIfS (dTest (dOp oGe (dVar 3) (dOp oPow (dC (.int 10)) (dC (.int 18))))) (dAsg (dOp oDiv (dVar 3) (dVar 1)) (gdSubL (dVar 0) (dC (.int 2)))) (dNext)) (dRet (dOp oMod (dVar 3) (dVar 1)))))) (dNext)) (dSeq (dAsg (dOp oMod (dOp oAdd (dOp oMul (dOp oIx (dVar 0) (dC (.int 3))) (dC (.int 48271))) (dC (.int 12345))) (dC (.int 2147483647))) (gdSubL (dVar 0) (dC (.int 3)))) (dRet (dOp oMod (dOp oDiv (dOp oIx (dVar 0) (dC (.int 3))) (dC (.int 1009))) (dVar 1)))))
def t__law_worth (a__law_taken : ASp) : DS := dRet (dOp oIx (dLst (dCons (dC (.str "a")) (dCons (dC (.str "b")) (dCons (dC (.int 0)) (dCons (dC (.int 1)) (dCons (dC (.int 2)) (dCons (dC (.str "c")) (dCons (dC (.int 99)) (dCons (dOp oSub (dC (.int 0)) (dC (.int 99))) (dNil)))))))))) (dOp oIx (dLst (dCons (dC (.int 0)) (dCons (dC (.int 1)) (dCons (dC (.int 2)) (dCons (dC (.int 3)) (dCons (dC (.int 4)) (dCons (dC (.int 0)) (dCons (dC (.int 1)) (dCons (dC (.int 2)) (dCons (dC (.int 3)) (dCons (dC (.int 5)) (dCons (dC (.int 6)) (dCons (dC (.int 7)) (dNil)))))))))))))) (dCall a__law_taken [] (dCons (dVar 0) (dCons (dC (.int 12)) (dNil))))))
def t__law_pattern (a__law_taken : ASp) (a__law_worth : ASp) : DS := dSeq (dAsg (dTup (dCons (dOp oIx (dLst (dCons (dC (.str "on")) (dCons (dC (.str "is")) (dCons (dC (.str "big")) (dNil))))) (dCall a__law_taken [] (dCons (dVar 0) (dCons (dC (.int 3)) (dNil))))) (dNil))) (gdName 2)) (dSeq (dFor (diRng1 (dCons (dOp oIx (dLst (dCons (dC (.int 1)) (dCons (dC (.int 2)) (dCons (dC (.int 2)) (dCons (dC (.int 0)) (dCons (dC (.int 4)) (dNil))))))) (dCall a__law_taken [] (dCons (dVar 0) (dCons (dC (.int 5)) (dNil))))) (dNil))) (gdName 3) (dSeq (dAsg (dLst (dCons (dCall a__law_worth [] (dCons (dVar 0) (dNil))) (dCons (dC (.str "_")) (dCons (dOp oIx (dVar 1) (dCall a__law_taken [] (dCons (dVar 0) (dCons (dC (.int 3)) (dNil))))) (dCons (dOp oIx (dVar 1) (dCall a__law_taken [] (dCons (dVar 0) (dCons (dC (.int 2)) (dNil))))) (dNil)))))) (gdName 4)) (dAsg (dOp oAdd (dVar 2) (dTup (dCons (dOp oIx (dVar 4) (dCall a__law_taken [] (dCons (dVar 0) (dCons (dC (.int 4)) (dNil))))) (dNil)))) (gdName 2)))) (dRet (dVar 2)))
def t__law_letters : DS := dRet (dLc (diSeq (dSlice (dVar 0) (dPart (dC (.int 1))) (dNoPart))) (gdName 1) (dAnd (dTest (dFn oIsi (dCons (dVar 1) (dCons (dC (.ty "str")) (dNil))))) (dAnd (dTest (dChain oLe oLe (dC (.str "A")) (dVar 1) (dC (.str "Z")))) (dTest (dOp oEq (dFn oLen (dCons (dVar 1) (dNil))) (dC (.int 1)))))) (dVar 1) [1])
def t__law_template (a__law_taken : ASp) (a__law_worth : ASp) : DS := dSeq (dAsg (dTup (dCons (dOp oIx (dLst (dCons (dC (.str "on")) (dCons (dC (.str "is")) (dCons (dC (.str "big")) (dNil))))) (dCall a__law_taken [] (dCons (dVar 0) (dCons (dC (.int 3)) (dNil))))) (dNil))) (gdName 2)) (dSeq (dFor (diRng1 (dCons (dOp oIx (dLst (dCons (dC (.int 1)) (dCons (dC (.int 2)) (dCons (dC (.int 2)) (dCons (dC (.int 0)) (dNil)))))) (dCall a__law_taken [] (dCons (dVar 0) (dCons (dC (.int 4)) (dNil))))) (dNil))) (gdName 3) (dSeq (dAsg (dCall a__law_worth [] (dCons (dVar 0) (dNil))) (gdName 4)) (dSeq (dIfS (dAnd (dTest (dOp oNe (dVar 1) (dLst (dNil)))) (dTest (dOp oGt (dCall a__law_taken [] (dCons (dVar 0) (dCons (dC (.int 3)) (dNil)))) (dC (.int 0))))) (dSeq (dAsg (dOp oIx (dVar 1) (dCall a__law_taken [] (dCons (dVar 0) (dCons (dFn oLen (dCons (dVar 1) (dNil))) (dNil))))) (gdName 4)) (dIfS (dTest (dOp oEq (dCall a__law_taken [] (dCons (dVar 0) (dCons (dC (.int 3)) (dNil)))) (dC (.int 0)))) (dAsg (dTup (dCons (dVar 4) (dCons (dOp oIx (dLst (dCons (dC (.int 1)) (dCons (dOp oSub (dC (.int 0)) (dC (.int 1))) (dCons (dC (.int 0)) (dCons (dC (.int 50)) (dNil)))))) (dCall a__law_taken [] (dCons (dVar 0) (dCons (dC (.int 4)) (dNil))))) (dNil)))) (gdName 4)) (dNext))) (dNext)) (dAsg (dOp oAdd (dVar 2) (dTup (dCons (dVar 4) (dNil)))) (gdName 2))))) (dRet (dVar 2)))
def t__law_rule (a__law_taken : ASp) (a__law_pattern : ASp) (a__law_letters : ASp) (a__law_worth : ASp) (a__law_template : ASp) : DS := dSeq (dAsg (dTup (dCons (dLst (dNil)) (dCons (dLstC (dNil)) (dNil)))) (gdTup 2 (gdCons (gdName 2) (gdCons (gdName 3) (gdNil))))) (dSeq (dFor (diRng1 (dCons (dOp oIx (dLst (dCons (dC (.int 1)) (dCons (dC (.int 2)) (dCons (dC (.int 2)) (dCons (dC (.int 3)) (dCons (dC (.int 4)) (dNil))))))) (dCall a__law_taken [] (dCons (dVar 0) (dCons (dC (.int 5)) (dNil))))) (dNil))) (gdName 4) (dSeq (dAsg (dIf (dTest (dOp oGt (dVar 4) (dC (.int 0)))) (dCall a__law_taken [] (dCons (dVar 0) (dCons (dC (.int 8)) (dNil)))) (dC (.int 0))) (gdName 5)) (dIfS (dOr (dTest (dOp oLt (dVar 5) (dC (.int 4)))) (dAnd (dTest (dOp oGt (dVar 5) (dC (.int 5)))) (dTest (dOp oEq (dVar 2) (dLst (dNil)))))) (dSeq (dDrop (dMtL omAppend (dVar 3) (dCons (dTup (dCons (dC (.str "is")) (dCons (dCall a__law_pattern [] (dCons (dVar 0) (dCons (dC (.str "XYZ")) (dNil)))) (dNil)))) (dNil)))) (dAsg (dOp oAdd (dVar 2) (dCall a__law_letters [] (dCons (dOp oIx (dOp oIx (dVar 3) (dUn oNeg (dC (.int 1)))) (dC (.int 1))) (dNil)))) (gdName 2))) (dIfS (dTest (dOp oLt (dVar 5) (dC (.int 6)))) (dDrop (dMtL omAppend (dVar 3) (dCons (dTup (dCons (dC (.str "not")) (dCons (dCall a__law_pattern [] (dCons (dVar 0) (dCons (dC (.str "XYW")) (dNil)))) (dNil)))) (dNil)))) (dSeq (dAsg (dOp oIx (dVar 2) (dCall a__law_taken [] (dCons (dVar 0) (dCons (dFn oLen (dCons (dVar 2) (dNil))) (dNil))))) (gdName 6)) (dSeq (dAsg (dOp oIx (dLst (dCons (dCall a__law_worth [] (dCons (dVar 0) (dNil))) (dCons (dOp oIx (dVar 2) (dCall a__law_taken [] (dCons (dVar 0) (dCons (dFn oLen (dCons (dVar 2) (dNil))) (dNil))))) (dNil)))) (dCall a__law_taken [] (dCons (dVar 0) (dCons (dC (.int 2)) (dNil))))) (gdName 7)) (dSeq (dAsg (dIf (dTest (dOp oEq (dCall a__law_taken [] (dCons (dVar 0) (dCons (dC (.int 2)) (dNil)))) (dC (.int 0)))) (dTup (dCons (dVar 6) (dCons (dVar 7) (dNil)))) (dTup (dCons (dVar 7) (dCons (dVar 6) (dNil))))) (gdName 8)) (dDrop (dMtL omAppend (dVar 3) (dCons (dOp oAdd (dTup (dCons (dOp oIx (dLst (dCons (dC (.str "less")) (dCons (dC (.str "same")) (dCons (dC (.str "unlike")) (dNil))))) (dCall a__law_taken [] (dCons (dVar 0) (dCons (dC (.int 3)) (dNil))))) (dNil))) (dVar 8)) (dNil))))))))))) (dSeq (dAsg (dLc (diRng1 (dCons (dFn oLen (dCons (dVar 3) (dNil))) (dNil))) (gdName 4) (dTest (dOp oEq (dOp oIx (dOp oIx (dVar 3) (dVar 4)) (dC (.int 0))) (dC (.str "is")))) (dVar 4) [4]) (gdName 9)) (dSeq (dAsg (dLstC (dNil)) (gdName 10)) (dSeq (dFor (diRng1 (dCons (dOp oIx (dLst (dCons (dC (.int 1)) (dCons (dC (.int 1)) (dCons (dC (.int 2)) (dCons (dC (.int 3)) (dNil)))))) (dCall a__law_taken [] (dCons (dVar 0) (dCons (dC (.int 4)) (dNil))))) (dNil))) (gdName 4) (dSeq (dAsg (dCall a__law_taken [] (dCons (dVar 0) (dCons (dC (.int 8)) (dNil)))) (gdName 5)) (dIfS (dTest (dOp oEq (dVar 5) (dC (.int 0)))) (dDrop (dMtL omAppend (dVar 10) (dCons (dTup (dCons (dC (.str "take")) (dCons (dOp oIx (dVar 9) (dCall a__law_taken [] (dCons (dVar 0) (dCons (dFn oLen (dCons (dVar 9) (dNil))) (dNil))))) (dNil)))) (dNil)))) (dDrop (dMtL omAppend (dVar 10) (dCons (dTup (dCons (dOp oIx (dLst (dCons (dC (.str "say")) (dCons (dC (.str "add")) (dCons (dC (.str "add")) (dCons (dC (.str "hold")) (dCons (dC (.str "hold")) (dCons (dC (.str "hold")) (dCons (dC (.str "hold")) (dNil))))))))) (dOp oSub (dVar 5) (dC (.int 1)))) (dCons (dCall a__law_template [] (dCons (dVar 0) (dCons (dVar 2) (dNil)))) (dNil)))) (dNil))))))) (dRet (dTup (dCons (dVar 1) (dCons (dOp oSub (dCall a__law_taken [] (dCons (dVar 0) (dCons (dC (.int 3)) (dNil)))) (dC (.int 1))) (dCons (dFn oTuple (dCons (dVar 3) (dNil))) (dCons (dFn oTuple (dCons (dVar 10) (dNil))) (dNil)))))))))))
def t__law_dense_rule (a__law_taken : ASp) (a__law_worth : ASp) : DS := dSeq (dAsg (dTup (dCons (dLstC (dCons (dC (.str "X")) (dNil))) (dCons (dLstC (dCons (dTup (dCons (dC (.str "is")) (dCons (dTup (dCons (dOp oIx (dLst (dCons (dC (.str "on")) (dCons (dC (.str "is")) (dNil)))) (dCall a__law_taken [] (dCons (dVar 0) (dCons (dC (.int 2)) (dNil))))) (dCons (dC (.str "X")) (dNil)))) (dNil)))) (dNil))) (dNil)))) (gdTup 2 (gdCons (gdName 2) (gdCons (gdName 3) (gdNil))))) (dSeq (dFor (diRng1 (dCons (dCall a__law_taken [] (dCons (dVar 0) (dCons (dC (.int 5)) (dNil)))) (dNil))) (gdName 4) (dSeq (dAsg (dOp oIx (dC (.str "XYZ")) (dCall a__law_taken [] (dCons (dVar 0) (dCons (dC (.int 3)) (dNil))))) (gdName 5)) (dSeq (dAsg (dCall a__law_taken [] (dCons (dVar 0) (dCons (dC (.int 8)) (dNil)))) (gdName 6)) (dIfS (dTest (dOp oLt (dVar 6) (dC (.int 3)))) (dSeq (dDrop (dMtL omAppend (dVar 3) (dCons (dTup (dCons (dC (.str "is")) (dCons (dTup (dCons (dOp oIx (dLst (dCons (dC (.str "on")) (dCons (dC (.str "is")) (dCons (dC (.str "big")) (dNil))))) (dVar 6)) (dCons (dVar 5) (dNil)))) (dNil)))) (dNil)))) (dDrop (dMtL omAppend (dVar 2) (dCons (dVar 5) (dNil))))) (dIfS (dTest (dOp oLt (dVar 6) (dC (.int 6)))) (dSeq (dAsg (dOp oIx (dLst (dCons (dVar 5) (dCons (dVar 5) (dCons (dCall a__law_worth [] (dCons (dVar 0) (dNil))) (dNil))))) (dCall a__law_taken [] (dCons (dVar 0) (dCons (dC (.int 3)) (dNil))))) (gdName 7)) (dDrop (dMtL omAppend (dVar 3) (dCons (dTup (dCons (dC (.str "not")) (dCons (dTup (dCons (dOp oIx (dLst (dCons (dC (.str "on")) (dCons (dC (.str "is")) (dCons (dC (.str "big")) (dNil))))) (dOp oSub (dVar 6) (dC (.int 3)))) (dCons (dVar 7) (dNil)))) (dNil)))) (dNil))))) (dSeq (dAsg (dOp oIx (dVar 2) (dCall a__law_taken [] (dCons (dVar 0) (dCons (dFn oLen (dCons (dVar 2) (dNil))) (dNil))))) (gdName 8)) (dDrop (dMtL omAppend (dVar 3) (dCons (dTup (dCons (dOp oIx (dLst (dCons (dC (.str "less")) (dCons (dC (.str "unlike")) (dNil)))) (dOp oSub (dVar 6) (dC (.int 6)))) (dCons (dVar 8) (dCons (dOp oIx (dLst (dCons (dCall a__law_worth [] (dCons (dVar 0) (dNil))) (dCons (dC (.str "X")) (dNil)))) (dOp oSub (dVar 6) (dC (.int 6)))) (dNil))))) (dNil)))))))))) (dSeq (dAsg (dLc (diRng1 (dCons (dFn oLen (dCons (dVar 3) (dNil))) (dNil))) (gdName 4) (dTest (dOp oEq (dOp oIx (dOp oIx (dVar 3) (dVar 4)) (dC (.int 0))) (dC (.str "is")))) (dVar 4) [4]) (gdName 9)) (dSeq (dAsg (dLstC (dNil)) (gdName 10)) (dSeq (dFor (diRng1 (dCons (dOp oAdd (dC (.int 1)) (dCall a__law_taken [] (dCons (dVar 0) (dCons (dC (.int 3)) (dNil))))) (dNil))) (gdName 4) (dSeq (dAsg (dOp oIx (dLst (dCons (dOp oIx (dVar 2) (dCall a__law_taken [] (dCons (dVar 0) (dCons (dFn oLen (dCons (dVar 2) (dNil))) (dNil))))) (dCons (dCall a__law_worth [] (dCons (dVar 0) (dNil))) (dNil)))) (dCall a__law_taken [] (dCons (dVar 0) (dCons (dC (.int 2)) (dNil))))) (gdName 7)) (dSeq (dAsg (dTup (dCons (dOp oIx (dLst (dCons (dC (.str "on")) (dCons (dC (.str "is")) (dCons (dC (.str "big")) (dNil))))) (dCall a__law_taken [] (dCons (dVar 0) (dCons (dC (.int 3)) (dNil))))) (dCons (dVar 7) (dNil)))) (gdName 11)) (dSeq (dDrop (dMtL omAppend (dVar 10) (dCons (dTup (dCons (dOp oIx (dLst (dCons (dC (.str "hold")) (dCons (dC (.str "hold")) (dCons (dC (.str "hold")) (dCons (dC (.str "add")) (dCons (dC (.str "say")) (dCons (dC (.str "take")) (dNil)))))))) (dCall a__law_taken [] (dCons (dVar 0) (dCons (dC (.int 6)) (dNil))))) (dCons (dVar 11) (dNil)))) (dNil)))) (dIfS (dTest (dOp oEq (dOp oIx (dOp oIx (dVar 10) (dUn oNeg (dC (.int 1)))) (dC (.int 0))) (dC (.str "take")))) (dAsg (dTup (dCons (dC (.str "take")) (dCons (dOp oIx (dVar 9) (dCall a__law_taken [] (dCons (dVar 0) (dCons (dFn oLen (dCons (dVar 9) (dNil))) (dNil))))) (dNil)))) (gdSubL (dVar 10) (dUn oNeg (dC (.int 1))))) (dNext)))))) (dRet (dTup (dCons (dVar 1) (dCons (dOp oSub (dCall a__law_taken [] (dCons (dVar 0) (dCons (dC (.int 3)) (dNil)))) (dC (.int 1))) (dCons (dFn oTuple (dCons (dVar 3) (dNil))) (dCons (dFn oTuple (dCons (dVar 10) (dNil))) (dNil)))))))))))
def t__law_rules (a__law_taken : ASp) (a__law_dense_rule : ASp) (a__law_rule : ASp) : DS := dSeq (dPar 2 3 (dCons (dLst (dCons (dC (.str "r")) (dCons (dC (.str "run")) (dCons (dC (.str "go")) (dCons (dC (.str "z")) (dNil)))))) (dCons (dOp oEq (dCall a__law_taken [] (dCons (dVar 0) (dCons (dC (.int 2)) (dNil)))) (dC (.int 0))) (dNil)))) (dSeq (dAsg (dLstC (dNil)) (gdName 4)) (dSeq (dFor (diRng1 (dCons (dOp oAdd (dC (.int 1)) (dCall a__law_taken [] (dCons (dVar 0) (dCons (dVar 1) (dNil))))) (dNil))) (gdName 5) (dDrop (dMtL omAppend (dVar 4) (dCons (dIf (dTest (dVar 3)) (dCall a__law_dense_rule [] (dCons (dVar 0) (dCons (dOp oIx (dVar 2) (dVar 5)) (dNil)))) (dCall a__law_rule [] (dCons (dVar 0) (dCons (dOp oIx (dVar 2) (dVar 5)) (dNil))))) (dNil))))) (dRet (dFn oTuple (dCons (dVar 4) (dNil))))))
def t__law_thing (a__law_taken : ASp) (a__law_worth : ASp) : DS := dSeq (dAsg (dOp oIx (dLst (dCons (dC (.str "on")) (dCons (dC (.str "is")) (dCons (dC (.str "big")) (dNil))))) (dCall a__law_taken [] (dCons (dVar 0) (dCons (dC (.int 3)) (dNil))))) (gdName 1)) (dRet (dOp oAdd (dTup (dCons (dVar 1) (dNil))) (dFn oTuple (dCons (dLc (diRng1 (dCons (dOp oIx (dLst (dCons (dC (.int 1)) (dCons (dC (.int 2)) (dCons (dC (.int 1)) (dCons (dC (.int 0)) (dCons (dC (.int 4)) (dCons (dC (.int 1)) (dNil)))))))) (dCall a__law_taken [] (dCons (dVar 0) (dCons (dC (.int 6)) (dNil))))) (dNil))) (gdName 2) (dYes) (dCall a__law_worth [] (dCons (dVar 0) (dNil))) [2]) (dNil)))))
def t__law_fit (a__law_letters : ASp) : DS := dSeq (dIfS (dOr (dTest (dOp oNe (dFn oLen (dCons (dVar 0) (dNil))) (dFn oLen (dCons (dVar 1) (dNil))))) (dTest (dOp oNe (dOp oIx (dVar 0) (dC (.int 0))) (dOp oIx (dVar 1) (dC (.int 0)))))) (dRet (dC .non)) (dNext)) (dSeq (dAsg (dFn oDictC (dCons (dVar 2) (dNil))) (gdName 3)) (dSeq (dFor (diRng2 (dCons (dC (.int 1)) (dCons (dFn oLen (dCons (dVar 0) (dNil))) (dNil)))) (gdName 4) (dSeq (dPar 5 6 (dCons (dOp oIx (dVar 0) (dVar 4)) (dCons (dOp oIx (dVar 1) (dVar 4)) (dNil)))) (dIfS (dTest (dOp oIn (dVar 5) (dCall a__law_letters [] (dCons (dVar 0) (dNil))))) (dSeq (dIfS (dAnd (dTest (dOp oIn (dVar 5) (dVar 3))) (dTest (dOp oNe (dOp oIx (dVar 3) (dVar 5)) (dVar 6)))) (dRet (dC .non)) (dNext)) (dPut (dVar 3) (dVar 5) (dVar 6))) (dIfS (dAnd (dTest (dOp oNe (dVar 5) (dC (.str "_")))) (dTest (dOp oNe (dVar 5) (dVar 6)))) (dRet (dC .non)) (dNext))))) (dRet (dFrz (dVar 3)))))
def t__law_holds : DS := dSeq (dAsg (dLc (diSeq (dSlice (dVar 0) (dPart (dC (.int 1))) (dNoPart))) (gdName 4) (dYes) (dIf (dAnd (dTest (dFn oIsi (dCons (dVar 4) (dCons (dC (.ty "str")) (dNil))))) (dTest (dOp oIn (dVar 4) (dVar 1)))) (dOp oIx (dVar 1) (dVar 4)) (dVar 4)) [4]) (gdUnl 2 (gdCons (gdName 2) (gdCons (gdName 3) (gdNil))))) (dSeq (dIfS (dTest (dOp oEq (dOp oIx (dVar 0) (dC (.int 0))) (dC (.str "less")))) (dRet (dAndV (dNotV (dFn oIsi (dCons (dVar 2) (dCons (dC (.ty "str")) (dNil))))) (dAndV (dNotV (dFn oIsi (dCons (dVar 3) (dCons (dC (.ty "str")) (dNil))))) (dOp oLt (dVar 2) (dVar 3))))) (dNext)) (dRet (dOp oEq (dOp oEq (dVar 2) (dVar 3)) (dOp oEq (dOp oIx (dVar 0) (dC (.int 0))) (dC (.str "same"))))))
def t__law_found (a__law_fit : ASp) (a__law_found : ASp) (a__law_holds : ASp) : DS := dSeq (dIfS (dTest (dOp oEq (dVar 0) (dTup (dNil)))) (dRet (dLst (dCons (dTup (dCons (dVar 2) (dCons (dVar 3) (dNil)))) (dNil)))) (dNext)) (dSeq (dAsg (dTup (dCons (dOp oIx (dVar 0) (dC (.int 0))) (dCons (dSlice (dVar 0) (dPart (dC (.int 1))) (dNoPart)) (dNil)))) (gdTup 2 (gdCons (gdName 4) (gdCons (gdName 5) (gdNil))))) (dSeq (dIfS (dTest (dOp oEq (dOp oIx (dVar 4) (dC (.int 0))) (dC (.str "not")))) (dSeq (dAsg (dLc (diSeq (dVar 1)) (gdName 8) (dTest (dOp oIsNot (dCall a__law_fit [] (dCons (dOp oIx (dVar 4) (dC (.int 1))) (dCons (dOp oIx (dVar 1) (dVar 8)) (dCons (dVar 3) (dNil))))) (dC .non))) (dVar 8) [8]) (gdName 6)) (dRet (dIf (dTest (dOp oEq (dVar 6) (dLst (dNil)))) (dCall a__law_found [] (dCons (dVar 5) (dCons (dVar 1) (dCons (dVar 2) (dCons (dVar 3) (dNil)))))) (dLst (dNil))))) (dNext)) (dSeq (dIfS (dTest (dOp oNe (dOp oIx (dVar 4) (dC (.int 0))) (dC (.str "is")))) (dRet (dIf (dTest (dCall a__law_holds [] (dCons (dVar 4) (dCons (dVar 3) (dNil))))) (dCall a__law_found [] (dCons (dVar 5) (dCons (dVar 1) (dCons (dVar 2) (dCons (dVar 3) (dNil)))))) (dLst (dNil)))) (dNext)) (dSeq (dAsg (dLst (dNil)) (gdName 7)) (dSeq (dFor (diSeq (dVar 1)) (gdName 8) (dSeq (dAsg (dCall a__law_fit [] (dCons (dOp oIx (dVar 4) (dC (.int 1))) (dCons (dOp oIx (dVar 1) (dVar 8)) (dCons (dVar 3) (dNil))))) (gdName 9)) (dIfS (dTest (dOp oIsNot (dVar 9) (dC .non))) (dAsg (dOp oAdd (dVar 7) (dCall a__law_found [] (dCons (dVar 5) (dCons (dVar 1) (dCons (dOp oAdd (dVar 2) (dTup (dCons (dVar 8) (dNil)))) (dCons (dVar 9) (dNil))))))) (gdName 7)) (dNext)))) (dRet (dVar 7)))))))
def t__law_alike (a__law_alike : ASp) : DS := dSeq (dIfS (dTest (dFn oIsi (dCons (dVar 1) (dCons (dTup (dCons (dC (.ty "tuple")) (dCons (dC (.ty "list")) (dNil)))) (dNil))))) (dSeq (dIfS (dOr (dTest (dOp oNe (dFn oIsi (dCons (dVar 0) (dCons (dC (.ty "tuple")) (dNil)))) (dFn oIsi (dCons (dVar 1) (dCons (dC (.ty "tuple")) (dNil)))))) (dNot (dTest (dFn oIsi (dCons (dVar 0) (dCons (dTup (dCons (dC (.ty "tuple")) (dCons (dC (.ty "list")) (dNil)))) (dNil))))))) (dRet (dC (.bl false))) (dNext)) (dSeq (dIfS (dTest (dOp oNe (dFn oLen (dCons (dVar 0) (dNil))) (dFn oLen (dCons (dVar 1) (dNil))))) (dRet (dC (.bl false))) (dNext)) (dRet (dOp oEq (dLc (diRng1 (dCons (dFn oLen (dCons (dVar 1) (dNil))) (dNil))) (gdName 3) (dNot (dTest (dCall a__law_alike [] (dCons (dOp oIx (dVar 0) (dVar 3)) (dCons (dOp oIx (dVar 1) (dVar 3)) (dNil)))))) (dVar 3) [3]) (dLst (dNil)))))) (dNext)) (dSeq (dIfS (dOr (dTest (dOp oIs (dVar 1) (dC .non))) (dTest (dOp oIs (dVar 0) (dC .non)))) (dRet (dAndV (dOp oIs (dVar 1) (dC .non)) (dOp oIs (dVar 0) (dC .non)))) (dNext)) (dSeq (dAsg (dOp oEq (dFn oIsi (dCons (dVar 1) (dCons (dC (.ty "str")) (dNil)))) (dFn oIsi (dCons (dVar 0) (dCons (dC (.ty "str")) (dNil))))) (gdName 2)) (dRet (dAndV (dVar 2) (dAndV (dOp oEq (dFn oIsi (dCons (dVar 1) (dCons (dC (.ty "bool")) (dNil)))) (dFn oIsi (dCons (dVar 0) (dCons (dC (.ty "bool")) (dNil))))) (dOp oEq (dVar 0) (dVar 1)))))))
def t_law (a__law_row : ASp) (a__law_rules : ASp) (a__law_taken : ASp) (a__law_thing : ASp) (a__law_found : ASp) (a_stuck : ASp) (a__law_alike : ASp) : DS := dSeq (dAsg (dCall a__law_row [] (dCons (dVar 0) (dNil))) (gdName 1)) (dSeq (dFor (diRng1 (dCons (dC (.int 5)) (dNil))) (gdName 2) (dSeq (dAsg (dTup (dCons (dCall a__law_rules [] (dCons (dVar 1) (dCons (dC (.int 4)) (dNil)))) (dCons (dLc (diRng1 (dCons (dCall a__law_taken [] (dCons (dVar 1) (dCons (dC (.int 10)) (dNil)))) (dNil))) (gdName 9) (dYes) (dCall a__law_thing [] (dCons (dVar 1) (dNil))) [9]) (dNil)))) (gdTup 2 (gdCons (gdName 3) (gdCons (gdName 4) (gdNil))))) (dSeq (dAsg (dFn oDictP (dCons (dLc (diRng1 (dCons (dFn oLen (dCons (dVar 4) (dNil))) (dNil))) (gdName 9) (dYes) (dTup (dCons (dVar 9) (dCons (dOp oIx (dVar 4) (dVar 9)) (dNil)))) [9]) (dNil))) (gdName 5)) (dFor (diRng1 (dCons (dFn oLen (dCons (dVar 3) (dNil))) (dNil))) (gdName 6) (dSeq (dPar 7 8 (dCons (dOp oIx (dOp oIx (dVar 3) (dVar 6)) (dC (.int 2))) (dCons (dC .non) (dNil)))) (dSeq (dFor (diRng1 (dCons (dFn oLen (dCons (dVar 7) (dNil))) (dNil))) (gdName 9) (dIfS (dAnd (dTest (dOp oIs (dVar 8) (dC .non))) (dTest (dOp oEq (dCall a__law_found [] (dCons (dSlice (dVar 7) (dNoPart) (dPart (dOp oAdd (dVar 9) (dC (.int 1))))) (dCons (dVar 5) (dCons (dTup (dNil)) (dCons (dDct0) (dNil)))))) (dLst (dNil))))) (dAsg (dVar 9) (gdName 8)) (dNext))) (dIfS (dNot (dTest (dCall a__law_alike [] (dCons (dCall a_stuck [] (dCons (dVar 3) (dCons (dVar 4) (dCons (dVar 6) (dNil))))) (dCons (dVar 8) (dNil)))))) (dRet (dC (.bl false))) (dNext)))))))) (dRet (dC (.bl true))))

def t_matches_of (a_passed : ASp) : DS := dSeq (dAsg (dLstC (dNil)) (gdName 2)) (dSeq (dFor (diEnum (dCons (dVar 0) (dNil))) (gdTup 2 (gdCons (gdName 3) (gdCons (gdName 4) (gdNil)))) (dSeq (dAsg (dLst (dCons (dTup (dCons (dTup (dNil)) (dCons (dDct0) (dNil)))) (dNil))) (gdName 5)) (dSeq (dFor (diSeq (dOp oIx (dVar 4) (dC (.int 2)))) (gdName 6) (dAsg (dCall a_passed [] (dCons (dVar 6) (dCons (dVar 5) (dCons (dVar 1) (dNil))))) (gdName 5))) (dDrop (dMtL omExtend (dVar 2) (dCons (dLc (diSeq (dVar 5)) (gdTup 2 (gdCons (gdName 7) (gdCons (gdName 8) (gdNil)))) (dYes) (dTup (dCons (dVar 3) (dCons (dVar 7) (dNil)))) [7, 8]) (dNil))))))) (dRet (dFn oSortedC (dCons (dVar 2) (dNil)))))
def t_matching (a_need_rules : ASp) (a_need_things : ASp) (a_numbered : ASp) (a_matches_of : ASp) : DS := dSeq (dDrop (dCall a_need_rules [] (dCons (dVar 0) (dNil)))) (dSeq (dDrop (dCall a_need_things [] (dCons (dVar 1) (dNil)))) (dRet (dCall a_matches_of [] (dCons (dVar 0) (dCons (dCall a_numbered [] (dCons (dVar 1) (dNil))) (dNil))))))
def t__law_all (a__law_found : ASp) : DS := dSeq (dAsg (dLst (dNil)) (gdName 2)) (dSeq (dFor (diRng1 (dCons (dFn oLen (dCons (dVar 0) (dNil))) (dNil))) (gdName 3) (dAsg (dOp oAdd (dVar 2) (dLc (diSeq (dCall a__law_found [] (dCons (dOp oIx (dOp oIx (dVar 0) (dVar 3)) (dC (.int 2))) (dCons (dVar 1) (dCons (dTup (dNil)) (dCons (dDct0) (dNil))))))) (gdTup 2 (gdCons (gdName 4) (gdCons (gdName 5) (gdNil)))) (dYes) (dTup (dCons (dVar 3) (dCons (dVar 4) (dNil)))) [4, 5])) (gdName 2))) (dRet (dFn oSorted (dCons (dVar 2) (dNil)))))

end RR
namespace RR
open PySem PySem.Spec L2 DL
open PyProof.Rows hiding St kindOf
local macro_rules | `(tactic| walk_at "dl") => `(tactic| simp (config := { failIfUnchanged := false }) only [↓ex_two, ↓ex_three, dFor_eq, updC_at, updC_upd, lstOf_upd, dctOf_upd, dctOf_dct, lstOf_lst, isLst_upd, app_upd, dSeq, dNext, dRet, dRetN, dDrop, dIfS, dNever, dAsg, dPar, dPut, gdName, sz_0, sl_0, sz_1, sl_1, sz_2, sl_2, sz_3, sl_3, sz_4, sl_4, sz_5, sl_5, sz_6, sl_6, sz_7, sl_7, sz_8, sl_8, sz_9, sl_9, sz_10, sl_10, sz_11, sl_11, sz_12, sl_12, sz_13, sl_13, sz_14, sl_14, exists_eq, gdCons_cons, gdNil_nil, gdTup_tup, gdUnl_lst, Nat.succ_eq_add_one, Nat.zero_add, dAnd, dOr, dNot, dTest, dAndV, dOrV, dNotV, dIf, dChain, dOp, dUn, dFn, dCall, dNil, dCons, dVar, dC, dTup, dLst, dLstC, dDct0, dDct0C, dPart, dNoPart, dSlice, dLc, dLcC, diSeq, diZip, diEnum, diRng1, diRng2, dYes, dMtL, dSetd, dFrz,
  dstart, List.map, List.replicate, List.length, List.append, List.cons_append, List.nil_append, List.append_nil, List.getElem?_cons_zero, List.getElem?_cons_succ, Option.some.injEq, exists_eq_left', exists_eq_left, wipeD,
  List.cons.injEq, and_true, true_and, D.bl.injEq, D.int.injEq, D.str.injEq, D.tup.injEq, D.lst.injEq, D.dct.injEq, if_true, if_false, Bool.false_eq_true, Bool.not_true, Bool.not_false, Bool.not_not, ite_true, ite_false, reduceIte, List.set_cons_zero, List.set_cons_succ, Option.map_some, Option.isSome_some, and_false, false_and, exists_const,
  slOk_tup, itOf_tup, itOf_lst, itOf_str, itOf_dct, cutL_1, oLe_int, oLt_int, oGe_int, oGt_int, oAdd_int, oSub_int, oIs_non, oIsNot_non, oLen_tup, oLen_lst, oIx_tup, oIx_lst, atI_0, atI_1, atI_2, atI_3, atI_m1, atI_cast, oIn_str, oEq_int, oNe_int, oEq_bl, ex_some,
  bl_and, bl_or, bl_andT, bl_orT, Nat.sub_self, Nat.add_sub_cancel, Nat.reduceSub, Nat.reduceAdd])
/-- data, at most n deep, its texts and rows not too long -/
def datD : Nat → D → Bool
  | _, .non => true
  | _, .bl _ => true
  | _, .int _ => true
  | _, .str x => PyData.strOk x && decide (x.length ≤ 1000000)
  | n + 1, .tup ds => ds.all (datD n) && decide (ds.length ≤ 1000000)
  | n + 1, .lst ds => ds.all (datD n) && decide (ds.length ≤ 1000000)
  | _, _ => false
theorem datD_ok : ∀ {n : Nat} {d : D}, datD n d = true → okD n d = true
  | 0, d, h => by cases d <;> first | rfl | (simp [datD] at h; done) | (simp only [datD, Bool.and_eq_true] at h; exact h.1)
  | n + 1, d, h => by
    cases d <;> first
      | rfl
      | (simp [datD] at h; done)
      | (simp only [datD, Bool.and_eq_true] at h
         first
          | exact h.1
          | exact List.all_eq_true.mpr fun e he => datD_ok (List.all_eq_true.mp h.1 e he))
theorem datD_dat {n : Nat} {d : D} (h : datD n d = true) : dat d = true := by
  cases d <;> first | rfl | (cases n <;> simp [datD] at h)
theorem ml : (1000000 : Nat) ≤ sizeLine := by rw [sizeLine_eq]; decide
theorem datD_str {n : Nat} {z : Str} (h : datD n (.str z) = true) : z.length ≤ sizeLine := by
  have h : (PyData.strOk z && decide (z.length ≤ 1000000)) = true := by cases n <;> exact h
  rw [Bool.and_eq_true, decide_eq_true_eq] at h
  exact Nat.le_trans h.2 ml
theorem datD_tup {n : Nat} {ds : List D} (h : datD n (.tup ds) = true) : ∃ m, n = m + 1 ∧ ds.all (datD m) = true ∧ ds.length ≤ 1000000 := by
  cases n with
  | zero => simp [datD] at h
  | succ m =>
    simp only [datD, Bool.and_eq_true, decide_eq_true_eq] at h
    exact ⟨m, rfl, h.1, h.2⟩
def isNumD (d : D) (lo hi : Int) : Bool := match d with
  | .int i => decide (lo ≤ i) && decide (i ≤ hi)
  | _ => false
def a_is_number : ASp := fun ds C R => ∃ d lo hi, ds = [d, .int lo, .int hi] ∧ dat d = true ∧ R (.bl (isNumD d lo hi)) C
theorem rd_is_number : ∀ ds C R, a_is_number ds C R → t_is_number { nx := fun _ C' => R .non C', rt := R } (dstart ["part", "low", "high"] ds) C := by
  rintro ds C R ⟨d, lo, hi, rfl, hd, h⟩
  unfold t_is_number
  walk_at "dl"
  simp only [oIsi_int hd, oIsi_bool hd, D.bl.injEq, exists_eq_left', ex_some]
  cases d <;> simp [isIntD, isBlD, oLe, isNumD] at h ⊢ <;> first | exact h | skip
  rename_i i
  by_cases h1 : lo ≤ i <;> simp [h1] at h ⊢ <;> exact h
abbrev SMALL : Str := "abcdefghijklmnopqrstuvwxyz"
abbrev GREAT : Str := "ABCDEFGHIJKLMNOPQRSTUVWXYZ"
def isWordD (d : D) : Bool := match d with
  | .str z => decide (1 ≤ z.length) && decide (z.length ≤ 4) && z.cps.toList.all fun c => strIn ⟨#[c]⟩ SMALL
  | _ => false
def a_is_word : ASp := fun ds C R => ∃ d, ds = [d] ∧ datD 50 d = true ∧ R (.bl (isWordD d)) C
theorem chars_len (z : Str) : (chars z).length = z.length := by unfold chars; rw [List.length_map]; simp [Str.length]
theorem rd_is_word : ∀ ds C R, a_is_word ds C R → t_is_word { nx := fun _ C' => R .non C', rt := R } (dstart ["part", "sign"] ds) C := by
  rintro ds C R ⟨d, rfl, hd, h⟩
  unfold t_is_word
  walk_at "dl"
  simp only [oIsi_str (datD_dat hd), D.bl.injEq, exists_eq_left', ex_some]
  cases d <;> simp only [isStrD, isWordD, Bool.not_true, Bool.not_false, if_true, if_false, Bool.false_eq_true] at h ⊢ <;> first | exact h | skip
  rename_i z
  simp only [oLen_str (datD_str hd)]
  walk_at "dl"
  by_cases h1 : (1 : Int) ≤ (z.length : Nat)
  · by_cases h2 : ((z.length : Nat) : Int) ≤ 4
    · have e1 : 1 ≤ z.length := by omega
      have e2 : z.length ≤ 4 := by omega
      simp only [h1, h2, decide_true, if_true, D.bl.injEq, exists_eq_left', Bool.not_true, Bool.false_eq_true, if_false, itOf, ex_some]
      refine lc_fix (fun d => some (.bl (match d with | .str c => strIn c SMALL | _ => false))) (by rw [chars_len]; exact datD_str hd) (fun i d hi K hK => ?_) ?_
      · walk_at "dl"
        unfold chars at hi
        rw [List.getElem?_map] at hi
        obtain ⟨c, _, rfl⟩ := Option.map_eq_some_iff.mp hi
        walk_at "dl"
        exact hK
      · rw [fm_map]
        unfold chars
        rw [List.map_map]
        have : (z.cps.toList.map ((fun d => D.bl (match d with | .str c => strIn c SMALL | _ => false)) ∘ fun c => D.str ⟨#[c]⟩)) = z.cps.toList.map fun c => D.bl (strIn ⟨#[c]⟩ SMALL) := rfl
        rw [this, oAll_lst (bools_map _)]
        simp only [e1, e2, decide_true, Bool.true_and] at h
        have e3 : (z.cps.toList.map fun c => strIn ⟨#[c]⟩ SMALL).all id = z.cps.toList.all fun c => strIn ⟨#[c]⟩ SMALL := by rw [List.all_map]; rfl
        rw [e3]
        exact h
    · have e2 : ¬ z.length ≤ 4 := by omega
      simp [h1, h2, e2] at h ⊢
      exact h
  · have e1 : ¬ 1 ≤ z.length := by omega
    simp [h1, e1] at h ⊢
    exact h
theorem datD_all {n m : Nat} : ∀ {d : D}, n ≤ m → datD n d = true → datD m d = true := by
  intro d h
  induction n generalizing m d with
  | zero => intro q; cases d <;> first | (simp [datD] at q; done) | (cases m <;> exact q)
  | succ n ih =>
    intro q
    obtain ⟨m, rfl⟩ : ∃ k, m = k + 1 := ⟨m - 1, by omega⟩
    cases d <;> first
      | exact q
      | (simp only [datD, Bool.and_eq_true, List.all_eq_true] at q ⊢
         exact ⟨fun e he => ih (by omega) (q.1 e he), q.2⟩)
theorem datD_item {n : Nat} {ds : List D} {d : D} (h : datD n (.tup ds) = true) (hd : d ∈ ds) : datD n d = true := by
  obtain ⟨m, rfl, h1, _⟩ := datD_tup h
  exact datD_all (Nat.le_succ m) (List.all_eq_true.mp h1 d hd)
theorem datD_len {n : Nat} {ds : List D} (h : datD n (.tup ds) = true) : ds.length ≤ sizeLine := by
  obtain ⟨m, rfl, _, h2⟩ := datD_tup h
  exact Nat.le_trans h2 ml
theorem dat_ok {d : D} (h : datD 50 d = true) : okD 60 d = true := datD_ok (datD_all (by omega) h)
def isWorthD (d : D) : Bool := isWordD d || isNumD d (-99) 99
def a_is_worth : ASp := fun ds C R => ∃ d, ds = [d] ∧ datD 50 d = true ∧ R (.bl (isWorthD d)) C
theorem rd_is_worth : ∀ ds C R, a_is_worth ds C R → t_is_worth a_is_word a_is_number { nx := fun _ C' => R .non C', rt := R } (dstart ["part"] ds) C := by
  rintro ds C R ⟨d, rfl, hd, h⟩
  unfold t_is_worth
  walk_at "dl"
  refine ⟨d, rfl, hd, ?_⟩
  simp only [D.bl.injEq, exists_eq_left']
  unfold isWorthD at h
  cases e : isWordD d with
  | true => rw [e] at h; exact h
  | false =>
    rw [e] at h
    simp only [Bool.false_eq_true, if_false]
    refine ⟨d, -99, 99, by first | rfl | simp, datD_dat hd, ?_⟩
    exact h
def isBlankD (d : D) : Bool := match d with
  | .str z => decide (z.length = 1) && strIn z GREAT
  | _ => false
def a_is_blank : ASp := fun ds C R => ∃ d, ds = [d] ∧ datD 50 d = true ∧ R (.bl (isBlankD d)) C
theorem rd_is_blank : ∀ ds C R, a_is_blank ds C R → t_is_blank { nx := fun _ C' => R .non C', rt := R } (dstart ["part"] ds) C := by
  rintro ds C R ⟨d, rfl, hd, h⟩
  unfold t_is_blank
  walk_at "dl"
  simp only [oIsi_str (datD_dat hd), D.bl.injEq, exists_eq_left', ex_some]
  cases d <;> simp only [isStrD, isBlankD, if_true, if_false, Bool.false_eq_true] at h ⊢ <;> first | exact h | skip
  rename_i z
  simp only [oLen_str (datD_str hd)]
  walk_at "dl"
  have e : decide (((z.length : Nat) : Int) = 1) = decide (z.length = 1) := by
    rw [decide_eq_decide]; omega
  rw [e]
  exact h
def isThingD (d : D) : Bool := match d with
  | .tup (w :: ps) => decide (ps.length ≤ 4) && isWordD w && ps.all isWorthD
  | _ => false
def a_is_thing : ASp := fun ds C R => ∃ d, ds = [d] ∧ datD 50 d = true ∧ R (.bl (isThingD d)) C
theorem rd_is_thing : ∀ ds C R, a_is_thing ds C R → t_is_thing a_is_word a_is_worth { nx := fun _ C' => R .non C', rt := R } (dstart ["part", "one"] ds) C := by
  rintro ds C R ⟨d, rfl, hd, h⟩
  unfold t_is_thing
  walk_at "dl"
  simp only [oIsi_tuple (datD_dat hd), D.bl.injEq, exists_eq_left', ex_some]
  cases d <;> simp only [isTupD, isThingD, if_true, if_false, Bool.false_eq_true, Bool.not_true, Bool.not_false] at h ⊢ <;> first | exact h | skip
  rename_i ds
  walk_at "dl"
  cases ds with
  | nil =>
    simp at h ⊢
    exact h
  | cons w ps =>
    have hw : datD 50 w = true := datD_item hd (by simp)
    have e1 : (1 : Int) ≤ (((w :: ps).length : Nat) : Int) := by rw [List.length_cons]; omega
    by_cases e2 : (((w :: ps).length : Nat) : Int) ≤ 5
    · have e3 : ps.length ≤ 4 := by rw [List.length_cons] at e2; omega
      simp only [e3, decide_true, Bool.true_and] at h
      simp only [e1, e2, decide_true, if_true, D.bl.injEq, exists_eq_left', Bool.not_true, Bool.false_eq_true, if_false, List.getElem?_cons_zero, ex_some]
      refine ⟨w, by simp, hw, ?_⟩
      simp only [D.bl.injEq, exists_eq_left', List.drop_succ_cons, List.drop_zero]
      cases ew : isWordD w with
      | false => rw [ew] at h; simpa using h
      | true =>
        rw [ew] at h
        simp only [Bool.not_true, Bool.false_eq_true, if_false]
        refine lc_all isWorthD (by have := datD_len hd; rw [List.length_cons] at this; omega) (fun d hm K hK => ?_) (by simpa using h)
        walk_at "dl"
        exact ⟨d, rfl, datD_item hd (by simp [hm]), hK⟩
    · have e3 : ¬ ps.length ≤ 4 := by rw [List.length_cons] at e2; omega
      simp only [e3, decide_false, Bool.false_and] at h
      simp only [e1, e2, decide_true, decide_false, if_true, D.bl.injEq, exists_eq_left', Bool.not_false]
      exact h
def eqStrD (d : D) (z : Str) : Bool := match d with
  | .str x => x == z
  | _ => false
abbrev ANYS : Str := "_"
def isPartD (d : D) : Bool := isWorthD d || (isBlankD d || eqStrD d ANYS)
def isPatternD (d : D) : Bool := match d with
  | .tup (w :: ps) => decide (ps.length ≤ 4) && isWordD w && ps.all isPartD
  | _ => false
def a_is_pattern : ASp := fun ds C R => ∃ d, ds = [d] ∧ datD 50 d = true ∧ R (.bl (isPatternD d)) C
theorem rd_is_pattern : ∀ ds C R, a_is_pattern ds C R → t_is_pattern a_is_word a_is_worth a_is_blank { nx := fun _ C' => R .non C', rt := R } (dstart ["part", "one"] ds) C := by
  rintro ds C R ⟨d, rfl, hd, h⟩
  unfold t_is_pattern
  walk_at "dl"
  simp only [oIsi_tuple (datD_dat hd), D.bl.injEq, exists_eq_left', ex_some]
  cases d <;> simp only [isTupD, isPatternD, if_true, if_false, Bool.false_eq_true, Bool.not_true, Bool.not_false] at h ⊢ <;> first | exact h | skip
  rename_i ds
  walk_at "dl"
  cases ds with
  | nil =>
    simp at h ⊢
    exact h
  | cons w ps =>
    have hw : datD 50 w = true := datD_item hd (by simp)
    have e1 : (1 : Int) ≤ (((w :: ps).length : Nat) : Int) := by rw [List.length_cons]; omega
    by_cases e2 : (((w :: ps).length : Nat) : Int) ≤ 5
    · have e3 : ps.length ≤ 4 := by rw [List.length_cons] at e2; omega
      simp only [e3, decide_true, Bool.true_and] at h
      simp only [e1, e2, decide_true, if_true, D.bl.injEq, exists_eq_left', Bool.not_true, Bool.false_eq_true, if_false, List.getElem?_cons_zero, ex_some]
      refine ⟨w, by simp, hw, ?_⟩
      simp only [D.bl.injEq, exists_eq_left', List.drop_succ_cons, List.drop_zero]
      cases ew : isWordD w with
      | false => rw [ew] at h; simpa using h
      | true =>
        rw [ew] at h
        simp only [Bool.not_true, Bool.false_eq_true, if_false]
        refine lc_all isPartD (by have := datD_len hd; rw [List.length_cons] at this; omega) (fun d hm K hK => ?_) (by simpa using h)
        have hdd : datD 50 d = true := datD_item hd (by simp [hm])
        walk_at "dl"
        refine ⟨d, rfl, hdd, ?_⟩
        unfold isPartD at hK
        cases e4 : isWorthD d with
        | true => rw [e4] at hK; exact ⟨_, rfl, hK⟩
        | false =>
          rw [e4] at hK
          refine ⟨_, rfl, d, rfl, hdd, ?_⟩
          cases e5 : isBlankD d with
          | true => rw [e5] at hK; exact ⟨_, rfl, hK⟩
          | false =>
            rw [e5] at hK
            refine ⟨_, rfl, ?_⟩
            simp only [Bool.false_eq_true, if_false, oIsi_str (datD_dat hdd), D.bl.injEq, exists_eq_left']
            cases d <;> simp only [isStrD, if_true, if_false, Bool.false_eq_true] <;> first | exact hK | skip
            rw [oEq_ok (dat_ok hdd) (show okD 60 (D.str ANYS) = true by decide +kernel)]
            exact hK
    · have e3 : ¬ ps.length ≤ 4 := by rw [List.length_cons] at e2; omega
      simp only [e3, decide_false, Bool.false_and] at h
      simp only [e1, e2, decide_true, decide_false, if_true, D.bl.injEq, exists_eq_left', Bool.not_false]
      exact h
/-- the same, of worths -/
def sameD (x y : D) : Bool := (isStrD x == isStrD y) && D.eqv x y
def a_are_same : ASp := fun ds C R => ∃ x y, ds = [x, y] ∧ datD 50 x = true ∧ datD 50 y = true ∧ R (.bl (sameD x y)) C
theorem rd_are_same : ∀ ds C R, a_are_same ds C R → t_are_same { nx := fun _ C' => R .non C', rt := R } (dstart ["one", "other"] ds) C := by
  rintro ds C R ⟨x, y, rfl, hx, hy, h⟩
  unfold t_are_same
  walk_at "dl"
  simp only [oIsi_str (datD_dat hx), oIsi_str (datD_dat hy), oEq_ok (show okD 60 (D.bl _) = true from rfl) (show okD 60 (D.bl _) = true from rfl), D.eqv, D.bl.injEq, exists_eq_left', oEq_ok (dat_ok hx) (dat_ok hy), bl_and]
  exact h
def alikeD (p t : D) : Bool := match p, t with
  | .tup (a :: ps), .tup (b :: ts) => D.eqv a b && decide (ps.length = ts.length)
  | _, _ => false
def a_is_alike : ASp := fun ds C R => ∃ a ps b ts, ds = [.tup (a :: ps), .tup (b :: ts)] ∧ datD 50 (.tup (a :: ps)) = true ∧ datD 50 (.tup (b :: ts)) = true ∧ R (.bl (alikeD (.tup (a :: ps)) (.tup (b :: ts)))) C
theorem rd_is_alike : ∀ ds C R, a_is_alike ds C R → t_is_alike { nx := fun _ C' => R .non C', rt := R } (dstart ["pattern", "thing"] ds) C := by
  rintro ds C R ⟨a, ps, b, ts, rfl, hp, ht, h⟩
  unfold t_is_alike
  walk_at "dl"
  have ha := datD_item hp (List.mem_cons_self (a := a) (l := ps))
  have hb := datD_item ht (List.mem_cons_self (a := b) (l := ts))
  simp only [oEq_ok (dat_ok ha) (dat_ok hb), D.bl.injEq, exists_eq_left', oEq_ok (show okD 60 (D.int _) = true from rfl) (show okD 60 (D.int _) = true from rfl), D.eqv, bl_and]
  have e : decide (((ps.length + 1 : Nat) : Int) = ((ts.length + 1 : Nat) : Int)) = decide (ps.length = ts.length) := by
    rw [decide_eq_decide]; omega
  rw [e]
  exact h
end RR
namespace RR
open PySem PySem.Spec L2 DL
open PyProof.Rows hiding St kindOf
local macro_rules | `(tactic| walk_at "dl") => `(tactic| simp (config := { failIfUnchanged := false }) only [↓ex_two, ↓ex_three, dFor_eq, updC_at, updC_upd, lstOf_upd, dctOf_upd, dctOf_dct, lstOf_lst, isLst_upd, app_upd, dSeq, dNext, dRet, dRetN, dDrop, dIfS, dNever, dAsg, dPar, dPut, gdName, sz_0, sl_0, sz_1, sl_1, sz_2, sl_2, sz_3, sl_3, sz_4, sl_4, sz_5, sl_5, sz_6, sl_6, sz_7, sl_7, sz_8, sl_8, sz_9, sl_9, sz_10, sl_10, sz_11, sl_11, sz_12, sl_12, sz_13, sl_13, sz_14, sl_14, exists_eq, gdCons_cons, gdNil_nil, gdTup_tup, gdUnl_lst, Nat.succ_eq_add_one, Nat.zero_add, dAnd, dOr, dNot, dTest, dAndV, dOrV, dNotV, dIf, dChain, dOp, dUn, dFn, dCall, dNil, dCons, dVar, dC, dTup, dLst, dLstC, dDct0, dDct0C, dPart, dNoPart, dSlice, dLc, dLcC, diSeq, diZip, diEnum, diRng1, diRng2, dYes, dMtL, dSetd, dFrz,
  dstart, List.map, List.replicate, List.length, List.append, List.cons_append, List.nil_append, List.append_nil, List.getElem?_cons_zero, List.getElem?_cons_succ, Option.some.injEq, exists_eq_left', exists_eq_left, wipeD,
  List.cons.injEq, and_true, true_and, D.bl.injEq, D.int.injEq, D.str.injEq, D.tup.injEq, D.lst.injEq, D.dct.injEq, if_true, if_false, Bool.false_eq_true, Bool.not_true, Bool.not_false, Bool.not_not, ite_true, ite_false, reduceIte, List.set_cons_zero, List.set_cons_succ, Option.map_some, Option.isSome_some, and_false, false_and, exists_const,
  slOk_tup, itOf_tup, itOf_lst, itOf_str, itOf_dct, cutL_1, oLe_int, oLt_int, oGe_int, oGt_int, oAdd_int, oSub_int, oIs_non, oIsNot_non, oLen_tup, oLen_lst, oIx_tup, oIx_lst, atI_0, atI_1, atI_2, atI_3, atI_m1, atI_cast, oIn_str, oEq_int, oNe_int, oEq_bl, ex_some,
  bl_and, bl_or, bl_andT, bl_orT, Nat.sub_self, Nat.add_sub_cancel, Nat.reduceSub, Nat.reduceAdd])
/-! ### fitted -/
def fit1 (k : List (Key × D)) (p t : D) : Option (List (Key × D)) :=
  if isBlankD p = true then (match keyOf p with
    | none => none
    | some kk => match getK k kk with
      | some v => if sameD v t = true then some k else none
      | none => if sameD t t = true then some (putD k kk t) else none)
  else if eqStrD p ANYS = true ∨ sameD p t = true then some k else none
def fitL : List (Key × D) → List (D × D) → Option (List (Key × D))
  | k, [] => some k
  | k, (p, t) :: r => (fit1 k p t).bind fun k' => fitL k' r
def fittedD (p t : D) (k : List (Key × D)) : Option (List (Key × D)) := match p, t with
  | .tup (a :: ps), .tup (b :: ts) => if alikeD (.tup (a :: ps)) (.tup (b :: ts)) = true then fitL k (ps.zip ts) else none
  | _, _ => none
def optD (o : Option (List (Key × D))) : D := match o with
  | some k => .dct k
  | none => .non
/-- what is known: few, worths -/
def KnOk (k : List (Key × D)) : Prop := k.length ≤ 1000 ∧ ∀ kv ∈ k, datD 50 kv.2 = true
theorem getK_mem {k : List (Key × D)} {kk : Key} {d : D} (h : getK k kk = some d) : ∃ kv ∈ k, kv.2 = d := by
  obtain ⟨kv, h1, h2⟩ := Option.map_eq_some_iff.mp h
  exact ⟨kv, List.mem_of_find?_eq_some h1, h2⟩
theorem putD_len (k : List (Key × D)) (kk : Key) (d : D) : (putD k kk d).length ≤ k.length + 1 := by
  unfold putD
  split
  · rw [List.length_map]; omega
  · simp
theorem putD_mem {k : List (Key × D)} {kk : Key} {d : D} {kv : Key × D} (h : kv ∈ putD k kk d) : kv.2 = d ∨ kv ∈ k := by
  unfold putD at h
  split at h
  · obtain ⟨x, hx, e⟩ := List.mem_map.mp h
    split at e
    · exact .inl (by rw [← e])
    · exact .inr (by rw [← e]; exact hx)
  · rcases List.mem_append.mp h with h | h
    · exact .inr h
    · simp at h; exact .inl (by rw [h])
theorem fit1_len {k k' : List (Key × D)} {p t : D} (h : fit1 k p t = some k') : k'.length ≤ k.length + 1 ∧ ∀ kv ∈ k', kv ∈ k ∨ kv.2 = t := by
  unfold fit1 at h
  split at h
  · split at h
    · cases h
    · split at h
      · split at h
        · cases h; exact ⟨by omega, fun kv hk => .inl hk⟩
        · cases h
      · split at h
        · cases h; exact ⟨putD_len _ _ _, fun kv hk => (putD_mem hk).symm⟩
        · cases h
  · split at h
    · cases h; exact ⟨by omega, fun kv hk => .inl hk⟩
    · cases h
theorem fitL_snoc {p t : D} : ∀ {k : List (Key × D)} {r : List (D × D)}, fitL k (r ++ [(p, t)]) = (fitL k r).bind fun k' => fit1 k' p t
  | k, [] => by simp [fitL]
  | k, (a, b) :: r => by
    simp only [List.cons_append, fitL]
    cases e : fit1 k a b with
    | none => rfl
    | some k' => exact fitL_snoc (k := k') (r := r)
theorem fitL_app : ∀ {k : List (Key × D)} {r s : List (D × D)}, fitL k (r ++ s) = (fitL k r).bind fun k' => fitL k' s
  | k, [], s => by simp [fitL]
  | k, (a, b) :: r, s => by
    simp only [List.cons_append, fitL]
    cases e : fit1 k a b with
    | none => rfl
    | some k' => exact fitL_app (k := k') (r := r)
theorem zip_at {ps ts : List D} {i : Nat} {p t : D} (hp : ps[i]? = some p) (ht : ts[i]? = some t) : (ps.zip ts)[i]? = some (p, t) := List.getElem?_zip_eq_some.mpr ⟨hp, ht⟩
theorem take_snoc {α : Type} {l : List α} {i : Nat} {x : α} (h : l[i]? = some x) : l.take (i + 1) = l.take i ++ [x] := by
  rw [List.take_succ, h]; rfl
theorem split_at {α : Type} {l : List α} {i : Nat} {x : α} (h : l[i]? = some x) : l = l.take i ++ x :: l.drop (i + 1) := by
  obtain ⟨hi, e⟩ := List.getElem?_eq_some_iff.mp h
  rw [← e, ← List.drop_eq_getElem_cons hi, List.take_append_drop]
def a_fitted : ASp := fun ds C R => ∃ a ps b ts k, ds = [.tup (a :: ps), .tup (b :: ts), .dct k] ∧ datD 50 (.tup (a :: ps)) = true ∧ datD 50 (.tup (b :: ts)) = true ∧ KnOk k ∧ ps.length ≤ 100 ∧ R (optD (fittedD (.tup (a :: ps)) (.tup (b :: ts)) k)) C
theorem rd_fitted : ∀ ds C R, a_fitted ds C R → t_fitted a_is_alike a_is_blank a_are_same { nx := fun _ C' => lss R .non C', rt := lss R } (dstart ["pattern", "thing", "known", "found", "part", "worth"] ds) C := by
  rintro ds C R ⟨a, ps, b, ts, k, rfl, hp, ht, hk, hl, h⟩
  unfold t_fitted
  walk_at "dl"
  refine ⟨a, ps, b, ts, rfl, hp, ht, ?_⟩
  simp only [D.bl.injEq, exists_eq_left']
  simp only [fittedD] at h
  cases e : alikeD (.tup (a :: ps)) (.tup (b :: ts)) with
  | false => rw [e] at h; exact lss_of h
  | true =>
    rw [e] at h
    simp only [Bool.not_true, Bool.false_eq_true, if_false, if_true] at h ⊢
    rw [oDictC_def]
    refine ⟨k, rfl, fun q hq => ?_⟩
    have el : ps.length = ts.length := by
      simp only [alikeD, Bool.and_eq_true, decide_eq_true_eq] at e
      exact e.2
    walk_at "dl"
    refine ⟨.inl ⟨rfl, rfl⟩, ?_⟩
    obtain ⟨Pv, hPv⟩ : ∃ Pv : Nat → DSt → Cells → Prop, ∀ i δ C', Pv i δ C' ↔ ∃ o1 o2 k', δ = [some (.tup (a :: ps)), some (.tup (b :: ts)), some (.dct k), some (.ref q), o1, o2] ∧ C' = updC C q (.dct k') ∧ fitL k ((ps.zip ts).take i) = some k' ∧ k'.length ≤ k.length + i ∧ ∀ kv ∈ k', datD 50 kv.2 = true := ⟨_, fun _ _ _ => Iff.rfl⟩
    refine for_zip (x := .tup ((a :: ps).drop 1)) (y := .tup ((b :: ts).drop 1)) (ds := ps) (es := ts) (fun _ => rfl) (fun _ => rfl) el Pv
      ((hPv _ _ _).mpr ⟨none, none, k, rfl, rfl, rfl, by omega, hk.2⟩) ?_ ?_
    · intro i p t δ C' hi hj hv
      obtain ⟨o1, o2, k', rfl, rfl, hf, hkl, hkd⟩ := (hPv _ _ _).mp hv
      have hpd : datD 50 p = true := datD_item hp (List.mem_cons_of_mem _ (List.mem_of_getElem? hi))
      have htd : datD 50 t = true := datD_item ht (List.mem_cons_of_mem _ (List.mem_of_getElem? hj))
      have hil : i < ps.length := (List.getElem?_eq_some_iff.mp hi).1
      have hz := zip_at hi hj
      have bad : fit1 k' p t = none → fitL k (ps.zip ts) = none := fun e => by
        rw [split_at hz, fitL_app, hf]
        simp [fitL, e]
      have good : ∀ k2, fit1 k' p t = some k2 → fitL k ((ps.zip ts).take (i + 1)) = some k2 ∧ k2.length ≤ k.length + (i + 1) ∧ ∀ kv ∈ k2, datD 50 kv.2 = true := fun k2 e => by
        obtain ⟨l1, l2⟩ := fit1_len e
        refine ⟨?_, by omega, fun kv hkv => ?_⟩
        · rw [take_snoc hz, fitL_app, hf]
          simp [fitL, e]
        · rcases l2 kv hkv with q | q
          · exact hkd kv q
          · rw [q]; exact htd
      have fin : ∀ C2, fit1 k' p t = none → lss R .non (updC C q C2) := fun C2 e => by
        rw [bad e] at h
        exact lss_upd hq h
      have go : ∀ k2, fit1 k' p t = some k2 → Pv (i + 1) [some (.tup (a :: ps)), some (.tup (b :: ts)), some (.dct k), some (.ref q), some p, some t] (updC C q (.dct k2)) := fun k2 e => by
        obtain ⟨g1, g2, g3⟩ := good k2 e
        exact (hPv _ _ _).mpr ⟨_, _, _, rfl, rfl, g1, g2, g3⟩
      walk_at "dl"
      refine ⟨p, rfl, hpd, _, rfl, ?_⟩
      have h50 : k'.length < sizeLine := by have := hk.1; have := ml; omega
      unfold fit1 at fin go
      cases eb : isBlankD p with
      | true =>
        simp only [if_true, eb] at fin go ⊢
        obtain ⟨z, rfl⟩ : ∃ z, p = .str z := by cases p <;> first | exact ⟨_, rfl⟩ | (simp [isBlankD] at eb)
        refine ⟨by rw [dctOf_upd]; rfl, q, k', .inr z, rfl, updC_at, rfl, h50, ?_⟩
        simp only [DL.keyOf] at fin go
        cases eg : getK k' (.inr z) with
        | none =>
          simp only [eg] at fin go ⊢
          walk_at "dl"
          refine ⟨t, t, rfl, htd, htd, _, rfl, ?_⟩
          cases es : sameD t t with
          | true =>
            simp only [es, if_true] at fin go
            walk_at "dl"
            exact go _ rfl
          | false =>
            simp only [es, Bool.false_eq_true, if_false] at fin go
            walk_at "dl"
            exact fin _ (by first | trivial | rfl)
        | some v =>
          simp only [eg] at fin go ⊢
          obtain ⟨kv, hkv, rfl⟩ := getK_mem eg
          walk_at "dl"
          refine ⟨kv.2, t, rfl, hkd kv hkv, htd, _, rfl, ?_⟩
          cases es : sameD kv.2 t with
          | true =>
            simp only [es, if_true] at fin go
            walk_at "dl"
            exact go _ rfl
          | false =>
            simp only [es, Bool.false_eq_true, if_false] at fin go
            walk_at "dl"
            exact fin _ (by first | trivial | rfl)
      | false =>
        simp only [Bool.false_eq_true, if_false, eb] at fin go ⊢
        rw [oNe_ok (dat_ok hpd) (show okD 60 (D.str ANYS) = true by decide +kernel)]
        have ea : D.eqv p (.str ANYS) = eqStrD p ANYS := by cases p <;> rfl
        rw [ea]
        walk_at "dl"
        cases e1 : eqStrD p ANYS with
        | true =>
          simp only [e1, true_or, if_true] at fin go
          walk_at "dl"
          exact go _ rfl
        | false =>
          walk_at "dl"
          refine ⟨p, t, rfl, hpd, htd, _, rfl, ?_⟩
          simp only [e1, Bool.false_eq_true, false_or] at fin go
          cases es : sameD p t with
          | true =>
            simp only [es, if_true] at fin go
            walk_at "dl"
            exact go _ rfl
          | false =>
            simp only [es, Bool.false_eq_true, if_false] at fin go
            walk_at "dl"
            exact fin _ (by first | trivial | rfl)
    · intro δ C' hv
      obtain ⟨o1, o2, k', rfl, rfl, hf, hkl, hkd⟩ := (hPv _ _ _).mp hv
      walk_at "dl"
      rw [List.take_of_length_le (by rw [List.length_zip]; omega)] at hf
      rw [hf] at h
      exact ⟨_, _, frz_updD hq, lss_of h⟩
end RR
namespace RR
open PySem PySem.Spec L2 DL
open PyProof.Rows hiding St kindOf
local macro_rules | `(tactic| walk_at "dl") => `(tactic| simp (config := { failIfUnchanged := false }) only [↓ex_two, ↓ex_three, dFor_eq, updC_at, updC_upd, lstOf_upd, dctOf_upd, dctOf_dct, lstOf_lst, isLst_upd, app_upd, dSeq, dNext, dRet, dRetN, dDrop, dIfS, dNever, dAsg, dPar, dPut, gdName, sz_0, sl_0, sz_1, sl_1, sz_2, sl_2, sz_3, sl_3, sz_4, sl_4, sz_5, sl_5, sz_6, sl_6, sz_7, sl_7, sz_8, sl_8, sz_9, sl_9, sz_10, sl_10, sz_11, sl_11, sz_12, sl_12, sz_13, sl_13, sz_14, sl_14, exists_eq, gdCons_cons, gdNil_nil, gdTup_tup, gdUnl_lst, Nat.succ_eq_add_one, Nat.zero_add, dAnd, dOr, dNot, dTest, dAndV, dOrV, dNotV, dIf, dChain, dOp, dUn, dFn, dCall, dNil, dCons, dVar, dC, dTup, dLst, dLstC, dDct0, dDct0C, dPart, dNoPart, dSlice, dLc, dLcC, diSeq, diZip, diEnum, diRng1, diRng2, dYes, dMtL, dSetd, dFrz,
  dstart, List.map, List.replicate, List.length, List.append, List.cons_append, List.nil_append, List.append_nil, List.getElem?_cons_zero, List.getElem?_cons_succ, Option.some.injEq, exists_eq_left', exists_eq_left, wipeD,
  List.cons.injEq, and_true, true_and, D.bl.injEq, D.int.injEq, D.str.injEq, D.tup.injEq, D.lst.injEq, D.dct.injEq, if_true, if_false, Bool.false_eq_true, Bool.not_true, Bool.not_false, Bool.not_not, ite_true, ite_false, reduceIte, List.set_cons_zero, List.set_cons_succ, Option.map_some, Option.isSome_some, and_false, false_and, exists_const,
  slOk_tup, itOf_tup, itOf_lst, itOf_str, itOf_dct, cutL_1, oLe_int, oLt_int, oGe_int, oGt_int, oAdd_int, oSub_int, oIs_non, oIsNot_non, oLen_tup, oLen_lst, oIx_tup, oIx_lst, atI_0, atI_1, atI_2, atI_3, atI_m1, atI_cast, oIn_str, oEq_int, oNe_int, oEq_bl, ex_some,
  bl_and, bl_or, bl_andT, bl_orT, Nat.sub_self, Nat.add_sub_cancel, Nat.reduceSub, Nat.reduceAdd])
theorem oIn_at {x y : D} {C : Cells} {bs : List D} {R : D → Cells → Prop} (h : lstOf C y = some bs) (h1 : okD 60 x = true) (h2 : bs.all (okD 60) = true) : oIn x y C R = R (.bl (bs.any fun z => D.eqv z x)) C := by
  cases y <;> first | (simp [lstOf] at h; done) | skip
  · cases h
    exact oIn_lst h1 h2
  · rename_i p
    refine oIn_of ?_
    have e1 : dctOf C (.ref p) = none := by
      have h : (C p).bind cellLst = some bs := h
      show (C p).bind cellDct = none
      cases e : C p with
      | none => rfl
      | some c =>
        rw [e] at h
        cases c <;> first | rfl | (simp [cellLst] at h; done) | skip
        rename_i n c
        cases c <;> first | rfl | (simp [cellLst] at h; done)
    unfold inO
    simp only [DL.strOf, tupOf, e1, h]
    exact if_pos ⟨h1, h2⟩
def memD (x : D) (bs : List D) : Bool := bs.any fun z => D.eqv z x
def allDat (bs : List D) : Bool := bs.all (datD 50)
theorem allDat_ok {bs : List D} (h : allDat bs = true) : bs.all (okD 60) = true := List.all_eq_true.mpr fun d hd => dat_ok (List.all_eq_true.mp h d hd)
def blanksL (ps : List D) : List D := (ps.drop 1).filter isBlankD
def a_blanks_of : ASp := fun ds C R => ∃ ps, ds = [.tup ps] ∧ datD 50 (.tup ps) = true ∧ R (.lst (blanksL ps)) C
theorem rd_blanks_of : ∀ ds C R, a_blanks_of ds C R → t_blanks_of a_is_blank { nx := fun _ C' => R .non C', rt := R } (dstart ["pattern", "part"] ds) C := by
  rintro ds C R ⟨ps, rfl, hd, h⟩
  unfold t_blanks_of
  walk_at "dl"
  refine lc_filter isBlankD id (by have := datD_len hd; rw [List.length_drop]; omega) (fun d hm K hK => ?_) (by rw [List.map_id]; exact h)
  walk_at "dl"
  refine ⟨d, rfl, datD_item hd (List.mem_of_mem_drop hm), ?_⟩
  cases e : isBlankD d with
  | true => rw [e] at hK; walk_at "dl"; exact hK
  | false => rw [e] at hK; walk_at "dl"; exact hK
def isSideD (d : D) (bs : List D) : Bool := isWorthD d || (isBlankD d && memD d bs)
def a_is_side : ASp := fun ds C R => ∃ d y bs, ds = [d, y] ∧ datD 50 d = true ∧ lstOf C y = some bs ∧ allDat bs = true ∧ R (.bl (isSideD d bs)) C
theorem rd_is_side : ∀ ds C R, a_is_side ds C R → t_is_side a_is_worth a_is_blank { nx := fun _ C' => R .non C', rt := R } (dstart ["part", "known"] ds) C := by
  rintro ds C R ⟨d, y, bs, rfl, hd, hb, hbd, h⟩
  unfold t_is_side
  walk_at "dl"
  refine ⟨d, rfl, hd, ?_⟩
  unfold isSideD at h
  cases e : isWorthD d with
  | true => rw [e] at h; walk_at "dl"; exact h
  | false =>
    rw [e] at h
    walk_at "dl"
    refine ⟨d, rfl, hd, ?_⟩
    cases e2 : isBlankD d with
    | false => rw [e2] at h; walk_at "dl"; exact h
    | true =>
      rw [e2] at h
      walk_at "dl"
      rw [oIn_at hb (dat_ok hd) (allDat_ok hbd)]
      exact h
abbrev ISS : Str := "is"
abbrev NOTS : Str := "not"
abbrev LESSS : Str := "less"
abbrev SAMES : Str := "same"
abbrev UNLS : Str := "unlike"
def isWantD (d : D) (bs : List D) : Bool := match d with
  | .tup (.str z :: r) => if (z == ISS || z == NOTS) = true then (match r with
      | [p] => isPatternD p
      | _ => false)
    else ((z == LESSS || z == SAMES || z == UNLS) && decide (r.length = 2)) && r.all fun x => isSideD x bs
  | _ => false
def a_is_want : ASp := fun ds C R => ∃ d y bs, ds = [d, y] ∧ datD 50 d = true ∧ lstOf C y = some bs ∧ allDat bs = true ∧ R (.bl (isWantD d bs)) C
theorem len_int (n k : Nat) : (((n : Nat) : Int) == (k : Int)) = decide (n = k) := by
  rw [Bool.eq_iff_iff, beq_iff_eq, decide_eq_true_eq]; omega
theorem rd_is_want : ∀ ds C R, a_is_want ds C R → t_is_want a_is_pattern a_is_side { nx := fun _ C' => R .non C', rt := R } (dstart ["part", "known", "want"] ds) C := by
  rintro ds C R ⟨d, y, bs, rfl, hd, hb, hbd, h⟩
  unfold t_is_want
  walk_at "dl"
  simp only [oIsi_tuple (datD_dat hd), D.bl.injEq, exists_eq_left']
  cases d <;> simp only [isTupD, isWantD, if_true, if_false, Bool.false_eq_true, Bool.not_true, Bool.not_false] at h ⊢ <;> first | exact h | skip
  rename_i ds
  rw [oEq_ok (dat_ok hd) (show okD 60 (D.tup []) = true from rfl)]
  cases ds with
  | nil =>
    walk_at "dl"
    exact h
  | cons w r =>
    have hw : datD 50 w = true := datD_item hd (by simp)
    have e0 : D.eqv (.tup (w :: r)) (.tup []) = false := by simp [D.eqv, D.eqvL]
    rw [e0]
    walk_at "dl"
    simp only [oIsi_str (datD_dat hw), D.bl.injEq, exists_eq_left']
    cases w <;> simp only [isStrD, if_true, if_false, Bool.false_eq_true, Bool.not_true, Bool.not_false] at h ⊢ <;> first | exact h | skip
    rename_i z
    rw [oIn_tup rfl rfl]
    walk_at "dl"
    simp only [List.any, D.eqv, Bool.or_false]
    have e1 : (ISS == z || NOTS == z) = (z == ISS || z == NOTS) := by rw [Bool.beq_comm (a := ISS), Bool.beq_comm (a := NOTS)]
    rw [e1]
    cases ez : (z == ISS || z == NOTS) with
    | true =>
      rw [ez] at h
      walk_at "dl"
      rcases r with _ | ⟨p, _ | ⟨p2, r⟩⟩
      · exact h
      · refine ⟨p, rfl, p, rfl, datD_item hd (by simp), ?_⟩
        exact h
      · have e2 : (((D.str z :: p :: p2 :: r).length : Nat) : Int) ≠ 2 := by simp only [List.length_cons]; omega
        walk_at "dl"
        rw [show decide ((((r.length + 1 + 1 + 1 : Nat)) : Int) = 2) = false from decide_eq_false (by omega)]
        walk_at "dl"
        exact h
    | false =>
      rw [ez] at h
      walk_at "dl"
      rw [oIn_tup rfl rfl]
      walk_at "dl"
      simp only [List.any, D.eqv, Bool.or_false]
      have e1 : (LESSS == z || (SAMES == z || UNLS == z)) = (z == LESSS || z == SAMES || z == UNLS) := by rw [Bool.beq_comm (a := LESSS), Bool.beq_comm (a := SAMES), Bool.beq_comm (a := UNLS), Bool.or_assoc]
      rw [e1]
      cases e3 : (z == LESSS || z == SAMES || z == UNLS) with
      | false => rw [e3] at h; walk_at "dl"; exact h
      | true =>
        rw [e3] at h
        have e4 : decide ((((r.length + 1 : Nat)) : Int) = 3) = decide (r.length = 2) := by rw [decide_eq_decide]; omega
        walk_at "dl"
        rw [e4]
        cases e5 : decide (r.length = 2) with
        | false => rw [e5] at h; walk_at "dl"; exact h
        | true =>
          rw [e5] at h
          walk_at "dl"
          refine lc_all (fun x => isSideD x bs) (by have := datD_len hd; rw [List.length_cons] at this; show r.length ≤ _; omega) (fun d hm K hK => ?_) h
          have hm : d ∈ r := hm
          walk_at "dl"
          exact ⟨d, y, bs, rfl, datD_item hd (by simp [hm]), hb, hbd, hK⟩
/-! ### templates -/
def isPlaceD (bs : List D) (d : D) : Bool := match d with
  | .tup [a, b] => isBlankD a && memD a bs && isNumD b (-99) 99
  | .tup _ => false
  | d => isSideD d bs
def isTemplateD (d : D) (bs : List D) : Bool := match d with
  | .tup (w :: ps) => decide (ps.length ≤ 4) && isWordD w && ps.all (isPlaceD bs)
  | _ => false
def a_is_template : ASp := fun ds C R => ∃ d y bs, ds = [d, y] ∧ datD 50 d = true ∧ lstOf C y = some bs ∧ allDat bs = true ∧ R (.bl (isTemplateD d bs)) C
theorem rd_is_template : ∀ ds C R, a_is_template ds C R → t_is_template a_is_word a_is_blank a_is_number a_is_side { nx := fun _ C' => R .non C', rt := R } (dstart ["part", "known", "one"] ds) C := by
  rintro ds C R ⟨d, y, bs, rfl, hd, hb, hbd, h⟩
  unfold t_is_template
  walk_at "dl"
  simp only [oIsi_tuple (datD_dat hd), D.bl.injEq, exists_eq_left']
  cases d <;> simp only [isTupD, isTemplateD, if_true, if_false, Bool.false_eq_true, Bool.not_true, Bool.not_false] at h ⊢ <;> first | exact h | skip
  rename_i ds
  walk_at "dl"
  cases ds with
  | nil =>
    walk_at "dl"
    exact h
  | cons w ps =>
    have hw : datD 50 w = true := datD_item hd (by simp)
    have e1 : (1 : Int) ≤ (((ps.length + 1 : Nat)) : Int) := by omega
    by_cases e3 : ps.length ≤ 4
    · have e2 : (((ps.length + 1 : Nat)) : Int) ≤ 5 := by omega
      simp only [e3, decide_true, Bool.true_and] at h
      walk_at "dl"
      simp only [e1, e2, decide_true]
      walk_at "dl"
      refine ⟨w, by simp, hw, ?_⟩
      cases ew : isWordD w with
      | false => rw [ew] at h; walk_at "dl"; exact h
      | true =>
        rw [ew] at h
        walk_at "dl"
        obtain ⟨Pv, hPv⟩ : ∃ Pv : Nat → DSt → Cells → Prop, ∀ i δ C', Pv i δ C' ↔ ∃ o, δ = [some (.tup (w :: ps)), some y, o] ∧ C' = C ∧ (ps.take i).all (isPlaceD bs) = true := ⟨_, fun _ _ _ => Iff.rfl⟩
        refine for_fix (ds := ps) Pv ((hPv _ _ _).mpr ⟨none, rfl, rfl, rfl⟩) (fun i d δ C' hi hv => ?_) (fun δ C' hv => ?_)
        · obtain ⟨o, rfl, rfl, hal⟩ := (hPv _ _ _).mp hv
          have hd' : datD 50 d = true := datD_item hd (List.mem_cons_of_mem _ (List.mem_of_getElem? hi))
          have good : isPlaceD bs d = true → Pv (i + 1) [some (.tup (w :: ps)), some y, some d] C' := fun e => (hPv _ _ _).mpr ⟨_, rfl, rfl, by rw [take_snoc hi, List.all_append, hal]; simp [e]⟩
          have bad : isPlaceD bs d = false → R (.bl false) C' := fun e => by
            have : ps.all (isPlaceD bs) = false := List.all_eq_false.mpr ⟨d, List.mem_of_getElem? hi, by simp [e]⟩
            rw [this] at h
            exact h
          walk_at "dl"
          simp only [oIsi_tuple (datD_dat hd'), D.bl.injEq, exists_eq_left']
          have side : isTupD d = false → isPlaceD bs d = isSideD d bs := fun e => by cases d <;> first | rfl | (cases e)
          cases et : isTupD d with
          | false =>
            rw [side et] at good bad
            walk_at "dl"
            refine ⟨d, y, bs, rfl, hd', hb, hbd, ?_⟩
            cases e : isSideD d bs with
            | true => walk_at "dl"; exact good e
            | false => walk_at "dl"; exact bad e
          | true =>
            obtain ⟨qs, rfl⟩ : ∃ qs, d = .tup qs := by cases d <;> first | exact ⟨_, rfl⟩ | cases et
            walk_at "dl"
            rcases qs with _ | ⟨a, _ | ⟨b, _ | ⟨c, qs⟩⟩⟩
            · exact bad rfl
            · exact bad rfl
            · have ha := datD_item hd' (show a ∈ [a, b] by simp)
              have hb' := datD_item hd' (show b ∈ [a, b] by simp)
              simp only [isPlaceD] at good bad
              walk_at "dl"
              simp only [show decide (((2 : Nat) : Int) = 2) = true from rfl]
              walk_at "dl"
              refine ⟨a, rfl, ha, ?_⟩
              cases ea : isBlankD a with
              | false => rw [ea] at bad; walk_at "dl"; exact bad rfl
              | true =>
                rw [ea] at bad good
                walk_at "dl"
                rw [oNotIn_eq, oIn_at hb (dat_ok ha) (allDat_ok hbd)]
                walk_at "dl"
                cases em : memD a bs with
                | false =>
                  rw [em] at bad
                  rw [show (bs.any fun z => D.eqv z a) = false from em]
                  walk_at "dl"
                  exact bad rfl
                | true =>
                  rw [em] at bad good
                  rw [show (bs.any fun z => D.eqv z a) = true from em]
                  walk_at "dl"
                  refine ⟨b, -99, 99, rfl, datD_dat hb', ?_⟩
                  cases eb : isNumD b (-99) 99 with
                  | false => walk_at "dl"; exact bad (by simp [eb])
                  | true => walk_at "dl"; exact good (by simp [eb])
            · walk_at "dl"
              rw [show decide ((((qs.length + 1 + 1 + 1 : Nat)) : Int) = 2) = false from decide_eq_false (by omega)]
              walk_at "dl"
              exact bad rfl
        · obtain ⟨o, rfl, rfl, hal⟩ := (hPv _ _ _).mp hv
          walk_at "dl"
          rw [List.take_length] at hal
          rw [hal] at h
          exact h
    · have e2 : ¬ (((ps.length + 1 : Nat)) : Int) ≤ 5 := by omega
      simp only [e3, decide_false, Bool.false_and] at h
      walk_at "dl"
      simp only [e1, e2, decide_true, decide_false]
      walk_at "dl"
      exact h
/-! ### deeds, rules -/
abbrev TAKES : Str := "take"
def tellerD (z : Str) : Bool := z == "add" || z == "hold" || z == "say"
/-- the want of a number looks for a thing -/
def isWantAt (ws : List D) (d : D) : Bool := match d with
  | .int i => (match atI ws i with
    | some (.tup (.str z :: _)) => z == ISS
    | _ => false)
  | _ => false
def isDeedD (d : D) (ws bs : List D) : Bool := match d with
  | .tup [.str z, x] => if z == TAKES then isNumD x 0 (ws.length - 1 : Int) && isWantAt ws x else tellerD z && isTemplateD x bs
  | _ => false
/-- a want, as far as it was looked at -/
def headStr (d : D) : Bool := match d with
  | .tup (.str _ :: _) => true
  | _ => false
theorem want_head {d : D} {bs : List D} (h : isWantD d bs = true) : headStr d = true := by
  cases d <;> first | (simp [isWantD] at h; done) | skip
  rename_i ds
  cases ds with
  | nil => simp [isWantD] at h
  | cons w r => cases w <;> first | rfl | (simp [isWantD] at h; done)
def a_is_deed : ASp := fun ds C R => ∃ d ws y bs, ds = [d, .tup ws, y] ∧ datD 50 d = true ∧ datD 50 (.tup ws) = true ∧ ws.all headStr = true ∧ lstOf C y = some bs ∧ allDat bs = true ∧ R (.bl (isDeedD d ws bs)) C
theorem eqv_str {a b : Str} : D.eqv (.str a) (.str b) = (a == b) := rfl
theorem rd_is_deed : ∀ ds C R, a_is_deed ds C R → t_is_deed a_is_number a_is_template { nx := fun _ C' => R .non C', rt := R } (dstart ["part", "wants", "known"] ds) C := by
  rintro ds C R ⟨d, ws, y, bs, rfl, hd, hw, hh, hb, hbd, h⟩
  unfold t_is_deed
  walk_at "dl"
  simp only [oIsi_tuple (datD_dat hd), D.bl.injEq, exists_eq_left']
  cases d <;> simp only [isTupD, isDeedD, if_true, if_false, Bool.false_eq_true, Bool.not_true, Bool.not_false] at h ⊢ <;> first | exact h | skip
  rename_i ds
  walk_at "dl"
  rcases ds with _ | ⟨a, _ | ⟨b, _ | ⟨c, qs⟩⟩⟩
  · exact h
  · have h : R (.bl false) C := by cases a <;> exact h
    exact h
  · have ha := datD_item hd (show a ∈ [a, b] by simp)
    have hb' := datD_item hd (show b ∈ [a, b] by simp)
    walk_at "dl"
    simp only [show decide (((2 : Nat) : Int) = 2) = true from rfl]
    walk_at "dl"
    simp only [oIsi_str (datD_dat ha), D.bl.injEq, exists_eq_left']
    cases a <;> simp only [isStrD, if_true, if_false, Bool.false_eq_true, Bool.not_true, Bool.not_false] at h ⊢ <;> first | exact h | skip
    rename_i z
    rw [oEq_ok (dat_ok ha) (show okD 60 (D.str TAKES) = true by decide +kernel), eqv_str]
    walk_at "dl"
    cases ez : (z == TAKES) with
    | true =>
      rw [ez] at h
      walk_at "dl"
      refine ⟨b, 0, (ws.length : Int) - 1, rfl, datD_dat hb', ?_⟩
      cases en : isNumD b 0 ((ws.length : Int) - 1) with
      | false => rw [en] at h; walk_at "dl"; exact h
      | true =>
        rw [en] at h
        walk_at "dl"
        obtain ⟨i, rfl⟩ : ∃ i, b = .int i := by cases b <;> first | exact ⟨_, rfl⟩ | (simp [isNumD] at en)
        simp only [isNumD, Bool.and_eq_true, decide_eq_true_eq] at en
        obtain ⟨n, rfl⟩ : ∃ n : Nat, i = (n : Int) := ⟨i.toNat, by omega⟩
        have hn : n < ws.length := by omega
        walk_at "dl"
        refine ⟨ws[n], List.getElem?_eq_getElem hn, ?_⟩
        have hm : ws[n] ∈ ws := List.getElem_mem hn
        have hs := List.all_eq_true.mp hh _ hm
        have hdw := datD_item hw hm
        simp only [isWantAt, atI_cast, List.getElem?_eq_getElem hn] at h
        generalize ws[n] = x at h hs hdw ⊢
        cases x <;> first | (simp [headStr] at hs; done) | skip
        rename_i ds
        cases ds with
        | nil => simp [headStr] at hs
        | cons v r =>
          cases v <;> first | (simp [headStr] at hs; done) | skip
          walk_at "dl"
          have hv := datD_item hdw List.mem_cons_self
          rw [oEq_ok (dat_ok hv) (show okD 60 (D.str ISS) = true by decide +kernel), eqv_str]
          exact h
    | false =>
      rw [ez] at h
      walk_at "dl"
      rw [oIn_tup rfl rfl]
      walk_at "dl"
      simp only [List.any, D.eqv, Bool.or_false]
      have e1 : ((("add" : Str) == z) || ((("hold" : Str) == z) || (("say" : Str) == z))) = tellerD z := by
        unfold tellerD
        rw [Bool.beq_comm (a := ("add" : Str)), Bool.beq_comm (a := ("hold" : Str)), Bool.beq_comm (a := ("say" : Str)), Bool.or_assoc]
      rw [e1]
      cases et : tellerD z with
      | false => rw [et] at h; walk_at "dl"; exact h
      | true =>
        rw [et] at h
        walk_at "dl"
        exact ⟨b, y, bs, rfl, hb', hb, hbd, h⟩
  · have h : R (.bl false) C := by cases a <;> exact h
    walk_at "dl"
    rw [show decide ((((qs.length + 1 + 1 + 1 : Nat)) : Int) = 2) = false from decide_eq_false (by omega)]
    walk_at "dl"
    exact h
/-- wants in order, each with the blanks of those ahead -/
def wantsBs : List D → List D → Option (List D)
  | bs, [] => some bs
  | bs, w :: ws => if isWantD w bs = true then (match w with
      | .tup (.str z :: .tup ps :: _) => wantsBs (if z == ISS then bs ++ blanksL ps else bs) ws
      | _ => wantsBs bs ws)
    else none
def firstIs (ws : List D) : Bool := match ws with
  | .tup (.str z :: _) :: _ => z == ISS
  | _ => false
def badPartD (d : D) (names : List D) : D := match d with
  | .tup [name, rank, wants, deeds] =>
    if (!isWordD name || memD name names) = true then .int 0
    else if isNumD rank (-9) 9 = false then .int 1
    else match wants with
      | .tup ws => if ws.length < 1 ∨ 5 < ws.length ∨ firstIs ws = false then .int 2
        else match wantsBs [] ws with
          | none => .int 2
          | some bs => match deeds with
            | .tup qs => if qs.length < 1 ∨ 4 < qs.length then .int 3 else if (qs.all fun q => isDeedD q ws bs) = true then .non else .int 3
            | _ => .int 3
      | _ => .int 2
  | _ => .int (-1)
end RR
namespace RR
open PySem PySem.Spec L2 DL
open PyProof.Rows hiding St kindOf
local macro_rules | `(tactic| walk_at "dl") => `(tactic| simp (config := { failIfUnchanged := false }) only [↓ex_two, ↓ex_three, dFor_eq, updC_at, updC_upd, lstOf_upd, dctOf_upd, dctOf_dct, lstOf_lst, isLst_upd, app_upd, dSeq, dNext, dRet, dRetN, dDrop, dIfS, dNever, dAsg, dPar, dPut, gdName, sz_0, sl_0, sz_1, sl_1, sz_2, sl_2, sz_3, sl_3, sz_4, sl_4, sz_5, sl_5, sz_6, sl_6, sz_7, sl_7, sz_8, sl_8, sz_9, sl_9, sz_10, sl_10, sz_11, sl_11, sz_12, sl_12, sz_13, sl_13, sz_14, sl_14, exists_eq, gdCons_cons, gdNil_nil, gdTup_tup, gdUnl_lst, Nat.succ_eq_add_one, Nat.zero_add, dAnd, dOr, dNot, dTest, dAndV, dOrV, dNotV, dIf, dChain, dOp, dUn, dFn, dCall, dNil, dCons, dVar, dC, dTup, dLst, dLstC, dDct0, dDct0C, dPart, dNoPart, dSlice, dLc, dLcC, diSeq, diZip, diEnum, diRng1, diRng2, dYes, dMtL, dSetd, dFrz,
  dstart, List.map, List.replicate, List.length, List.append, List.cons_append, List.nil_append, List.append_nil, List.getElem?_cons_zero, List.getElem?_cons_succ, Option.some.injEq, exists_eq_left', exists_eq_left, wipeD,
  List.cons.injEq, and_true, true_and, D.bl.injEq, D.int.injEq, D.str.injEq, D.tup.injEq, D.lst.injEq, D.dct.injEq, if_true, if_false, Bool.false_eq_true, Bool.not_true, Bool.not_false, Bool.not_not, ite_true, ite_false, reduceIte, List.set_cons_zero, List.set_cons_succ, Option.map_some, Option.isSome_some, and_false, false_and, exists_const,
  slOk_tup, itOf_tup, itOf_lst, itOf_str, itOf_dct, cutL_1, oLe_int, oLt_int, oGe_int, oGt_int, oAdd_int, oSub_int, oIs_non, oIsNot_non, oLen_tup, oLen_lst, oIx_tup, oIx_lst, atI_0, atI_1, atI_2, atI_3, atI_m1, atI_cast, oIn_str, oEq_int, oNe_int, oEq_bl, ex_some,
  bl_and, bl_or, bl_andT, bl_orT, Nat.sub_self, Nat.add_sub_cancel, Nat.reduceSub, Nat.reduceAdd])
theorem oEq_str {x y : Str} {C : Cells} {R : D → Cells → Prop} (hx : PyData.strOk x = true) (hy : PyData.strOk y = true) : oEq (.str x) (.str y) C R = R (.bl (x == y)) C := oEq_ok (x := .str x) (y := .str y) hx hy
theorem oNe_str {x y : Str} {C : Cells} {R : D → Cells → Prop} (hx : PyData.strOk x = true) (hy : PyData.strOk y = true) : oNe (.str x) (.str y) C R = R (.bl (!(x == y))) C := oNe_ok (x := .str x) (y := .str y) hx hy
theorem datD_sok {n : Nat} {z : Str} (h : datD n (.str z) = true) : PyData.strOk z = true := by
  have h : (PyData.strOk z && decide (z.length ≤ 1000000)) = true := by cases n <;> exact h
  exact (Bool.and_eq_true _ _ ▸ h).1
theorem okIS : PyData.strOk ISS = true := by decide +kernel
theorem blanksL_len (ps : List D) : (blanksL ps).length ≤ ps.length := by
  unfold blanksL
  refine Nat.le_trans (List.length_filter_le _ _) ?_
  rw [List.length_drop]; omega
theorem blanksL_mem {ps : List D} {x : D} (h : x ∈ blanksL ps) : x ∈ ps ∧ isBlankD x = true := by
  obtain ⟨h1, h2⟩ := List.mem_filter.mp h
  exact ⟨List.mem_of_mem_drop h1, h2⟩
/-- what one want adds -/
def wantAdd (bs : List D) (w : D) : List D := match w with
  | .tup (.str z :: .tup ps :: _) => if z == ISS then bs ++ blanksL ps else bs
  | _ => bs
theorem wantsBs_cons {bs : List D} {w : D} {ws : List D} : wantsBs bs (w :: ws) = if isWantD w bs = true then wantsBs (wantAdd bs w) ws else none := by
  show (if isWantD w bs = true then (match w with
      | .tup (.str z :: .tup ps :: _) => wantsBs (if z == ISS then bs ++ blanksL ps else bs) ws
      | _ => wantsBs bs ws)
    else none) = _
  split
  · unfold wantAdd
    split <;> rfl
  · rfl
theorem wantsBs_snoc {w : D} : ∀ {ws : List D} {bs : List D}, wantsBs bs (ws ++ [w]) = (wantsBs bs ws).bind fun b => if isWantD w b = true then some (wantAdd b w) else none
  | [], bs => by simp [wantsBs_cons, wantsBs]
  | v :: ws, bs => by
    rw [List.cons_append, wantsBs_cons, wantsBs_cons]
    split
    · exact wantsBs_snoc
    · rfl
theorem wantsBs_none {w : D} {r : List D} : ∀ {ws : List D} {bs b : List D}, wantsBs bs ws = some b → isWantD w b = false → wantsBs bs (ws ++ w :: r) = none
  | [], bs, b, h, e => by
    cases h
    rw [List.nil_append, wantsBs_cons, if_neg (by simp [e])]
  | v :: ws, bs, b, h, e => by
    rw [wantsBs_cons] at h
    rw [List.cons_append, wantsBs_cons]
    split at h
    · rename_i g
      rw [if_pos g]
      exact wantsBs_none h e
    · cases h
theorem pattern_tup {d : D} (h : isPatternD d = true) : ∃ w ps, d = .tup (w :: ps) ∧ ps.length ≤ 4 := by
  cases d <;> first | (simp [isPatternD] at h; done) | skip
  rename_i ds
  cases ds with
  | nil => simp [isPatternD] at h
  | cons w ps =>
    simp only [isPatternD, Bool.and_eq_true, decide_eq_true_eq] at h
    exact ⟨w, ps, rfl, h.1.1⟩
/-- the shapes a want can have -/
theorem want_cases {d : D} {bs : List D} (h : isWantD d bs = true) : (∃ z p, d = .tup [.str z, p] ∧ (z = ISS ∨ z = NOTS) ∧ isPatternD p = true) ∨ (∃ z x y, d = .tup [.str z, x, y] ∧ (z = LESSS ∨ z = SAMES ∨ z = UNLS) ∧ isSideD x bs = true ∧ isSideD y bs = true) := by
  cases d <;> first | (simp [isWantD] at h; done) | skip
  rename_i ds
  cases ds with
  | nil => simp [isWantD] at h
  | cons w r =>
    cases w <;> first | (simp [isWantD] at h; done) | skip
    rename_i z
    simp only [isWantD] at h
    split at h
    · rename_i hz
      rcases r with _ | ⟨p, _ | ⟨q, r⟩⟩
      · cases h
      · refine .inl ⟨z, p, rfl, ?_, h⟩
        simpa using hz
      · cases h
    · rename_i hz
      simp only [Bool.and_eq_true, decide_eq_true_eq, Bool.or_eq_true, beq_iff_eq] at h
      obtain ⟨⟨h1, h2⟩, h3⟩ := h
      rcases r with _ | ⟨p, _ | ⟨q, _ | ⟨q2, r⟩⟩⟩ <;> first | (simp at h2; done) | skip
      simp only [List.all_cons, List.all_nil, Bool.and_true, Bool.and_eq_true] at h3
      exact .inr ⟨z, p, q, rfl, by rcases h1 with (h1 | h1) | h1 <;> simp [h1], h3.1, h3.2⟩
theorem wantAdd_len {w : D} {bs : List D} (h : isWantD w bs = true) : (wantAdd bs w).length ≤ bs.length + 5 := by
  rcases want_cases h with ⟨z, p, rfl, hz, hp⟩ | ⟨z, x, y, rfl, hz, hx, hy⟩
  · obtain ⟨w, ps, rfl, hl⟩ := pattern_tup hp
    simp only [wantAdd]
    split
    · rw [List.length_append]
      have := blanksL_len (w :: ps)
      rw [List.length_cons] at this
      omega
    · omega
  · unfold wantAdd
    split
    · rename_i e
      injection e with e
      injection e with e1 e2
      injection e1 with e1
      subst e1
      have : (z == ISS) = false := by rcases hz with rfl | rfl | rfl <;> decide +kernel
      rw [this]
      simp
    · omega
theorem wantAdd_dat {w : D} {bs : List D} (hb : allDat bs = true) (hw : datD 50 w = true) : allDat (wantAdd bs w) = true := by
  unfold wantAdd
  split
  · rename_i z ps r
    split
    · rw [allDat, List.all_append, Bool.and_eq_true]
      refine ⟨hb, List.all_eq_true.mpr fun x hx => ?_⟩
      exact datD_item (datD_item hw (show D.tup ps ∈ [D.str z, D.tup ps] ++ r by simp)) (blanksL_mem hx).1
    · exact hb
  · exact hb
def a_bad_part : ASp := fun ds C R => ∃ d y bs, ds = [d, y] ∧ datD 50 d = true ∧ lstOf C y = some bs ∧ allDat bs = true ∧ R (badPartD d bs) C
theorem lstOf_updN {C : Cells} {q : Addr} {c : Cell} {y : D} {bs : List D} (h : lstOf C y = some bs) (hq : C q = none) : lstOf (updC C q c) y = some bs := by
  cases y <;> first | exact h | skip
  rename_i p
  have hp : p ≠ q := by
    rintro rfl
    have h : (C p).bind cellLst = some bs := h
    rw [hq] at h
    cases h
  show (updC C q c p).bind cellLst = some bs
  rw [DL.updC_ne hp]
  exact h
theorem rd_bad_part : ∀ ds C R, a_bad_part ds C R → t_bad_part a_is_word a_is_number a_is_want a_blanks_of a_is_deed { nx := fun _ C' => lss R .non C', rt := lss R } (dstart ["rule", "names", "name", "rank", "wants", "deeds", "known", "number", "want", "deed"] ds) C := by
  rintro ds C R ⟨d, y, bs, rfl, hd, hb, hbd, h⟩
  unfold t_bad_part
  walk_at "dl"
  simp only [oIsi_tuple (datD_dat hd), D.bl.injEq, exists_eq_left']
  cases d <;> simp only [isTupD, if_true, if_false, Bool.false_eq_true, Bool.not_true, Bool.not_false] at h ⊢ <;> first | exact lss_of h | skip
  rename_i ds
  by_cases h4 : ds.length = 4
  rotate_left
  · have e : badPartD (.tup ds) bs = .int (-1) := by
      rcases ds with _ | ⟨a, _ | ⟨b, _ | ⟨c, _ | ⟨d, _ | ⟨e, r⟩⟩⟩⟩⟩ <;> first | rfl | (exact absurd rfl h4)
    rw [e] at h
    walk_at "dl"
    rw [show decide (((ds.length : Nat) : Int) = 4) = false from decide_eq_false (by omega)]
    walk_at "dl"
    exact lss_of h
  obtain ⟨name, rank, wants, deeds, rfl⟩ : ∃ a b c d, ds = [a, b, c, d] := by
    rcases ds with _ | ⟨a, _ | ⟨b, _ | ⟨c, _ | ⟨d, _ | ⟨e, r⟩⟩⟩⟩⟩ <;> first | exact ⟨_, _, _, _, rfl⟩ | (simp at h4; done)
  have hn := datD_item hd (show name ∈ [name, rank, wants, deeds] by simp)
  have hr := datD_item hd (show rank ∈ [name, rank, wants, deeds] by simp)
  have hw := datD_item hd (show wants ∈ [name, rank, wants, deeds] by simp)
  have hq := datD_item hd (show deeds ∈ [name, rank, wants, deeds] by simp)
  walk_at "dl"
  simp only [show decide (((4 : Nat) : Int) = 4) = true from rfl]
  walk_at "dl"
  refine ⟨name, rfl, hn, ?_⟩
  simp only [badPartD] at h
  cases en : isWordD name with
  | false =>
    simp only [en, Bool.not_false, Bool.true_or, if_true] at h
    walk_at "dl"
    exact lss_of h
  | true =>
    simp only [en, Bool.not_true, Bool.false_or] at h
    walk_at "dl"
    rw [oIn_at hb (dat_ok hn) (allDat_ok hbd)]
    walk_at "dl"
    cases em : memD name bs with
    | true =>
      rw [em, if_pos rfl] at h
      rw [show (bs.any fun z => D.eqv z name) = true from em]
      walk_at "dl"
      exact lss_of h
    | false =>
      rw [em, if_neg (by simp)] at h
      rw [show (bs.any fun z => D.eqv z name) = false from em]
      walk_at "dl"
      refine ⟨rank, -9, 9, rfl, datD_dat hr, ?_⟩
      cases ek : isNumD rank (-9) 9 with
      | false =>
        rw [ek, if_pos rfl] at h
        walk_at "dl"
        exact lss_of h
      | true =>
        rw [ek, if_neg (by simp)] at h
        walk_at "dl"
        simp only [oIsi_tuple (datD_dat hw), D.bl.injEq, exists_eq_left']
        cases wants <;> simp only [isTupD, if_true, if_false, Bool.false_eq_true, Bool.not_true, Bool.not_false] at h ⊢ <;> first | exact lss_of h | skip
        rename_i ws
        walk_at "dl"
        by_cases hl1 : ws.length < 1
        · rw [if_pos (.inl hl1)] at h
          rw [show decide ((1 : Int) ≤ (ws.length : Nat)) = false from decide_eq_false (by omega)]
          walk_at "dl"
          exact lss_of h
        rw [show decide ((1 : Int) ≤ (ws.length : Nat)) = true from decide_eq_true (by omega)]
        by_cases hl2 : 5 < ws.length
        · rw [if_pos (.inr (.inl hl2))] at h
          rw [show decide (((ws.length : Nat) : Int) ≤ 5) = false from decide_eq_false (by omega)]
          walk_at "dl"
          exact lss_of h
        rw [show decide (((ws.length : Nat) : Int) ≤ 5) = true from decide_eq_true (by omega)]
        walk_at "dl"
        intro q hqn
        obtain ⟨Pv, hPv⟩ : ∃ Pv : Nat → DSt → Cells → Prop, ∀ i δ C', Pv i δ C' ↔ ∃ o1 o2 kb, δ = [some (.tup [name, rank, .tup ws, deeds]), some y, some name, some rank, some (.tup ws), some deeds, some (.ref q), o1, o2, none] ∧ C' = updC C q (.lst kb) ∧ wantsBs [] (ws.take i) = some kb ∧ kb.length ≤ 5 * i ∧ allDat kb = true ∧ (ws.take i).all headStr = true ∧ (0 < i → firstIs ws = true) := ⟨_, fun _ _ _ => Iff.rfl⟩
        refine ⟨rfl, for_enum (x := .tup ws) (ds := ws) (fun _ => rfl) Pv ((hPv _ _ _).mpr ⟨none, none, [], rfl, rfl, rfl, by simp, rfl, rfl, by omega⟩) (fun i w δ C' hi hv => ?_) (fun δ C' hv => ?_)⟩
        · obtain ⟨o1, o2, kb, rfl, rfl, hkb, hkl, hkd, hhd, hfi⟩ := (hPv _ _ _).mp hv
          have hil : i < ws.length := (List.getElem?_eq_some_iff.mp hi).1
          have hwd := datD_item hw (List.mem_of_getElem? hi)
          have bad : isWantD w kb = false ∨ firstIs ws = false → lss R (.int 2) (updC C q (.lst kb)) := fun e => by
            refine lss_upd hqn ?_
            rcases e with e | e
            · have : wantsBs [] ws = none := by rw [split_at hi]; exact wantsBs_none hkb e
              rw [this] at h
              split at h <;> exact h
            · rw [if_pos (.inr (.inr e))] at h
              exact h
          walk_at "dl"
          refine ⟨w, .ref q, kb, rfl, hwd, lstOf_upd, hkd, ?_⟩
          cases ew : isWantD w kb with
          | false => walk_at "dl"; exact bad (.inl ew)
          | true =>
            have good : firstIs ws = true → ∀ kb2, kb2 = wantAdd kb w → Pv (i + 1) [some (.tup [name, rank, .tup ws, deeds]), some y, some name, some rank, some (.tup ws), some deeds, some (.ref q), some (.int (i : Nat)), some w, none] (updC C q (.lst kb2)) := fun e kb2 e2 => by
              subst e2
              refine (hPv _ _ _).mpr ⟨_, _, _, rfl, rfl, ?_, ?_, wantAdd_dat hkd hwd, ?_, fun _ => e⟩
              · rw [take_snoc hi, wantsBs_snoc, hkb]
                show (if isWantD w kb = true then some (wantAdd kb w) else none) = _
                rw [if_pos ew]
              · have := wantAdd_len ew; omega
              · rw [take_snoc hi, List.all_append, hhd]
                simp [want_head ew]
            have hkl2 : kb.length + 5 ≤ sizeLine := by have := ml; omega
            walk_at "dl"
            rcases want_cases ew with ⟨z, p, rfl, hz, hp⟩ | ⟨z, x, x2, rfl, hz, hx, hy⟩
            all_goals
              have hzd := datD_item hwd (show D.str z ∈ D.str z :: _ from List.mem_cons_self)
              have hfst : i = 0 → firstIs ws = (z == ISS) := fun e => by
                subst e
                rcases ws with _ | ⟨v, r⟩
                · cases hi
                · cases hi; rfl
              have hsec : i ≠ 0 → firstIs ws = true := fun e => hfi (by omega)
              have hz0 : z = NOTS ∨ z = LESSS ∨ z = SAMES ∨ z = UNLS → (z == ISS) = false := by rintro (rfl | rfl | rfl | rfl) <;> decide +kernel
              have hi0 : decide ((i : Int) = 0) = decide (i = 0) := by rw [decide_eq_decide]; omega
              rw [hi0]
              walk_at "dl"
              simp only [oEq_str (datD_sok hzd) okIS, oNe_str (datD_sok hzd) okIS]
              walk_at "dl"
            · obtain ⟨v, ps, rfl, hpl⟩ := pattern_tup hp
              have hpd := datD_item hwd (show D.tup (v :: ps) ∈ [D.str z, D.tup (v :: ps)] by simp)
              cases ez : (z == ISS) with
              | true =>
                have hf : firstIs ws = true := by
                  by_cases e : i = 0
                  · rw [hfst e, ez]
                  · exact hsec e
                have fin : isLst (updC C q (.lst kb)) (.ref q) ∧ a_blanks_of [.tup (v :: ps)] (updC C q (.lst kb)) fun x C1 => omExtend (.ref q) [x] C1 fun x C1 => Pv (i + 1) [some (.tup [name, rank, .tup ws, deeds]), some y, some name, some rank, some (.tup ws), some deeds, some (.ref q), some (.int (i : Nat)), some (.tup [.str z, .tup (v :: ps)]), none] C1 := by
                  refine ⟨by rw [isLst_upd]; trivial, _, rfl, hpd, ?_⟩
                  refine ext_upd (es := blanksL (v :: ps)) rfl ?_ (good hf _ ?_)
                  · have := blanksL_len (v :: ps)
                    rw [List.length_cons] at this
                    omega
                  · simp only [wantAdd, ez, if_true]
                by_cases e : i = 0
                · simp only [e, decide_true] at fin ⊢
                  walk_at "dl"
                  simpa only [isLst_upd, true_and] using fin
                · simp only [e, decide_false]
                  walk_at "dl"
                  simpa only [isLst_upd, true_and] using fin
              | false =>
                have ea : wantAdd kb (.tup [.str z, .tup (v :: ps)]) = kb := by simp only [wantAdd, ez]; simp
                by_cases e : i = 0
                · rw [show decide (i = 0) = true from decide_eq_true e]
                  simp (config := { failIfUnchanged := false }) only [ez]
                  walk_at "dl"
                  exact bad (.inr (by rw [hfst e, ez]))
                · rw [show decide (i = 0) = false from decide_eq_false e]
                  simp (config := { failIfUnchanged := false }) only [ez]
                  walk_at "dl"
                  exact ext_upd (es := []) rfl (by simp; omega) (good (hsec e) (kb ++ []) (by rw [ea, List.append_nil]))
            · have ez := hz0 (.inr hz)
              have ea : wantAdd kb (.tup [.str z, x, x2]) = kb := by
                unfold wantAdd
                split
                · rename_i e
                  injection e with e
                  injection e with e1 e2
                  injection e1 with e1
                  subst e1
                  rw [ez]
                  simp
                · rfl
              by_cases e : i = 0
              · rw [show decide (i = 0) = true from decide_eq_true e]
                simp (config := { failIfUnchanged := false }) only [ez]
                walk_at "dl"
                exact bad (.inr (by rw [hfst e, ez]))
              · rw [show decide (i = 0) = false from decide_eq_false e]
                simp (config := { failIfUnchanged := false }) only [ez]
                walk_at "dl"
                exact ext_upd (es := []) rfl (by simp; omega) (good (hsec e) (kb ++ []) (by rw [ea, List.append_nil]))
        · obtain ⟨o1, o2, kb, rfl, rfl, hkb, hkl, hkd, hhd, hfi⟩ := (hPv _ _ _).mp hv
          rw [List.take_length] at hkb hhd
          have hf := hfi (by omega)
          rw [if_neg (by rw [hf]; rintro (h | h | h) <;> first | omega | cases h), hkb] at h
          simp only at h
          walk_at "dl"
          simp only [oIsi_tuple (datD_dat hq), D.bl.injEq, exists_eq_left']
          cases deeds <;> simp only [isTupD, if_true, if_false, Bool.false_eq_true, Bool.not_true, Bool.not_false] at h ⊢ <;> first | exact lss_upd hqn h | skip
          rename_i qs
          walk_at "dl"
          by_cases hl3 : qs.length < 1
          · rw [if_pos (.inl hl3)] at h
            rw [show decide ((1 : Int) ≤ (qs.length : Nat)) = false from decide_eq_false (by omega)]
            walk_at "dl"
            exact lss_upd hqn h
          rw [show decide ((1 : Int) ≤ (qs.length : Nat)) = true from decide_eq_true (by omega)]
          by_cases hl4 : 4 < qs.length
          · rw [if_pos (.inr hl4)] at h
            rw [show decide (((qs.length : Nat) : Int) ≤ 4) = false from decide_eq_false (by omega)]
            walk_at "dl"
            exact lss_upd hqn h
          rw [if_neg (by omega)] at h
          rw [show decide (((qs.length : Nat) : Int) ≤ 4) = true from decide_eq_true (by omega)]
          walk_at "dl"
          refine lc_all (fun x => isDeedD x ws kb) (datD_len hq) (fun d hm K hK => ?_) ?_
          · walk_at "dl"
            exact ⟨d, ws, .ref q, kb, rfl, datD_item hq hm, hw, hhd, lstOf_upd, hkd, hK⟩
          · refine ⟨_, rfl, ?_⟩
            cases e : qs.all fun q => isDeedD q ws kb with
            | true => rw [e] at h; walk_at "dl"; exact lss_upd hqn h
            | false => rw [e] at h; walk_at "dl"; exact lss_upd hqn h
end RR
namespace RR
open PySem PySem.Spec L2 DL
open PyProof.Rows hiding St kindOf
local macro_rules | `(tactic| walk_at "dl") => `(tactic| simp (config := { failIfUnchanged := false }) only [↓ex_two, ↓ex_three, dFor_eq, updC_at, updC_upd, lstOf_upd, dctOf_upd, dctOf_dct, lstOf_lst, isLst_upd, app_upd, dSeq, dNext, dRet, dRetN, dDrop, dIfS, dNever, dAsg, dPar, dPut, gdName, sz_0, sl_0, sz_1, sl_1, sz_2, sl_2, sz_3, sl_3, sz_4, sl_4, sz_5, sl_5, sz_6, sl_6, sz_7, sl_7, sz_8, sl_8, sz_9, sl_9, sz_10, sl_10, sz_11, sl_11, sz_12, sl_12, sz_13, sl_13, sz_14, sl_14, exists_eq, gdCons_cons, gdNil_nil, gdTup_tup, gdUnl_lst, Nat.succ_eq_add_one, Nat.zero_add, dAnd, dOr, dNot, dTest, dAndV, dOrV, dNotV, dIf, dChain, dOp, dUn, dFn, dCall, dNil, dCons, dVar, dC, dTup, dLst, dLstC, dDct0, dDct0C, dPart, dNoPart, dSlice, dLc, dLcC, diSeq, diZip, diEnum, diRng1, diRng2, dYes, dMtL, dSetd, dFrz,
  dstart, List.map, List.replicate, List.length, List.append, List.cons_append, List.nil_append, List.append_nil, List.getElem?_cons_zero, List.getElem?_cons_succ, Option.some.injEq, exists_eq_left', exists_eq_left, wipeD,
  List.cons.injEq, and_true, true_and, D.bl.injEq, D.int.injEq, D.str.injEq, D.tup.injEq, D.lst.injEq, D.dct.injEq, if_true, if_false, Bool.false_eq_true, Bool.not_true, Bool.not_false, Bool.not_not, ite_true, ite_false, reduceIte, List.set_cons_zero, List.set_cons_succ, Option.map_some, Option.isSome_some, and_false, false_and, exists_const,
  slOk_tup, itOf_tup, itOf_lst, itOf_str, itOf_dct, cutL_1, oLe_int, oLt_int, oGe_int, oGt_int, oAdd_int, oSub_int, oIs_non, oIsNot_non, oLen_tup, oLen_lst, oIx_tup, oIx_lst, atI_0, atI_1, atI_2, atI_3, atI_m1, atI_cast, oIn_str, oEq_int, oNe_int, oEq_bl, ex_some,
  bl_and, bl_or, bl_andT, bl_orT, Nat.sub_self, Nat.add_sub_cancel, Nat.reduceSub, Nat.reduceAdd])
theorem okSAME : PyData.strOk SAMES = true := by decide +kernel
theorem okLESS : PyData.strOk LESSS = true := by decide +kernel
theorem okNOT : PyData.strOk NOTS = true := by decide +kernel
/-! ### sides, tests -/
def sideD (k : List (Key × D)) (p : D) : Option D := if isBlankD p = true then (match p with
    | .str z => getK k (.inr z)
    | _ => none)
  else some p
def a_side_of : ASp := fun ds C R => ∃ p k v, ds = [p, .dct k] ∧ datD 50 p = true ∧ sideD k p = some v ∧ R v C
theorem rd_side_of : ∀ ds C R, a_side_of ds C R → t_side_of a_is_blank { nx := fun _ C' => R .non C', rt := R } (dstart ["part", "known"] ds) C := by
  rintro ds C R ⟨p, k, v, rfl, hp, hs, h⟩
  unfold t_side_of
  walk_at "dl"
  refine ⟨p, rfl, hp, ?_⟩
  unfold sideD at hs
  cases e : isBlankD p with
  | false =>
    rw [e] at hs
    cases hs
    walk_at "dl"
    exact h
  | true =>
    rw [e, if_pos rfl] at hs
    cases p <;> first | (cases e; done) | skip
    walk_at "dl"
    rw [oIx_dct rfl]
    exact ⟨v, hs, h⟩
def ltD (a b : D) : Bool := match a, b with
  | .int i, .int j => decide (i < j)
  | _, _ => false
def holdsD (z : Str) (a b : D) : Bool := if (z == LESSS) = true then ltD a b else sameD a b == (z == SAMES)
theorem worth_cases {d : D} (h : isWorthD d = true) : (∃ i, d = .int i) ∨ ∃ z, d = .str z := by
  unfold isWorthD at h
  cases d <;> first | exact .inl ⟨_, rfl⟩ | exact .inr ⟨_, rfl⟩ | (simp [isWordD, isNumD] at h; done)
def a_holds : ASp := fun ds C R => ∃ z x y k a b, ds = [.tup [.str z, x, y], .dct k] ∧ datD 50 (.tup [.str z, x, y]) = true ∧ sideD k x = some a ∧ sideD k y = some b ∧ datD 50 a = true ∧ datD 50 b = true ∧ isWorthD a = true ∧ isWorthD b = true ∧ R (.bl (holdsD z a b)) C
theorem rd_holds : ∀ ds C R, a_holds ds C R → t_holds a_side_of a_are_same { nx := fun _ C' => R .non C', rt := R } (dstart ["test", "known", "one", "other"] ds) C := by
  rintro ds C R ⟨z, x, y, k, a, b, rfl, hd, h1, h2, ha, hb, wa, wb, h⟩
  unfold t_holds
  have hz := datD_item hd (show D.str z ∈ [.str z, x, y] by simp)
  walk_at "dl"
  refine ⟨x, k, a, rfl, datD_item hd (show x ∈ [.str z, x, y] by simp), h1, y, k, b, rfl, datD_item hd (show y ∈ [.str z, x, y] by simp), h2, ?_⟩
  walk_at "dl"
  simp only [oEq_str (datD_sok hz) okLESS]
  walk_at "dl"
  unfold holdsD at h
  cases e : (z == LESSS) with
  | true =>
    rw [e, if_pos rfl] at h
    walk_at "dl"
    simp only [oIsi_str (datD_dat ha), oIsi_str (datD_dat hb)]
    rcases worth_cases wa with ⟨i, rfl⟩ | ⟨i, rfl⟩ <;> rcases worth_cases wb with ⟨j, rfl⟩ | ⟨j, rfl⟩ <;> (simp only [isStrD]; walk_at "dl"; simpa [ltD] using h)
  | false =>
    rw [e, if_neg (by simp)] at h
    walk_at "dl"
    refine ⟨a, b, rfl, ha, hb, ?_⟩
    walk_at "dl"
    simp only [oEq_str (datD_sok hz) okSAME]
    walk_at "dl"
    exact h
/-! ### passed -/
abbrev Kn := List (Key × D)
abbrev S1 := List Int × Kn
def sD (s : S1) : D := .tup [.tup (s.1.map .int), .dct s.2]
def itD (it : Int × D) : D := .tup [.int it.1, it.2]
def passS (w : D) (its : List (Int × D)) (s : S1) : List S1 := match w with
  | .tup [.str z, p] => if (z == ISS) = true then its.filterMap fun it => (fittedD p it.2 s.2).map fun k => (s.1 ++ [it.1], k)
    else if (its.all fun it => (fittedD p it.2 s.2).isNone) = true then [s] else []
  | .tup [.str z, x, y] => match sideD s.2 x, sideD s.2 y with
    | some a, some b => if holdsD z a b = true then [s] else []
    | _, _ => []
  | _ => []
/-- what is known is enough for the blanks bs -/
def KnFor (bs : List D) (k : Kn) : Prop := KnOk k ∧ (∀ kv ∈ k, isWorthD kv.2 = true) ∧ ∀ z, memD (.str z) bs = true → ∃ v, getK k (.inr z) = some v
def ThOk (t : D) : Prop := datD 50 t = true ∧ isThingD t = true
theorem thing_tup {d : D} (h : isThingD d = true) : ∃ w ps, d = .tup (w :: ps) ∧ ps.length ≤ 4 ∧ ps.all isWorthD = true := by
  cases d <;> first | (simp [isThingD] at h; done) | skip
  rename_i ds
  cases ds with
  | nil => simp [isThingD] at h
  | cons w ps =>
    simp only [isThingD, Bool.and_eq_true, decide_eq_true_eq] at h
    exact ⟨w, ps, rfl, h.1.1, h.2⟩
def a_passed : ASp := fun ds C R => ∃ w bs, ∃ ss : List S1, ∃ its : List (Int × D), ds = [w, .lst (ss.map sD), .lst (its.map itD)] ∧ datD 50 w = true ∧ isWantD w bs = true ∧ (∀ s ∈ ss, KnFor bs s.2 ∧ s.1.length ≤ 100) ∧ (∀ it ∈ its, ThOk it.2) ∧ its.length ≤ 30 ∧ ss.length * max 1 its.length ≤ 16000000 ∧ R (.lst ((ss.flatMap (passS w its)).map sD)) C
theorem len_take {α : Type} (l : List α) (i : Nat) : (l.take i).length ≤ l.length := by rw [List.length_take]; omega
theorem passS_len {w : D} {its : List (Int × D)} {s : S1} (h : 1 ≤ its.length) : (passS w its s).length ≤ its.length := by
  unfold passS
  split
  · split
    · exact List.length_filterMap_le _ _
    · split <;> simp <;> omega
  · split
    · split <;> simp <;> omega
    · simp
  · simp
theorem passS_len1 (w : D) (its : List (Int × D)) (s : S1) : (passS w its s).length ≤ max 1 its.length := by
  by_cases e : 1 ≤ its.length
  · have := passS_len (w := w) (s := s) e; omega
  · have : its = [] := List.length_eq_zero_iff.mp (by omega)
    subst this
    unfold passS
    split
    · split
      · simp
      · simp
    · split
      · split <;> simp
      · simp
    · simp
theorem pass_len (w : D) (its : List (Int × D)) (l : List S1) : (l.flatMap (passS w its)).length ≤ l.length * max 1 its.length := by
  induction l with
  | nil => simp
  | cons a l ih =>
    rw [List.flatMap_cons, List.length_append, List.length_cons, Nat.add_mul]
    have := passS_len1 w its a
    omega
theorem optD_isNon (o : Option Kn) : isNon (optD o) = o.isNone := by cases o <;> rfl
theorem strIn_one {c : Nat} {y : Str} (h : strIn ⟨#[c]⟩ y = true) : c ∈ y.cps.toList := by
  refine Classical.byContradiction fun hc => ?_
  have : Builtin.Str.occurrences y ⟨#[c]⟩ 0 y.length 1 = [] := PySem.W.occ_nil_of_no y ⟨#[c]⟩ 1 fun i hi => by
    cases e : Builtin.Str.subAt y ⟨#[c]⟩ i with
    | false => rfl
    | true =>
      exfalso
      apply hc
      have e : y.cps.extract i (i + 1) = #[c] := by simpa [Builtin.Str.subAt, Str.length] using e
      have hm : c ∈ (y.cps.extract i (i + 1)).toList := by rw [e]; simp
      rw [Array.toList_extract] at hm
      exact List.mem_of_mem_drop (List.mem_of_mem_take (by simpa [List.extract] using hm))
  unfold strIn at h
  rw [this] at h
  cases h
theorem blank_one {d : D} (h : isBlankD d = true) : ∃ c, d = .str ⟨#[c]⟩ ∧ 65 ≤ c ∧ c ≤ 90 := by
  cases d <;> first | (cases h; done) | skip
  rename_i z
  simp only [isBlankD, Bool.and_eq_true, decide_eq_true_eq] at h
  obtain ⟨h1, h2⟩ := h
  obtain ⟨⟨l⟩⟩ := z
  simp only [Str.length, List.size_toArray] at h1
  obtain ⟨c, rfl⟩ := List.length_eq_one_iff.mp h1
  have hm := strIn_one h2
  have : ∀ c ∈ (GREAT : Str).cps.toList, 65 ≤ c ∧ c ≤ 90 := by decide +kernel
  exact ⟨c, rfl, this c hm⟩
theorem word_letters {z : Str} (h : isWordD (.str z) = true) : ∀ c ∈ z.cps.toList, 97 ≤ c ∧ c ≤ 122 := by
  simp only [isWordD, Bool.and_eq_true] at h
  intro c hc
  have hm := strIn_one (List.all_eq_true.mp h.2 c hc)
  have : ∀ c ∈ (SMALL : Str).cps.toList, 97 ≤ c ∧ c ≤ 122 := by decide +kernel
  exact this c hm
/-- a blank is no worth -/
theorem blank_worth {d : D} (h : isBlankD d = true) : isWorthD d = false := by
  obtain ⟨c, rfl, h1, h2⟩ := blank_one h
  cases e : isWorthD (.str ⟨#[c]⟩) with
  | false => rfl
  | true =>
    unfold isWorthD at e
    have e : isWordD (.str ⟨#[c]⟩) = true := by simpa [isNumD] using e
    have := word_letters e c (by simp)
    omega
theorem side_ok {x : D} {bs : List D} {k : Kn} (hd : datD 50 x = true) (h : isSideD x bs = true) (hk : KnFor bs k) : ∃ a, sideD k x = some a ∧ datD 50 a = true ∧ isWorthD a = true := by
  unfold sideD
  cases e : isBlankD x with
  | false =>
    unfold isSideD at h
    rw [e] at h
    exact ⟨x, by simp, hd, by simpa using h⟩
  | true =>
    unfold isSideD at h
    rw [blank_worth e, e] at h
    obtain ⟨c, rfl, _⟩ := blank_one e
    obtain ⟨a, h1⟩ := hk.2.2 ⟨#[c]⟩ (by simpa using h)
    obtain ⟨kv, hkv, rfl⟩ := getK_mem h1
    exact ⟨kv.2, by simpa using h1, hk.1.2 kv hkv, hk.2.1 kv hkv⟩
theorem rd_passed : ∀ ds C R, a_passed ds C R → t_passed a_fitted a_holds { nx := fun _ C' => lss R .non C', rt := lss R } (dstart ["want", "some", "things", "found", "numbers", "known", "number", "thing", "more"] ds) C := by
  rintro ds C R ⟨w, bs, ss, its, rfl, hw, hwant, hss, hits, hil, hsl, h⟩
  unfold t_passed
  walk_at "dl"
  intro q hq
  obtain ⟨Pv, hPv⟩ : ∃ Pv : Nat → DSt → Cells → Prop, ∀ i δ C', Pv i δ C' ↔ ∃ o1 o2 o3 o4 o5, δ = [some w, some (.lst (ss.map sD)), some (.lst (its.map itD)), some (.ref q), o1, o2, o3, o4, o5] ∧ C' = updC C q (.lst (((ss.take i).flatMap (passS w its)).map sD)) := ⟨_, fun _ _ _ => Iff.rfl⟩
  refine for_fix Pv ((hPv _ _ _).mpr ⟨none, none, none, none, none, rfl, rfl⟩) (fun i d δ C' hi hv => ?_) (fun δ C' hv => ?_)
  · obtain ⟨o1, o2, o3, o4, o5, rfl, rfl⟩ := (hPv _ _ _).mp hv
    rw [List.getElem?_map] at hi
    obtain ⟨s, hi2, rfl⟩ := Option.map_eq_some_iff.mp hi
    have hsm := List.mem_of_getElem? hi2
    obtain ⟨⟨hkn, hkf⟩, hsn⟩ := hss s hsm
    have hlen : ((ss.take i).flatMap (passS w its)).length + 31 ≤ sizeLine := by
      have h2 := pass_len w its (ss.take i)
      have h3 : (ss.take i).length ≤ ss.length := len_take _ _
      have h4 := Nat.mul_le_mul_right (max 1 its.length) h3
      rw [sizeLine_eq]
      omega
    have next : ∀ o1 o2 o3 ls, ls = passS w its s → Pv (i + 1) [some w, some (.lst (ss.map sD)), some (.lst (its.map itD)), some (.ref q), some (.tup (s.1.map .int)), some (.dct s.2), o1, o2, o3] (updC C q (.lst ((((ss.take i).flatMap (passS w its)).map sD) ++ ls.map sD))) := fun o1 o2 o3 ls e => by
      subst e
      refine (hPv _ _ _).mpr ⟨_, _, _, _, _, rfl, ?_⟩
      rw [take_snoc hi2, List.flatMap_append, List.map_append]
      simp
    rw [show sD s = .tup [.tup (s.1.map .int), .dct s.2] from rfl]
    walk_at "dl"
    rcases want_cases hwant with ⟨z, p, rfl, hz, hp⟩ | ⟨z, x, y, rfl, hz, hx, hy⟩
    · have hzd := datD_item hw (show D.str z ∈ [D.str z, p] by simp)
      have hpd := datD_item hw (show p ∈ [D.str z, p] by simp)
      obtain ⟨v, ps, rfl, hpl⟩ := pattern_tup hp
      walk_at "dl"
      simp only [oEq_str (datD_sok hzd) okIS]
      walk_at "dl"
      cases ez : (z == ISS) with
      | true =>
        walk_at "dl"
        have epass : passS (.tup [.str z, .tup (v :: ps)]) its s = its.filterMap fun it => (fittedD (.tup (v :: ps)) it.2 s.2).map fun k => (s.1 ++ [it.1], k) := by simp only [passS, ez, if_true]
        obtain ⟨Pw, hPw⟩ : ∃ Pw : Nat → DSt → Cells → Prop, ∀ j δ C', Pw j δ C' ↔ ∃ o1 o2 o3, δ = [some (.tup [.str z, .tup (v :: ps)]), some (.lst (ss.map sD)), some (.lst (its.map itD)), some (.ref q), some (.tup (s.1.map .int)), some (.dct s.2), o1, o2, o3] ∧ C' = updC C q (.lst ((((ss.take i).flatMap (passS (.tup [.str z, .tup (v :: ps)]) its)).map sD) ++ ((its.take j).filterMap fun it => (fittedD (.tup (v :: ps)) it.2 s.2).map fun k => (s.1 ++ [it.1], k)).map sD)) := ⟨_, fun _ _ _ => Iff.rfl⟩
        refine for_fix Pw ((hPw _ _ _).mpr ⟨o3, o4, o5, rfl, by rw [List.take_zero, List.filterMap_nil, List.map_nil, List.append_nil]⟩) (fun j d δ C' hj hv => ?_) (fun δ C' hv => ?_)
        · obtain ⟨o1, o2, o3, rfl, rfl⟩ := (hPw _ _ _).mp hv
          rw [List.getElem?_map] at hj
          obtain ⟨it, hj2, rfl⟩ := Option.map_eq_some_iff.mp hj
          obtain ⟨htd, htt⟩ := hits it (List.mem_of_getElem? hj2)
          obtain ⟨u, us, eu, hul, huw⟩ := thing_tup htt
          rw [show itD it = .tup [.int it.1, it.2] from rfl]
          walk_at "dl"
          rw [eu] at htd ⊢
          refine ⟨v, ps, u, us, s.2, rfl, hpd, htd, hkn, by omega, ?_⟩
          walk_at "dl"
          rw [optD_isNon]
          have hj3 : j < its.length := (List.getElem?_eq_some_iff.mp hj2).1
          have hlen2 : (((its.take j).filterMap fun it => (fittedD (.tup (v :: ps)) it.2 s.2).map fun k => (s.1 ++ [it.1], k))).length ≤ 30 := by
            refine Nat.le_trans (List.length_filterMap_le _ _) ?_
            exact Nat.le_trans (len_take _ _) (by omega)
          cases ef : fittedD (.tup (v :: ps)) (.tup (u :: us)) s.2 with
          | none =>
            walk_at "dl"
            refine (hPw _ _ _).mpr ⟨_, _, _, rfl, ?_⟩
            rw [take_snoc hj2, List.filterMap_append]
            simp [eu, ef]
          | some k2 =>
            walk_at "dl"
            rw [oAdd_tup (by simp only [List.length_map]; rw [sizeLine_eq]; simp; omega)]
            walk_at "dl"
            refine ⟨by simp only [List.length_append, List.length_map]; omega, (hPw _ _ _).mpr ⟨_, _, _, rfl, ?_⟩⟩
            rw [take_snoc hj2, List.filterMap_append]
            simp [eu, ef, sD, optD]
        · obtain ⟨o1, o2, o3, rfl, rfl⟩ := (hPw _ _ _).mp hv
          rw [List.length_map, List.take_length]
          walk_at "dl"
          exact next _ _ _ _ epass.symm
      | false =>
        have ez2 : z = NOTS := by rcases hz with rfl | rfl <;> first | rfl | (simp at ez; done)
        subst ez2
        simp only [oEq_str okNOT okNOT]
        walk_at "dl"
        rw [show (NOTS == NOTS) = true from by decide +kernel]
        walk_at "dl"
        have epass : passS (.tup [.str NOTS, .tup (v :: ps)]) its s = if (its.all fun it => (fittedD (.tup (v :: ps)) it.2 s.2).isNone) = true then [s] else [] := by simp only [passS, ez]; rfl
        refine lc_all (fun d => match d with
          | .tup [_, t] => (fittedD (.tup (v :: ps)) t s.2).isNone
          | _ => false) (by rw [List.length_map, sizeLine_eq]; omega) (fun d hm K hK => ?_) ?_
        · obtain ⟨it, hit, rfl⟩ := List.mem_map.mp hm
          obtain ⟨htd, htt⟩ := hits it hit
          obtain ⟨u, us, eu, hul, huw⟩ := thing_tup htt
          rw [show itD it = .tup [.int it.1, it.2] from rfl] at hK ⊢
          walk_at "dl"
          rw [eu] at htd ⊢
          refine ⟨v, ps, u, us, s.2, rfl, hpd, htd, hkn, by omega, ?_⟩
          show K (.bl (DL.isNon (optD _))) _
          rw [optD_isNon]
          simp only [eu] at hK
          exact hK
        · rw [List.all_map]
          have e2 : (its.all ((fun d => match d with
            | .tup [_, t] => (fittedD (.tup (v :: ps)) t s.2).isNone
            | _ => false) ∘ itD)) = its.all fun it => (fittedD (.tup (v :: ps)) it.2 s.2).isNone := rfl
          rw [e2]
          cases ea : its.all fun it => (fittedD (.tup (v :: ps)) it.2 s.2).isNone with
          | true =>
            rw [ea, if_pos rfl] at epass
            walk_at "dl"
            exact ⟨by rw [List.length_map]; omega, next _ _ _ _ epass.symm⟩
          | false =>
            rw [ea, if_neg (by simp)] at epass
            walk_at "dl"
            have := next o3 o4 o5 _ epass.symm
            rw [List.map_nil, List.append_nil] at this
            exact this
    · have hzd := datD_item hw (show D.str z ∈ [D.str z, x, y] by simp)
      have ez : (z == ISS) = false := by rcases hz with rfl | rfl | rfl <;> decide +kernel
      have ez2 : (z == NOTS) = false := by rcases hz with rfl | rfl | rfl <;> decide +kernel
      walk_at "dl"
      simp only [oEq_str (datD_sok hzd) okIS, ez]
      walk_at "dl"
      simp only [oEq_str (datD_sok hzd) okNOT, ez2]
      walk_at "dl"
      obtain ⟨a, ha1, ha2, ha3⟩ := side_ok (datD_item hw (show x ∈ [D.str z, x, y] by simp)) hx ⟨hkn, hkf⟩
      obtain ⟨b, hb1, hb2, hb3⟩ := side_ok (datD_item hw (show y ∈ [D.str z, x, y] by simp)) hy ⟨hkn, hkf⟩
      have epass : passS (.tup [.str z, x, y]) its s = if holdsD z a b = true then [s] else [] := by simp only [passS, ha1, hb1]
      refine ⟨z, x, y, s.2, a, b, rfl, hw, ha1, hb1, ha2, hb2, ha3, hb3, ?_⟩
      walk_at "dl"
      cases eh : holdsD z a b with
      | true =>
        rw [eh, if_pos rfl] at epass
        walk_at "dl"
        exact ⟨by rw [List.length_map]; omega, next _ _ _ _ epass.symm⟩
      | false =>
        rw [eh, if_neg (by simp)] at epass
        walk_at "dl"
        have := next o3 o4 o5 _ epass.symm
        rw [List.map_nil, List.append_nil] at this
        exact this
  · obtain ⟨o1, o2, o3, o4, o5, rfl, rfl⟩ := (hPv _ _ _).mp hv
    rw [List.length_map, List.take_length]
    walk_at "dl"
    exact ⟨_, _, frz_upd hq, lss_of h⟩
end RR
namespace RR
open PySem PySem.Spec L2 DL
open PyProof.Rows hiding St kindOf
local macro_rules | `(tactic| walk_at "dl") => `(tactic| simp (config := { failIfUnchanged := false }) only [↓ex_two, ↓ex_three, dFor_eq, updC_at, updC_upd, lstOf_upd, dctOf_upd, dctOf_dct, lstOf_lst, isLst_upd, app_upd, dSeq, dNext, dRet, dRetN, dDrop, dIfS, dNever, dAsg, dPar, dPut, gdName, sz_0, sl_0, sz_1, sl_1, sz_2, sl_2, sz_3, sl_3, sz_4, sl_4, sz_5, sl_5, sz_6, sl_6, sz_7, sl_7, sz_8, sl_8, sz_9, sl_9, sz_10, sl_10, sz_11, sl_11, sz_12, sl_12, sz_13, sl_13, sz_14, sl_14, exists_eq, gdCons_cons, gdNil_nil, gdTup_tup, gdUnl_lst, Nat.succ_eq_add_one, Nat.zero_add, dAnd, dOr, dNot, dTest, dAndV, dOrV, dNotV, dIf, dChain, dOp, dUn, dFn, dCall, dNil, dCons, dVar, dC, dTup, dLst, dLstC, dDct0, dDct0C, dPart, dNoPart, dSlice, dLc, dLcC, diSeq, diZip, diEnum, diRng1, diRng2, dYes, dMtL, dSetd, dFrz,
  dstart, List.map, List.replicate, List.length, List.append, List.cons_append, List.nil_append, List.append_nil, List.getElem?_cons_zero, List.getElem?_cons_succ, Option.some.injEq, exists_eq_left', exists_eq_left, wipeD,
  List.cons.injEq, and_true, true_and, D.bl.injEq, D.int.injEq, D.str.injEq, D.tup.injEq, D.lst.injEq, D.dct.injEq, if_true, if_false, Bool.false_eq_true, Bool.not_true, Bool.not_false, Bool.not_not, ite_true, ite_false, reduceIte, List.set_cons_zero, List.set_cons_succ, Option.map_some, Option.isSome_some, and_false, false_and, exists_const,
  slOk_tup, itOf_tup, itOf_lst, itOf_str, itOf_dct, cutL_1, oLe_int, oLt_int, oGe_int, oGt_int, oAdd_int, oSub_int, oIs_non, oIsNot_non, oLen_tup, oLen_lst, oIx_tup, oIx_lst, atI_0, atI_1, atI_2, atI_3, atI_m1, atI_cast, oIn_str, oEq_int, oNe_int, oEq_bl, ex_some,
  bl_and, bl_or, bl_andT, bl_orT, Nat.sub_self, Nat.add_sub_cancel, Nat.reduceSub, Nat.reduceAdd])
/-! ### what is known grows -/
theorem getK_put_self (k : Kn) (kk : Key) (d : D) : getK (putD k kk d) kk = some d := by
  unfold putD
  split
  · rename_i h
    induction k with
    | nil => simp at h
    | cons kv r ih =>
      rw [List.map_cons]
      by_cases e : kv.1 = kk
      · simp [getK, e]
      · simp only [getK, List.find?_cons, e, if_false, decide_false] at ih ⊢
        refine ih ?_
        simpa [e] using h
  · rename_i h
    have : k.find? (fun kv => decide (kv.1 = kk)) = none := by
      rw [List.find?_eq_none]
      intro x hx
      simp only [List.any_eq_true, not_exists, not_and] at h
      exact h x hx
    simp [getK, List.find?_append, this]
theorem getK_put_ne (k : Kn) {kk k2 : Key} (d : D) (hne : k2 ≠ kk) : getK (putD k kk d) k2 = getK k k2 := by
  unfold putD
  split
  · induction k with
    | nil => rfl
    | cons kv r ih =>
      rw [List.map_cons]
      by_cases h : kv.1 = k2
      · subst h
        simp [getK, hne]
      · by_cases e : kv.1 = kk
        · subst e
          rw [if_pos rfl]
          simp only [getK, List.find?_cons, h, decide_false] at ih ⊢
          by_cases ha : (r.any fun kv' => decide (kv'.1 = kv.1)) = true
          · exact ih ha
          · have : (r.map fun kv' => if kv'.1 = kv.1 then (kv'.1, d) else kv') = r := by
              rw [List.map_congr_left (g := id)]
              · simp
              · intro x hx
                have : x.1 ≠ kv.1 := fun e => ha (List.any_eq_true.mpr ⟨x, hx, by simp [e]⟩)
                simp [this]
            rw [this]
        · rw [if_neg e]
          simp only [getK, List.find?_cons, h, decide_false] at ih ⊢
          refine ih ?_
          simpa [e] using ‹((kv :: r).any fun kv => decide (kv.1 = kk)) = true›
  · have : kk ≠ k2 := fun e => hne e.symm
    simp [getK, List.find?_append, this]
theorem fit1_keep {k k' : Kn} {p t : D} {kk : Key} {v : D} (h : fit1 k p t = some k') (hv : getK k kk = some v) : getK k' kk = some v := by
  unfold fit1 at h
  split at h
  · split at h
    · cases h
    · split at h
      · split at h
        · cases h; exact hv
        · cases h
      · rename_i k2 hk2 hg
        split at h
        · cases h
          rw [getK_put_ne _ _ (by rintro rfl; rw [hg] at hv; cases hv)]
          exact hv
        · cases h
  · split at h
    · cases h; exact hv
    · cases h
theorem fit1_new {k k' : Kn} {z : Str} {t : D} (hb : isBlankD (.str z) = true) (h : fit1 k (.str z) t = some k') : ∃ v, getK k' (.inr z) = some v ∧ (v = t ∨ getK k (.inr z) = some v) := by
  unfold fit1 at h
  rw [if_pos hb] at h
  simp only [DL.keyOf] at h
  cases e : getK k (.inr z) with
  | some v =>
    simp only [e] at h
    split at h
    · cases h; exact ⟨v, e, .inr rfl⟩
    · cases h
  | none =>
    simp only [e] at h
    split at h
    · cases h; exact ⟨t, getK_put_self _ _ _, .inl rfl⟩
    · cases h
theorem fitL_keep {kk : Key} {v : D} : ∀ {r : List (D × D)} {k k' : Kn}, fitL k r = some k' → getK k kk = some v → getK k' kk = some v
  | [], _, _, h, hv => by cases h; exact hv
  | (p, t) :: r, k, k', h, hv => by
    simp only [fitL] at h
    obtain ⟨k2, h1, h2⟩ := Option.bind_eq_some_iff.mp h
    exact fitL_keep h2 (fit1_keep h1 hv)
theorem fitL_new {z : Str} (hb : isBlankD (.str z) = true) : ∀ {r : List (D × D)} {k k' : Kn}, fitL k r = some k' → (∀ pt ∈ r, isWorthD pt.2 = true) → (∀ v, getK k (.inr z) = some v → isWorthD v = true) → (∃ t, (D.str z, t) ∈ r) → ∃ v, getK k' (.inr z) = some v ∧ isWorthD v = true
  | [], _, _, h, _, _, ⟨_, hm⟩ => by cases hm
  | (p, t) :: r, k, k', h, hw, hk, ⟨u, hm⟩ => by
    simp only [fitL] at h
    obtain ⟨k2, h1, h2⟩ := Option.bind_eq_some_iff.mp h
    by_cases e : p = .str z
    · subst e
      obtain ⟨v, hv, hvv⟩ := fit1_new hb h1
      refine ⟨v, fitL_keep h2 hv, ?_⟩
      rcases hvv with rfl | hvv
      · exact hw (.str z, v) List.mem_cons_self
      · exact hk v hvv
    · refine fitL_new hb h2 (fun pt hpt => hw pt (by simp [hpt])) (fun v hv => ?_) ⟨u, by
        rcases List.mem_cons.mp hm with hm | hm
        · cases hm; exact absurd rfl e
        · exact hm⟩
      unfold fit1 at h1
      split at h1
      · rename_i hpb
        obtain ⟨y, rfl⟩ : ∃ y, p = .str y := by cases p <;> first | exact ⟨_, rfl⟩ | (cases hpb; done)
        simp only [DL.keyOf] at h1
        split at h1
        · split at h1
          · cases h1; exact hk v hv
          · cases h1
        · split at h1
          · cases h1
            rw [getK_put_ne _ _ (by rintro e2; cases e2; exact e rfl)] at hv
            exact hk v hv
          · cases h1
      · split at h1
        · cases h1; exact hk v hv
        · cases h1
theorem fitL_len : ∀ {r : List (D × D)} {k k' : Kn}, fitL k r = some k' → k'.length ≤ k.length + r.length ∧ ∀ kv ∈ k', kv ∈ k ∨ ∃ pt ∈ r, kv.2 = pt.2
  | [], _, _, h => by cases h; exact ⟨by omega, fun kv h => .inl h⟩
  | (p, t) :: r, k, k', h => by
    simp only [fitL] at h
    obtain ⟨k2, h1, h2⟩ := Option.bind_eq_some_iff.mp h
    obtain ⟨l1, m1⟩ := fit1_len h1
    obtain ⟨l2, m2⟩ := fitL_len h2
    refine ⟨by rw [List.length_cons]; omega, fun kv hkv => ?_⟩
    rcases m2 kv hkv with q | ⟨pt, q1, q2⟩
    · rcases m1 kv q with q | q
      · exact .inl q
      · exact .inr ⟨(p, t), by simp, q⟩
    · exact .inr ⟨pt, by simp [q1], q2⟩
theorem zip_right {ps ts : List D} {p : D} (h : p ∈ ps) (hl : ps.length = ts.length) : ∃ t, (p, t) ∈ ps.zip ts := by
  obtain ⟨i, hi, rfl⟩ := List.mem_iff_getElem.mp h
  exact ⟨ts[i]'(by omega), List.mem_iff_getElem.mpr ⟨i, by rw [List.length_zip]; omega, by rw [List.getElem_zip]⟩⟩
theorem memD_str {z : Str} {bs : List D} (h : memD (.str z) bs = true) : D.str z ∈ bs := by
  obtain ⟨x, hx, e⟩ := List.any_eq_true.mp h
  cases x <;> first | (cases e; done) | skip
  have e : ((_ : Str) == z) = true := e
  rw [beq_iff_eq] at e
  subst e
  exact hx
theorem fitted_for {bs : List D} {z : Str} {ps : List D} {v : D} {t : D} {k k' : Kn} (hz : (z == ISS) = true) (hpl : ps.length ≤ 4) (ht : ThOk t) (hk : KnFor bs k) (hl : k.length ≤ 900) (h : fittedD (.tup (v :: ps)) t k = some k') : KnFor (wantAdd bs (.tup [.str z, .tup (v :: ps)])) k' ∧ k'.length ≤ k.length + 4 := by
  obtain ⟨htd, htt⟩ := ht
  obtain ⟨u, us, rfl, hul, huw⟩ := thing_tup htt
  simp only [fittedD] at h
  split at h
  rotate_left
  · cases h
  rename_i ha
  have hlen : ps.length = us.length := by
    simp only [alikeD, Bool.and_eq_true, decide_eq_true_eq] at ha
    exact ha.2
  obtain ⟨l1, m1⟩ := fitL_len h
  have hzl : (ps.zip us).length ≤ 4 := by rw [List.length_zip]; omega
  refine ⟨⟨⟨by omega, fun kv hkv => ?_⟩, fun kv hkv => ?_, fun y hy => ?_⟩, by omega⟩
  · rcases m1 kv hkv with q | ⟨pt, q1, q2⟩
    · exact hk.1.2 kv q
    · rw [q2]
      exact datD_item htd (List.mem_cons_of_mem _ (List.of_mem_zip q1).2)
  · rcases m1 kv hkv with q | ⟨pt, q1, q2⟩
    · exact hk.2.1 kv q
    · rw [q2]
      exact List.all_eq_true.mp huw _ (List.of_mem_zip q1).2
  · simp only [wantAdd, hz, if_true] at hy
    have hy := memD_str hy
    rcases List.mem_append.mp hy with q | q
    · obtain ⟨w, hw1⟩ := hk.2.2 y (List.any_eq_true.mpr ⟨_, q, by simp [D.eqv]⟩)
      exact ⟨w, fitL_keep h hw1⟩
    · obtain ⟨q1, q2⟩ := List.mem_filter.mp q
      have q1 : D.str y ∈ ps := q1
      obtain ⟨w, hw, _⟩ := fitL_new q2 h (fun pt hpt => List.all_eq_true.mp huw _ (List.of_mem_zip hpt).2) (fun w hw => by
        obtain ⟨kv, hkv, rfl⟩ := getK_mem hw
        exact hk.2.1 kv hkv) (zip_right q1 hlen)
      exact ⟨w, hw⟩
/-! ### all that pass -/
theorem passS_for {w : D} {bs : List D} {its : List (Int × D)} {s s' : S1} (hw : isWantD w bs = true) (hits : ∀ it ∈ its, ThOk it.2) (hk : KnFor bs s.2) (hl : s.2.length ≤ 900) (h : s' ∈ passS w its s) : KnFor (wantAdd bs w) s'.2 ∧ s'.1.length ≤ s.1.length + 1 ∧ s'.2.length ≤ s.2.length + 4 := by
  rcases want_cases hw with ⟨z, p, rfl, hz, hp⟩ | ⟨z, x, y, rfl, hz, hx, hy⟩
  · obtain ⟨v, ps, rfl, hpl⟩ := pattern_tup hp
    cases ez : (z == ISS) with
    | true =>
      simp only [passS, ez, if_true] at h
      obtain ⟨it, hit, e⟩ := List.mem_filterMap.mp h
      obtain ⟨k', e1, rfl⟩ := Option.map_eq_some_iff.mp e
      obtain ⟨a, b⟩ := fitted_for ez hpl (hits it hit) hk hl e1
      exact ⟨a, by simp, b⟩
    | false =>
      have ea : wantAdd bs (.tup [.str z, .tup (v :: ps)]) = bs := by simp only [wantAdd, ez]; simp
      simp only [passS, ez] at h
      rw [ea]
      split at h
      · simp at *
      · split at h
        · simp at h; subst h; exact ⟨hk, by omega, by omega⟩
        · cases h
  · have ez : (z == ISS) = false := by rcases hz with rfl | rfl | rfl <;> decide +kernel
    have ea : wantAdd bs (.tup [.str z, x, y]) = bs := by
      unfold wantAdd
      split
      · rename_i e
        injection e with e
        injection e with e1 e2
        injection e1 with e1
        subst e1
        rw [ez]
        simp
      · rfl
    rw [ea]
    simp only [passS] at h
    split at h
    · split at h
      · simp at h; subst h; exact ⟨hk, by omega, by omega⟩
      · cases h
    · cases h
/-- the ways to meet wants -/
def ways (its : List (Int × D)) (ss : List S1) (ws : List D) : List S1 := ws.foldl (fun ss w => ss.flatMap (passS w its)) ss
theorem ways_snoc (its : List (Int × D)) (ss : List S1) (ws : List D) (w : D) : ways its ss (ws ++ [w]) = (ways its ss ws).flatMap (passS w its) := by
  unfold ways
  rw [List.foldl_append]
  rfl
structure RuleOk (r : D) : Prop where
  dat : datD 50 r = true
  sh : ∃ n m ws q bs, r = .tup [n, m, .tup ws, q] ∧ wantsBs [] ws = some bs ∧ ws.length ≤ 5
def ruleM (its : List (Int × D)) (i : Nat) (r : D) : List D := match r with
  | .tup [_, _, .tup ws, _] => (ways its [([], [])] ws).map fun s => .tup [.int (i : Nat), .tup (s.1.map .int)]
  | _ => []
def foundD (its : List (Int × D)) (rs : List D) : List D := rs.zipIdx.flatMap fun ri => ruleM its ri.2 ri.1
/-- every way of as many wants is good -/
theorem ways_ok {its : List (Int × D)} (hits : ∀ it ∈ its, ThOk it.2) : ∀ {ws : List D} {bs : List D}, wantsBs [] ws = some bs → ws.length ≤ 200 → (∀ s ∈ ways its [([], [])] ws, KnFor bs s.2 ∧ s.1.length ≤ ws.length ∧ s.2.length ≤ 4 * ws.length) ∧ (ways its [([], [])] ws).length ≤ (max 1 its.length) ^ ws.length := by
  intro ws
  suffices H : ∀ n (ws : List D) bs, ws.length = n → wantsBs [] ws = some bs → ws.length ≤ 200 → (∀ s ∈ ways its [([], [])] ws, KnFor bs s.2 ∧ s.1.length ≤ ws.length ∧ s.2.length ≤ 4 * ws.length) ∧ (ways its [([], [])] ws).length ≤ (max 1 its.length) ^ ws.length from fun {bs} => H _ ws bs rfl
  intro n
  induction n with
  | zero =>
    intro ws bs hl hb _
    obtain rfl := List.length_eq_zero_iff.mp hl
    cases hb
    refine ⟨fun s hs => ?_, by simp [ways]⟩
    simp only [ways, List.foldl_nil, List.mem_singleton] at hs
    subst hs
    exact ⟨⟨⟨by simp, fun _ h => by cases h⟩, fun _ h => (by cases h), fun z h => by cases h⟩, by simp, by simp⟩
  | succ n ih =>
    intro ws bs hl hb h200
    obtain ⟨ws, w, rfl⟩ : ∃ l x, ws = l ++ [x] := ⟨ws.dropLast, ws.getLast (by intro e; subst e; cases hl), (List.dropLast_concat_getLast _).symm⟩
    rw [List.length_append, List.length_singleton] at hl h200
    rw [wantsBs_snoc] at hb
    obtain ⟨b, hb1, hb2⟩ := Option.bind_eq_some_iff.mp hb
    split at hb2
    rotate_left
    · cases hb2
    rename_i hw
    cases hb2
    obtain ⟨i1, i2⟩ := ih ws b (by omega) hb1 (by omega)
    rw [ways_snoc]
    refine ⟨fun s hs => ?_, ?_⟩
    · obtain ⟨s0, h0, h1⟩ := List.mem_flatMap.mp hs
      obtain ⟨j1, j2, j3⟩ := i1 s0 h0
      obtain ⟨k1, k2, k3⟩ := passS_for hw hits j1 (by omega) h1
      rw [List.length_append, List.length_singleton]
      exact ⟨k1, by omega, by omega⟩
    · refine Nat.le_trans (pass_len w its _) ?_
      rw [List.length_append, List.length_singleton, Nat.pow_succ]
      exact Nat.mul_le_mul_right _ i2
end RR
namespace RR
open PySem PySem.Spec L2 DL
open PyProof.Rows hiding St kindOf
local macro_rules | `(tactic| walk_at "dl") => `(tactic| simp (config := { failIfUnchanged := false }) only [↓ex_two, ↓ex_three, dFor_eq, updC_at, updC_upd, lstOf_upd, dctOf_upd, dctOf_dct, lstOf_lst, isLst_upd, app_upd, dSeq, dNext, dRet, dRetN, dDrop, dIfS, dNever, dAsg, dPar, dPut, gdName, sz_0, sl_0, sz_1, sl_1, sz_2, sl_2, sz_3, sl_3, sz_4, sl_4, sz_5, sl_5, sz_6, sl_6, sz_7, sl_7, sz_8, sl_8, sz_9, sl_9, sz_10, sl_10, sz_11, sl_11, sz_12, sl_12, sz_13, sl_13, sz_14, sl_14, exists_eq, gdCons_cons, gdNil_nil, gdTup_tup, gdUnl_lst, Nat.succ_eq_add_one, Nat.zero_add, dAnd, dOr, dNot, dTest, dAndV, dOrV, dNotV, dIf, dChain, dOp, dUn, dFn, dCall, dNil, dCons, dVar, dC, dTup, dLst, dLstC, dDct0, dDct0C, dPart, dNoPart, dSlice, dLc, dLcC, diSeq, diZip, diEnum, diRng1, diRng2, dYes, dMtL, dSetd, dFrz,
  dstart, List.map, List.replicate, List.length, List.append, List.cons_append, List.nil_append, List.append_nil, List.getElem?_cons_zero, List.getElem?_cons_succ, Option.some.injEq, exists_eq_left', exists_eq_left, wipeD,
  List.cons.injEq, and_true, true_and, D.bl.injEq, D.int.injEq, D.str.injEq, D.tup.injEq, D.lst.injEq, D.dct.injEq, if_true, if_false, Bool.false_eq_true, Bool.not_true, Bool.not_false, Bool.not_not, ite_true, ite_false, reduceIte, List.set_cons_zero, List.set_cons_succ, Option.map_some, Option.isSome_some, and_false, false_and, exists_const,
  slOk_tup, itOf_tup, itOf_lst, itOf_str, itOf_dct, cutL_1, oLe_int, oLt_int, oGe_int, oGt_int, oAdd_int, oSub_int, oIs_non, oIsNot_non, oLen_tup, oLen_lst, oIx_tup, oIx_lst, atI_0, atI_1, atI_2, atI_3, atI_m1, atI_cast, oIn_str, oEq_int, oNe_int, oEq_bl, ex_some,
  bl_and, bl_or, bl_andT, bl_orT, Nat.sub_self, Nat.add_sub_cancel, Nat.reduceSub, Nat.reduceAdd])
theorem ints_ok : ∀ ns : List Int, (ns.map D.int).all (okD 48) = true
  | [] => rfl
  | _ :: ns => by rw [List.map_cons, List.all_cons, ints_ok ns]; rfl
theorem alike_ints : ∀ ns ms : List Int, PySem.W.alikeAll (toPyL (ns.map D.int)) (toPyL (ms.map D.int)) = true
  | [], _ => by simp [toPyL, PySem.W.alikeAll]
  | _ :: _, [] => by simp [toPyL, PySem.W.alikeAll]
  | a :: ns, b :: ms => by simp only [List.map_cons, toPyL, PySem.W.alikeAll, toPy, PySem.W.alike, alike_ints ns ms, Bool.and_self]
/-- a match: which rule, which things -/
def matchD (m : Nat × List Int) : D := .tup [.int (m.1 : Nat), .tup (m.2.map .int)]
theorem sort_matches (ms : List (Nat × List Int)) : SortOk (ms.map matchD) := by
  refine ⟨List.all_eq_true.mpr fun d hd => ?_, fun d hd e he => ?_, .inl fun d hd => ?_⟩
  · obtain ⟨m, _, rfl⟩ := List.mem_map.mp hd
    simp only [matchD, okD, List.all_cons, List.all_nil, Bool.and_true, Bool.true_and]
    exact ints_ok _
  · obtain ⟨m', hm', rfl⟩ := List.mem_map.mp hd
    obtain ⟨n', hn', rfl⟩ := List.mem_map.mp he
    obtain ⟨m, _, rfl⟩ := List.mem_map.mp hm'
    obtain ⟨n, _, rfl⟩ := List.mem_map.mp hn'
    simp only [matchD, toPy, toPyL, PySem.W.alike, PySem.W.alikeAll, alike_ints, Bool.and_self]
  · obtain ⟨m', hm', rfl⟩ := List.mem_map.mp hd
    obtain ⟨m, _, rfl⟩ := List.mem_map.mp hm'
    exact ⟨_, _, rfl⟩
theorem found_matches (its : List (Int × D)) (rs : List D) : ∃ ms : List (Nat × List Int), foundD its rs = ms.map matchD := by
  unfold foundD
  generalize rs.zipIdx = l
  induction l with
  | nil => exact ⟨[], rfl⟩
  | cons ri l ih =>
    obtain ⟨ms, e⟩ := ih
    rw [List.flatMap_cons, e]
    have : ∃ ns : List (Nat × List Int), ruleM its ri.2 ri.1 = ns.map matchD := by
      unfold ruleM
      split
      · exact ⟨(ways its [([], [])] _).map fun s => (ri.2, s.1), by rw [List.map_map]; rfl⟩
      · exact ⟨[], rfl⟩
    obtain ⟨ns, e2⟩ := this
    exact ⟨ns ++ ms, by rw [e2, List.map_append]⟩
theorem ruleM_len {its : List (Int × D)} (hits : ∀ it ∈ its, ThOk it.2) {i : Nat} {r : D} (hr : RuleOk r) : (ruleM its i r).length ≤ (max 1 its.length) ^ 5 := by
  obtain ⟨n, m, ws, q, bs, rfl, hb, hl⟩ := hr.sh
  simp only [ruleM, List.length_map]
  exact Nat.le_trans (ways_ok hits hb (by omega)).2 (Nat.pow_le_pow_right (by omega) hl)
def a_matches_of : ASp := fun ds C R => ∃ rs, ∃ its : List (Int × D), ds = [.tup rs, .lst (its.map itD)] ∧ (∀ r ∈ rs, RuleOk r) ∧ rs.length ≤ 8 ∧ (∀ it ∈ its, ThOk it.2) ∧ its.length ≤ 11 ∧ ∀ p, C p = none → R (.ref p) (updC C p (.lst (sortD (foundD its rs))))
theorem rd_matches_of : ∀ ds C R, a_matches_of ds C R → t_matches_of a_passed { nx := fun _ C' => lss R .non C', rt := lss R } (dstart ["rules", "things", "found", "number", "rule", "some", "want", "numbers", "known"] ds) C := by
  rintro ds C R ⟨rs, its, rfl, hrs, hrl, hits, hil, h⟩
  unfold t_matches_of
  walk_at "dl"
  intro q hq
  have hm5 : (max 1 its.length) ^ 5 ≤ 161051 := by
    have : max 1 its.length ≤ 11 := by omega
    exact Nat.le_trans (Nat.pow_le_pow_left this 5) (by decide)
  obtain ⟨Pv, hPv⟩ : ∃ Pv : Nat → DSt → Cells → Prop, ∀ i δ C', Pv i δ C' ↔ ∃ o1 o2 o3 o4, δ = [some (.tup rs), some (.lst (its.map itD)), some (.ref q), o1, o2, o3, o4, none, none] ∧ C' = updC C q (.lst ((rs.zipIdx.take i).flatMap fun ri => ruleM its ri.2 ri.1)) := ⟨_, fun _ _ _ => Iff.rfl⟩
  refine ⟨rfl, for_enum (x := .tup rs) (ds := rs) (fun _ => rfl) Pv ((hPv _ _ _).mpr ⟨none, none, none, none, rfl, rfl⟩) (fun i r δ C' hi hv => ?_) (fun δ C' hv => ?_)⟩
  · obtain ⟨o1, o2, o3, o4, rfl, rfl⟩ := (hPv _ _ _).mp hv
    have hr := hrs r (List.mem_of_getElem? hi)
    have hzi : rs.zipIdx[i]? = some (r, i) := by rw [List.getElem?_zipIdx, hi]; simp
    have hrm := ruleM_len hits (i := i) hr
    have hacc : ((rs.zipIdx.take i).flatMap fun ri => ruleM its ri.2 ri.1).length ≤ i * 161051 := by
      have : ∀ l : List (D × Nat), (∀ ri ∈ l, RuleOk ri.1) → (l.flatMap fun ri => ruleM its ri.2 ri.1).length ≤ l.length * 161051 := fun l => by
        induction l with
        | nil => simp
        | cons a l ih =>
          intro hl
          rw [List.flatMap_cons, List.length_append, List.length_cons]
          have h1 := ruleM_len hits (i := a.2) (hl a (by simp))
          have h2 := ih fun ri hri => hl ri (by simp [hri])
          omega
      have := this (rs.zipIdx.take i) fun ri hri => by
        obtain ⟨x, j⟩ := ri
        have := List.mem_of_mem_take hri
        exact hrs _ (List.fst_mem_of_mem_zipIdx this)
      have h3 : (rs.zipIdx.take i).length ≤ i := by rw [List.length_take]; omega
      exact Nat.le_trans this (Nat.mul_le_mul_right _ h3)
    have hi8 : i < 8 := by have := (List.getElem?_eq_some_iff.mp hi).1; omega
    obtain ⟨n, m, ws, dd, bs, rfl, hb, hl⟩ := hr.sh
    walk_at "dl"
    have hwd : datD 50 (.tup ws) = true := datD_item hr.dat (by simp)
    obtain ⟨Pw, hPw⟩ : ∃ Pw : Nat → DSt → Cells → Prop, ∀ j δ C', Pw j δ C' ↔ ∃ o1, δ = [some (.tup rs), some (.lst (its.map itD)), some (.ref q), some (.int (i : Nat)), some (.tup [n, m, .tup ws, dd]), some (.lst ((ways its [([], [])] (ws.take j)).map sD)), o1, none, none] ∧ C' = updC C q (.lst ((rs.zipIdx.take i).flatMap fun ri => ruleM its ri.2 ri.1)) := ⟨_, fun _ _ _ => Iff.rfl⟩
    refine for_fix Pw ((hPw _ _ _).mpr ⟨o4, rfl, rfl⟩) (fun j w δ C' hj hv => ?_) (fun δ C' hv => ?_)
    · obtain ⟨o1, rfl, rfl⟩ := (hPw _ _ _).mp hv
      have hjl : j < ws.length := (List.getElem?_eq_some_iff.mp hj).1
      have hb' := hb
      rw [split_at hj] at hb'
      walk_at "dl"
      obtain ⟨b, hb1, hw⟩ : ∃ b, wantsBs [] (ws.take j) = some b ∧ isWantD w b = true := by
        have hx : wantsBs [] (ws.take (j + 1)) ≠ none := fun e => by
          have : ∀ (l r : List D) (b0 : List D), wantsBs b0 l = none → wantsBs b0 (l ++ r) = none := by
            intro l
            induction l with
            | nil => intro r b0 e; cases e
            | cons v l ih =>
              intro r b0 e
              rw [List.cons_append, wantsBs_cons]
              rw [wantsBs_cons] at e
              split
              · rename_i g; rw [if_pos g] at e; exact ih r _ e
              · rfl
          have := this _ (ws.drop (j + 1)) _ e
          rw [List.take_append_drop, hb] at this
          cases this
        rw [take_snoc hj, wantsBs_snoc] at hx
        cases e : wantsBs [] (ws.take j) with
        | none => rw [e] at hx; exact absurd rfl hx
        | some b =>
          rw [e] at hx
          refine ⟨b, rfl, ?_⟩
          cases e2 : isWantD w b with
          | true => rfl
          | false => simp [e2] at hx
      have hw5 := ways_ok hits hb1 (by have := len_take ws j; omega)
      refine ⟨w, b, ways its [([], [])] (ws.take j), its, rfl, datD_item hwd (List.mem_of_getElem? hj), hw, fun s hs => ⟨(hw5.1 s hs).1, by have := (hw5.1 s hs).2.1; have := len_take ws j; omega⟩, hits, by omega, ?_, (hPw _ _ _).mpr ⟨some w, ?_, rfl⟩⟩
      · have h1 := hw5.2
        have h2 : (ws.take j).length ≤ 4 := by rw [List.length_take]; omega
        have h3 : (max 1 its.length) ^ (ws.take j).length ≤ (max 1 its.length) ^ 4 := Nat.pow_le_pow_right (by omega) h2
        have h4 := Nat.mul_le_mul_right (max 1 its.length) (Nat.le_trans h1 h3)
        have h5 : (max 1 its.length) ^ 4 * max 1 its.length = (max 1 its.length) ^ 5 := (Nat.pow_succ _ _).symm
        exact Nat.le_trans h4 (by rw [h5]; exact Nat.le_trans hm5 (by decide))
      · rw [take_snoc hj, ways_snoc]
    · obtain ⟨o1, rfl, rfl⟩ := (hPw _ _ _).mp hv
      rw [List.take_length]
      have hwn : (ways its [([], [])] ws).length ≤ 161051 := by
        have : (ruleM its i (.tup [n, m, .tup ws, dd])).length = (ways its [([], [])] ws).length := by simp only [ruleM, List.length_map]
        omega
      walk_at "dl"
      refine lc_map (fun d => match d with
        | .tup [x, _] => .tup [.int (i : Nat), x]
        | _ => .non) (by rw [List.length_map, sizeLine_eq]; omega) (fun d hd K hK => ?_) ?_
      · obtain ⟨s, _, rfl⟩ := List.mem_map.mp hd
        rw [show sD s = .tup [.tup (s.1.map .int), .dct s.2] from rfl] at hK ⊢
        walk_at "dl"
        exact hK
      · have e : ((ways its [([], [])] ws).map sD).map (fun d => match d with
            | .tup [x, _] => .tup [.int (i : Nat), x]
            | _ => .non) = ruleM its i (.tup [n, m, .tup ws, dd]) := by
          simp only [ruleM, List.map_map]
          rfl
        rw [e]
        refine ext_upd (es := ruleM its i (.tup [n, m, .tup ws, dd])) rfl (by rw [sizeLine_eq]; omega) ((hPv _ _ _).mpr ⟨_, _, _, _, rfl, ?_⟩)
        rw [take_snoc hzi, List.flatMap_append]
        simp
  · obtain ⟨o1, o2, o3, o4, rfl, rfl⟩ := (hPv _ _ _).mp hv
    rw [show rs.length = rs.zipIdx.length by simp, List.take_length]
    walk_at "dl"
    rw [oSortedC_def]
    obtain ⟨ms, e⟩ := found_matches its rs
    refine ⟨_, lstOf_upd, ?_, fun p hp => ?_⟩
    · rw [show (rs.zipIdx.flatMap fun ri => ruleM its ri.2 ri.1) = ms.map matchD from e]
      exact sort_matches ms
    · have hpq : p ≠ q := fun e => by subst e; rw [updC_at] at hp; cases hp
      rw [DL.updC_ne hpq] at hp
      refine ⟨_, fun a c e => ?_, h p hp⟩
      by_cases ha : a = q
      · subst ha
        rw [DL.updC_ne (Ne.symm hpq), hq] at e
        cases e
      · by_cases hap : a = p
        · subst hap
          rw [updC_at] at e ⊢
          exact e
        · rw [DL.updC_ne hap] at e ⊢
          rw [DL.updC_ne ha]
          exact e
end RR
namespace RR
open PySem PySem.Spec L2 DL
open PyProof.Rows hiding St kindOf
local macro_rules | `(tactic| walk_at "dl") => `(tactic| simp (config := { failIfUnchanged := false }) only [↓ex_two, ↓ex_three, dFor_eq, updC_at, updC_upd, lstOf_upd, dctOf_upd, dctOf_dct, lstOf_lst, isLst_upd, app_upd, dSeq, dNext, dRet, dRetN, dDrop, dIfS, dNever, dAsg, dPar, dPut, gdName, sz_0, sl_0, sz_1, sl_1, sz_2, sl_2, sz_3, sl_3, sz_4, sl_4, sz_5, sl_5, sz_6, sl_6, sz_7, sl_7, sz_8, sl_8, sz_9, sl_9, sz_10, sl_10, sz_11, sl_11, sz_12, sl_12, sz_13, sl_13, sz_14, sl_14, exists_eq, gdCons_cons, gdNil_nil, gdTup_tup, gdUnl_lst, Nat.succ_eq_add_one, Nat.zero_add, dAnd, dOr, dNot, dTest, dAndV, dOrV, dNotV, dIf, dChain, dOp, dUn, dFn, dCall, dNil, dCons, dVar, dC, dTup, dLst, dLstC, dDct0, dDct0C, dPart, dNoPart, dSlice, dLc, dLcC, diSeq, diZip, diEnum, diRng1, diRng2, dYes, dMtL, dSetd, dFrz,
  dstart, List.map, List.replicate, List.length, List.append, List.cons_append, List.nil_append, List.append_nil, List.getElem?_cons_zero, List.getElem?_cons_succ, Option.some.injEq, exists_eq_left', exists_eq_left, wipeD,
  List.cons.injEq, and_true, true_and, D.bl.injEq, D.int.injEq, D.str.injEq, D.tup.injEq, D.lst.injEq, D.dct.injEq, if_true, if_false, Bool.false_eq_true, Bool.not_true, Bool.not_false, Bool.not_not, ite_true, ite_false, reduceIte, List.set_cons_zero, List.set_cons_succ, Option.map_some, Option.isSome_some, and_false, false_and, exists_const,
  slOk_tup, itOf_tup, itOf_lst, itOf_str, itOf_dct, cutL_1, oLe_int, oLt_int, oGe_int, oGt_int, oAdd_int, oSub_int, oIs_non, oIsNot_non, oLen_tup, oLen_lst, oIx_tup, oIx_lst, atI_0, atI_1, atI_2, atI_3, atI_m1, atI_cast, oIn_str, oEq_int, oNe_int, oEq_bl, ex_some,
  bl_and, bl_or, bl_andT, bl_orT, Nat.sub_self, Nat.add_sub_cancel, Nat.reduceSub, Nat.reduceAdd])
theorem itOf_at {C : Cells} {p : Addr} {ds : List D} (h : C p = some (.lst ds)) : itOf C (.ref p) = some (itLive p) := by
  simp only [itOf, h]
theorem itOf_upd {C : Cells} {p : Addr} {ds : List D} : itOf (updC C p (.lst ds)) (.ref p) = some (itLive p) := itOf_at updC_at
/-- a comprehension over a list that may be written, but is not while it is walked -/
theorem lc_live {p : Addr} {ds : List D} {fin : List D → Cells → Prop} {gd : DG} {te : DE} {δ : DSt} {C : Cells} (f : D → D) (hC : C p = some (.lst ds)) (hl : ds.length ≤ sizeLine)
    (hs : ∀ d, d ∈ ds → ∀ K : D → Cells → Prop, K (f d) C → gd d δ C fun δ2 C2 => te δ2 C2 K) (hd : fin (ds.map f) C) : dLcW fin (itLive p) C gd dYes te δ := by
  refine ⟨fun i m acc C' => m = ds.length - i ∧ i ≤ ds.length ∧ C' = C ∧ acc = (ds.take i).map f, ⟨ds.length, by simp, Nat.zero_le _, rfl, by simp⟩, ?_⟩
  rintro i m acc C' ⟨rfl, hi, rfl, rfl⟩
  by_cases hlt : i < ds.length
  · refine .inr ⟨⟨ds, ds[i], hC, List.getElem?_eq_getElem hlt⟩, fun acc' C2 => C2 = C' ∧ acc' = (ds.take (i + 1)).map f, fun acc' C2 p' => ⟨ds.length - (i + 1), by omega, rfl, hlt, p'.1, p'.2⟩, fun d y => ?_⟩
    obtain ⟨ds2, e1, e2⟩ := y
    rw [hC] at e1
    cases e1
    simp only [dYes, if_true]
    refine hs d (List.mem_of_getElem? e2) (fun y C4 => _) ?_
    refine ⟨by rw [List.length_map]; have := len_take ds i; have : (ds.take i).length = i := by rw [List.length_take]; omega
               omega, rfl, ?_⟩
    rw [take_snoc e2, List.map_append]
    rfl
  · have e : i = ds.length := by omega
    subst e
    exact .inl ⟨⟨ds, hC, Nat.le_refl _⟩, by rw [List.take_length]; exact hd⟩
/-! ### numbered -/
def distinctD (ts : List D) : List D := ts.foldl (fun acc t => if memD t acc = true then acc else acc ++ [t]) []
def numIt (ds : List D) : List (Int × D) := ds.zipIdx.map fun ti => ((ti.2 : Int), ti.1)
theorem numIt_snoc (ds : List D) (t : D) : numIt (ds ++ [t]) = numIt ds ++ [(((ds.length : Nat) : Int), t)] := by
  unfold numIt
  rw [List.zipIdx_append, List.map_append]
  simp
theorem numIt_snd (ds : List D) : (numIt ds).map (·.2) = ds := by
  unfold numIt
  rw [List.map_map]
  have : ((fun x : Int × D => x.2) ∘ fun ti : D × Nat => ((ti.2 : Int), ti.1)) = Prod.fst := rfl
  rw [this, List.zipIdx_map_fst]
theorem numIt_len (ds : List D) : (numIt ds).length = ds.length := by simp [numIt]
theorem distinct_snoc (ts : List D) (t : D) : distinctD (ts ++ [t]) = if memD t (distinctD ts) = true then distinctD ts else distinctD ts ++ [t] := by
  unfold distinctD
  rw [List.foldl_append]
  rfl
theorem distinct_mem {x : D} : ∀ {ts : List D}, x ∈ distinctD ts → x ∈ ts := by
  intro ts
  suffices H : ∀ n (ts : List D), ts.length = n → x ∈ distinctD ts → x ∈ ts from H _ ts rfl
  intro n
  induction n with
  | zero => intro ts hl h; obtain rfl := List.length_eq_zero_iff.mp hl; exact h
  | succ n ih =>
    intro ts hl h
    obtain ⟨ts, t, rfl⟩ : ∃ l x, ts = l ++ [x] := ⟨ts.dropLast, ts.getLast (by intro e; subst e; cases hl), (List.dropLast_concat_getLast _).symm⟩
    rw [distinct_snoc] at h
    rw [List.length_append, List.length_singleton] at hl
    split at h
    · exact List.mem_append_left _ (ih ts (by omega) h)
    · rcases List.mem_append.mp h with h | h
      · exact List.mem_append_left _ (ih ts (by omega) h)
      · exact List.mem_append_right _ h
theorem distinct_len : ∀ ts : List D, (distinctD ts).length ≤ ts.length := by
  intro ts
  suffices H : ∀ n (ts : List D), ts.length = n → (distinctD ts).length ≤ ts.length from H _ ts rfl
  intro n
  induction n with
  | zero => intro ts hl; obtain rfl := List.length_eq_zero_iff.mp hl; exact Nat.le_refl _
  | succ n ih =>
    intro ts hl
    obtain ⟨ts, t, rfl⟩ : ∃ l x, ts = l ++ [x] := ⟨ts.dropLast, ts.getLast (by intro e; subst e; cases hl), (List.dropLast_concat_getLast _).symm⟩
    rw [distinct_snoc]
    rw [List.length_append, List.length_singleton] at hl ⊢
    have := ih ts (by omega)
    split
    · omega
    · rw [List.length_append, List.length_singleton]; omega
def a_numbered : ASp := fun ds C R => ∃ ts, ds = [.lst ts] ∧ (∀ t ∈ ts, datD 50 t = true) ∧ ts.length ≤ 1000 ∧ R (.lst ((numIt (distinctD ts)).map itD)) C
theorem rd_numbered : ∀ ds C R, a_numbered ds C R → t_numbered { nx := fun _ C' => lss R .non C', rt := lss R } (dstart ["things", "found", "thing", "_", "one"] ds) C := by
  rintro ds C R ⟨ts, rfl, hts, hl, h⟩
  unfold t_numbered
  walk_at "dl"
  intro q hq
  obtain ⟨Pv, hPv⟩ : ∃ Pv : Nat → DSt → Cells → Prop, ∀ i δ C', Pv i δ C' ↔ ∃ o, δ = [some (.lst ts), some (.ref q), o, none, none] ∧ C' = updC C q (.lst ((numIt (distinctD (ts.take i))).map itD)) := ⟨_, fun _ _ _ => Iff.rfl⟩
  refine for_fix Pv ((hPv _ _ _).mpr ⟨none, rfl, rfl⟩) (fun i t δ C' hi hv => ?_) (fun δ C' hv => ?_)
  · obtain ⟨o, rfl, rfl⟩ := (hPv _ _ _).mp hv
    have ht := hts t (List.mem_of_getElem? hi)
    have hdl := distinct_len (ts.take i)
    have htl := len_take ts i
    walk_at "dl"
    rw [itOf_upd]
    walk_at "dl"
    refine lc_live (ds := (numIt (distinctD (ts.take i))).map itD) (fun d => match d with
      | .tup [_, x] => x
      | _ => .non) updC_at (by rw [List.length_map, numIt_len]; have := ml; omega) (fun d hd K hK => ?_) ?_
    · obtain ⟨it, _, rfl⟩ := List.mem_map.mp hd
      rw [show itD it = .tup [.int it.1, it.2] from rfl] at hK ⊢
      walk_at "dl"
      exact hK
    · have e : ((numIt (distinctD (ts.take i))).map itD).map (fun d => match d with
          | .tup [_, x] => x
          | _ => .non) = distinctD (ts.take i) := by
        rw [List.map_map]
        exact numIt_snd _
      rw [e, oNotIn_eq, oIn_lst (dat_ok ht) (List.all_eq_true.mpr fun x hx => dat_ok (hts x (List.mem_of_mem_take (distinct_mem hx))))]
      walk_at "dl"
      have e2 : ((distinctD (ts.take i)).any fun z => D.eqv z t) = memD t (distinctD (ts.take i)) := rfl
      rw [e2]
      cases em : memD t (distinctD (ts.take i)) with
      | true =>
        walk_at "dl"
        refine (hPv _ _ _).mpr ⟨_, rfl, ?_⟩
        rw [take_snoc hi, distinct_snoc, if_pos em]
      | false =>
        walk_at "dl"
        rw [oLen_ref updC_at]
        walk_at "dl"
        refine ⟨by rw [List.length_map, numIt_len, sizeLine_eq]; omega, (hPv _ _ _).mpr ⟨_, rfl, ?_⟩⟩
        rw [take_snoc hi, distinct_snoc, if_neg (by simp [em]), numIt_snoc, List.map_append, List.length_map, numIt_len]
        rfl
  · obtain ⟨o, rfl, rfl⟩ := (hPv _ _ _).mp hv
    rw [List.take_length]
    walk_at "dl"
    exact ⟨_, _, frz_upd hq, lss_of h⟩
/-! ### what is asked of rules and things -/
/-- good rules, their names each by itself -/
def rulesOk : List D → List D → Bool
  | _, [] => true
  | ns, r :: rs => isNon (badPartD r ns) && (match r with
    | .tup (n :: _) => rulesOk (ns ++ [n]) rs
    | _ => false)
theorem bad_none {r : D} {ns : List D} (hd : datD 50 r = true) (h : isNon (badPartD r ns) = true) : ∃ n m ws q bs, r = .tup [n, m, .tup ws, q] ∧ wantsBs [] ws = some bs ∧ ws.length ≤ 5 := by
  unfold badPartD at h
  split at h
  rotate_left
  · cases h
  split at h
  · cases h
  split at h
  · cases h
  split at h
  rotate_left
  · cases h
  split at h
  · cases h
  split at h
  · cases h
  rename_i hw _ bs e
  exact ⟨_, _, _, _, bs, rfl, e, by omega⟩
def a_need_rules : ASp := fun ds C R => ∃ rs, ds = [.tup rs] ∧ datD 50 (.tup rs) = true ∧ rs ≠ [] ∧ rs.length ≤ 8 ∧ rulesOk [] rs = true ∧ R .non C
theorem rules_step {ns : List D} {rs : List D} {i : Nat} {r : D} : rulesOk ns rs = true → rs[i]? = some r → ∀ nm, (∀ j d, j < i → rs[j]? = some d → ∃ n l, d = .tup (n :: l) ∧ nm[j]? = some n) → nm.length = i → isNon (badPartD r (ns ++ nm)) = true ∧ ∃ n l, r = .tup (n :: l) := by
  induction rs generalizing ns i with
  | nil => intro _ h; cases h
  | cons r0 rs ih =>
    intro h hi nm hj hn
    simp only [rulesOk, Bool.and_eq_true] at h
    obtain ⟨h1, h2⟩ := h
    split at h2
    rotate_left
    · cases h2
    rename_i n l
    cases i with
    | zero =>
      cases hi
      obtain rfl := List.length_eq_zero_iff.mp hn
      exact ⟨by rw [List.append_nil]; exact h1, n, l, rfl⟩
    | succ i =>
      obtain ⟨n', l', e1, e2⟩ := hj 0 _ (by omega) rfl
      cases e1
      rcases nm with _ | ⟨m, nm⟩
      · cases hn
      · cases e2
        have := ih h2 hi nm (fun j d hji hd => by
          obtain ⟨a, b, c1, c2⟩ := hj (j + 1) d (by omega) hd
          exact ⟨a, b, c1, c2⟩) (by simpa using hn)
        rw [List.append_assoc] at this
        exact this
theorem okD_bad (r : D) (ns : List D) : ∃ x, badPartD r ns = x := ⟨_, rfl⟩
theorem rd_need_rules : ∀ ds C R, a_need_rules ds C R → t_need_rules a_bad_part { nx := fun _ C' => lss R .non C', rt := lss R } (dstart ["rules", "names", "number", "rule", "part"] ds) C := by
  rintro ds C R ⟨rs, rfl, hd, hne, hl, hok, h⟩
  unfold t_need_rules
  walk_at "dl"
  simp only [oIsi_tuple (datD_dat hd), D.bl.injEq, exists_eq_left', isTupD]
  walk_at "dl"
  rw [oEq_ok (dat_ok hd) (show okD 60 (D.tup []) = true from rfl)]
  have e0 : D.eqv (.tup rs) (.tup []) = false := by
    cases rs with
    | nil => exact absurd rfl hne
    | cons a b => simp [D.eqv, D.eqvL]
  rw [e0]
  walk_at "dl"
  intro q hq
  obtain ⟨Pv, hPv⟩ : ∃ Pv : Nat → DSt → Cells → Prop, ∀ i δ C', Pv i δ C' ↔ ∃ o1 o2 o3 nm, δ = [some (.tup rs), some (.ref q), o1, o2, o3] ∧ C' = updC C q (.lst nm) ∧ (∀ j d, j < i → rs[j]? = some d → ∃ n l, d = .tup (n :: l) ∧ nm[j]? = some n) ∧ nm.length = i ∧ allDat nm = true := ⟨_, fun _ _ _ => Iff.rfl⟩
  refine ⟨rfl, for_enum (x := .tup rs) (ds := rs) (fun _ => rfl) Pv ((hPv _ _ _).mpr ⟨none, none, none, [], rfl, rfl, fun j d h => by omega, rfl, rfl⟩) (fun i r δ C' hi hv => ?_) (fun δ C' hv => ?_)⟩
  · obtain ⟨o1, o2, o3, nm, rfl, rfl, hj, hn, hnd⟩ := (hPv _ _ _).mp hv
    have hi8 : i < rs.length := (List.getElem?_eq_some_iff.mp hi).1
    have hrd := datD_item hd (List.mem_of_getElem? hi)
    obtain ⟨g1, n, l, rfl⟩ := rules_step hok hi nm hj hn
    walk_at "dl"
    rw [show decide ((i : Int) = 8) = false from decide_eq_false (by omega)]
    walk_at "dl"
    refine ⟨_, .ref q, nm, rfl, hrd, lstOf_upd, hnd, ?_⟩
    rw [List.nil_append] at g1
    walk_at "dl"
    rw [g1]
    walk_at "dl"
    refine ⟨by rw [sizeLine_eq]; omega, (hPv _ _ _).mpr ⟨_, _, _, _, rfl, rfl, fun j d hji hdj => ?_, by simp [hn], ?_⟩⟩
    · by_cases e : j < i
      · obtain ⟨a, b, c1, c2⟩ := hj j d e hdj
        exact ⟨a, b, c1, by rw [List.getElem?_append_left (by omega)]; exact c2⟩
      · have e2 : j = i := by omega
        subst e2
        rw [hi] at hdj
        cases hdj
        exact ⟨n, l, rfl, by rw [List.getElem?_append_right (by omega)]; simp [hn]⟩
    · rw [allDat, List.all_append, Bool.and_eq_true]
      exact ⟨hnd, by simp only [List.all_cons, List.all_nil, Bool.and_true]; exact datD_item hrd List.mem_cons_self⟩
  · obtain ⟨o1, o2, o3, nm, rfl, rfl, _⟩ := (hPv _ _ _).mp hv
    walk_at "dl"
    exact lss_upd hq h
def a_need_things : ASp := fun ds C R => ∃ ts, ds = [.lst ts] ∧ (∀ t ∈ ts, ThOk t) ∧ ts.length ≤ 30 ∧ R .non C
theorem rd_need_things : ∀ ds C R, a_need_things ds C R → t_need_things a_is_thing { nx := fun _ C' => R .non C', rt := R } (dstart ["things", "number", "thing"] ds) C := by
  rintro ds C R ⟨ts, rfl, hts, hl, h⟩
  unfold t_need_things
  walk_at "dl"
  simp only [oIsi_list (show dat (D.lst ts) = true from rfl), D.bl.injEq, exists_eq_left', isLstD]
  walk_at "dl"
  obtain ⟨Pv, hPv⟩ : ∃ Pv : Nat → DSt → Cells → Prop, ∀ i δ C', Pv i δ C' ↔ ∃ o1 o2, δ = [some (.lst ts), o1, o2] ∧ C' = C := ⟨_, fun _ _ _ => Iff.rfl⟩
  refine ⟨rfl, for_enum (x := .lst ts) (ds := ts) (fun _ => rfl) Pv ((hPv _ _ _).mpr ⟨none, none, rfl, rfl⟩) (fun i t δ C' hi hv => ?_) (fun δ C' hv => ?_)⟩
  · obtain ⟨o1, o2, rfl, rfl⟩ := (hPv _ _ _).mp hv
    have hil : i < ts.length := (List.getElem?_eq_some_iff.mp hi).1
    obtain ⟨h1, h2⟩ := hts t (List.mem_of_getElem? hi)
    walk_at "dl"
    rw [show decide ((i : Int) = 30) = false from decide_eq_false (by omega)]
    walk_at "dl"
    refine ⟨t, rfl, h1, ?_⟩
    rw [h2]
    walk_at "dl"
    exact (hPv _ _ _).mpr ⟨_, _, rfl, rfl⟩
  · obtain ⟨o1, o2, rfl, rfl⟩ := (hPv _ _ _).mp hv
    exact h
theorem rules_ok_all : ∀ {rs : List D} {ns : List D}, (∀ r ∈ rs, datD 50 r = true) → rulesOk ns rs = true → ∀ r ∈ rs, RuleOk r
  | [], _, _, _, _, h => by cases h
  | r0 :: rs, ns, hd, h, r, hr => by
    simp only [rulesOk, Bool.and_eq_true] at h
    rcases List.mem_cons.mp hr with rfl | hr2
    · exact ⟨hd _ (by simp), bad_none (hd _ (by simp)) h.1⟩
    · have h2 := h.2
      split at h2
      · exact rules_ok_all (fun x hx => hd x (by simp [hx])) h2 r hr2
      · cases h2
/-- what matching is to tell, said as the program finds it -/
def toldD (rs ts : List D) : List D := sortD (foundD (numIt (distinctD ts)) rs)
def a_matching : ASp := fun ds C R => ∃ rs ts, ds = [.tup rs, .lst ts] ∧ datD 50 (.tup rs) = true ∧ rs ≠ [] ∧ rs.length ≤ 8 ∧ rulesOk [] rs = true ∧ (∀ t ∈ ts, ThOk t) ∧ ts.length ≤ 11 ∧ ∀ p, C p = none → R (.ref p) (updC C p (.lst (toldD rs ts)))
theorem rd_matching : ∀ ds C R, a_matching ds C R → t_matching a_need_rules a_need_things a_numbered a_matches_of { nx := fun _ C' => R .non C', rt := R } (dstart ["rules", "things"] ds) C := by
  rintro ds C R ⟨rs, ts, rfl, hd, hne, hl, hok, hts, htl, h⟩
  unfold t_matching
  walk_at "dl"
  refine ⟨rs, rfl, hd, hne, hl, hok, ?_⟩
  walk_at "dl"
  refine ⟨ts, rfl, hts, by omega, ?_⟩
  walk_at "dl"
  refine ⟨ts, rfl, fun t ht => (hts t ht).1, by omega, ?_⟩
  walk_at "dl"
  have hn : ∀ it ∈ numIt (distinctD ts), ThOk it.2 := fun it hit => by
    have : it.2 ∈ (numIt (distinctD ts)).map (·.2) := List.mem_map.mpr ⟨it, hit, rfl⟩
    rw [numIt_snd] at this
    exact hts _ (distinct_mem this)
  exact ⟨rs, numIt (distinctD ts), rfl, rules_ok_all (fun r hr => datD_item hd hr) hok, hl, hn, by rw [numIt_len]; have := distinct_len ts; omega, h⟩
end RR
namespace RR
open PySem PySem.Spec L2 DL
open PyProof.Rows hiding St kindOf
local macro_rules | `(tactic| walk_at "dl") => `(tactic| simp (config := { failIfUnchanged := false }) only [↓ex_two, ↓ex_three, dFor_eq, updC_at, updC_upd, lstOf_upd, dctOf_upd, dctOf_dct, lstOf_lst, isLst_upd, app_upd, dSeq, dNext, dRet, dRetN, dDrop, dIfS, dNever, dAsg, dPar, dPut, gdName, sz_0, sl_0, sz_1, sl_1, sz_2, sl_2, sz_3, sl_3, sz_4, sl_4, sz_5, sl_5, sz_6, sl_6, sz_7, sl_7, sz_8, sl_8, sz_9, sl_9, sz_10, sl_10, sz_11, sl_11, sz_12, sl_12, sz_13, sl_13, sz_14, sl_14, exists_eq, gdCons_cons, gdNil_nil, gdTup_tup, gdUnl_lst, Nat.succ_eq_add_one, Nat.zero_add, dAnd, dOr, dNot, dTest, dAndV, dOrV, dNotV, dIf, dChain, dOp, dUn, dFn, dCall, dNil, dCons, dVar, dC, dTup, dLst, dLstC, dDct0, dDct0C, dPart, dNoPart, dSlice, dLc, dLcC, diSeq, diZip, diEnum, diRng1, diRng2, dYes, dMtL, dSetd, dFrz,
  dstart, List.map, List.replicate, List.length, List.append, List.cons_append, List.nil_append, List.append_nil, List.getElem?_cons_zero, List.getElem?_cons_succ, Option.some.injEq, exists_eq_left', exists_eq_left, wipeD,
  List.cons.injEq, and_true, true_and, D.bl.injEq, D.int.injEq, D.str.injEq, D.tup.injEq, D.lst.injEq, D.dct.injEq, if_true, if_false, Bool.false_eq_true, Bool.not_true, Bool.not_false, Bool.not_not, ite_true, ite_false, reduceIte, List.set_cons_zero, List.set_cons_succ, Option.map_some, Option.isSome_some, and_false, false_and, exists_const,
  slOk_tup, itOf_tup, itOf_lst, itOf_str, itOf_dct, cutL_1, oLe_int, oLt_int, oGe_int, oGt_int, oAdd_int, oSub_int, oIs_non, oIsNot_non, oLen_tup, oLen_lst, oIx_tup, oIx_lst, atI_0, atI_1, atI_2, atI_3, atI_m1, atI_cast, oIn_str, oEq_int, oNe_int, oEq_bl, ex_some,
  bl_and, bl_or, bl_andT, bl_orT, Nat.sub_self, Nat.add_sub_cancel, Nat.reduceSub, Nat.reduceAdd])
/-! ### the row of numbers that a law draws from -/
/-- what stands in a row's list -/
def RowSt (c : List D) : Prop := ∃ (s : List Int) (j k m : Int), c = [.lst (s.map .int), .int j, .int k, .int m] ∧ 0 ≤ j ∧ 0 ≤ m ∧ m < 2147483648 ∧ s.length ≤ 100000
def a__law_row : ASp := fun ds C R => ∃ s : List Int, ds = [.lst (s.map .int)] ∧ s.length ≤ 100000 ∧ ∀ p c, C p = none → RowSt c → R (.ref p) (updC C p (.lst c))
theorem oMul_int {i j : Int} {C : Cells} {R : D → Cells → Prop} : oMul (.int i) (.int j) C R = (CMul i j ∧ R (.int (i * j)) C) := rfl
theorem oDiv_int {i j : Int} {C : Cells} {R : D → Cells → Prop} : oDiv (.int i) (.int j) C R = (CDiv i j ∧ R (.int (i / j)) C) := rfl
theorem oMod_int {i j : Int} {C : Cells} {R : D → Cells → Prop} : oMod (.int i) (.int j) C R = (0 < j ∧ R (.int (i % j)) C) := rfl
theorem oPow_int {i j : Int} {C : Cells} {R : D → Cells → Prop} : oPow (.int i) (.int j) C R = (CPow i j ∧ R (.int (i ^ j.toNat)) C) := rfl
theorem rd__law_row : ∀ ds C R, a__law_row ds C R → t__law_row { nx := fun _ C' => lss R .non C', rt := lss R } (dstart ["_law_script", "_law_mixed", "_law_cell"] ds) C := by
  rintro ds C R ⟨s, rfl, hs, h⟩
  unfold t__law_row
  walk_at "dl"
  obtain ⟨Pv, hPv⟩ : ∃ Pv : Nat → DSt → Cells → Prop, ∀ i δ C', Pv i δ C' ↔ ∃ m : Int, ∃ o : Option D, δ = [some (.lst (s.map .int)), some (.int m), o] ∧ C' = C ∧ 0 ≤ m ∧ m < 2147483648 := ⟨_, fun _ _ _ => Iff.rfl⟩
  refine for_fix Pv ((hPv _ _ _).mpr ⟨7, none, rfl, rfl, by omega, by omega⟩) (fun i d δ C' hi hv => ?_) (fun δ C' hv => ?_)
  · obtain ⟨m, o, rfl, rfl, h1, h2⟩ := (hPv _ _ _).mp hv
    rw [List.getElem?_map] at hi
    obtain ⟨x, _, rfl⟩ := Option.map_eq_some_iff.mp hi
    walk_at "dl"
    simp only [oMul_int, oMod_int, oAdd_int]
    refine ⟨.inr ⟨by omega, by omega⟩, by omega, (hPv _ _ _).mpr ⟨_, _, rfl, rfl, Int.emod_nonneg _ (by omega), ?_⟩⟩
    have := Int.emod_lt_of_pos (m * 48271 + x + 11) (show (0 : Int) < 2147483647 by omega)
    omega
  · obtain ⟨m, o, rfl, rfl, h1, h2⟩ := (hPv _ _ _).mp hv
    walk_at "dl"
    exact fun p hp => lss_of (h p _ hp ⟨s, 0, 0, m, rfl, by omega, h1, h2, hs⟩)
/-- a draw: which number comes is left open -/
def a__law_taken : ASp := fun ds C R => ∃ p n c, ds = [.ref p, .int n] ∧ 0 < n ∧ n < 1000 ∧ C p = some (.lst c) ∧ RowSt c ∧ ∀ r c', 0 ≤ r → r < n → RowSt c' → R (.int r) (updC C p (.lst c'))
theorem at_set {C : Cells} {p : Addr} {c : List D} {i j : Nat} {x : D} {δ : DSt} {R : DSt → Cells → Prop} (h : C p = some (.lst c)) (hj : ixN c.length (i : Int) = some j) (k : R δ (updC C p (.lst (c.set j x)))) : ∃ p' ds n j', D.ref p = .ref p' ∧ D.int (i : Int) = .int n ∧ C p' = some (.lst ds) ∧ ixN ds.length n = some j' ∧ R δ (updC C p' (.lst (ds.set j' x))) :=
  ⟨p, c, i, j, rfl, rfl, h, hj, k⟩
theorem rd__law_taken : ∀ ds C R, a__law_taken ds C R → t__law_taken { nx := fun _ C' => R .non C', rt := R } (dstart ["_law_row_here", "_law_many", "_law_found_here", "_law_cell"] ds) C := by
  rintro ds C R ⟨p, n, c, rfl, hn0, hn1, hp, ⟨s, j, k, m, rfl, hj, hm0, hm1, hs⟩, h⟩
  unfold t__law_taken
  have e2 : ixN 4 (2 : Int) = some 2 := by decide
  have e1 : ixN 4 (1 : Int) = some 1 := by decide
  have e3 : ixN 4 (3 : Int) = some 3 := by decide
  walk_at "dl"
  rw [oIx_ref hp]
  walk_at "dl"
  by_cases hk : 0 < k
  · simp only [hk, decide_true]
    walk_at "dl"
    rw [oIx_ref hp]
    walk_at "dl"
    simp only [oMod_int]
    refine ⟨hn0, ?_⟩
    walk_at "dl"
    rw [oIx_ref hp]
    walk_at "dl"
    simp only [oDiv_int]
    refine ⟨⟨hn0, by omega⟩, ?_⟩
    simp only [gdSubL]
    walk_at "dl"
    refine ⟨p, _, _, _, rfl, rfl, hp, e2, ?_⟩
    exact h _ _ (Int.emod_nonneg _ (by omega)) (Int.emod_lt_of_pos _ hn0) ⟨s, j, _, m, rfl, hj, hm0, hm1, hs⟩
  · simp only [hk, decide_false]
    walk_at "dl"
    rw [oIx_ref hp]
    walk_at "dl"
    rw [oIx_ref hp]
    walk_at "dl"
    by_cases hl : j < ((s.map D.int).length : Nat)
    · simp only [hl, decide_true]
      walk_at "dl"
      rw [oIx_ref hp]
      walk_at "dl"
      rw [oIx_ref hp]
      walk_at "dl"
      obtain ⟨i, rfl⟩ : ∃ i : Nat, j = (i : Int) := ⟨j.toNat, by omega⟩
      have hi : i < s.length := by rw [List.length_map] at hl; omega
      walk_at "dl"
      refine ⟨.int s[i], by rw [List.getElem?_map, List.getElem?_eq_getElem hi]; rfl, ?_⟩
      walk_at "dl"
      rw [oIx_ref hp]
      walk_at "dl"
      simp only [gdSubL]
      walk_at "dl"
      refine ⟨p, _, _, _, rfl, rfl, hp, e1, ?_⟩
      simp only [oPow_int, oDiv_int, oMod_int]
      refine ⟨⟨by omega, by omega, by decide⟩, ?_⟩
      walk_at "dl"
      by_cases hb : (10 : Int) ^ (18 : Int).toNat ≤ s[i]
      · simp only [hb, decide_true]
        walk_at "dl"
        refine ⟨⟨hn0, by omega⟩, ?_⟩
        simp only [gdSubL]
        walk_at "dl"
        refine ⟨p, _, _, _, rfl, rfl, updC_at, e2, ?_⟩
        walk_at "dl"
        simp only [oMod_int]
        refine ⟨hn0, ?_⟩
        exact h _ _ (Int.emod_nonneg _ (by omega)) (Int.emod_lt_of_pos _ hn0) ⟨s, _, _, m, rfl, by omega, hm0, hm1, hs⟩
      · simp only [hb, decide_false]
        walk_at "dl"
        refine ⟨hn0, ?_⟩
        exact h _ _ (Int.emod_nonneg _ (by omega)) (Int.emod_lt_of_pos _ hn0) ⟨s, _, _, m, rfl, by omega, hm0, hm1, hs⟩
    · simp only [hl, decide_false]
      walk_at "dl"
      rw [oIx_ref hp]
      walk_at "dl"
      simp only [gdSubL, oMul_int, oMod_int, oDiv_int, oAdd_int]
      refine ⟨.inr ⟨by omega, by omega⟩, by omega, ?_⟩
      walk_at "dl"
      refine ⟨p, _, _, _, rfl, rfl, hp, e3, ?_⟩
      rw [oIx_ref updC_at]
      walk_at "dl"
      simp only [List.set_cons_succ, List.set_cons_zero, List.getElem?_cons_succ, List.getElem?_cons_zero, ex_some, oDiv_int, oMod_int]
      refine ⟨⟨by omega, by omega⟩, hn0, ?_⟩
      refine h _ _ (Int.emod_nonneg _ (by omega)) (Int.emod_lt_of_pos _ hn0) ⟨s, j, k, _, rfl, hj, Int.emod_nonneg _ (by omega), ?_, hs⟩
      have := Int.emod_lt_of_pos (m * 48271 + 12345) (show (0 : Int) < 2147483647 by omega)
      omega
end RR
namespace RR
open PySem PySem.Spec L2 DL
open PyProof.Rows hiding St kindOf
local macro_rules | `(tactic| walk_at "dl") => `(tactic| simp (config := { failIfUnchanged := false }) only [↓ex_two, ↓ex_three, dFor_eq, updC_at, updC_upd, lstOf_upd, dctOf_upd, dctOf_dct, lstOf_lst, isLst_upd, app_upd, dSeq, dNext, dRet, dRetN, dDrop, dIfS, dNever, dAsg, dPar, dPut, gdName, sz_0, sl_0, sz_1, sl_1, sz_2, sl_2, sz_3, sl_3, sz_4, sl_4, sz_5, sl_5, sz_6, sl_6, sz_7, sl_7, sz_8, sl_8, sz_9, sl_9, sz_10, sl_10, sz_11, sl_11, sz_12, sl_12, sz_13, sl_13, sz_14, sl_14, exists_eq, gdCons_cons, gdNil_nil, gdTup_tup, gdUnl_lst, Nat.succ_eq_add_one, Nat.zero_add, dAnd, dOr, dNot, dTest, dAndV, dOrV, dNotV, dIf, dChain, dOp, dUn, dFn, dCall, dNil, dCons, dVar, dC, dTup, dLst, dLstC, dDct0, dDct0C, dPart, dNoPart, dSlice, dLc, dLcC, diSeq, diZip, diEnum, diRng1, diRng2, dYes, dMtL, dSetd, dFrz,
  dstart, List.map, List.replicate, List.length, List.append, List.cons_append, List.nil_append, List.append_nil, List.getElem?_cons_zero, List.getElem?_cons_succ, Option.some.injEq, exists_eq_left', exists_eq_left, wipeD,
  List.cons.injEq, and_true, true_and, D.bl.injEq, D.int.injEq, D.str.injEq, D.tup.injEq, D.lst.injEq, D.dct.injEq, if_true, if_false, Bool.false_eq_true, Bool.not_true, Bool.not_false, Bool.not_not, ite_true, ite_false, reduceIte, List.set_cons_zero, List.set_cons_succ, Option.map_some, Option.isSome_some, and_false, false_and, exists_const,
  slOk_tup, itOf_tup, itOf_lst, itOf_str, itOf_dct, cutL_1, oLe_int, oLt_int, oGe_int, oGt_int, oAdd_int, oSub_int, oIs_non, oIsNot_non, oLen_tup, oLen_lst, oIx_tup, oIx_lst, atI_0, atI_1, atI_2, atI_3, atI_m1, atI_cast, oIn_str, oEq_int, oNe_int, oEq_bl, ex_some,
  bl_and, bl_or, bl_andT, bl_orT, Nat.sub_self, Nat.add_sub_cancel, Nat.reduceSub, Nat.reduceAdd])
/-! ### what the law makes: worths, patterns, templates, things -/
abbrev WORTHS : List D := [.str "a", .str "b", .int 0, .int 1, .int 2, .str "c", .int 99, .int (-99)]
abbrev LETTERS : List D := [.str "X", .str "Y", .str "Z", .str "W"]
abbrev PARTS : List D := [.str "a", .str "b", .int 0, .int 1, .int 2, .str "c", .int 99, .int (-99), .str "_", .str "X", .str "Y", .str "Z", .str "W"]
abbrev HEADS : List D := [.str "on", .str "is", .str "big"]
theorem pick {l : List D} {r : Int} {C : Cells} {R : D → Cells → Prop} (h0 : 0 ≤ r) (h1 : r < (l.length : Nat)) (h : ∀ d ∈ l, R d C) : oIx (.lst l) (.int r) C R := by
  obtain ⟨n, rfl⟩ : ∃ n : Nat, r = (n : Int) := ⟨r.toNat, by omega⟩
  have hn : n < l.length := by omega
  rw [oIx_lst, atI_cast]
  exact ⟨l[n], List.getElem?_eq_getElem hn, h _ (List.getElem_mem hn)⟩
theorem pickE {l : List D} {r : Int} {P : D → Prop} (h0 : 0 ≤ r) (h1 : r < (l.length : Nat)) (h : ∀ d ∈ l, P d) : ∃ d, atI l r = some d ∧ P d := by
  obtain ⟨n, rfl⟩ : ∃ n : Nat, r = (n : Int) := ⟨r.toNat, by omega⟩
  have hn : n < l.length := by omega
  rw [atI_cast]
  exact ⟨l[n], List.getElem?_eq_getElem hn, h _ (List.getElem_mem hn)⟩
theorem pickS {z : Str} {r : Int} {C : Cells} {R : D → Cells → Prop} (h0 : 0 ≤ r) (h1 : r < (z.length : Nat)) (hz : z.length ≤ 1000) (h : ∀ c ∈ z.cps.toList, R (.str ⟨#[c]⟩) C) : oIx (.str z) (.int r) C R := by
  obtain ⟨n, rfl⟩ : ∃ n : Nat, r = (n : Int) := ⟨r.toNat, by omega⟩
  have hn : n < z.cps.toList.length := by
    have : z.cps.toList.length = z.length := by simp [Str.length]
    omega
  rw [oIx_str (by rw [sizeLine_eq]; omega), atI_cast]
  exact ⟨_, by rw [List.getElem?_eq_getElem hn]; rfl, h _ (List.getElem_mem hn)⟩
def a__law_worth : ASp := fun ds C R => ∃ p c, ds = [.ref p] ∧ C p = some (.lst c) ∧ RowSt c ∧ ∀ v c', v ∈ WORTHS → RowSt c' → R v (updC C p (.lst c'))
theorem rd__law_worth : ∀ ds C R, a__law_worth ds C R → t__law_worth a__law_taken { nx := fun _ C' => R .non C', rt := R } (dstart ["_law_row_here"] ds) C := by
  rintro ds C R ⟨p, c, rfl, hp, hc, h⟩
  unfold t__law_worth
  walk_at "dl"
  refine ⟨p, 12, c, rfl, by omega, by omega, hp, hc, fun r c' h0 h1 hr => ?_⟩
  refine pick h0 (by simpa using h1) fun d hd => ?_
  obtain ⟨k, rfl, hk0, hk1⟩ : ∃ k : Int, d = .int k ∧ 0 ≤ k ∧ k < 8 := by
    simp only [List.mem_cons, List.not_mem_nil, or_false] at hd
    rcases hd with rfl | rfl | rfl | rfl | rfl | rfl | rfl | rfl | rfl | rfl | rfl | rfl <;> exact ⟨_, rfl, by omega, by omega⟩
  exact pick hk0 (by simpa using hk1) fun d hd => h d c' hd hr
/-- a pattern as the law makes it -/
def PatOk (v : D) : Prop := ∃ w ps, v = .tup (w :: ps) ∧ w ∈ HEADS ∧ ps.length ≤ 4 ∧ ∀ x ∈ ps, x ∈ PARTS
def a__law_pattern : ASp := fun ds C R => ∃ p c z, ds = [.ref p, .str z] ∧ C p = some (.lst c) ∧ RowSt c ∧ z.length = 3 ∧ (∀ c ∈ z.cps.toList, D.str ⟨#[c]⟩ ∈ LETTERS) ∧ ∀ v c', PatOk v → RowSt c' → R v (updC C p (.lst c'))
theorem worth_part {v : D} (h : v ∈ WORTHS) : v ∈ PARTS := by
  simp only [List.mem_cons, List.not_mem_nil, or_false] at h ⊢
  rcases h with rfl | rfl | rfl | rfl | rfl | rfl | rfl | rfl <;> simp
theorem letter_part {v : D} (h : v ∈ LETTERS) : v ∈ PARTS := by
  simp only [List.mem_cons, List.not_mem_nil, or_false] at h ⊢
  rcases h with rfl | rfl | rfl | rfl <;> simp
theorem ints_in {d : D} {ks : List Int} (h : d ∈ ks.map D.int) : ∃ k ∈ ks, d = .int k := by
  obtain ⟨k, hk, rfl⟩ := List.mem_map.mp h
  exact ⟨k, hk, rfl⟩
theorem rd__law_pattern : ∀ ds C R, a__law_pattern ds C R → t__law_pattern a__law_taken a__law_worth { nx := fun _ C' => R .non C', rt := R } (dstart ["_law_row_here", "_law_letters_here", "_law_found_here", "_law_k", "_law_some"] ds) C := by
  rintro ds C R ⟨p, c, z, rfl, hp, hc, hz, hzl, h⟩
  unfold t__law_pattern
  walk_at "dl"
  refine ⟨p, 3, c, rfl, by omega, by omega, hp, hc, fun r c1 h0 h1 hr1 => ?_⟩
  walk_at "dl"
  refine pickE h0 (by simpa using h1) fun w hw => ?_
  walk_at "dl"
  refine ⟨p, 5, c1, rfl, by omega, by omega, updC_at, hr1, fun r c2 h0 h1 hr2 => ?_⟩
  walk_at "dl"
  refine pickE h0 (by simpa using h1) fun d hd => ?_
  obtain ⟨k, hk, rfl⟩ := ints_in (ks := [1, 2, 2, 0, 4]) hd
  have hk4 : 0 ≤ k ∧ k ≤ 4 := by
    simp only [List.mem_cons, List.not_mem_nil, or_false] at hk
    omega
  walk_at "dl"
  refine ⟨by omega, by omega, ?_⟩
  obtain ⟨Pv, hPv⟩ : ∃ Pv : Nat → DSt → Cells → Prop, ∀ i δ C', Pv i δ C' ↔ ∃ ps o1 o2 c', δ = [some (.ref p), some (.str z), some (.tup (w :: ps)), o1, o2] ∧ C' = updC C p (.lst c') ∧ RowSt c' ∧ ps.length = i ∧ ∀ x ∈ ps, x ∈ PARTS := ⟨_, fun _ _ _ => Iff.rfl⟩
  refine for_rng Pv ((hPv _ _ _).mpr ⟨[], none, none, c2, rfl, rfl, hr2, rfl, by simp⟩) (fun i δ C' hi hv => ?_) (fun δ C' hv => ?_)
  · obtain ⟨ps, o1, o2, c3, rfl, rfl, hr3, hpl, hps⟩ := (hPv _ _ _).mp hv
    have hi4 : i < 4 := by omega
    walk_at "dl"
    refine ⟨p, c3, rfl, updC_at, hr3, fun v1 c4 hv1 hr4 => ?_⟩
    walk_at "dl"
    refine ⟨p, 3, c4, rfl, by omega, by omega, updC_at, hr4, fun r c5 h0 h1 hr5 => ?_⟩
    walk_at "dl"
    refine pickS h0 (by omega) (by omega) fun x1 hx1 => ?_
    refine ⟨p, 2, c5, rfl, by omega, by omega, updC_at, hr5, fun r c6 h0 h1 hr6 => ?_⟩
    walk_at "dl"
    refine pickS h0 (by omega) (by omega) fun x2 hx2 => ?_
    walk_at "dl"
    refine ⟨p, 4, c6, rfl, by omega, by omega, updC_at, hr6, fun r c7 h0 h1 hr7 => ?_⟩
    walk_at "dl"
    refine pickE h0 (by simpa using h1) fun d hd => ?_
    have hdp : d ∈ PARTS := by
      simp only [List.mem_cons, List.not_mem_nil, or_false] at hd
      rcases hd with rfl | rfl | rfl | rfl
      · exact worth_part hv1
      · simp
      · exact letter_part (hzl _ hx1)
      · exact letter_part (hzl _ hx2)
    walk_at "dl"
    rw [oAdd_tup (by rw [sizeLine_eq]; simp; omega)]
    walk_at "dl"
    refine (hPv _ _ _).mpr ⟨ps ++ [d], _, _, c7, rfl, rfl, hr7, by simp [hpl], fun x hx => ?_⟩
    rcases List.mem_append.mp hx with hx | hx
    · exact hps x hx
    · rw [List.mem_singleton.mp hx]; exact hdp
  · obtain ⟨ps, o1, o2, c3, rfl, rfl, hr3, hpl, hps⟩ := (hPv _ _ _).mp hv
    walk_at "dl"
    exact h _ _ ⟨w, ps, rfl, hw, by omega, hps⟩ hr3
def letD : D → Bool
  | .str z => (!decide (z.cps.toList < ("A" : Str).cps.toList)) && ((!decide (("Z" : Str).cps.toList < z.cps.toList)) && decide (((z.length : Nat) : Int) = 1))
  | _ => false
theorem let_blank : ∀ d ∈ PARTS, letD d = isBlankD d := by decide +kernel
theorem parts_dat : ∀ d ∈ PARTS, datD 30 d = true := by decide +kernel
theorem heads_dat : ∀ d ∈ HEADS, datD 30 d = true ∧ isWordD d = true ∧ isStrD d = true := by decide +kernel
theorem worths_dat : ∀ d ∈ WORTHS, datD 30 d = true ∧ isWorthD d = true ∧ isTupD d = false ∧ isBlankD d = false := by decide +kernel
theorem pat_dat {v : D} (h : PatOk v) : datD 40 v = true := by
  obtain ⟨w, ps, rfl, hw, hl, hps⟩ := h
  show ((w :: ps).all (datD 39) && decide ((w :: ps).length ≤ 1000000)) = true
  rw [Bool.and_eq_true, decide_eq_true_eq, List.length_cons, List.all_cons, Bool.and_eq_true]
  refine ⟨⟨datD_all (by omega) (heads_dat w hw).1, List.all_eq_true.mpr fun x hx => datD_all (by omega) (parts_dat x (hps x hx))⟩, by omega⟩
def a__law_letters : ASp := fun ds C R => ∃ w ps, ds = [.tup (w :: ps)] ∧ (∀ x ∈ ps, x ∈ PARTS) ∧ ps.length ≤ 100 ∧ R (.lst (blanksL (w :: ps))) C
theorem rd__law_letters : ∀ ds C R, a__law_letters ds C R → t__law_letters { nx := fun _ C' => R .non C', rt := R } (dstart ["_law_pattern_here", "_law_part"] ds) C := by
  rintro ds C R ⟨w, ps, rfl, hps, hl, h⟩
  unfold t__law_letters
  walk_at "dl"
  refine lc_filter isBlankD id (by show ps.length ≤ _; rw [sizeLine_eq]; omega) (fun d hm K hK => ?_) (by rw [List.map_id]; exact h)
  have hm : d ∈ ps := hm
  have hdat := datD_dat (parts_dat d (hps d hm))
  have hd := parts_dat d (hps d hm)
  rw [← let_blank d (hps d hm)] at hK
  walk_at "dl"
  simp only [oIsi_str hdat, D.bl.injEq, exists_eq_left']
  cases es : isStrD d with
  | false =>
    have : letD d = false := by cases d <;> first | rfl | cases es
    rw [this] at hK
    walk_at "dl"
    exact hK
  | true =>
  obtain ⟨z, rfl⟩ : ∃ z, d = .str z := by cases d <;> first | exact ⟨_, rfl⟩ | cases es
  simp only [letD] at hK
  simp only [oLe_str, oLen_str (datD_str hd)]
  walk_at "dl"
  cases e1 : decide (z.cps.toList < ("A" : Str).cps.toList) with
  | true =>
    simp only [e1, Bool.not_true, Bool.false_and, Bool.false_eq_true, if_false] at hK
    walk_at "dl"
    exact hK
  | false =>
    simp only [e1, Bool.not_false, Bool.true_and] at hK
    walk_at "dl"
    cases e2 : decide (("Z" : Str).cps.toList < z.cps.toList) with
    | true =>
      simp only [e2, Bool.not_true, Bool.false_and, Bool.false_eq_true, if_false] at hK
      walk_at "dl"
      exact hK
    | false =>
      simp only [e2, Bool.not_false, Bool.true_and] at hK
      walk_at "dl"
      cases e3 : decide (((z.length : Nat) : Int) = 1) with
      | true => simp only [e3, if_true] at hK; walk_at "dl"; exact hK
      | false => simp only [e3, Bool.false_eq_true, if_false] at hK; walk_at "dl"; exact hK
/-- a thing as the law makes it -/
def ThingOk (v : D) : Prop := ∃ w ps, v = .tup (w :: ps) ∧ w ∈ HEADS ∧ ps.length ≤ 4 ∧ ∀ x ∈ ps, x ∈ WORTHS
theorem thing_ok {v : D} (h : ThingOk v) : ThOk v := by
  obtain ⟨w, ps, rfl, hw, hl, hps⟩ := h
  refine ⟨datD_all (show 40 ≤ 50 by omega) (pat_dat ⟨w, ps, rfl, hw, hl, fun x hx => worth_part (hps x hx)⟩), ?_⟩
  simp only [isThingD, Bool.and_eq_true, decide_eq_true_eq]
  exact ⟨⟨hl, (heads_dat w hw).2.1⟩, List.all_eq_true.mpr fun x hx => (worths_dat x (hps x hx)).2.1⟩
def a__law_thing : ASp := fun ds C R => ∃ p c, ds = [.ref p] ∧ C p = some (.lst c) ∧ RowSt c ∧ ∀ v c', ThingOk v → RowSt c' → R v (updC C p (.lst c'))
theorem rd__law_thing : ∀ ds C R, a__law_thing ds C R → t__law_thing a__law_taken a__law_worth { nx := fun _ C' => R .non C', rt := R } (dstart ["_law_row_here", "_law_word", "_law_k"] ds) C := by
  rintro ds C R ⟨p, c, rfl, hp, hc, h⟩
  unfold t__law_thing
  walk_at "dl"
  refine ⟨p, 3, c, rfl, by omega, by omega, hp, hc, fun r c1 h0 h1 hr1 => ?_⟩
  walk_at "dl"
  refine pickE h0 (by simpa using h1) fun w hw => ?_
  walk_at "dl"
  refine ⟨p, 6, c1, rfl, by omega, by omega, updC_at, hr1, fun r c2 h0 h1 hr2 => ?_⟩
  walk_at "dl"
  refine pickE h0 (by simpa using h1) fun d hd => ?_
  obtain ⟨k, hk, rfl⟩ := ints_in (ks := [1, 2, 1, 0, 4, 1]) hd
  have hk4 : 0 ≤ k ∧ k ≤ 4 := by
    simp only [List.mem_cons, List.not_mem_nil, or_false] at hk
    omega
  walk_at "dl"
  refine ⟨by omega, by omega, ?_⟩
  obtain ⟨Pv, hPv⟩ : ∃ Pv : Nat → List D → Cells → Prop, ∀ i ps C', Pv i ps C' ↔ ∃ c', C' = updC C p (.lst c') ∧ RowSt c' ∧ ps.length = i ∧ ∀ x ∈ ps, x ∈ WORTHS := ⟨_, fun _ _ _ => Iff.rfl⟩
  refine lc_inv (n := k.toNat) Pv (fun i _ hi => hi) (fun _ => Nat.le_refl _) ((hPv _ _ _).mpr ⟨c2, rfl, hr2, rfl, by simp⟩) (fun i d acc C' hi hy hv => ?_) (fun acc C' hv => ?_)
  · obtain ⟨c3, rfl, hr3, hpl, hps⟩ := (hPv _ _ _).mp hv
    walk_at "dl"
    refine ⟨p, c3, rfl, updC_at, hr3, fun v c4 hv1 hr4 => ?_⟩
    rw [DL.updC_upd]
    refine ⟨by rw [sizeLine_eq]; omega, (hPv _ _ _).mpr ⟨c4, rfl, hr4, by simp [hpl], fun x hx => ?_⟩⟩
    rcases List.mem_append.mp hx with hx | hx
    · exact hps x hx
    · rw [List.mem_singleton.mp hx]; exact hv1
  · obtain ⟨c3, rfl, hr3, hpl, hps⟩ := (hPv _ _ _).mp hv
    rw [oTuple_def]
    walk_at "dl"
    simp only [tupOf, DL.lstOf, Option.some.injEq, exists_eq_left']
    rw [oAdd_tup (by rw [sizeLine_eq]; simp; omega)]
    exact h _ _ ⟨w, acc, rfl, hw, by omega, hps⟩ hr3
end RR
namespace RR
open PySem PySem.Spec L2 DL
open PyProof.Rows hiding St kindOf
local macro_rules | `(tactic| walk_at "dl") => `(tactic| simp (config := { failIfUnchanged := false }) only [↓ex_two, ↓ex_three, dFor_eq, updC_at, updC_upd, lstOf_upd, dctOf_upd, dctOf_dct, lstOf_lst, isLst_upd, app_upd, dSeq, dNext, dRet, dRetN, dDrop, dIfS, dNever, dAsg, dPar, dPut, gdName, sz_0, sl_0, sz_1, sl_1, sz_2, sl_2, sz_3, sl_3, sz_4, sl_4, sz_5, sl_5, sz_6, sl_6, sz_7, sl_7, sz_8, sl_8, sz_9, sl_9, sz_10, sl_10, sz_11, sl_11, sz_12, sl_12, sz_13, sl_13, sz_14, sl_14, exists_eq, gdCons_cons, gdNil_nil, gdTup_tup, gdUnl_lst, Nat.succ_eq_add_one, Nat.zero_add, dAnd, dOr, dNot, dTest, dAndV, dOrV, dNotV, dIf, dChain, dOp, dUn, dFn, dCall, dNil, dCons, dVar, dC, dTup, dLst, dLstC, dDct0, dDct0C, dPart, dNoPart, dSlice, dLc, dLcC, diSeq, diZip, diEnum, diRng1, diRng2, dYes, dMtL, dSetd, dFrz,
  dstart, List.map, List.replicate, List.length, List.append, List.cons_append, List.nil_append, List.append_nil, List.getElem?_cons_zero, List.getElem?_cons_succ, Option.some.injEq, exists_eq_left', exists_eq_left, wipeD,
  List.cons.injEq, and_true, true_and, D.bl.injEq, D.int.injEq, D.str.injEq, D.tup.injEq, D.lst.injEq, D.dct.injEq, if_true, if_false, Bool.false_eq_true, Bool.not_true, Bool.not_false, Bool.not_not, ite_true, ite_false, reduceIte, List.set_cons_zero, List.set_cons_succ, Option.map_some, Option.isSome_some, and_false, false_and, exists_const,
  slOk_tup, itOf_tup, itOf_lst, itOf_str, itOf_dct, cutL_1, oLe_int, oLt_int, oGe_int, oGt_int, oAdd_int, oSub_int, oIs_non, oIsNot_non, oLen_tup, oLen_lst, oIx_tup, oIx_lst, atI_0, atI_1, atI_2, atI_3, atI_m1, atI_cast, oIn_str, oEq_int, oNe_int, oEq_bl, ex_some,
  bl_and, bl_or, bl_andT, bl_orT, Nat.sub_self, Nat.add_sub_cancel, Nat.reduceSub, Nat.reduceAdd])
theorem letters_dat : ∀ d ∈ LETTERS, datD 30 d = true ∧ isBlankD d = true ∧ isTupD d = false := by decide +kernel
theorem letter_str {d : D} (h : d ∈ LETTERS) : ∃ z, d = .str z := by
  simp only [List.mem_cons, List.not_mem_nil, or_false] at h
  rcases h with rfl | rfl | rfl | rfl <;> exact ⟨_, rfl⟩
theorem mem_memD {d : D} {kn : List D} (h : d ∈ kn) (hl : d ∈ LETTERS) : memD d kn = true := by
  obtain ⟨z, rfl⟩ := letter_str hl
  exact List.any_eq_true.mpr ⟨_, h, by simp [D.eqv]⟩
theorem eqv_lst_nil (kn : List D) : D.eqv (.lst kn) (.lst []) = kn.isEmpty := by
  cases kn <;> simp [D.eqv, D.eqvL]
theorem allL {kn : List D} (h : ∀ b ∈ kn, b ∈ LETTERS) (n : Nat) : kn.all (okD (n + 30)) = true := List.all_eq_true.mpr fun x hx => datD_ok (datD_all (by omega) (letters_dat x (h x hx)).1)
def TplOk (kn : List D) (v : D) : Prop := isTemplateD v kn = true ∧ datD 45 v = true
def a__law_template : ASp := fun ds C R => ∃ p c kn, ds = [.ref p, .lst kn] ∧ C p = some (.lst c) ∧ RowSt c ∧ (∀ b ∈ kn, b ∈ LETTERS) ∧ kn.length ≤ 100 ∧ ∀ v c', TplOk kn v → RowSt c' → R v (updC C p (.lst c'))
theorem place_worth {kn : List D} : ∀ d ∈ WORTHS, isPlaceD kn d = true := by
  intro d hd
  have h := worths_dat d hd
  have : isPlaceD kn d = isSideD d kn := by cases d <;> first | rfl | (cases h.2.2.1; done)
  rw [this]
  unfold isSideD
  rw [h.2.1]
  rfl
theorem place_letter {kn : List D} {d : D} (hm : d ∈ kn) (hd : d ∈ LETTERS) : isPlaceD kn d = true := by
  have h := letters_dat d hd
  have : isPlaceD kn d = isSideD d kn := by cases d <;> first | rfl | (cases h.2.2; done)
  rw [this]
  unfold isSideD
  rw [h.2.1, mem_memD hm hd]
  simp
theorem rd__law_template : ∀ ds C R, a__law_template ds C R → t__law_template a__law_taken a__law_worth { nx := fun _ C' => R .non C', rt := R } (dstart ["_law_row_here", "_law_known", "_law_found_here", "_law_k", "_law_part"] ds) C := by
  rintro ds C R ⟨p, c, kn, rfl, hp, hc, hkn, hkl, h⟩
  unfold t__law_template
  walk_at "dl"
  refine ⟨p, 3, c, rfl, by omega, by omega, hp, hc, fun r c1 h0 h1 hr1 => ?_⟩
  walk_at "dl"
  refine pickE h0 (by simpa using h1) fun w hw => ?_
  walk_at "dl"
  refine ⟨p, 4, c1, rfl, by omega, by omega, updC_at, hr1, fun r c2 h0 h1 hr2 => ?_⟩
  walk_at "dl"
  refine pickE h0 (by simpa using h1) fun d hd => ?_
  obtain ⟨k, hk, rfl⟩ := ints_in (ks := [1, 2, 2, 0]) hd
  have hk4 : 0 ≤ k ∧ k ≤ 4 := by
    simp only [List.mem_cons, List.not_mem_nil, or_false] at hk
    omega
  walk_at "dl"
  refine ⟨by omega, by omega, ?_⟩
  obtain ⟨Pv, hPv⟩ : ∃ Pv : Nat → DSt → Cells → Prop, ∀ i δ C', Pv i δ C' ↔ ∃ ps o1 o2 c', δ = [some (.ref p), some (.lst kn), some (.tup (w :: ps)), o1, o2] ∧ C' = updC C p (.lst c') ∧ RowSt c' ∧ ps.length = i ∧ ∀ x ∈ ps, isPlaceD kn x = true ∧ datD 40 x = true := ⟨_, fun _ _ _ => Iff.rfl⟩
  refine for_rng Pv ((hPv _ _ _).mpr ⟨[], none, none, c2, rfl, rfl, hr2, rfl, by simp⟩) (fun i δ C' hi hv => ?_) (fun δ C' hv => ?_)
  · obtain ⟨ps, o1, o2, c3, rfl, rfl, hr3, hpl, hps⟩ := (hPv _ _ _).mp hv
    have hi4 : i < 4 := by omega
    have fin : ∀ d c', isPlaceD kn d = true → datD 40 d = true → RowSt c' → oAdd (.tup (w :: ps)) (.tup [d]) (updC C p (.lst c')) fun v C1 => Pv (i + 1) [some (.ref p), some (.lst kn), some v, some (.int (0 + (i : Nat))), some d] C1 := fun d c' g1 g2 g3 => by
      rw [oAdd_tup (by rw [sizeLine_eq]; simp; omega)]
      refine (hPv _ _ _).mpr ⟨ps ++ [d], _, _, c', rfl, rfl, g3, by simp [hpl], fun x hx => ?_⟩
      rcases List.mem_append.mp hx with hx | hx
      · exact hps x hx
      · rw [List.mem_singleton.mp hx]; exact ⟨g1, g2⟩
    walk_at "dl"
    refine ⟨p, c3, rfl, updC_at, hr3, fun v1 c4 hv1 hr4 => ?_⟩
    have gw := fin v1 c4 (place_worth v1 hv1) (datD_all (by omega) (worths_dat v1 hv1).1) hr4
    walk_at "dl"
    rw [oNe_ok (show okD 60 (D.lst kn) = true from allL hkn 29) (show okD 60 (D.lst []) = true from rfl), eqv_lst_nil]
    walk_at "dl"
    cases ee : kn.isEmpty with
    | true => walk_at "dl"; exact gw
    | false =>
      have hne : 0 < kn.length := by cases kn <;> first | (cases ee; done) | (simp; done)
      walk_at "dl"
      refine ⟨p, 3, c4, rfl, by omega, by omega, updC_at, hr4, fun r c5 h0 h1 hr5 => ?_⟩
      walk_at "dl"
      by_cases hr : 0 < r
      · simp only [hr, decide_true]
        walk_at "dl"
        refine ⟨p, (kn.length : Nat), c5, rfl, by omega, by omega, updC_at, hr5, fun r c6 h0 h1 hr6 => ?_⟩
        walk_at "dl"
        refine pickE h0 h1 fun b hb => ?_
        have hbl := letters_dat b (hkn b hb)
        walk_at "dl"
        refine ⟨p, 3, c6, rfl, by omega, by omega, updC_at, hr6, fun r c7 h0 h1 hr7 => ?_⟩
        walk_at "dl"
        by_cases hz : r = 0
        · simp only [hz, decide_true]
          walk_at "dl"
          refine ⟨p, 4, c7, rfl, by omega, by omega, updC_at, hr7, fun r c8 h0 h1 hr8 => ?_⟩
          walk_at "dl"
          refine pickE h0 (by simpa using h1) fun e he => ?_
          obtain ⟨k, hk, rfl⟩ := ints_in (ks := [1, 0 - 1, 0, 50]) he
          have hk5 : -99 ≤ k ∧ k ≤ 99 := by
            simp only [List.mem_cons, List.not_mem_nil, or_false] at hk
            omega
          walk_at "dl"
          refine fin (.tup [b, .int k]) c8 ?_ ?_ hr8
          · simp only [isPlaceD, hbl.2.1, mem_memD hb (hkn b hb), isNumD, hk5.1, hk5.2, decide_true, Bool.and_self]
          · show ([b, .int k].all (datD 39) && decide (([b, .int k] : List D).length ≤ 1000000)) = true
            simp only [List.all_cons, List.all_nil, Bool.and_true, Bool.and_eq_true]
            exact ⟨⟨datD_all (by omega) hbl.1, rfl⟩, rfl⟩
        · simp only [hz, decide_false]
          walk_at "dl"
          exact fin b c7 (place_letter hb (hkn b hb)) (datD_all (by omega) hbl.1) hr7
      · simp only [hr, decide_false]
        walk_at "dl"
        exact fin v1 c5 (place_worth v1 hv1) (datD_all (by omega) (worths_dat v1 hv1).1) hr5
  · obtain ⟨ps, o1, o2, c3, rfl, rfl, hr3, hpl, hps⟩ := (hPv _ _ _).mp hv
    walk_at "dl"
    refine h _ _ ⟨?_, ?_⟩ hr3
    · simp only [isTemplateD, Bool.and_eq_true, decide_eq_true_eq]
      exact ⟨⟨by omega, (heads_dat w hw).2.1⟩, List.all_eq_true.mpr fun x hx => (hps x hx).1⟩
    · show ((w :: ps).all (datD 44) && decide ((w :: ps).length ≤ 1000000)) = true
      rw [Bool.and_eq_true, decide_eq_true_eq, List.length_cons, List.all_cons, Bool.and_eq_true]
      exact ⟨⟨datD_all (by omega) (heads_dat w hw).1, List.all_eq_true.mpr fun x hx => datD_all (by omega) (hps x hx).2⟩, by omega⟩
end RR
namespace RR
open PySem PySem.Spec L2 DL
open PyProof.Rows hiding St kindOf
local macro_rules | `(tactic| walk_at "dl") => `(tactic| simp (config := { failIfUnchanged := false }) only [↓ex_two, ↓ex_three, dFor_eq, updC_at, updC_upd, lstOf_upd, dctOf_upd, dctOf_dct, lstOf_lst, isLst_upd, app_upd, dSeq, dNext, dRet, dRetN, dDrop, dIfS, dNever, dAsg, dPar, dPut, gdName, sz_0, sl_0, sz_1, sl_1, sz_2, sl_2, sz_3, sl_3, sz_4, sl_4, sz_5, sl_5, sz_6, sl_6, sz_7, sl_7, sz_8, sl_8, sz_9, sl_9, sz_10, sl_10, sz_11, sl_11, sz_12, sl_12, sz_13, sl_13, sz_14, sl_14, exists_eq, gdCons_cons, gdNil_nil, gdTup_tup, gdUnl_lst, Nat.succ_eq_add_one, Nat.zero_add, dAnd, dOr, dNot, dTest, dAndV, dOrV, dNotV, dIf, dChain, dOp, dUn, dFn, dCall, dNil, dCons, dVar, dC, dTup, dLst, dLstC, dDct0, dDct0C, dPart, dNoPart, dSlice, dLc, dLcC, diSeq, diZip, diEnum, diRng1, diRng2, dYes, dMtL, dSetd, dFrz,
  dstart, List.map, List.replicate, List.length, List.append, List.cons_append, List.nil_append, List.append_nil, List.getElem?_cons_zero, List.getElem?_cons_succ, Option.some.injEq, exists_eq_left', exists_eq_left, wipeD,
  List.cons.injEq, and_true, true_and, D.bl.injEq, D.int.injEq, D.str.injEq, D.tup.injEq, D.lst.injEq, D.dct.injEq, if_true, if_false, Bool.false_eq_true, Bool.not_true, Bool.not_false, Bool.not_not, ite_true, ite_false, reduceIte, List.set_cons_zero, List.set_cons_succ, Option.map_some, Option.isSome_some, and_false, false_and, exists_const,
  slOk_tup, itOf_tup, itOf_lst, itOf_str, itOf_dct, cutL_1, oLe_int, oLt_int, oGe_int, oGt_int, oAdd_int, oSub_int, oIs_non, oIsNot_non, oLen_tup, oLen_lst, oIx_tup, oIx_lst, atI_0, atI_1, atI_2, atI_3, atI_m1, atI_cast, oIn_str, oEq_int, oNe_int, oEq_bl, ex_some,
  bl_and, bl_or, bl_andT, bl_orT, Nat.sub_self, Nat.add_sub_cancel, Nat.reduceSub, Nat.reduceAdd])
/-! ### rules as the law makes them -/
theorem oNeg_int {i : Int} {C : Cells} {R : D → Cells → Prop} : oNeg (.int i) C R = R (.int (-i)) C := rfl
abbrev SIDES : List D := [.str "a", .str "b", .int 0, .int 1, .int 2, .str "c", .int 99, .int (-99), .str "X", .str "Y", .str "Z", .str "W"]
def testZ (z : Str) : Bool := z == LESSS || z == SAMES || z == UNLS
/-- a want as the law makes it -/
def WantOk (w : D) : Prop := (∃ z v, w = .tup [.str z, v] ∧ (z = ISS ∨ z = NOTS) ∧ PatOk v) ∨ ∃ z x y, w = .tup [.str z, x, y] ∧ (z = LESSS ∨ z = SAMES ∨ z = UNLS) ∧ x ∈ SIDES ∧ y ∈ SIDES
structure WsOk (ws kn : List D) : Prop where
  bs : wantsBs [] ws = some kn
  kl : ∀ b ∈ kn, b ∈ LETTERS
  ln : kn.length ≤ 5 * ws.length
  all : ∀ w ∈ ws, WantOk w
  fst : ws ≠ [] → firstIs ws = true
structure RuleGood (nm : Str) (r : D) : Prop where
  sh : ∃ (m : Int) (ws qs kn : List D), r = .tup [.str nm, .int m, .tup ws, .tup qs] ∧ -9 ≤ m ∧ m ≤ 9 ∧ WsOk ws kn ∧ 1 ≤ ws.length ∧ ws.length ≤ 5 ∧ 1 ≤ qs.length ∧ qs.length ≤ 4 ∧ (∀ q ∈ qs, isDeedD q ws kn = true)
  dat : datD 49 r = true
theorem parts_part : ∀ d ∈ PARTS, isPartD d = true := by decide +kernel
theorem parts_blank : ∀ d ∈ PARTS, isBlankD d = true → d ∈ LETTERS := by decide +kernel
theorem pat_pattern {v : D} (h : PatOk v) : isPatternD v = true := by
  obtain ⟨w, ps, rfl, hw, hl, hps⟩ := h
  simp only [isPatternD, Bool.and_eq_true, decide_eq_true_eq]
  exact ⟨⟨hl, (heads_dat w hw).2.1⟩, List.all_eq_true.mpr fun x hx => parts_part x (hps x hx)⟩
theorem ws_nil : WsOk [] [] := ⟨rfl, fun _ h => (by cases h), by simp, fun _ h => (by cases h), fun h => absurd rfl h⟩
theorem snoc_step {ws kn : List D} {w : D} (h : WsOk ws kn) (hw : isWantD w kn = true) : wantsBs [] (ws ++ [w]) = some (wantAdd kn w) := by
  rw [wantsBs_snoc, h.bs]
  show (if isWantD w kn = true then some (wantAdd kn w) else none) = _
  rw [if_pos hw]
theorem fst_snoc {ws kn : List D} {w : D} (h : WsOk ws kn) (hf : ws = [] → firstIs [w] = true) : firstIs (ws ++ [w]) = true := by
  cases ws with
  | nil => exact hf rfl
  | cons a r =>
    have := h.fst (by simp)
    rw [List.cons_append]
    cases a <;> first | (cases this; done) | skip
    rename_i ds
    cases ds with
    | nil => cases this
    | cons b s => cases b <;> first | (cases this; done) | exact this
theorem mem_snoc {w : D} {ws : List D} {P : D → Prop} (h : ∀ x ∈ ws, P x) (hw : P w) : ∀ x ∈ ws ++ [w], P x := fun x hx => by
  rcases List.mem_append.mp hx with hx | hx
  · exact h x hx
  · rw [List.mem_singleton.mp hx]; exact hw
theorem ws_is {ws kn ps : List D} {v : D} (h : WsOk ws kn) (hp : PatOk (.tup (v :: ps))) : WsOk (ws ++ [.tup [.str ISS, .tup (v :: ps)]]) (kn ++ blanksL (v :: ps)) := by
  have hw : isWantD (.tup [.str ISS, .tup (v :: ps)]) kn = true := by
    have : (ISS == ISS || ISS == NOTS) = true := by decide +kernel
    simp only [isWantD, this, if_true]
    exact pat_pattern hp
  have ha : wantAdd kn (.tup [.str ISS, .tup (v :: ps)]) = kn ++ blanksL (v :: ps) := by
    have : (ISS == ISS) = true := by decide +kernel
    simp only [wantAdd, this, if_true]
  obtain ⟨_, ps', e, hv, hl, hps⟩ := hp
  cases e
  refine ⟨by rw [snoc_step h hw, ha], fun b hb => ?_, ?_, mem_snoc h.all (.inl ⟨_, _, rfl, .inl rfl, v, ps, rfl, hv, hl, hps⟩), fun _ => fst_snoc h fun _ => show (ISS == ISS) = true by decide +kernel⟩
  · rcases List.mem_append.mp hb with hb | hb
    · exact h.kl b hb
    · obtain ⟨h1, h2⟩ := List.mem_filter.mp hb
      exact parts_blank b (hps b h1) h2
  · rw [List.length_append, List.length_append, List.length_singleton]
    have := blanksL_len (v :: ps)
    have := h.ln
    rw [List.length_cons] at *
    omega
theorem ws_not {ws kn : List D} {v : D} (h : WsOk ws kn) (hne : ws ≠ []) (hp : PatOk v) : WsOk (ws ++ [.tup [.str NOTS, v]]) kn := by
  have hw : isWantD (.tup [.str NOTS, v]) kn = true := by
    have : (NOTS == ISS || NOTS == NOTS) = true := by decide +kernel
    simp only [isWantD, this, if_true]
    exact pat_pattern hp
  have ha : wantAdd kn (.tup [.str NOTS, v]) = kn := by
    obtain ⟨w, ps, rfl, _⟩ := hp
    have : (NOTS == ISS) = false := by decide +kernel
    simp only [wantAdd, this]
    simp
  exact ⟨by rw [snoc_step h hw, ha], h.kl, by rw [List.length_append]; have := h.ln; omega, mem_snoc h.all (.inl ⟨_, _, rfl, .inr rfl, hp⟩), fun _ => fst_snoc h fun e => absurd e hne⟩
theorem ws_test {ws kn : List D} {z : Str} {x y : D} (h : WsOk ws kn) (hne : ws ≠ []) (hz : z = LESSS ∨ z = SAMES ∨ z = UNLS) (hx : x ∈ WORTHS ∨ x ∈ kn) (hy : y ∈ WORTHS ∨ y ∈ kn) : WsOk (ws ++ [.tup [.str z, x, y]]) kn := by
  have ez : (z == ISS || z == NOTS) = false := by rcases hz with rfl | rfl | rfl <;> decide +kernel
  have ez2 : (z == LESSS || z == SAMES || z == UNLS) = true := by rcases hz with rfl | rfl | rfl <;> decide +kernel
  have side : ∀ x, (x ∈ WORTHS ∨ x ∈ kn) → isSideD x kn = true ∧ x ∈ SIDES := fun x hx => by
    rcases hx with hx | hx
    · refine ⟨by unfold isSideD; rw [(worths_dat x hx).2.1]; rfl, ?_⟩
      simp only [List.mem_cons, List.not_mem_nil, or_false] at hx ⊢
      rcases hx with rfl | rfl | rfl | rfl | rfl | rfl | rfl | rfl <;> simp
    · have hl := h.kl x hx
      refine ⟨by unfold isSideD; rw [(letters_dat x hl).2.1, mem_memD hx hl]; simp, ?_⟩
      simp only [List.mem_cons, List.not_mem_nil, or_false] at hl ⊢
      rcases hl with rfl | rfl | rfl | rfl <;> simp
  have hw : isWantD (.tup [.str z, x, y]) kn = true := by
    simp only [isWantD, ez, ez2, List.all_cons, List.all_nil, (side x hx).1, (side y hy).1]
    rfl
  have ha : wantAdd kn (.tup [.str z, x, y]) = kn := by
    have e3 : (z == ISS) = false := by rcases hz with rfl | rfl | rfl <;> decide +kernel
    unfold wantAdd
    split
    · rename_i e
      injection e with e
      injection e with e1 e2
      injection e1 with e1
      subst e1
      rw [e3]
      simp
    · rfl
  exact ⟨by rw [snoc_step h hw, ha], h.kl, by rw [List.length_append]; have := h.ln; omega, mem_snoc h.all (.inr ⟨_, _, _, rfl, hz, (side x hx).2, (side y hy).2⟩), fun _ => fst_snoc h fun e => absurd e hne⟩
theorem sides_dat : ∀ d ∈ SIDES, datD 30 d = true := by decide +kernel
theorem want_dat {w : D} (h : WantOk w) : datD 45 w = true := by
  rcases h with ⟨z, v, rfl, hz, hp⟩ | ⟨z, x, y, rfl, hz, hx, hy⟩
  · have hzd : datD 44 (.str z) = true := by rcases hz with rfl | rfl <;> decide +kernel
    show ([.str z, v].all (datD 44) && decide (([.str z, v] : List D).length ≤ 1000000)) = true
    simp only [List.all_cons, List.all_nil, Bool.and_true, hzd, datD_all (show 40 ≤ 44 by omega) (pat_dat hp), Bool.true_and]
    rfl
  · have hzd : datD 44 (.str z) = true := by rcases hz with rfl | rfl | rfl <;> decide +kernel
    show ([.str z, x, y].all (datD 44) && decide (([.str z, x, y] : List D).length ≤ 1000000)) = true
    simp only [List.all_cons, List.all_nil, Bool.and_true, hzd, datD_all (show 30 ≤ 44 by omega) (sides_dat x hx), datD_all (show 30 ≤ 44 by omega) (sides_dat y hy), Bool.true_and]
    rfl
/-- two cells: the row's, and one more -/
theorem updC2 {C : Cells} {p q : Addr} {c c' w : Cell} (h : q ≠ p) : updC (updC (updC C p c) q w) p c' = updC (updC C p c') q w := by
  rw [← updC_comm h.symm, DL.updC_upd]
  exact updC_comm h.symm ▸ rfl
theorem at2 {C : Cells} {p q : Addr} {c w : Cell} (h : q ≠ p) : updC (updC C p c) q w p = some c := by
  rw [DL.updC_ne h.symm, updC_at]
theorem lss_upd2 {R : D → Cells → Prop} {d : D} {C : Cells} {q r : Addr} {x y : Cell} (hq : C q = none) (hr : updC C q x r = none) (h : R d C) : lss R d (updC (updC C q x) r y) := by
  refine ⟨C, fun a c e => ?_, h⟩
  have h1 : a ≠ q := by rintro rfl; rw [hq] at e; cases e
  have h2 : a ≠ r := by
    rintro rfl
    rw [DL.updC_ne h1, e] at hr
    cases hr
  rw [DL.updC_ne h2, DL.updC_ne h1]
  exact e
end RR
namespace RR
open PySem PySem.Spec L2 DL
open PyProof.Rows hiding St kindOf
local macro_rules | `(tactic| walk_at "dl") => `(tactic| simp (config := { failIfUnchanged := false }) only [↓ex_two, ↓ex_three, dFor_eq, updC_at, updC_upd, lstOf_upd, dctOf_upd, dctOf_dct, lstOf_lst, isLst_upd, app_upd, dSeq, dNext, dRet, dRetN, dDrop, dIfS, dNever, dAsg, dPar, dPut, gdName, sz_0, sl_0, sz_1, sl_1, sz_2, sl_2, sz_3, sl_3, sz_4, sl_4, sz_5, sl_5, sz_6, sl_6, sz_7, sl_7, sz_8, sl_8, sz_9, sl_9, sz_10, sl_10, sz_11, sl_11, sz_12, sl_12, sz_13, sl_13, sz_14, sl_14, exists_eq, gdCons_cons, gdNil_nil, gdTup_tup, gdUnl_lst, Nat.succ_eq_add_one, Nat.zero_add, dAnd, dOr, dNot, dTest, dAndV, dOrV, dNotV, dIf, dChain, dOp, dUn, dFn, dCall, dNil, dCons, dVar, dC, dTup, dLst, dLstC, dDct0, dDct0C, dPart, dNoPart, dSlice, dLc, dLcC, diSeq, diZip, diEnum, diRng1, diRng2, dYes, dMtL, dSetd, dFrz,
  dstart, List.map, List.replicate, List.length, List.append, List.cons_append, List.nil_append, List.append_nil, List.getElem?_cons_zero, List.getElem?_cons_succ, Option.some.injEq, exists_eq_left', exists_eq_left, wipeD,
  List.cons.injEq, and_true, true_and, D.bl.injEq, D.int.injEq, D.str.injEq, D.tup.injEq, D.lst.injEq, D.dct.injEq, if_true, if_false, Bool.false_eq_true, Bool.not_true, Bool.not_false, Bool.not_not, ite_true, ite_false, reduceIte, List.set_cons_zero, List.set_cons_succ, Option.map_some, Option.isSome_some, and_false, false_and, exists_const,
  slOk_tup, itOf_tup, itOf_lst, itOf_str, itOf_dct, cutL_1, oLe_int, oLt_int, oGe_int, oGt_int, oAdd_int, oSub_int, oIs_non, oIsNot_non, oLen_tup, oLen_lst, oIx_tup, oIx_lst, atI_0, atI_1, atI_2, atI_3, atI_m1, atI_cast, oIn_str, oEq_int, oNe_int, oEq_bl, ex_some,
  bl_and, bl_or, bl_andT, bl_orT, Nat.sub_self, Nat.add_sub_cancel, Nat.reduceSub, Nat.reduceAdd])
def headIs (d : D) : Bool := match d with
  | .tup (.str z :: _) => z == ISS
  | _ => false
theorem wantAt_head {ws : List D} {i : Int} {d : D} (h : atI ws i = some d) : isWantAt ws (.int i) = headIs d := by
  simp only [isWantAt, h]
  cases d <;> first | rfl | skip
  rename_i ds
  rcases ds with _ | ⟨b, ds⟩
  · rfl
  · cases b <;> rfl
theorem firstIs_cons (a : D) (r : List D) : firstIs (a :: r) = headIs a := by
  cases a <;> first | rfl | skip
  rename_i ds
  rcases ds with _ | ⟨b, ds⟩
  · rfl
  · cases b <;> rfl
theorem deed_take {n : Nat} {ws kn : List D} (hn : n < ws.length) (hw : isWantAt ws (.int (n : Nat)) = true) : isDeedD (.tup [.str TAKES, .int (n : Nat)]) ws kn = true := by
  have e : (TAKES == TAKES) = true := by decide +kernel
  simp only [isDeedD, e, if_true, hw, isNumD, Bool.and_true, Bool.and_eq_true, decide_eq_true_eq]
  omega
theorem deed_tell {z : Str} {v : D} {ws kn : List D} (h1 : tellerD z = true) (h2 : (z == TAKES) = false) (h3 : isTemplateD v kn = true) : isDeedD (.tup [.str z, v]) ws kn = true := by
  simp only [isDeedD, h1, h2, h3]
  rfl
theorem take_dat {n : Int} : datD 47 (.tup [.str TAKES, .int n]) = true := by
  show ([.str TAKES, .int n].all (datD 46) && decide (([.str TAKES, .int n] : List D).length ≤ 1000000)) = true
  simp only [List.all_cons, List.all_nil, Bool.and_true, show datD 46 (.str TAKES) = true by decide +kernel, Bool.true_and]
  rfl
theorem tell_dat {z : Str} {v : D} (h : datD 46 (.str z) = true) (hv : datD 46 v = true) : datD 47 (.tup [.str z, v]) = true := by
  show ([.str z, v].all (datD 46) && decide (([.str z, v] : List D).length ≤ 1000000)) = true
  simp only [List.all_cons, List.all_nil, Bool.and_true, h, hv, Bool.true_and]
  rfl
abbrev str3 (z : Str) : Str := z
def a__law_rule : ASp := fun ds C R => ∃ p c nm, ds = [.ref p, .str nm] ∧ C p = some (.lst c) ∧ RowSt c ∧ datD 40 (.str nm) = true ∧ isWordD (.str nm) = true ∧ ∀ v c', RuleGood nm v → RowSt c' → R v (updC C p (.lst c'))
theorem rd__law_rule : ∀ ds C R, a__law_rule ds C R → t__law_rule a__law_taken a__law_pattern a__law_letters a__law_worth a__law_template { nx := fun _ C' => lss R .non C', rt := lss R } (dstart ["_law_row_here", "_law_name", "_law_known", "_law_wants", "_law_k", "_law_way", "_law_side", "_law_other", "_law_pair", "_law_places", "_law_deeds"] ds) C := by
  rintro ds C R ⟨p, c, nm, rfl, hp, hc, hnd, hnw, h⟩
  unfold t__law_rule
  walk_at "dl"
  intro q hq
  have hpq : q ≠ p := by rintro rfl; rw [hp] at hq; cases hq
  walk_at "dl"
  refine ⟨p, 5, c, rfl, by omega, by omega, by rw [DL.updC_ne hpq.symm]; exact hp, hc, fun r c1 h0 h1 hr1 => ?_⟩
  rw [updC_comm hpq.symm]
  walk_at "dl"
  refine pickE h0 (by simpa using h1) fun d hd => ?_
  obtain ⟨k, hk, rfl⟩ := ints_in (ks := [1, 2, 2, 3, 4]) hd
  have hk4 : 1 ≤ k ∧ k ≤ 4 := by
    simp only [List.mem_cons, List.not_mem_nil, or_false] at hk
    omega
  walk_at "dl"
  refine ⟨by omega, by omega, ?_⟩
  obtain ⟨Pv, hPv⟩ : ∃ Pv : Nat → DSt → Cells → Prop, ∀ i δ C', Pv i δ C' ↔ ∃ ws kn o4 o5 o6 o7 o8 c', δ = [some (.ref p), some (.str nm), some (.lst kn), some (.ref q), o4, o5, o6, o7, o8, none, none] ∧ C' = updC (updC C p (.lst c')) q (.lst ws) ∧ RowSt c' ∧ WsOk ws kn ∧ ws.length = i := ⟨_, fun _ _ _ => Iff.rfl⟩
  refine for_rng Pv ((hPv _ _ _).mpr ⟨[], [], none, none, none, none, none, c1, rfl, rfl, hr1, ws_nil, rfl⟩) (fun i δ C' hi hv => ?_) (fun δ C' hv => ?_)
  · obtain ⟨ws, kn, o4, o5, o6, o7, o8, c3, rfl, rfl, hr3, hws, hwl⟩ := (hPv _ _ _).mp hv
    have hi4 : i < 4 := by omega
    have hkn : kn.length ≤ 20 := by have := hws.ln; omega
    by_cases hi0 : i = 0
    · subst hi0
      obtain rfl := List.length_eq_zero_iff.mp hwl
      walk_at "dl"
      simp only [show decide ((0 : Int) < 0 + ((0 : Nat) : Int)) = false from rfl]
      walk_at "dl"
      simp only [show decide ((0 : Int) < 4) = true from rfl]
      walk_at "dl"
      refine ⟨p, c3, str3 "XYZ", rfl, at2 hpq, hr3, rfl, by decide +kernel, fun v c5 hv5 hr5 => ?_⟩
      obtain ⟨w, ps, rfl, hw', hl', hps'⟩ := id hv5
      rw [updC2 hpq]
      walk_at "dl"
      simp only [oNeg_int]
      rw [oIx_ref updC_at]
      simp only [oNeg_int, atI_m1, List.getLast?_append, List.getLast?_singleton, Option.some_or]
      walk_at "dl"
      refine ⟨w, ps, rfl, hps', by omega, ?_⟩
      walk_at "dl"
      rw [oAdd_lst (by have := blanksL_len (w :: ps); rw [List.length_cons] at this; rw [sizeLine_eq]; omega)]
      walk_at "dl"
      exact (hPv _ _ _).mpr ⟨_, _, _, _, _, _, _, c5, rfl, rfl, hr5, ws_is hws hv5, by simp [hwl]⟩
    · have hwne : ws ≠ [] := by rintro rfl; exact hi0 (by simpa using hwl.symm)
      walk_at "dl"
      simp only [show decide ((0 : Int) < 0 + (i : Int)) = true from decide_eq_true (by omega)]
      walk_at "dl"
      refine ⟨p, 8, c3, rfl, by omega, by omega, at2 hpq, hr3, fun y c4 h0 h1 hr4 => ?_⟩
      rw [updC2 hpq]
      walk_at "dl"
      by_cases hy4 : y < 4
      · simp only [hy4, decide_true]
        walk_at "dl"
        refine ⟨p, c4, str3 "XYZ", rfl, at2 hpq, hr4, rfl, by decide +kernel, fun v c5 hv5 hr5 => ?_⟩
        obtain ⟨w, ps, rfl, hw', hl', hps'⟩ := id hv5
        rw [updC2 hpq]
        walk_at "dl"
        refine ⟨by rw [sizeLine_eq]; omega, ?_⟩
        simp only [oNeg_int]
        rw [oIx_ref updC_at]
        simp only [oNeg_int, atI_m1, List.getLast?_append, List.getLast?_singleton, Option.some_or]
        walk_at "dl"
        refine ⟨w, ps, rfl, hps', by omega, ?_⟩
        walk_at "dl"
        rw [oAdd_lst (by have := blanksL_len (w :: ps); rw [List.length_cons] at this; rw [sizeLine_eq]; omega)]
        walk_at "dl"
        exact (hPv _ _ _).mpr ⟨_, _, _, _, _, _, _, c5, rfl, rfl, hr5, ws_is hws hv5, by simp [hwl]⟩
      · simp only [hy4, decide_false]
        walk_at "dl"
        by_cases hy5 : 5 < y
        · simp only [hy5, decide_true]
          walk_at "dl"
          rw [oEq_ok (show okD 60 (D.lst kn) = true from allL hws.kl 29) (show okD 60 (D.lst []) = true from rfl), eqv_lst_nil]
          walk_at "dl"
          cases ee : kn.isEmpty with
          | true =>
            walk_at "dl"
            refine ⟨p, c4, str3 "XYZ", rfl, at2 hpq, hr4, rfl, by decide +kernel, fun v c5 hv5 hr5 => ?_⟩
            obtain ⟨w, ps, rfl, hw', hl', hps'⟩ := id hv5
            rw [updC2 hpq]
            walk_at "dl"
            refine ⟨by rw [sizeLine_eq]; omega, ?_⟩
            simp only [oNeg_int]
            rw [oIx_ref updC_at]
            simp only [oNeg_int, atI_m1, List.getLast?_append, List.getLast?_singleton, Option.some_or]
            walk_at "dl"
            refine ⟨w, ps, rfl, hps', by omega, ?_⟩
            walk_at "dl"
            rw [oAdd_lst (by have := blanksL_len (w :: ps); rw [List.length_cons] at this; rw [sizeLine_eq]; omega)]
            walk_at "dl"
            exact (hPv _ _ _).mpr ⟨_, _, _, _, _, _, _, c5, rfl, rfl, hr5, ws_is hws hv5, by simp [hwl]⟩
          | false =>
            have hne : 0 < kn.length := by cases kn <;> first | (cases ee; done) | (simp; done)
            walk_at "dl"
            simp only [show decide (y < 6) = false from decide_eq_false (by omega)]
            walk_at "dl"
            refine ⟨p, (kn.length : Nat), c4, rfl, by omega, by omega, at2 hpq, hr4, fun r c5 h0 h1 hr5 => ?_⟩
            rw [updC2 hpq]
            walk_at "dl"
            refine pickE h0 h1 fun sd hsd => ?_
            walk_at "dl"
            refine ⟨p, c5, rfl, at2 hpq, hr5, fun v1 c6 hv1 hr6 => ?_⟩
            rw [updC2 hpq]
            walk_at "dl"
            refine ⟨p, (kn.length : Nat), c6, rfl, by omega, by omega, at2 hpq, hr6, fun r c7 h0 h1 hr7 => ?_⟩
            rw [updC2 hpq]
            walk_at "dl"
            refine pickE h0 h1 fun s2 hs2 => ?_
            walk_at "dl"
            refine ⟨p, 2, c7, rfl, by omega, by omega, at2 hpq, hr7, fun r c8 h0 h1 hr8 => ?_⟩
            rw [updC2 hpq]
            walk_at "dl"
            refine pickE h0 (by simpa using h1) fun ot hot => ?_
            have hot2 : ot ∈ WORTHS ∨ ot ∈ kn := by
              simp only [List.mem_cons, List.not_mem_nil, or_false] at hot
              rcases hot with rfl | rfl
              · exact .inl hv1
              · exact .inr hs2
            walk_at "dl"
            refine ⟨p, 2, c8, rfl, by omega, by omega, at2 hpq, hr8, fun r2 c9 h0 h1 hr9 => ?_⟩
            rw [updC2 hpq]
            walk_at "dl"
            by_cases hz : r2 = 0
            · simp only [hz, decide_true]
              walk_at "dl"
              refine ⟨p, 3, c9, rfl, by omega, by omega, at2 hpq, hr9, fun r c10 h0 h1 hr10 => ?_⟩
              rw [updC2 hpq]
              walk_at "dl"
              refine pickE h0 (by simpa using h1) fun tz htz => ?_
              obtain ⟨z, rfl, hzz⟩ : ∃ z, tz = .str z ∧ (z = LESSS ∨ z = SAMES ∨ z = UNLS) := by
                simp only [List.mem_cons, List.not_mem_nil, or_false] at htz
                rcases htz with rfl | rfl | rfl
                · exact ⟨_, rfl, .inl rfl⟩
                · exact ⟨_, rfl, .inr (.inl rfl)⟩
                · exact ⟨_, rfl, .inr (.inr rfl)⟩
              walk_at "dl"
              rw [oAdd_tup (by rw [sizeLine_eq]; simp)]
              walk_at "dl"
              refine ⟨by rw [sizeLine_eq]; omega, ?_⟩
              exact (hPv _ _ _).mpr ⟨_, _, _, _, _, _, _, c10, rfl, rfl, hr10, ws_test hws hwne hzz (.inr hsd) (hot2), by simp [hwl]⟩
            · simp only [hz, decide_false]
              walk_at "dl"
              refine ⟨p, 3, c9, rfl, by omega, by omega, at2 hpq, hr9, fun r c10 h0 h1 hr10 => ?_⟩
              rw [updC2 hpq]
              walk_at "dl"
              refine pickE h0 (by simpa using h1) fun tz htz => ?_
              obtain ⟨z, rfl, hzz⟩ : ∃ z, tz = .str z ∧ (z = LESSS ∨ z = SAMES ∨ z = UNLS) := by
                simp only [List.mem_cons, List.not_mem_nil, or_false] at htz
                rcases htz with rfl | rfl | rfl
                · exact ⟨_, rfl, .inl rfl⟩
                · exact ⟨_, rfl, .inr (.inl rfl)⟩
                · exact ⟨_, rfl, .inr (.inr rfl)⟩
              walk_at "dl"
              rw [oAdd_tup (by rw [sizeLine_eq]; simp)]
              walk_at "dl"
              refine ⟨by rw [sizeLine_eq]; omega, ?_⟩
              exact (hPv _ _ _).mpr ⟨_, _, _, _, _, _, _, c10, rfl, rfl, hr10, ws_test hws hwne hzz (hot2) (.inr hsd), by simp [hwl]⟩
        · simp only [hy5, decide_false]
          walk_at "dl"
          simp only [show decide (y < 6) = true from decide_eq_true (by omega)]
          walk_at "dl"
          refine ⟨p, c4, str3 "XYW", rfl, at2 hpq, hr4, rfl, by decide +kernel, fun v c5 hv5 hr5 => ?_⟩
          rw [updC2 hpq]
          walk_at "dl"
          refine ⟨by rw [sizeLine_eq]; omega, ?_⟩
          exact (hPv _ _ _).mpr ⟨_, _, _, _, _, _, _, c5, rfl, rfl, hr5, ws_not hws hwne hv5, by simp [hwl]⟩
  · obtain ⟨ws, kn, o4, o5, o6, o7, o8, c3, rfl, rfl, hr3, hws, hwl⟩ := (hPv _ _ _).mp hv
    have hw1 : 1 ≤ ws.length := by omega
    have hw5 : ws.length ≤ 4 := by omega
    have hkn : kn.length ≤ 20 := by have := hws.ln; omega
    walk_at "dl"
    rw [oLen_ref updC_at]
    walk_at "dl"
    refine ⟨by omega, by omega, ?_⟩
    obtain ⟨Pl, hPl⟩ : ∃ Pl : Nat → List D → Cells → Prop, ∀ i acc C', Pl i acc C' ↔ C' = updC (updC C p (.lst c3)) q (.lst ws) ∧ (∀ x ∈ acc, ∃ n : Nat, x = .int (n : Nat) ∧ n < ws.length ∧ isWantAt ws x = true) ∧ (0 < i → acc ≠ []) ∧ acc.length ≤ i := ⟨_, fun _ _ _ => Iff.rfl⟩
    refine lc_inv (n := ((ws.length : Nat) : Int).toNat) Pl (fun i _ hi => hi) (fun _ => Nat.le_refl _) ((hPl _ _ _).mpr ⟨rfl, by simp, by simp, by simp⟩) (fun i d acc C' hi hy hv => ?_) (fun acc C' hv => ?_)
    · obtain ⟨rfl, ha1, ha2, ha3⟩ := (hPl _ _ _).mp hv
      have hy : d = .int (0 + (i : Int)) := hy
      subst hy
      have hiw : i < ws.length := by omega
      walk_at "dl"
      rw [oIx_ref updC_at]
      simp only [Int.zero_add, atI_cast]
      walk_at "dl"
      refine ⟨ws[i], List.getElem?_eq_getElem hiw, ?_⟩
      have hwd := want_dat (hws.all _ (List.getElem_mem hiw))
      have hwa : isWantAt ws (.int (i : Nat)) = headIs ws[i] := wantAt_head (by rw [atI_cast]; exact List.getElem?_eq_getElem hiw)
      have h00 : i = 0 → isWantAt ws (.int (i : Nat)) = true := fun e => by
        subst e
        have := hws.fst (by rintro rfl; simp at hiw)
        rw [hwa]
        cases ws with
        | nil => simp at hiw
        | cons a r => rw [firstIs_cons] at this; exact this
      have yes : isWantAt ws (.int (i : Nat)) = true → Pl (i + 1) (acc ++ [.int (i : Nat)]) (updC (updC C p (.lst c3)) q (.lst ws)) := fun e => (hPl _ _ _).mpr ⟨rfl, mem_snoc ha1 ⟨i, rfl, hiw, e⟩, by simp, by simp; omega⟩
      have no : isWantAt ws (.int (i : Nat)) = false → Pl (i + 1) acc (updC (updC C p (.lst c3)) q (.lst ws)) := fun e => (hPl _ _ _).mpr ⟨rfl, ha1, fun _ => ha2 (by
        refine Nat.pos_of_ne_zero fun e0 => ?_
        rw [h00 e0] at e
        cases e), by omega⟩
      rcases hws.all _ (List.getElem_mem hiw) with ⟨z, v, e, hz, hpv⟩ | ⟨z, x, y, e, hz, hx, hy2⟩
      all_goals
        rw [e] at hwd hwa ⊢
        have hzd := datD_item hwd (show D.str z ∈ D.str z :: _ from List.mem_cons_self)
        walk_at "dl"
        simp only [oEq_str (datD_sok hzd) okIS]
        walk_at "dl"
        have hwa : isWantAt ws (.int (i : Nat)) = (z == ISS) := hwa
        cases ez : (z == ISS) with
        | true =>
          walk_at "dl"
          exact ⟨by rw [sizeLine_eq]; omega, yes (by rw [hwa, ez])⟩
        | false =>
          walk_at "dl"
          exact no (by rw [hwa, ez])
    · obtain ⟨rfl, ha1, ha2, ha3⟩ := (hPl _ _ _).mp hv
      have hne : acc ≠ [] := ha2 (by omega)
      have hal : 0 < acc.length := List.length_pos_iff.mpr hne
      walk_at "dl"
      intro r hr
      have hrq : r ≠ q := by rintro rfl; rw [updC_at] at hr; cases hr
      have hrp : r ≠ p := by rintro rfl; rw [at2 hpq] at hr; cases hr
      have hCq : updC C q (.lst ws) r = none := by
        rw [DL.updC_ne hrq] at hr ⊢
        rw [DL.updC_ne hrp] at hr
        exact hr
      rw [show updC (updC C p (.lst c3)) q (.lst ws) = updC (updC C q (.lst ws)) p (.lst c3) from updC_comm hpq]
      refine ⟨p, 4, c3, rfl, by omega, by omega, at2 hrp, hr3, fun y c4 h0 h1 hr4 => ?_⟩
      rw [updC2 hrp]
      walk_at "dl"
      refine pickE h0 (by simpa using h1) fun d hd => ?_
      obtain ⟨k2, hk2, rfl⟩ := ints_in (ks := [1, 1, 2, 3]) hd
      have hk24 : 1 ≤ k2 ∧ k2 ≤ 3 := by
        simp only [List.mem_cons, List.not_mem_nil, or_false] at hk2
        omega
      walk_at "dl"
      refine ⟨by omega, by omega, ?_⟩
      obtain ⟨Pw, hPw⟩ : ∃ Pw : Nat → DSt → Cells → Prop, ∀ i δ C', Pw i δ C' ↔ ∃ qs o4 o5 o6 o7 o8 c', δ = [some (.ref p), some (.str nm), some (.lst kn), some (.ref q), o4, o5, o6, o7, o8, some (.lst acc), some (.ref r)] ∧ C' = updC (updC (updC C q (.lst ws)) p (.lst c')) r (.lst qs) ∧ RowSt c' ∧ qs.length = i ∧ (∀ x ∈ qs, isDeedD x ws kn = true ∧ datD 47 x = true) := ⟨_, fun _ _ _ => Iff.rfl⟩
      refine for_rng Pw ((hPw _ _ _).mpr ⟨[], _, _, _, _, _, c4, rfl, rfl, hr4, rfl, by simp⟩) (fun i δ C' hi hv => ?_) (fun δ C' hv => ?_)
      · obtain ⟨qs, o4, o5, o6, o7, o8, c5, rfl, rfl, hr5, hql, hqs⟩ := (hPw _ _ _).mp hv
        walk_at "dl"
        refine ⟨p, 8, c5, rfl, by omega, by omega, at2 hrp, hr5, fun y c6 h0 h1 hr6 => ?_⟩
        rw [updC2 hrp]
        walk_at "dl"
        by_cases hy0 : y = 0
        · simp only [hy0, decide_true]
          walk_at "dl"
          refine ⟨p, (acc.length : Nat), c6, rfl, by omega, by omega, at2 hrp, hr6, fun y c7 h0 h1 hr7 => ?_⟩
          rw [updC2 hrp]
          walk_at "dl"
          refine pickE h0 h1 fun pl hpl => ?_
          obtain ⟨n, rfl, hn, hwn⟩ := ha1 pl hpl
          walk_at "dl"
          refine ⟨by rw [sizeLine_eq]; omega, (hPw _ _ _).mpr ⟨_, _, _, _, _, _, c7, rfl, rfl, hr7, by simp [hql], mem_snoc hqs ⟨?_, ?_⟩⟩⟩
          · exact deed_take hn hwn
          · exact take_dat
        · simp only [hy0, decide_false]
          walk_at "dl"
          refine pickE (by omega) (by simp; omega) fun td htd => ?_
          obtain ⟨z, rfl, hz1, hz2, hz3⟩ : ∃ z, td = .str z ∧ tellerD z = true ∧ (z == TAKES) = false ∧ datD 46 (.str z) = true := by
            simp only [List.mem_cons, List.not_mem_nil, or_false] at htd
            rcases htd with rfl | rfl | rfl | rfl | rfl | rfl | rfl <;> exact ⟨_, rfl, by decide +kernel, by decide +kernel, by decide +kernel⟩
          walk_at "dl"
          refine ⟨p, c6, kn, rfl, at2 hrp, hr6, hws.kl, by omega, fun v c7 hv7 hr7 => ?_⟩
          rw [updC2 hrp]
          walk_at "dl"
          refine ⟨by rw [sizeLine_eq]; omega, (hPw _ _ _).mpr ⟨_, _, _, _, _, _, c7, rfl, rfl, hr7, by simp [hql], mem_snoc hqs ⟨?_, ?_⟩⟩⟩
          · exact deed_tell hz1 hz2 hv7.1
          · exact tell_dat hz3 (datD_all (by omega) hv7.2)
      · obtain ⟨qs, o4, o5, o6, o7, o8, c5, rfl, rfl, hr5, hql, hqs⟩ := (hPw _ _ _).mp hv
        walk_at "dl"
        refine ⟨p, 3, c5, rfl, by omega, by omega, at2 hrp, hr5, fun y c6 h0 h1 hr6 => ?_⟩
        rw [updC2 hrp]
        walk_at "dl"
        rw [oTuple_def]
        have el : lstOf (updC (updC (updC C q (.lst ws)) p (.lst c6)) r (.lst qs)) (.ref q) = some ws := by
          refine lstOf_at ?_
          rw [DL.updC_ne (Ne.symm hrq), at2 (Ne.symm hpq)]
        simp only [tupOf, el, Option.some.injEq, exists_eq_left']
        rw [oTuple_def]
        simp only [tupOf, lstOf_upd, Option.some.injEq, exists_eq_left']
        walk_at "dl"
        rw [show updC (updC C q (.lst ws)) p (.lst c6) = updC (updC C p (.lst c6)) q (.lst ws) from (updC_comm hpq).symm]
        refine lss_upd2 ?_ ?_ (h _ c6 ⟨⟨y - 1, ws, qs, kn, rfl, by omega, by omega, hws, by omega, by omega, by omega, by omega, fun x hx => (hqs x hx).1⟩, ?_⟩ hr6)
        · rw [DL.updC_ne hpq]; exact hq
        · rw [DL.updC_ne hrq, DL.updC_ne hrp]
          rw [DL.updC_ne hrq] at hCq
          exact hCq
        · show ([.str nm, .int (y - 1), .tup ws, .tup qs].all (datD 48) && decide (([.str nm, .int (y - 1), .tup ws, .tup qs] : List D).length ≤ 1000000)) = true
          have d1 : datD 48 (.tup ws) = true := by
            show (ws.all (datD 47) && decide (ws.length ≤ 1000000)) = true
            rw [Bool.and_eq_true, decide_eq_true_eq]
            exact ⟨List.all_eq_true.mpr fun x hx => datD_all (by omega) (want_dat (hws.all x hx)), by omega⟩
          have d2 : datD 48 (.tup qs) = true := by
            show (qs.all (datD 47) && decide (qs.length ≤ 1000000)) = true
            rw [Bool.and_eq_true, decide_eq_true_eq]
            exact ⟨List.all_eq_true.mpr fun x hx => (hqs x hx).2, by omega⟩
          simp only [List.all_cons, List.all_nil, Bool.and_true, d1, d2, datD_all (show 40 ≤ 48 by omega) hnd, Bool.true_and]
          rfl
end RR
namespace RR
open PySem PySem.Spec L2 DL
open PyProof.Rows hiding St kindOf
local macro_rules | `(tactic| walk_at "dl") => `(tactic| simp (config := { failIfUnchanged := false }) only [↓ex_two, ↓ex_three, dFor_eq, updC_at, updC_upd, lstOf_upd, dctOf_upd, dctOf_dct, lstOf_lst, isLst_upd, app_upd, dSeq, dNext, dRet, dRetN, dDrop, dIfS, dNever, dAsg, dPar, dPut, gdName, sz_0, sl_0, sz_1, sl_1, sz_2, sl_2, sz_3, sl_3, sz_4, sl_4, sz_5, sl_5, sz_6, sl_6, sz_7, sl_7, sz_8, sl_8, sz_9, sl_9, sz_10, sl_10, sz_11, sl_11, sz_12, sl_12, sz_13, sl_13, sz_14, sl_14, exists_eq, gdCons_cons, gdNil_nil, gdTup_tup, gdUnl_lst, Nat.succ_eq_add_one, Nat.zero_add, dAnd, dOr, dNot, dTest, dAndV, dOrV, dNotV, dIf, dChain, dOp, dUn, dFn, dCall, dNil, dCons, dVar, dC, dTup, dLst, dLstC, dDct0, dDct0C, dPart, dNoPart, dSlice, dLc, dLcC, diSeq, diZip, diEnum, diRng1, diRng2, dYes, dMtL, dSetd, dFrz,
  dstart, List.map, List.replicate, List.length, List.append, List.cons_append, List.nil_append, List.append_nil, List.getElem?_cons_zero, List.getElem?_cons_succ, Option.some.injEq, exists_eq_left', exists_eq_left, wipeD,
  List.cons.injEq, and_true, true_and, D.bl.injEq, D.int.injEq, D.str.injEq, D.tup.injEq, D.lst.injEq, D.dct.injEq, if_true, if_false, Bool.false_eq_true, Bool.not_true, Bool.not_false, Bool.not_not, ite_true, ite_false, reduceIte, List.set_cons_zero, List.set_cons_succ, Option.map_some, Option.isSome_some, and_false, false_and, exists_const,
  slOk_tup, itOf_tup, itOf_lst, itOf_str, itOf_dct, cutL_1, oLe_int, oLt_int, oGe_int, oGt_int, oAdd_int, oSub_int, oIs_non, oIsNot_non, oLen_tup, oLen_lst, oIx_tup, oIx_lst, atI_0, atI_1, atI_2, atI_3, atI_m1, atI_cast, oIn_str, oEq_int, oNe_int, oEq_bl, ex_some,
  bl_and, bl_or, bl_andT, bl_orT, Nat.sub_self, Nat.add_sub_cancel, Nat.reduceSub, Nat.reduceAdd])
theorem updC3 {C : Cells} {p q s : Addr} {c c' k w : Cell} (h1 : q ≠ p) (h2 : s ≠ p) : updC (updC (updC (updC C p c) q k) s w) p c' = updC (updC (updC C p c') q k) s w := by
  rw [updC_comm (C := updC (updC C p c) q k) (h := h2.symm), updC2 h1]
theorem updC2q {C : Cells} {q s : Addr} {k k' w : Cell} (h : s ≠ q) : updC (updC (updC C q k) s w) q k' = updC (updC C q k') s w := updC2 h
theorem at3 {C : Cells} {p q s : Addr} {c k w : Cell} (h1 : q ≠ p) (h2 : s ≠ p) : updC (updC (updC C p c) q k) s w p = some c := by
  rw [DL.updC_ne h2.symm, at2 h1]
theorem letters3 : ∀ c ∈ (("XYZ" : Str)).cps.toList, D.str ⟨#[c]⟩ ∈ LETTERS := by decide +kernel
theorem blanksL_one {h x : D} (hx : x ∈ LETTERS) : blanksL [h, x] = [x] := by
  unfold blanksL
  simp [(letters_dat x hx).2.1]
theorem sub_m1 {qs : List D} {x y : D} {C : Cells} {r : Addr} {δ : DSt} {R : DSt → Cells → Prop} (h : C r = some (.lst (qs ++ [x]))) (k : R δ (updC C r (.lst (qs ++ [y])))) : ∃ p' ds n j', D.ref r = .ref p' ∧ D.int (-1) = .int n ∧ C p' = some (.lst ds) ∧ ixN ds.length n = some j' ∧ R δ (updC C p' (.lst (ds.set j' y))) := by
  refine ⟨r, _, -1, qs.length, rfl, rfl, h, ?_, ?_⟩
  · rw [List.length_append, List.length_singleton]
    unfold ixN
    simp
    omega
  · have : (qs ++ [x]).set qs.length y = qs ++ [y] := by
      rw [List.set_append_right _ _ (Nat.le_refl _)]
      simp
    rw [this]
    exact k
theorem lss_upd3 {R : D → Cells → Prop} {d : D} {C : Cells} {q s r : Addr} {x y z : Cell} (hq : C q = none) (hs : C s = none) (hr : C r = none) (h : R d C) : lss R d (updC (updC (updC C q x) s y) r z) := by
  refine ⟨C, fun a c e => ?_, h⟩
  have h1 : a ≠ q := by rintro rfl; rw [hq] at e; cases e
  have h2 : a ≠ s := by rintro rfl; rw [hs] at e; cases e
  have h3 : a ≠ r := by rintro rfl; rw [hr] at e; cases e
  rw [DL.updC_ne h3, DL.updC_ne h2, DL.updC_ne h1]
  exact e
def a__law_dense_rule : ASp := a__law_rule
theorem rd__law_dense_rule : ∀ ds C R, a__law_dense_rule ds C R → t__law_dense_rule a__law_taken a__law_worth { nx := fun _ C' => lss R .non C', rt := lss R } (dstart ["_law_row_here", "_law_name", "_law_known", "_law_wants", "_law_k", "_law_letter", "_law_way", "_law_part", "_law_side", "_law_places", "_law_deeds", "_law_thing_here"] ds) C := by
  rintro ds C R ⟨p, c, nm, rfl, hp, hc, hnd, hnw, h⟩
  unfold t__law_dense_rule
  walk_at "dl"
  intro q hq
  have hpq : q ≠ p := by rintro rfl; rw [hp] at hq; cases hq
  refine ⟨p, 2, c, rfl, by omega, by omega, by rw [DL.updC_ne hpq.symm]; exact hp, hc, fun r c1 h0 h1 hr1 => ?_⟩
  rw [updC_comm hpq.symm]
  walk_at "dl"
  refine pickE h0 (by simpa using h1) fun hd1 hhd1 => ?_
  intro s hs
  have hsq : s ≠ q := by rintro rfl; rw [updC_at] at hs; cases hs
  have hsp : s ≠ p := by rintro rfl; rw [at2 hpq] at hs; cases hs
  have hCs : C s = none := by rw [DL.updC_ne hsq, DL.updC_ne hsp] at hs; exact hs
  walk_at "dl"
  refine ⟨p, 5, c1, rfl, by omega, by omega, at3 hpq hsp, hr1, fun k c2 h0 h1 hr2 => ?_⟩
  rw [updC3 hpq hsp]
  walk_at "dl"
  refine ⟨by omega, by omega, ?_⟩
  have hhd1' : hd1 ∈ HEADS := by
    simp only [List.mem_cons, List.not_mem_nil, or_false] at hhd1 ⊢
    rcases hhd1 with rfl | rfl <;> simp
  have hX : D.str "X" ∈ LETTERS := by simp
  have ws0 : WsOk [.tup [.str ISS, .tup [hd1, .str "X"]]] [.str "X"] := by
    have := ws_is (v := hd1) (ps := [.str "X"]) ws_nil ⟨_, _, rfl, hhd1', by simp, fun x hx => letter_part (by rw [List.mem_singleton.mp hx]; exact hX)⟩
    rw [blanksL_one hX] at this
    exact this
  obtain ⟨Pv, hPv⟩ : ∃ Pv : Nat → DSt → Cells → Prop, ∀ i δ C', Pv i δ C' ↔ ∃ ws kn o4 o5 o6 o7 o8 c', δ = [some (.ref p), some (.str nm), some (.ref q), some (.ref s), o4, o5, o6, o7, o8, none, none, none] ∧ C' = updC (updC (updC C p (.lst c')) q (.lst kn)) s (.lst ws) ∧ RowSt c' ∧ WsOk ws kn ∧ ws.length = i + 1 ∧ D.str "X" ∈ kn := ⟨_, fun _ _ _ => Iff.rfl⟩
  refine for_rng Pv ((hPv _ _ _).mpr ⟨_, _, none, none, none, none, none, c2, rfl, rfl, hr2, ws0, rfl, by simp⟩) (fun i δ C' hi hv => ?_) (fun δ C' hv => ?_)
  · obtain ⟨ws, kn, o4, o5, o6, o7, o8, c3, rfl, rfl, hr3, hws, hwl, hXk⟩ := (hPv _ _ _).mp hv
    have hi4 : i < 4 := by omega
    have hkn : kn.length ≤ 25 := by have := hws.ln; omega
    have hkn0 : 0 < kn.length := List.length_pos_of_mem hXk
    have hwne : ws ≠ [] := by rintro rfl; simp at hwl
    walk_at "dl"
    refine ⟨p, 3, c3, rfl, by omega, by omega, at3 hpq hsp, hr3, fun y c4 h0 h1 hr4 => ?_⟩
    rw [updC3 hpq hsp]
    refine pickS h0 (show y < (("XYZ" : Str).length : Nat) from h1) (by decide) fun l hl => ?_
    have hlet := letters3 l hl
    walk_at "dl"
    refine ⟨p, 8, c4, rfl, by omega, by omega, at3 hpq hsp, hr4, fun y c5 h0 h1 hr5 => ?_⟩
    rw [updC3 hpq hsp]
    walk_at "dl"
    by_cases hy3 : y < 3
    · simp only [hy3, decide_true]
      walk_at "dl"
      refine pickE h0 (by simpa using hy3) fun w hw => ?_
      walk_at "dl"
      refine ⟨by rw [sizeLine_eq]; omega, ?_⟩
      have hwn := ws_is (v := w) (ps := [.str ⟨#[l]⟩]) hws ⟨_, _, rfl, hw, by simp, fun x hx => letter_part (by rw [List.mem_singleton.mp hx]; exact hlet)⟩
      rw [blanksL_one hlet] at hwn
      have hat : updC (updC (updC C p (.lst c5)) q (.lst kn)) s (.lst (ws ++ [.tup [.str ISS, .tup [w, .str ⟨#[l]⟩]]])) q = some (.lst kn) := at2 hsq
      refine ⟨by unfold isLst; rw [lstOf_at hat]; rfl, ?_⟩
      refine app_at hat (by rw [sizeLine_eq]; omega) ?_
      rw [updC2q hsq]
      exact (hPv _ _ _).mpr ⟨_, _, _, _, _, _, _, c5, rfl, rfl, hr5, hwn, by simp [hwl], List.mem_append_left _ hXk⟩
    · simp only [hy3, decide_false]
      walk_at "dl"
      by_cases hy6 : y < 6
      · simp only [hy6, decide_true]
        walk_at "dl"
        refine ⟨p, c5, rfl, at3 hpq hsp, hr5, fun v1 c6 hv1 hr6 => ?_⟩
        rw [updC3 hpq hsp]
        walk_at "dl"
        refine ⟨p, 3, c6, rfl, by omega, by omega, at3 hpq hsp, hr6, fun r c7 h0 h1 hr7 => ?_⟩
        rw [updC3 hpq hsp]
        walk_at "dl"
        refine pickE h0 (by simpa using h1) fun pt hpt => ?_
        have hpt2 : pt ∈ PARTS := by
          simp only [List.mem_cons, List.not_mem_nil, or_false] at hpt
          rcases hpt with rfl | rfl | rfl
          · exact letter_part hlet
          · exact letter_part hlet
          · exact worth_part hv1
        walk_at "dl"
        refine pickE (by omega) (by simp; omega) fun w hw => ?_
        walk_at "dl"
        refine ⟨by rw [sizeLine_eq]; omega, ?_⟩
        exact (hPv _ _ _).mpr ⟨_, _, _, _, _, _, _, c7, rfl, rfl, hr7, ws_not hws hwne ⟨_, _, rfl, hw, by simp, fun x hx => by rw [List.mem_singleton.mp hx]; exact hpt2⟩, by simp [hwl], hXk⟩
      · simp only [hy6, decide_false]
        walk_at "dl"
        have hat : updC (updC (updC C p (.lst c5)) q (.lst kn)) s (.lst ws) q = some (.lst kn) := at2 hsq
        rw [oLen_ref hat]
        walk_at "dl"
        refine ⟨p, (kn.length : Nat), c5, rfl, by omega, by omega, at3 hpq hsp, hr5, fun r c6 h0' h1' hr6 => ?_⟩
        rw [updC3 hpq hsp]
        walk_at "dl"
        have hat6 : updC (updC (updC C p (.lst c6)) q (.lst kn)) s (.lst ws) q = some (.lst kn) := at2 hsq
        rw [oIx_ref hat6]
        refine pickE h0' h1' fun sd hsd => ?_
        walk_at "dl"
        refine pickE (by omega) (by simp; omega) fun tz htz => ?_
        obtain ⟨z, rfl, hzz⟩ : ∃ z, tz = .str z ∧ (z = LESSS ∨ z = SAMES ∨ z = UNLS) := by
          simp only [List.mem_cons, List.not_mem_nil, or_false] at htz
          rcases htz with rfl | rfl
          · exact ⟨_, rfl, .inl rfl⟩
          · exact ⟨_, rfl, .inr (.inr rfl)⟩
        refine ⟨p, c6, rfl, at3 hpq hsp, hr6, fun v1 c7 hv1 hr7 => ?_⟩
        rw [updC3 hpq hsp]
        walk_at "dl"
        refine pickE (by omega) (by simp; omega) fun ot hot => ?_
        have hot2 : ot ∈ WORTHS ∨ ot ∈ kn := by
          simp only [List.mem_cons, List.not_mem_nil, or_false] at hot
          rcases hot with rfl | rfl
          · exact .inl hv1
          · exact .inr hXk
        walk_at "dl"
        refine ⟨by rw [sizeLine_eq]; omega, ?_⟩
        exact (hPv _ _ _).mpr ⟨_, _, _, _, _, _, _, c7, rfl, rfl, hr7, ws_test hws hwne hzz (.inr hsd) hot2, by simp [hwl], hXk⟩
  · obtain ⟨ws, kn, o4, o5, o6, o7, o8, c3, rfl, rfl, hr3, hws, hwl, hXk⟩ := (hPv _ _ _).mp hv
    have hw1 : 1 ≤ ws.length := by omega
    have hw5 : ws.length ≤ 5 := by omega
    have hkn : kn.length ≤ 25 := by have := hws.ln; omega
    have hkn0 : 0 < kn.length := List.length_pos_of_mem hXk
    walk_at "dl"
    rw [oLen_ref updC_at]
    walk_at "dl"
    refine ⟨by omega, by omega, ?_⟩
    obtain ⟨Pl, hPl⟩ : ∃ Pl : Nat → List D → Cells → Prop, ∀ i acc C', Pl i acc C' ↔ C' = updC (updC (updC C p (.lst c3)) q (.lst kn)) s (.lst ws) ∧ (∀ x ∈ acc, ∃ n : Nat, x = .int (n : Nat) ∧ n < ws.length ∧ isWantAt ws x = true) ∧ (0 < i → acc ≠ []) ∧ acc.length ≤ i := ⟨_, fun _ _ _ => Iff.rfl⟩
    refine lc_inv (n := ((ws.length : Nat) : Int).toNat) Pl (fun i _ hi => hi) (fun _ => Nat.le_refl _) ((hPl _ _ _).mpr ⟨rfl, by simp, by simp, by simp⟩) (fun i d acc C' hi hy hv => ?_) (fun acc C' hv => ?_)
    · obtain ⟨rfl, ha1, ha2, ha3⟩ := (hPl _ _ _).mp hv
      have hy : d = .int (0 + (i : Int)) := hy
      subst hy
      have hiw : i < ws.length := by omega
      walk_at "dl"
      rw [oIx_ref updC_at]
      simp only [Int.zero_add, atI_cast]
      walk_at "dl"
      refine ⟨ws[i], List.getElem?_eq_getElem hiw, ?_⟩
      have hwd := want_dat (hws.all _ (List.getElem_mem hiw))
      have hwa : isWantAt ws (.int (i : Nat)) = headIs ws[i] := wantAt_head (by rw [atI_cast]; exact List.getElem?_eq_getElem hiw)
      have h00 : i = 0 → isWantAt ws (.int (i : Nat)) = true := fun e => by
        subst e
        have := hws.fst (by rintro rfl; simp at hiw)
        rw [hwa]
        cases ws with
        | nil => simp at hiw
        | cons a r => rw [firstIs_cons] at this; exact this
      have yes : isWantAt ws (.int (i : Nat)) = true → Pl (i + 1) (acc ++ [.int (i : Nat)]) (updC (updC (updC C p (.lst c3)) q (.lst kn)) s (.lst ws)) := fun e => (hPl _ _ _).mpr ⟨rfl, mem_snoc ha1 ⟨i, rfl, hiw, e⟩, by simp, by simp; omega⟩
      have no : isWantAt ws (.int (i : Nat)) = false → Pl (i + 1) acc (updC (updC (updC C p (.lst c3)) q (.lst kn)) s (.lst ws)) := fun e => (hPl _ _ _).mpr ⟨rfl, ha1, fun _ => ha2 (by
        refine Nat.pos_of_ne_zero fun e0 => ?_
        rw [h00 e0] at e
        cases e), by omega⟩
      rcases hws.all _ (List.getElem_mem hiw) with ⟨z, v, e, hz, hpv⟩ | ⟨z, x, y, e, hz, hx, hy2⟩
      all_goals
        rw [e] at hwd hwa ⊢
        have hzd := datD_item hwd (show D.str z ∈ D.str z :: _ from List.mem_cons_self)
        walk_at "dl"
        simp only [oEq_str (datD_sok hzd) okIS]
        walk_at "dl"
        have hwa : isWantAt ws (.int (i : Nat)) = (z == ISS) := hwa
        cases ez : (z == ISS) with
        | true =>
          walk_at "dl"
          exact ⟨by rw [sizeLine_eq]; omega, yes (by rw [hwa, ez])⟩
        | false =>
          walk_at "dl"
          exact no (by rw [hwa, ez])
    · obtain ⟨rfl, ha1, ha2, ha3⟩ := (hPl _ _ _).mp hv
      have hne : acc ≠ [] := ha2 (by omega)
      have hal : 0 < acc.length := List.length_pos_iff.mpr hne
      walk_at "dl"
      intro r hr
      have hrs : r ≠ s := by rintro rfl; rw [updC_at] at hr; cases hr
      have hrq : r ≠ q := by rintro rfl; rw [at2 hsq] at hr; cases hr
      have hrp : r ≠ p := by rintro rfl; rw [at3 hpq hsp] at hr; cases hr
      have hCr : C r = none := by
        rw [DL.updC_ne hrs, DL.updC_ne hrq, DL.updC_ne hrp] at hr
        exact hr
      obtain ⟨B, hB⟩ : ∃ B, B = updC (updC C q (.lst kn)) s (.lst ws) := ⟨_, rfl⟩
      have eB : ∀ c, updC (updC (updC C p (.lst c)) q (.lst kn)) s (.lst ws) = updC B p (.lst c) := fun c => by
        rw [hB, updC_comm hsp.symm, updC_comm (C := C) hpq.symm]
      have hBq : ∀ c x, updC (updC B p (.lst c)) r (.lst x) q = some (.lst kn) := fun c x => by
        rw [DL.updC_ne hrq.symm, DL.updC_ne hpq, hB, at2 hsq]
      have hBs : ∀ c x, updC (updC B p (.lst c)) r (.lst x) s = some (.lst ws) := fun c x => by
        rw [DL.updC_ne hrs.symm, DL.updC_ne hsp, hB, updC_at]
      rw [eB]
      refine ⟨p, 3, c3, rfl, by omega, by omega, at2 hrp, hr3, fun k2 c4 h0 h1 hr4 => ?_⟩
      rw [updC2 hrp]
      walk_at "dl"
      refine ⟨by omega, by omega, ?_⟩
      obtain ⟨Pw, hPw⟩ : ∃ Pw : Nat → DSt → Cells → Prop, ∀ i δ C', Pw i δ C' ↔ ∃ qs o4 o5 o6 o7 o8 o9 c', δ = [some (.ref p), some (.str nm), some (.ref q), some (.ref s), o4, o5, o6, o7, o8, some (.lst acc), some (.ref r), o9] ∧ C' = updC (updC B p (.lst c')) r (.lst qs) ∧ RowSt c' ∧ qs.length = i ∧ (∀ x ∈ qs, isDeedD x ws kn = true ∧ datD 47 x = true) := ⟨_, fun _ _ _ => Iff.rfl⟩
      refine for_rng Pw ((hPw _ _ _).mpr ⟨[], _, _, _, _, _, _, c4, rfl, rfl, hr4, rfl, by simp⟩) (fun i δ C' hi hv => ?_) (fun δ C' hv => ?_)
      · obtain ⟨qs, o4, o5, o6, o7, o8, o9, c5, rfl, rfl, hr5, hql, hqs⟩ := (hPw _ _ _).mp hv
        walk_at "dl"
        rw [oLen_ref (hBq _ _)]
        walk_at "dl"
        refine ⟨p, (kn.length : Nat), c5, rfl, by omega, by omega, at2 hrp, hr5, fun y c6 h0 h1 hr6 => ?_⟩
        rw [updC2 hrp]
        walk_at "dl"
        rw [oIx_ref (hBq _ _)]
        refine pickE h0 h1 fun l hl => ?_
        refine ⟨p, c6, rfl, at2 hrp, hr6, fun v1 c7 hv1 hr7 => ?_⟩
        rw [updC2 hrp]
        walk_at "dl"
        refine ⟨p, 2, c7, rfl, by omega, by omega, at2 hrp, hr7, fun y c8 h0 h1 hr8 => ?_⟩
        rw [updC2 hrp]
        walk_at "dl"
        refine pickE h0 (by simpa using h1) fun pt hpt => ?_
        have hpl : isPlaceD kn pt = true ∧ datD 30 pt = true := by
          simp only [List.mem_cons, List.not_mem_nil, or_false] at hpt
          rcases hpt with rfl | rfl
          · exact ⟨place_letter hl (hws.kl _ hl), (letters_dat _ (hws.kl _ hl)).1⟩
          · exact ⟨place_worth _ hv1, (worths_dat _ hv1).1⟩
        walk_at "dl"
        refine ⟨p, 3, c8, rfl, by omega, by omega, at2 hrp, hr8, fun y c9 h0 h1 hr9 => ?_⟩
        rw [updC2 hrp]
        walk_at "dl"
        refine pickE h0 (by simpa using h1) fun w hw => ?_
        have htpl : isTemplateD (.tup [w, pt]) kn = true := by
          simp only [isTemplateD, (heads_dat w hw).2.1, List.all_cons, List.all_nil, hpl.1]
          rfl
        have htd : datD 46 (.tup [w, pt]) = true := by
          show ([w, pt].all (datD 45) && decide (([w, pt] : List D).length ≤ 1000000)) = true
          simp only [List.all_cons, List.all_nil, Bool.and_true, datD_all (show 30 ≤ 45 by omega) (heads_dat w hw).1, datD_all (show 30 ≤ 45 by omega) hpl.2, Bool.true_and]
          rfl
        walk_at "dl"
        refine ⟨p, 6, c9, rfl, by omega, by omega, at2 hrp, hr9, fun y c10 h0 h1 hr10 => ?_⟩
        rw [updC2 hrp]
        walk_at "dl"
        refine pickE h0 (by simpa using h1) fun td htd2 => ?_
        obtain ⟨z, rfl, hz1, hz3⟩ : ∃ z, td = .str z ∧ (tellerD z = true ∧ (z == TAKES) = false ∨ (z == TAKES) = true) ∧ datD 46 (.str z) = true := by
          simp only [List.mem_cons, List.not_mem_nil, or_false] at htd2
          rcases htd2 with rfl | rfl | rfl | rfl | rfl | rfl <;> exact ⟨_, rfl, by decide +kernel, by decide +kernel⟩
        walk_at "dl"
        refine ⟨by rw [sizeLine_eq]; omega, ?_⟩
        simp only [oNeg_int]
        rw [oIx_ref updC_at]
        simp only [oNeg_int, atI_m1, List.getLast?_append, List.getLast?_singleton, Option.some_or]
        walk_at "dl"
        simp only [oEq_str (datD_sok hz3) (show PyData.strOk TAKES = true by decide +kernel)]
        walk_at "dl"
        rcases hz1 with ⟨hz1, hz2⟩ | hz2
        · rw [hz2]
          walk_at "dl"
          exact (hPw _ _ _).mpr ⟨_, _, _, _, _, _, _, c10, rfl, rfl, hr10, by simp [hql], mem_snoc hqs ⟨deed_tell hz1 hz2 htpl, tell_dat hz3 htd⟩⟩
        · rw [hz2]
          walk_at "dl"
          refine ⟨p, (acc.length : Nat), c10, rfl, by omega, by omega, at2 hrp, hr10, fun y c11 h0 h1 hr11 => ?_⟩
          rw [updC2 hrp]
          walk_at "dl"
          refine pickE h0 h1 fun pl hpl => ?_
          obtain ⟨n, rfl, hn, hwn⟩ := ha1 pl hpl
          simp only [gdSubL]
          walk_at "dl"
          simp only [oNeg_int]
          refine sub_m1 updC_at ?_
          rw [DL.updC_upd]
          exact (hPw _ _ _).mpr ⟨_, _, _, _, _, _, _, c11, rfl, rfl, hr11, by simp [hql], mem_snoc hqs ⟨deed_take hn hwn, take_dat⟩⟩
      · obtain ⟨qs, o4, o5, o6, o7, o8, o9, c5, rfl, rfl, hr5, hql, hqs⟩ := (hPw _ _ _).mp hv
        walk_at "dl"
        refine ⟨p, 3, c5, rfl, by omega, by omega, at2 hrp, hr5, fun y c6 h0 h1 hr6 => ?_⟩
        rw [updC2 hrp]
        walk_at "dl"
        rw [oTuple_def]
        simp only [tupOf, lstOf_at (hBs _ _), Option.some.injEq, exists_eq_left']
        rw [oTuple_def]
        simp only [tupOf, lstOf_upd, Option.some.injEq, exists_eq_left']
        walk_at "dl"
        have e4 : updC (updC B p (.lst c6)) r (.lst qs) = updC (updC (updC (updC C p (.lst c6)) q (.lst kn)) s (.lst ws)) r (.lst qs) := by rw [eB]
        rw [e4]
        refine lss_upd3 (by rw [DL.updC_ne hpq]; exact hq) (by rw [DL.updC_ne hsp]; exact hCs) (by rw [DL.updC_ne hrp]; exact hCr) (h _ c6 ⟨⟨y - 1, ws, qs, kn, rfl, by omega, by omega, hws, by omega, by omega, by omega, by omega, fun x hx => (hqs x hx).1⟩, ?_⟩ hr6)
        show ([.str nm, .int (y - 1), .tup ws, .tup qs].all (datD 48) && decide (([.str nm, .int (y - 1), .tup ws, .tup qs] : List D).length ≤ 1000000)) = true
        have d1 : datD 48 (.tup ws) = true := by
          show (ws.all (datD 47) && decide (ws.length ≤ 1000000)) = true
          rw [Bool.and_eq_true, decide_eq_true_eq]
          exact ⟨List.all_eq_true.mpr fun x hx => datD_all (by omega) (want_dat (hws.all x hx)), by omega⟩
        have d2 : datD 48 (.tup qs) = true := by
          show (qs.all (datD 47) && decide (qs.length ≤ 1000000)) = true
          rw [Bool.and_eq_true, decide_eq_true_eq]
          exact ⟨List.all_eq_true.mpr fun x hx => (hqs x hx).2, by omega⟩
        simp only [List.all_cons, List.all_nil, Bool.and_true, d1, d2, datD_all (show 40 ≤ 48 by omega) hnd, Bool.true_and]
        rfl
end RR
namespace RR
open PySem PySem.Spec L2 DL
open PyProof.Rows hiding St kindOf
local macro_rules | `(tactic| walk_at "dl") => `(tactic| simp (config := { failIfUnchanged := false }) only [↓ex_two, ↓ex_three, dFor_eq, updC_at, updC_upd, lstOf_upd, dctOf_upd, dctOf_dct, lstOf_lst, isLst_upd, app_upd, dSeq, dNext, dRet, dRetN, dDrop, dIfS, dNever, dAsg, dPar, dPut, gdName, sz_0, sl_0, sz_1, sl_1, sz_2, sl_2, sz_3, sl_3, sz_4, sl_4, sz_5, sl_5, sz_6, sl_6, sz_7, sl_7, sz_8, sl_8, sz_9, sl_9, sz_10, sl_10, sz_11, sl_11, sz_12, sl_12, sz_13, sl_13, sz_14, sl_14, exists_eq, gdCons_cons, gdNil_nil, gdTup_tup, gdUnl_lst, Nat.succ_eq_add_one, Nat.zero_add, dAnd, dOr, dNot, dTest, dAndV, dOrV, dNotV, dIf, dChain, dOp, dUn, dFn, dCall, dNil, dCons, dVar, dC, dTup, dLst, dLstC, dDct0, dDct0C, dPart, dNoPart, dSlice, dLc, dLcC, diSeq, diZip, diEnum, diRng1, diRng2, dYes, dMtL, dSetd, dFrz,
  dstart, List.map, List.replicate, List.length, List.append, List.cons_append, List.nil_append, List.append_nil, List.getElem?_cons_zero, List.getElem?_cons_succ, Option.some.injEq, exists_eq_left', exists_eq_left, wipeD,
  List.cons.injEq, and_true, true_and, D.bl.injEq, D.int.injEq, D.str.injEq, D.tup.injEq, D.lst.injEq, D.dct.injEq, if_true, if_false, Bool.false_eq_true, Bool.not_true, Bool.not_false, Bool.not_not, ite_true, ite_false, reduceIte, List.set_cons_zero, List.set_cons_succ, Option.map_some, Option.isSome_some, and_false, false_and, exists_const,
  slOk_tup, itOf_tup, itOf_lst, itOf_str, itOf_dct, cutL_1, oLe_int, oLt_int, oGe_int, oGt_int, oAdd_int, oSub_int, oIs_non, oIsNot_non, oLen_tup, oLen_lst, oIx_tup, oIx_lst, atI_0, atI_1, atI_2, atI_3, atI_m1, atI_cast, oIn_str, oEq_int, oNe_int, oEq_bl, ex_some,
  bl_and, bl_or, bl_andT, bl_orT, Nat.sub_self, Nat.add_sub_cancel, Nat.reduceSub, Nat.reduceAdd])
/-! ### all rules of one draw -/
abbrev NAMES : List Str := ["r", "run", "go", "z"]
def RulesGood (rs : List D) : Prop := rs ≠ [] ∧ rs.length ≤ 4 ∧ ∀ (i : Nat) (r : D), rs[i]? = some r → ∃ nm, NAMES[i]? = some nm ∧ RuleGood nm r
theorem names_ok : ∀ nm ∈ NAMES, datD 40 (.str nm) = true ∧ isWordD (.str nm) = true := by decide +kernel
theorem names_new : ∀ i < 4, ∀ nm, NAMES[i]? = some nm → memD (.str nm) ((NAMES.take i).map D.str) = false := by decide +kernel
theorem rule_bad {nm : Str} {r : D} {ns : List D} (hw : isWordD (.str nm) = true) (hn : memD (.str nm) ns = false) (h : RuleGood nm r) : badPartD r ns = .non ∧ ∃ l, r = .tup (.str nm :: l) := by
  obtain ⟨m, ws, qs, kn, rfl, h1, h2, hws, h3, h4, h5, h6, h7⟩ := h.sh
  refine ⟨?_, _, rfl⟩
  have hm : isNumD (.int m) (-9) 9 = true := by simp only [isNumD, h1, h2, decide_true, Bool.and_self]
  have hf : firstIs ws = true := hws.fst (by rintro rfl; simp at h3)
  have hq : (qs.all fun q => isDeedD q ws kn) = true := List.all_eq_true.mpr h7
  simp only [badPartD, hw, hn, hm, hws.bs, hf, hq]
  rw [if_neg (by simp), if_neg (by simp), if_neg (by rintro (h | h | h) <;> first | omega | cases h), if_neg (by omega)]
  rfl
theorem rules_good_ok : ∀ {rs : List D} {i : Nat}, i + rs.length ≤ 4 → (∀ (j : Nat) (r : D), rs[j]? = some r → ∃ nm, NAMES[i + j]? = some nm ∧ RuleGood nm r) → rulesOk ((NAMES.take i).map D.str) rs = true
  | [], _, _, _ => rfl
  | r :: rs, i, hl, h => by
    rw [List.length_cons] at hl
    obtain ⟨nm, hn, hr⟩ := h 0 r rfl
    have hn : NAMES[i]? = some nm := hn
    obtain ⟨e, l, rfl⟩ := rule_bad (names_ok nm (List.mem_of_getElem? hn)).2 (names_new i (by omega) nm hn) hr
    have ih := rules_good_ok (rs := rs) (i := i + 1) (by omega) fun j r hj => by
      have := h (j + 1) r hj
      rw [show i + (j + 1) = i + 1 + j by omega] at this
      exact this
    rw [take_snoc hn, List.map_append] at ih
    simp only [rulesOk, e, Bool.and_eq_true]
    exact ⟨rfl, ih⟩
theorem rules_good {rs : List D} (h : RulesGood rs) : rulesOk [] rs = true ∧ datD 50 (.tup rs) = true := by
  refine ⟨rules_good_ok (i := 0) (by have := h.2.1; omega) fun j r hj => by rw [Nat.zero_add]; exact h.2.2 j r hj, ?_⟩
  show (rs.all (datD 49) && decide (rs.length ≤ 1000000)) = true
  rw [Bool.and_eq_true, decide_eq_true_eq]
  refine ⟨List.all_eq_true.mpr fun x hx => ?_, by have := h.2.1; omega⟩
  obtain ⟨i, hi⟩ := List.getElem?_of_mem hx
  obtain ⟨nm, _, hr⟩ := h.2.2 i x hi
  exact hr.dat
def a__law_rules : ASp := fun ds C R => ∃ p c w, ds = [.ref p, .int w] ∧ 1 ≤ w ∧ w ≤ 4 ∧ C p = some (.lst c) ∧ RowSt c ∧ ∀ rs c', RulesGood rs → RowSt c' → R (.tup rs) (updC C p (.lst c'))
theorem rd__law_rules : ∀ ds C R, a__law_rules ds C R → t__law_rules a__law_taken a__law_dense_rule a__law_rule { nx := fun _ C' => lss R .non C', rt := lss R } (dstart ["_law_row_here", "_law_wished", "_law_names", "_law_dense", "_law_found_here", "_law_k"] ds) C := by
  rintro ds C R ⟨p, c, w, rfl, hw1, hw4, hp, hc, h⟩
  unfold t__law_rules
  walk_at "dl"
  refine ⟨p, 2, c, rfl, by omega, by omega, hp, hc, fun r c1 h0 h1 hr1 => ?_⟩
  walk_at "dl"
  intro q hq
  have hpq : q ≠ p := by rintro rfl; rw [updC_at] at hq; cases hq
  have hCq : C q = none := by rw [DL.updC_ne hpq] at hq; exact hq
  walk_at "dl"
  refine ⟨p, w, c1, rfl, by omega, by omega, at2 hpq, hr1, fun k c2 h0 h1 hr2 => ?_⟩
  rw [updC2 hpq]
  walk_at "dl"
  refine ⟨by omega, by omega, ?_⟩
  obtain ⟨Pv, hPv⟩ : ∃ Pv : Nat → DSt → Cells → Prop, ∀ i δ C', Pv i δ C' ↔ ∃ rs b o c', δ = [some (.ref p), some (.int w), some (.lst (NAMES.map .str)), some (.bl b), some (.ref q), o] ∧ C' = updC (updC C p (.lst c')) q (.lst rs) ∧ RowSt c' ∧ rs.length = i ∧ ∀ (i : Nat) (r : D), rs[i]? = some r → ∃ nm, NAMES[i]? = some nm ∧ RuleGood nm r := ⟨_, fun _ _ _ => Iff.rfl⟩
  refine for_rng Pv ((hPv _ _ _).mpr ⟨[], _, none, c2, rfl, rfl, hr2, rfl, by simp⟩) (fun i δ C' hi hv => ?_) (fun δ C' hv => ?_)
  · obtain ⟨rs, b, o, c3, rfl, rfl, hr3, hrl, hrs⟩ := (hPv _ _ _).mp hv
    have hi4 : i < 4 := by omega
    have hn : ∃ nm, NAMES[i]? = some nm := ⟨_, List.getElem?_eq_getElem (show i < NAMES.length from hi4)⟩
    obtain ⟨nm, hnm⟩ := hn
    obtain ⟨n1, n2⟩ := names_ok nm (List.mem_of_getElem? hnm)
    have fin : ∀ v c', RuleGood nm v → RowSt c' → rs.length < sizeLine ∧ Pv (i + 1) [some (.ref p), some (.int w), some (.lst (NAMES.map .str)), some (.bl b), some (.ref q), some (.int (0 + (i : Nat)))] (updC (updC C p (.lst c')) q (.lst (rs ++ [v]))) := fun v c' hv5 hc' => by
      refine ⟨by rw [sizeLine_eq]; omega, (hPv _ _ _).mpr ⟨_, _, _, c', rfl, rfl, hc', by simp [hrl], fun j r hj => ?_⟩⟩
      by_cases e : j < rs.length
      · rw [List.getElem?_append_left e] at hj
        exact hrs j r hj
      · rw [List.getElem?_append_right (by omega)] at hj
        have e2 : j = i := by
          have := (List.getElem?_eq_some_iff.mp hj).1
          simp at this
          omega
        subst e2
        rw [hrl, Nat.sub_self] at hj
        cases hj
        exact ⟨nm, hnm, hv5⟩
    have hix : atI (NAMES.map D.str) (0 + (i : Int)) = some (.str nm) := by
      rw [Int.zero_add, atI_cast, List.getElem?_map, hnm]
      rfl
    walk_at "dl"
    cases b with
    | true =>
      walk_at "dl"
      refine ⟨_, hix, p, c3, nm, rfl, at2 hpq, hr3, n1, n2, fun v c4 hv4 hr4 => ?_⟩
      rw [updC2 hpq]
      walk_at "dl"
      exact fin v c4 hv4 hr4
    | false =>
      walk_at "dl"
      refine ⟨_, hix, p, c3, nm, rfl, at2 hpq, hr3, n1, n2, fun v c4 hv4 hr4 => ?_⟩
      rw [updC2 hpq]
      walk_at "dl"
      exact fin v c4 hv4 hr4
  · obtain ⟨rs, b, o, c3, rfl, rfl, hr3, hrl, hrs⟩ := (hPv _ _ _).mp hv
    walk_at "dl"
    rw [oTuple_def]
    simp only [tupOf, lstOf_upd, Option.some.injEq, exists_eq_left']
    exact lss_upd (by rw [DL.updC_ne hpq]; exact hCq) (h rs c3 ⟨by rintro rfl; simp at hrl; omega, by omega, hrs⟩ hr3)
/-! ### the law's own fitting -/
structure KnL (k : Kn) : Prop where
  nd : (k.map (·.1)).Nodup
  vals : ∀ kv ∈ k, kv.2 ∈ WORTHS
  keys : ∀ kv ∈ k, ∃ z, kv.1 = .inr z ∧ isBlankD (.str z) = true
  ln : k.length ≤ 100
theorem same_worth : ∀ p ∈ PARTS, ∀ t ∈ WORTHS, sameD p t = D.eqv p t ∧ (D.eqv p t = true → p = t) := by decide +kernel
theorem same_self : ∀ t ∈ WORTHS, sameD t t = true := by decide +kernel
theorem getK_nd {k : Kn} (h : (k.map (·.1)).Nodup) {kv : Key × D} (hm : kv ∈ k) : getK k kv.1 = some kv.2 := by
  induction k with
  | nil => cases hm
  | cons a k ih =>
    rw [List.map_cons, List.nodup_cons] at h
    rcases List.mem_cons.mp hm with rfl | hm
    · simp [getK]
    · have : a.1 ≠ kv.1 := fun e => h.1 (e ▸ List.mem_map.mpr ⟨kv, hm, rfl⟩)
      have := ih h.2 hm
      simp only [getK, List.find?_cons] at this ⊢
      rw [show decide (a.1 = kv.1) = false from decide_eq_false ‹_›]
      exact this
theorem putD_same {k : Kn} (h : (k.map (·.1)).Nodup) {kk : Key} {v : D} (hg : getK k kk = some v) : putD k kk v = k := by
  have ha : (k.any fun kv => decide (kv.1 = kk)) = true := by rw [getK_any, hg]; rfl
  unfold putD
  rw [if_pos ha, List.map_congr_left (g := id)]
  · simp
  · intro kv hm
    split
    · rename_i e
      have := getK_nd h hm
      rw [e, hg] at this
      cases this
      rfl
    · rfl
theorem knl_put {k : Kn} (h : KnL k) {z : Str} {t : D} (hz : isBlankD (.str z) = true) (ht : t ∈ WORTHS) (hn : getK k (.inr z) = none) (hl : k.length < 100) : KnL (putD k (.inr z) t) := by
  have ha : ¬ (k.any fun kv => decide (kv.1 = .inr z)) = true := by rw [getK_any, hn]; simp
  have hp : putD k (.inr z) t = k ++ [(.inr z, t)] := by unfold putD; rw [if_neg ha]
  rw [hp]
  refine ⟨?_, fun kv hm => ?_, fun kv hm => ?_, by simp; omega⟩
  · rw [List.map_append, List.nodup_append]
    refine ⟨h.nd, by simp, fun a ha1 b hb => ?_⟩
    simp only [List.map_cons, List.map_nil, List.mem_singleton] at hb
    subst hb
    obtain ⟨kv, hkv, e⟩ := List.mem_map.mp ha1
    rintro rfl
    exact ha (List.any_eq_true.mpr ⟨kv, hkv, by simp [e]⟩)
  · rcases List.mem_append.mp hm with hm | hm
    · exact h.vals kv hm
    · rw [List.mem_singleton.mp hm]; exact ht
  · rcases List.mem_append.mp hm with hm | hm
    · exact h.keys kv hm
    · rw [List.mem_singleton.mp hm]; exact ⟨z, rfl, hz⟩
end RR
namespace RR
open PySem PySem.Spec L2 DL
open PyProof.Rows hiding St kindOf
local macro_rules | `(tactic| walk_at "dl") => `(tactic| simp (config := { failIfUnchanged := false }) only [↓ex_two, ↓ex_three, dFor_eq, updC_at, updC_upd, lstOf_upd, dctOf_upd, dctOf_dct, lstOf_lst, isLst_upd, app_upd, dSeq, dNext, dRet, dRetN, dDrop, dIfS, dNever, dAsg, dPar, dPut, gdName, sz_0, sl_0, sz_1, sl_1, sz_2, sl_2, sz_3, sl_3, sz_4, sl_4, sz_5, sl_5, sz_6, sl_6, sz_7, sl_7, sz_8, sl_8, sz_9, sl_9, sz_10, sl_10, sz_11, sl_11, sz_12, sl_12, sz_13, sl_13, sz_14, sl_14, exists_eq, gdCons_cons, gdNil_nil, gdTup_tup, gdUnl_lst, Nat.succ_eq_add_one, Nat.zero_add, dAnd, dOr, dNot, dTest, dAndV, dOrV, dNotV, dIf, dChain, dOp, dUn, dFn, dCall, dNil, dCons, dVar, dC, dTup, dLst, dLstC, dDct0, dDct0C, dPart, dNoPart, dSlice, dLc, dLcC, diSeq, diZip, diEnum, diRng1, diRng2, dYes, dMtL, dSetd, dFrz,
  dstart, List.map, List.replicate, List.length, List.append, List.cons_append, List.nil_append, List.append_nil, List.getElem?_cons_zero, List.getElem?_cons_succ, Option.some.injEq, exists_eq_left', exists_eq_left, wipeD,
  List.cons.injEq, and_true, true_and, D.bl.injEq, D.int.injEq, D.str.injEq, D.tup.injEq, D.lst.injEq, D.dct.injEq, if_true, if_false, Bool.false_eq_true, Bool.not_true, Bool.not_false, Bool.not_not, ite_true, ite_false, reduceIte, List.set_cons_zero, List.set_cons_succ, Option.map_some, Option.isSome_some, and_false, false_and, exists_const,
  slOk_tup, itOf_tup, itOf_lst, itOf_str, itOf_dct, cutL_1, oLe_int, oLt_int, oGe_int, oGt_int, oAdd_int, oSub_int, oIs_non, oIsNot_non, oLen_tup, oLen_lst, oIx_tup, oIx_lst, atI_0, atI_1, atI_2, atI_3, atI_m1, atI_cast, oIn_str, oEq_int, oNe_int, oEq_bl, ex_some,
  bl_and, bl_or, bl_andT, bl_orT, Nat.sub_self, Nat.add_sub_cancel, Nat.reduceSub, Nat.reduceAdd])
theorem ex_twoP {α β : Type} {a : α} {b : β} {P : α → β → Prop} : (∃ i j, (a = i ∧ b = j) ∧ P i j) = P a b := propext ⟨by
  rintro ⟨i, j, ⟨rfl, rfl⟩, h⟩
  exact h, fun h => ⟨a, b, ⟨rfl, rfl⟩, h⟩⟩
def a__law_fit : ASp := fun ds C R => ∃ a ps b ts k, ds = [.tup (a :: ps), .tup (b :: ts), .dct k] ∧ PatOk (.tup (a :: ps)) ∧ ThingOk (.tup (b :: ts)) ∧ KnL k ∧ k.length ≤ 60 ∧ R (optD (fittedD (.tup (a :: ps)) (.tup (b :: ts)) k)) C
theorem atI_succ {a : D} {ps : List D} {i : Nat} : atI (a :: ps) (1 + (i : Int)) = ps[i]? := by
  rw [show (1 + (i : Int)) = ((i + 1 : Nat) : Int) by omega, atI_cast, List.getElem?_cons_succ]
theorem mem_blanks {a p : D} {ps : List D} (hp : p ∈ ps) (hps : ∀ x ∈ ps, x ∈ PARTS) : ((blanksL (a :: ps)).any fun z => D.eqv z p) = isBlankD p := by
  cases e : isBlankD p with
  | true => exact mem_memD (List.mem_filter.mpr ⟨hp, e⟩) (parts_blank p (hps p hp) e)
  | false =>
    refine List.any_eq_false.mpr fun z hz => ?_
    obtain ⟨hz1, hz2⟩ := List.mem_filter.mp hz
    have hz1 : z ∈ ps := hz1
    have h1 : ∀ z ∈ PARTS, ∀ p ∈ PARTS, isBlankD z = true → isBlankD p = false → ¬ D.eqv z p = true := by decide +kernel
    exact h1 z (hps z hz1) p (hps p hp) hz2 e
theorem fit1_knl {k k' : Kn} {p t : D} (hp : p ∈ PARTS) (ht : t ∈ WORTHS) (hk : KnL k) (hl : k.length < 100) (h : fit1 k p t = some k') : KnL k' := by
  unfold fit1 at h
  split at h
  · rename_i hb
    obtain ⟨z, rfl⟩ : ∃ z, p = .str z := letter_str (parts_blank p hp hb)
    simp only [DL.keyOf] at h
    cases e : getK k (.inr z) with
    | some v =>
      simp only [e] at h
      split at h
      · cases h; exact hk
      · cases h
    | none =>
      simp only [e] at h
      split at h
      · cases h; exact knl_put hk hb ht e hl
      · cases h
  · split at h
    · cases h; exact hk
    · cases h
theorem rd__law_fit : ∀ ds C R, a__law_fit ds C R → t__law_fit a__law_letters { nx := fun _ C' => lss R .non C', rt := lss R } (dstart ["_law_pattern_here", "_law_thing_here", "_law_known", "_law_found_here", "_law_k", "_law_part", "_law_worth_here"] ds) C := by
  rintro ds C R ⟨a, ps, b, ts, k, rfl, hpat, hth, hk, hk60, h⟩
  have hpd := pat_dat hpat
  have htd := (thing_ok hth).1
  obtain ⟨_, _, e, ha, hpl, hps⟩ := hpat
  cases e
  obtain ⟨_, _, e, hb, htl, hts⟩ := hth
  cases e
  unfold t__law_fit
  walk_at "dl"
  have e1 : decide (((ps.length + 1 : Nat) : Int) = ((ts.length + 1 : Nat) : Int)) = decide (ps.length = ts.length) := by rw [decide_eq_decide]; omega
  rw [e1]
  have hval : fittedD (.tup (a :: ps)) (.tup (b :: ts)) k = if (D.eqv a b && decide (ps.length = ts.length)) = true then fitL k (ps.zip ts) else none := rfl
  rw [hval] at h
  cases el : decide (ps.length = ts.length) with
  | false =>
    rw [el, Bool.and_false] at h
    walk_at "dl"
    exact lss_of h
  | true =>
    rw [el, Bool.and_true] at h
    have hlen : ps.length = ts.length := of_decide_eq_true el
    walk_at "dl"
    rw [oNe_ok (show okD 60 a = true from datD_ok (datD_all (by omega) (heads_dat a ha).1)) (show okD 60 b = true from datD_ok (datD_all (by omega) (heads_dat b hb).1))]
    walk_at "dl"
    cases eab : D.eqv a b with
    | false =>
      rw [eab, if_neg (by simp)] at h
      walk_at "dl"
      exact lss_of h
    | true =>
      rw [eab, if_pos rfl] at h
      walk_at "dl"
      rw [oDictC_def]
      refine ⟨k, rfl, fun q hq => ?_⟩
      walk_at "dl"
      simp only [ex_twoP]
      refine ⟨⟨by omega, by omega, by omega, by omega⟩, ?_⟩
      have hn : (((ps.length + 1 : Nat) : Int) - 1).toNat = ps.length := by omega
      rw [hn]
      obtain ⟨Pv, hPv⟩ : ∃ Pv : Nat → DSt → Cells → Prop, ∀ i δ C', Pv i δ C' ↔ ∃ o1 o2 o3 k', δ = [some (.tup (a :: ps)), some (.tup (b :: ts)), some (.dct k), some (.ref q), o1, o2, o3] ∧ C' = updC C q (.dct k') ∧ fitL k ((ps.zip ts).take i) = some k' ∧ KnL k' ∧ k'.length ≤ 60 + i := ⟨_, fun _ _ _ => Iff.rfl⟩
      refine for_rng Pv ((hPv _ _ _).mpr ⟨none, none, none, k, rfl, rfl, rfl, hk, by omega⟩) (fun i δ C' hi hv => ?_) (fun δ C' hv => ?_)
      · obtain ⟨o1, o2, o3, k', rfl, rfl, hf, hkl, hk60'⟩ := (hPv _ _ _).mp hv
        have hi2 : i < ts.length := by omega
        have hip : ps[i]? = some ps[i] := List.getElem?_eq_getElem hi
        have hit : ts[i]? = some ts[i] := List.getElem?_eq_getElem hi2
        have hpm : ps[i] ∈ ps := List.getElem_mem hi
        have htm : ts[i] ∈ ts := List.getElem_mem hi2
        generalize ps[i] = p at hip hpm
        generalize ts[i] = t at hit htm
        have hpP := hps p hpm
        have htW := hts t htm
        obtain ⟨sm, sq⟩ := same_worth p hpP t htW
        have hz := zip_at hip hit
        have fin : ∀ C2, fit1 k' p t = none → lss R .non (updC C q C2) := fun C2 e => by
          have : fitL k (ps.zip ts) = none := by
            rw [split_at hz, fitL_app, hf]
            simp [fitL, e]
          rw [this] at h
          exact lss_upd hq h
        have go : ∀ k2, fit1 k' p t = some k2 → Pv (i + 1) [some (.tup (a :: ps)), some (.tup (b :: ts)), some (.dct k), some (.ref q), some (.int (1 + (i : Nat))), some p, some t] (updC C q (.dct k2)) := fun k2 e => by
          refine (hPv _ _ _).mpr ⟨_, _, _, k2, rfl, rfl, ?_, fit1_knl hpP htW hkl (by omega) e, ?_⟩
          · rw [take_snoc hz, fitL_app, hf]
            simp [fitL, e]
          · have := (fit1_len e).1
            omega
        unfold fit1 at fin go
        walk_at "dl"
        rw [atI_succ, hip]
        refine ⟨p, rfl, t, by rw [atI_succ]; exact hit, a, ps, rfl, hps, by omega, ?_⟩
        have hpok : okD 60 p = true := datD_ok (datD_all (by omega) (parts_dat p hpP))
        have htok : okD 60 t = true := datD_ok (datD_all (by omega) (worths_dat t htW).1)
        walk_at "dl"
        rw [oIn_lst hpok (List.all_eq_true.mpr fun x hx => datD_ok (datD_all (show 30 ≤ 60 by omega) (parts_dat x (hps x (blanksL_mem hx |>.1 |> fun hx' => by
          rcases List.mem_filter.mp hx with ⟨h1, _⟩
          exact h1))))), mem_blanks hpm hps]
        cases eb : isBlankD p with
        | true =>
          obtain ⟨z, rfl⟩ := letter_str (parts_blank p hpP eb)
          simp only [eb, if_true, DL.keyOf] at fin go
          walk_at "dl"
          rw [oIn_refD updC_at rfl]
          walk_at "dl"
          cases eg : getK k' (.inr z) with
          | none =>
            simp only [eg, same_self t htW, if_true] at fin go
            walk_at "dl"
            simp only [Option.isSome_none]
            walk_at "dl"
            refine ⟨q, k', .inr z, rfl, updC_at, rfl, by rw [sizeLine_eq]; omega, ?_⟩
            rw [DL.updC_upd]
            exact go _ rfl
          | some v =>
            obtain ⟨kv, hkv, rfl⟩ := getK_mem eg
            have hvW := hkl.vals kv hkv
            obtain ⟨sm2, sq2⟩ := same_worth kv.2 (worth_part hvW) t htW
            simp only [eg, sm2] at fin go
            walk_at "dl"
            rw [oIx_refD updC_at rfl]
            refine ⟨kv.2, eg, ?_⟩
            rw [oNe_ok (datD_ok (datD_all (show 30 ≤ 60 by omega) (worths_dat kv.2 hvW).1)) htok]
            walk_at "dl"
            cases es : D.eqv kv.2 t with
            | true =>
              simp only [es, if_true] at fin go
              walk_at "dl"
              refine ⟨q, k', .inr z, rfl, updC_at, rfl, by rw [sizeLine_eq]; omega, ?_⟩
              rw [DL.updC_upd, putD_same hkl.nd (by rw [eg, sq2 es])]
              exact go _ rfl
            | false =>
              simp only [es, Bool.false_eq_true, if_false] at fin go
              walk_at "dl"
              exact fin _ (by first | trivial | rfl)
        | false =>
          simp only [eb, Bool.false_eq_true, if_false, sm] at fin go
          walk_at "dl"
          rw [oNe_ok hpok (show okD 60 (D.str ANYS) = true by decide +kernel)]
          walk_at "dl"
          have ea : D.eqv p (.str ANYS) = eqStrD p ANYS := by cases p <;> rfl
          rw [ea]
          cases e1 : eqStrD p ANYS with
          | true =>
            simp only [e1, true_or, if_true] at fin go
            walk_at "dl"
            exact go _ rfl
          | false =>
            simp only [e1, Bool.false_eq_true, false_or] at fin go
            walk_at "dl"
            rw [oNe_ok hpok htok]
            walk_at "dl"
            cases es : D.eqv p t with
            | true =>
              simp only [es, if_true] at fin go
              walk_at "dl"
              exact go _ rfl
            | false =>
              simp only [es, Bool.false_eq_true, if_false] at fin go
              walk_at "dl"
              exact fin _ (by first | trivial | rfl)
      · obtain ⟨o1, o2, o3, k', rfl, rfl, hf, hkl, _⟩ := (hPv _ _ _).mp hv
        rw [List.take_of_length_le (by rw [List.length_zip]; omega)] at hf
        rw [hf] at h
        walk_at "dl"
        exact ⟨_, _, frz_updD hq, lss_of h⟩
end RR
namespace RR
open PySem PySem.Spec L2 DL
open PyProof.Rows hiding St kindOf
local macro_rules | `(tactic| walk_at "dl") => `(tactic| simp (config := { failIfUnchanged := false }) only [↓ex_two, ↓ex_three, dFor_eq, updC_at, updC_upd, lstOf_upd, dctOf_upd, dctOf_dct, lstOf_lst, isLst_upd, app_upd, dSeq, dNext, dRet, dRetN, dDrop, dIfS, dNever, dAsg, dPar, dPut, gdName, sz_0, sl_0, sz_1, sl_1, sz_2, sl_2, sz_3, sl_3, sz_4, sl_4, sz_5, sl_5, sz_6, sl_6, sz_7, sl_7, sz_8, sl_8, sz_9, sl_9, sz_10, sl_10, sz_11, sl_11, sz_12, sl_12, sz_13, sl_13, sz_14, sl_14, exists_eq, gdCons_cons, gdNil_nil, gdTup_tup, gdUnl_lst, Nat.succ_eq_add_one, Nat.zero_add, dAnd, dOr, dNot, dTest, dAndV, dOrV, dNotV, dIf, dChain, dOp, dUn, dFn, dCall, dNil, dCons, dVar, dC, dTup, dLst, dLstC, dDct0, dDct0C, dPart, dNoPart, dSlice, dLc, dLcC, diSeq, diZip, diEnum, diRng1, diRng2, dYes, dMtL, dSetd, dFrz,
  dstart, List.map, List.replicate, List.length, List.append, List.cons_append, List.nil_append, List.append_nil, List.getElem?_cons_zero, List.getElem?_cons_succ, Option.some.injEq, exists_eq_left', exists_eq_left, wipeD,
  List.cons.injEq, and_true, true_and, D.bl.injEq, D.int.injEq, D.str.injEq, D.tup.injEq, D.lst.injEq, D.dct.injEq, if_true, if_false, Bool.false_eq_true, Bool.not_true, Bool.not_false, Bool.not_not, ite_true, ite_false, reduceIte, List.set_cons_zero, List.set_cons_succ, Option.map_some, Option.isSome_some, and_false, false_and, exists_const,
  slOk_tup, itOf_tup, itOf_lst, itOf_str, itOf_dct, cutL_1, oLe_int, oLt_int, oGe_int, oGt_int, oAdd_int, oSub_int, oIs_non, oIsNot_non, oLen_tup, oLen_lst, oIx_tup, oIx_lst, atI_0, atI_1, atI_2, atI_3, atI_m1, atI_cast, oIn_str, oEq_int, oNe_int, oEq_bl, ex_some,
  bl_and, bl_or, bl_andT, bl_orT, Nat.sub_self, Nat.add_sub_cancel, Nat.reduceSub, Nat.reduceAdd])
/-! ### the law's own tests -/
theorem sides_split : ∀ d ∈ SIDES, d ∈ WORTHS ∨ d ∈ LETTERS := by decide +kernel
theorem sides_same : ∀ a ∈ WORTHS, ∀ b ∈ WORTHS, sameD a b = D.eqv a b := by decide +kernel
theorem worth_noblank : ∀ a ∈ WORTHS, isBlankD a = false := by decide +kernel
/-- a side's worth, as the law tells it -/
theorem side_look {k : Kn} {x a : D} (hk : KnL k) (hx : x ∈ SIDES) (hs : sideD k x = some a) : a ∈ WORTHS ∧ (x ∈ WORTHS ∧ a = x ∧ (∀ z, x = .str z → getK k (.inr z) = none) ∨ ∃ z, x = .str z ∧ getK k (.inr z) = some a) := by
  rcases sides_split x hx with h | h
  · have hb := worth_noblank x h
    unfold sideD at hs
    rw [hb] at hs
    cases hs
    refine ⟨h, .inl ⟨h, rfl, fun z hz => ?_⟩⟩
    cases e : getK k (.inr z) with
    | none => rfl
    | some v =>
      exfalso
      obtain ⟨kv, h1, _⟩ := Option.map_eq_some_iff.mp e
      obtain ⟨y, hy1, hy2⟩ := hk.keys kv (List.mem_of_find?_eq_some h1)
      have h2 : kv.1 = .inr z := by simpa using List.find?_some h1
      rw [h2] at hy1
      cases hy1
      rw [← hz, hb] at hy2
      cases hy2
  · have hb := (letters_dat x h).2.1
    obtain ⟨z, rfl⟩ := letter_str h
    unfold sideD at hs
    rw [hb, if_pos rfl] at hs
    have hs : getK k (.inr z) = some a := hs
    obtain ⟨kv, h1, e⟩ := getK_mem hs
    exact ⟨e ▸ hk.vals kv h1, .inr ⟨z, rfl, hs⟩⟩
def a__law_holds : ASp := fun ds C R => ∃ z x y k a b, ds = [.tup [.str z, x, y], .dct k] ∧ (z = LESSS ∨ z = SAMES ∨ z = UNLS) ∧ x ∈ SIDES ∧ y ∈ SIDES ∧ KnL k ∧ sideD k x = some a ∧ sideD k y = some b ∧ R (.bl (holdsD z a b)) C
theorem rd__law_holds : ∀ ds C R, a__law_holds ds C R → t__law_holds { nx := fun _ C' => R .non C', rt := R } (dstart ["_law_test", "_law_known", "_law_one", "_law_other", "_law_part"] ds) C := by
  rintro ds C R ⟨z, x, y, k, a, b, rfl, hz, hx, hy, hk, hsx, hsy, h⟩
  unfold t__law_holds
  have hzs : PyData.strOk z = true := by rcases hz with rfl | rfl | rfl <;> decide +kernel
  obtain ⟨haW, hxa⟩ := side_look hk hx hsx
  obtain ⟨hbW, hyb⟩ := side_look hk hy hsy
  walk_at "dl"
  refine lc_map (fun d => (sideD k d).getD .non) (by rw [sizeLine_eq]; simp) (fun d hd K hK => ?_) ?_
  · have hside : ∃ v, sideD k d = some v ∧ d ∈ SIDES ∧ (d ∈ WORTHS ∧ v = d ∧ (∀ z, d = .str z → getK k (.inr z) = none) ∨ ∃ z, d = .str z ∧ getK k (.inr z) = some v) := by
      simp only [List.mem_cons, List.not_mem_nil, or_false, List.drop_succ_cons, List.drop_zero] at hd
      rcases hd with rfl | rfl
      · exact ⟨a, hsx, hx, hxa⟩
      · exact ⟨b, hsy, hy, hyb⟩
    obtain ⟨v, e1, hdS, hcase⟩ := hside
    rw [e1] at hK
    have hK : K v C := hK
    walk_at "dl"
    simp only [oIsi_str (datD_dat (sides_dat d hdS)), D.bl.injEq, exists_eq_left']
    rcases hcase with ⟨hW, rfl, hno⟩ | ⟨y, rfl, hg⟩
    · cases es : isStrD v with
      | false => walk_at "dl"; exact hK
      | true =>
        obtain ⟨y, rfl⟩ : ∃ y, v = .str y := by cases v <;> first | exact ⟨_, rfl⟩ | cases es
        walk_at "dl"
        rw [oIn_dct rfl, hno y rfl]
        walk_at "dl"
        simp only [Option.isSome_none]
        walk_at "dl"
        exact hK
    · simp only [isStrD]
      walk_at "dl"
      rw [oIn_dct rfl, hg]
      walk_at "dl"
      rw [oIx_dct rfl]
      exact ⟨v, hg, hK⟩
  · simp only [List.drop_succ_cons, List.drop_zero, List.map_cons, List.map_nil, hsx, hsy, Option.getD_some]
    walk_at "dl"
    simp only [oEq_str hzs okLESS]
    walk_at "dl"
    unfold holdsD at h
    have hda := datD_dat (worths_dat a haW).1
    have hdb := datD_dat (worths_dat b hbW).1
    cases e : (z == LESSS) with
    | true =>
      rw [e, if_pos rfl] at h
      walk_at "dl"
      simp only [oIsi_str hda, oIsi_str hdb]
      rcases worth_cases (worths_dat a haW).2.1 with ⟨i, rfl⟩ | ⟨i, rfl⟩ <;> rcases worth_cases (worths_dat b hbW).2.1 with ⟨j, rfl⟩ | ⟨j, rfl⟩ <;> (simp only [isStrD]; walk_at "dl"; simpa [ltD] using h)
    | false =>
      rw [e, if_neg (by simp), sides_same a haW b hbW] at h
      walk_at "dl"
      rw [oEq_ok (datD_ok (datD_all (show 30 ≤ 60 by omega) (worths_dat a haW).1)) (datD_ok (datD_all (show 30 ≤ 60 by omega) (worths_dat b hbW).1))]
      simp only [oEq_str hzs okSAME]
      walk_at "dl"
      exact h
/-! ### the law's own search -/
theorem ways_bind (its : List (Int × D)) : ∀ (ws : List D) (ss : List S1), ways its ss ws = ss.flatMap fun s => ways its [s] ws
  | [], ss => by simp [ways]
  | w :: ws, ss => by
    show ways its (ss.flatMap (passS w its)) ws = ss.flatMap fun s => ways its ([s].flatMap (passS w its)) ws
    rw [ways_bind its ws]
    rw [List.flatMap_assoc]
    congr 1
    funext s
    rw [ways_bind its ws ([s].flatMap _)]
    simp
theorem ways_cons (its : List (Int × D)) (s : S1) (w : D) (ws : List D) : ways its [s] (w :: ws) = (passS w its s).flatMap fun s => ways its [s] ws := by
  show ways its ([s].flatMap (passS w its)) ws = _
  rw [ways_bind]
  simp
theorem ways_len (its : List (Int × D)) : ∀ (ws : List D) (ss : List S1), (ways its ss ws).length ≤ ss.length * (max 1 its.length) ^ ws.length
  | [], ss => by simp [ways]
  | w :: ws, ss => by
    show (ways its (ss.flatMap (passS w its)) ws).length ≤ _
    refine Nat.le_trans (ways_len its ws _) ?_
    rw [List.length_cons, Nat.pow_succ, Nat.mul_comm (_ ^ _), ← Nat.mul_assoc]
    exact Nat.mul_le_mul_right _ (pass_len w its ss)
end RR
namespace RR
open PySem PySem.Spec L2 DL
open PyProof.Rows hiding St kindOf
local macro_rules | `(tactic| walk_at "dl") => `(tactic| simp (config := { failIfUnchanged := false }) only [↓ex_two, ↓ex_three, dFor_eq, updC_at, updC_upd, lstOf_upd, dctOf_upd, dctOf_dct, lstOf_lst, isLst_upd, app_upd, dSeq, dNext, dRet, dRetN, dDrop, dIfS, dNever, dAsg, dPar, dPut, gdName, sz_0, sl_0, sz_1, sl_1, sz_2, sl_2, sz_3, sl_3, sz_4, sl_4, sz_5, sl_5, sz_6, sl_6, sz_7, sl_7, sz_8, sl_8, sz_9, sl_9, sz_10, sl_10, sz_11, sl_11, sz_12, sl_12, sz_13, sl_13, sz_14, sl_14, exists_eq, gdCons_cons, gdNil_nil, gdTup_tup, gdUnl_lst, Nat.succ_eq_add_one, Nat.zero_add, dAnd, dOr, dNot, dTest, dAndV, dOrV, dNotV, dIf, dChain, dOp, dUn, dFn, dCall, dNil, dCons, dVar, dC, dTup, dLst, dLstC, dDct0, dDct0C, dPart, dNoPart, dSlice, dLc, dLcC, diSeq, diZip, diEnum, diRng1, diRng2, dYes, dMtL, dSetd, dFrz,
  dstart, List.map, List.replicate, List.length, List.append, List.cons_append, List.nil_append, List.append_nil, List.getElem?_cons_zero, List.getElem?_cons_succ, Option.some.injEq, exists_eq_left', exists_eq_left, wipeD,
  List.cons.injEq, and_true, true_and, D.bl.injEq, D.int.injEq, D.str.injEq, D.tup.injEq, D.lst.injEq, D.dct.injEq, if_true, if_false, Bool.false_eq_true, Bool.not_true, Bool.not_false, Bool.not_not, ite_true, ite_false, reduceIte, List.set_cons_zero, List.set_cons_succ, Option.map_some, Option.isSome_some, and_false, false_and, exists_const,
  slOk_tup, itOf_tup, itOf_lst, itOf_str, itOf_dct, cutL_1, oLe_int, oLt_int, oGe_int, oGt_int, oAdd_int, oSub_int, oIs_non, oIsNot_non, oLen_tup, oLen_lst, oIx_tup, oIx_lst, atI_0, atI_1, atI_2, atI_3, atI_m1, atI_cast, oIn_str, oEq_int, oNe_int, oEq_bl, ex_some,
  bl_and, bl_or, bl_andT, bl_orT, Nat.sub_self, Nat.add_sub_cancel, Nat.reduceSub, Nat.reduceAdd])
theorem fitL_knl : ∀ {r : List (D × D)} {k k' : Kn}, (∀ pt ∈ r, pt.1 ∈ PARTS ∧ pt.2 ∈ WORTHS) → KnL k → k.length + r.length ≤ 100 → fitL k r = some k' → KnL k'
  | [], _, _, _, hk, _, h => by cases h; exact hk
  | (p, t) :: r, k, k', hp, hk, hl, h => by
    rw [List.length_cons] at hl
    simp only [fitL] at h
    obtain ⟨k2, h1, h2⟩ := Option.bind_eq_some_iff.mp h
    have h3 := fit1_knl (hp (p, t) List.mem_cons_self).1 (hp (p, t) List.mem_cons_self).2 hk (by omega) h1
    have h4 := (fit1_len h1).1
    exact fitL_knl (fun pt hpt => hp pt (List.mem_cons_of_mem _ hpt)) h3 (by omega) h2
theorem fitted_knl {a : D} {ps : List D} {t : D} {k k' : Kn} (hp : PatOk (.tup (a :: ps))) (ht : ThingOk t) (hk : KnL k) (hl : k.length ≤ 90) (h : fittedD (.tup (a :: ps)) t k = some k') : KnL k' := by
  obtain ⟨b, ts, rfl, hb, htl, hts⟩ := ht
  obtain ⟨_, _, e, ha, hpl, hps⟩ := hp
  cases e
  simp only [fittedD] at h
  split at h
  · exact fitL_knl (fun pt hpt => ⟨hps _ (List.of_mem_zip hpt).1, hts _ (List.of_mem_zip hpt).2⟩) hk (by rw [List.length_zip]; omega) h
  · cases h
def dI (its : List (Int × D)) : Kn := its.map fun it => (.inl it.1, it.2)
structure ItsOk (its : List (Int × D)) : Prop where
  nd : (its.map (·.1)).Nodup
  th : ∀ it ∈ its, ThingOk it.2
  ln : its.length ≤ 11
theorem dI_get {its : List (Int × D)} (h : ItsOk its) {it : Int × D} (hm : it ∈ its) : getK (dI its) (.inl it.1) = some it.2 := by
  have hnd : ((dI its).map (·.1)).Nodup := by
    unfold dI
    rw [List.map_map]
    have : ((·.1) ∘ fun it : Int × D => ((.inl it.1, it.2) : Key × D)) = fun it => (Sum.inl it.1 : Key) := rfl
    rw [this]
    have h2 := h.nd
    rw [show (its.map fun it => (Sum.inl it.1 : Key)) = (its.map (·.1)).map Sum.inl by rw [List.map_map]; rfl]
    unfold List.Nodup at h2 ⊢
    rw [List.pairwise_map]
    exact h2.imp fun h => fun e => h (Sum.inl.inj e)
  exact getK_nd hnd (kv := (.inl it.1, it.2)) (List.mem_map.mpr ⟨it, hm, rfl⟩)
def a__law_found (n : Nat) : ASp := fun ds C R => ∃ ws its nums k bs bs', ds = [.tup ws, .dct (dI its), .tup (nums.map .int), .dct k] ∧ ws.length < n ∧ n ≤ 6 ∧ (∀ w ∈ ws, WantOk w) ∧ wantsBs bs ws = some bs' ∧ KnFor bs k ∧ KnL k ∧ k.length + 4 * ws.length ≤ 60 ∧ nums.length + ws.length ≤ 100 ∧ ItsOk its ∧ R (.lst ((ways its [(nums, k)] ws).map sD)) C
theorem wl_ok {ws : List D} (h : ∀ w ∈ ws, WantOk w) : okD 60 (.tup ws) = true := by
  show ws.all (okD 59) = true
  exact List.all_eq_true.mpr fun x hx => datD_ok (datD_all (by omega) (want_dat (h x hx)))
theorem ways_max {its : List (Int × D)} (hi : its.length ≤ 11) {ws : List D} {ss : List S1} (hw : ws.length ≤ 5) : (ways its ss ws).length ≤ ss.length * 161051 := by
  refine Nat.le_trans (ways_len its ws ss) (Nat.mul_le_mul_left _ ?_)
  refine Nat.le_trans (Nat.pow_le_pow_right (by omega) hw) (Nat.le_trans (Nat.pow_le_pow_left (show max 1 its.length ≤ 11 by omega) 5) (by decide))
def hasFit (its : List (Int × D)) (pat : D) (k : Kn) (d : D) : Bool := match d with
  | .int n => (match getK (dI its) (.inl n) with
    | some t => (fittedD pat t k).isSome
    | none => false)
  | _ => false
theorem hasFit_at {its : List (Int × D)} (h : ItsOk its) {it : Int × D} (hm : it ∈ its) (pat : D) (k : Kn) : hasFit its pat k (.int it.1) = (fittedD pat it.2 k).isSome := by
  simp only [hasFit, dI_get h hm]
theorem rd__law_found (n : Nat) : ∀ ds C R, a__law_found (n + 1) ds C R → t__law_found a__law_fit (a__law_found n) a__law_holds { nx := fun _ C' => R .non C', rt := R } (dstart ["_law_wants", "_law_things", "_law_numbers", "_law_known", "_law_word", "_law_rest", "_law_some", "_law_found_here", "_law_number", "_law_more"] ds) C := by
  rintro ds C R ⟨ws, its, nums, k, bs, bs', rfl, hwn, hn5, hws, hbs, hkf, hkl, hk60, hnl, hits, h⟩
  unfold t__law_found
  walk_at "dl"
  rw [oEq_ok (wl_ok hws) (show okD 60 (D.tup []) = true from rfl)]
  have e0 : D.eqv (.tup ws) (.tup []) = ws.isEmpty := by cases ws <;> simp [D.eqv, D.eqvL]
  rw [e0]
  cases ws with
  | nil =>
    simp only [List.isEmpty_nil]
    walk_at "dl"
    exact h
  | cons w ws =>
    simp only [List.isEmpty_cons]
    walk_at "dl"
    simp only [List.drop_succ_cons, List.drop_zero]
    rw [List.length_cons] at hwn hk60 hnl
    have hw := hws w List.mem_cons_self
    have hws2 : ∀ x ∈ ws, WantOk x := fun x hx => hws x (List.mem_cons_of_mem _ hx)
    rw [wantsBs_cons] at hbs
    split at hbs
    rotate_left
    · cases hbs
    rename_i hwant
    rw [ways_cons] at h
    have rest : ∀ (nm : List Int) (k' : Kn), (nm.length ≤ nums.length + 1) → KnFor (wantAdd bs w) k' → KnL k' → k'.length ≤ k.length + 4 → ∀ R2 : D → Cells → Prop, R2 (.lst ((ways its [(nm, k')] ws).map sD)) C → a__law_found n [.tup ws, .dct (dI its), .tup (nm.map .int), .dct k'] C R2 := fun nm k' g1 g2 g3 g4 R2 hR => ⟨ws, its, nm, k', _, bs', rfl, by omega, by omega, hws2, hbs, g2, g3, by omega, by omega, hits, hR⟩
    have hdict : ((dI its).map fun kv => keyD kv.1) = its.map fun it => D.int it.1 := by
      unfold dI
      rw [List.map_map]
      rfl
    rcases hw with ⟨z, v, rfl, hz, hp⟩ | ⟨z, x, y, rfl, hz, hx, hy⟩
    · have hpat := hp
      obtain ⟨u, ps, rfl, hu, hpl, hps⟩ := hp
      have hzs : PyData.strOk z = true := by rcases hz with rfl | rfl <;> decide +kernel
      walk_at "dl"
      simp only [oEq_str hzs okNOT]
      walk_at "dl"
      rcases hz with rfl | rfl
      · -- looked for
        rw [show (ISS == NOTS) = false by decide +kernel]
        walk_at "dl"
        simp only [oNe_str okIS okIS]
        rw [show (ISS == ISS) = true by decide +kernel]
        walk_at "dl"
        rw [hdict]
        have ep : passS (.tup [.str ISS, .tup (u :: ps)]) its (nums, k) = its.filterMap fun it => (fittedD (.tup (u :: ps)) it.2 k).map fun k => (nums ++ [it.1], k) := by
          have : (ISS == ISS) = true := by decide +kernel
          simp only [passS, this, if_true]
        rw [ep] at h
        obtain ⟨Pv, hPv⟩ : ∃ Pv : Nat → DSt → Cells → Prop, ∀ i δ C', Pv i δ C' ↔ ∃ o1 o2, δ = [some (.tup (.tup [.str ISS, .tup (u :: ps)] :: ws)), some (.dct (dI its)), some (.tup (nums.map .int)), some (.dct k), some (.tup [.str ISS, .tup (u :: ps)]), some (.tup ws), none, some (.lst ((((its.take i).filterMap fun it => (fittedD (.tup (u :: ps)) it.2 k).map fun k => (nums ++ [it.1], k)).flatMap fun s => ways its [s] ws).map sD)), o1, o2] ∧ C' = C := ⟨_, fun _ _ _ => Iff.rfl⟩
        refine for_fix Pv ((hPv _ _ _).mpr ⟨none, none, rfl, rfl⟩) (fun i d δ C' hi hv => ?_) (fun δ C' hv => ?_)
        · obtain ⟨o1, o2, rfl, rfl⟩ := (hPv _ _ _).mp hv
          rw [List.getElem?_map] at hi
          obtain ⟨it, hit, rfl⟩ := Option.map_eq_some_iff.mp hi
          have hm := List.mem_of_getElem? hit
          have hth := hits.th it hm
          obtain ⟨b, ts, eb, hb, htl, hts⟩ := id hth
          walk_at "dl"
          rw [oIx_dct rfl]
          refine ⟨it.2, dI_get hits hm, ?_⟩
          rw [eb] at hth ⊢
          refine ⟨u, ps, b, ts, k, rfl, hpat, hth, hkl, by omega, ?_⟩
          walk_at "dl"
          rw [optD_isNon]
          cases ef : fittedD (.tup (u :: ps)) (.tup (b :: ts)) k with
          | none =>
            walk_at "dl"
            simp only [Option.isNone_none]
            walk_at "dl"
            refine (hPv _ _ _).mpr ⟨some (.int it.1), some .non, ?_, rfl⟩
            rw [take_snoc hit, List.filterMap_append]
            simp [eb, ef, optD]
          | some k2 =>
            simp only [Option.isNone_some]
            walk_at "dl"
            rw [oAdd_tup (by rw [sizeLine_eq]; simp; omega)]
            have hf2 := fitted_for (z := ISS) (by decide +kernel) hpl (t := it.2) (thing_ok (eb ▸ hth)) hkf (by omega) (by rw [eb]; exact ef)
            have e5 : nums.map D.int ++ [D.int it.1] = (nums ++ [it.1]).map D.int := by simp
            rw [e5]
            refine rest _ _ (by simp) hf2.1 (fitted_knl hpat hth hkl (by omega) ef) hf2.2 _ ?_
            have hilt : i < its.length := (List.getElem?_eq_some_iff.mp hit).1
            have hi11 := hits.ln
            have len1 : ((((its.take i).filterMap fun it => (fittedD (.tup (u :: ps)) it.2 k).map fun k => (nums ++ [it.1], k)).flatMap fun s => ways its [s] ws)).length ≤ 11 * 161051 := by
              rw [← ways_bind]
              refine Nat.le_trans (ways_max hi11 (by omega)) (Nat.mul_le_mul_right _ ?_)
              refine Nat.le_trans (List.length_filterMap_le _ _) ?_
              exact Nat.le_trans (len_take _ _) hi11
            have len2 := ways_max (its := its) hi11 (ws := ws) (ss := [(nums ++ [it.1], k2)]) (by omega)
            rw [List.length_singleton] at len2
            rw [oAdd_lst (by rw [List.length_map, List.length_map, sizeLine_eq]; omega)]
            refine (hPv _ _ _).mpr ⟨some (.int it.1), some (.dct k2), ?_, rfl⟩
            rw [take_snoc hit, List.filterMap_append, List.flatMap_append, List.map_append]
            simp [eb, ef, optD]
        · obtain ⟨o1, o2, rfl, rfl⟩ := (hPv _ _ _).mp hv
          walk_at "dl"
          rw [List.length_map, List.take_length]
          exact h
      · -- not there
        rw [show (NOTS == NOTS) = true by decide +kernel]
        walk_at "dl"
        rw [hdict]
        have ea : wantAdd bs (.tup [.str NOTS, .tup (u :: ps)]) = bs := by
          have : (NOTS == ISS) = false := by decide +kernel
          simp only [wantAdd, this]
          simp
        have ep : passS (.tup [.str NOTS, .tup (u :: ps)]) its (nums, k) = if (its.all fun it => (fittedD (.tup (u :: ps)) it.2 k).isNone) = true then [(nums, k)] else [] := by
          have : (NOTS == ISS) = false := by decide +kernel
          simp only [passS, this]
          rfl
        rw [ep] at h
        refine lc_fix (fun d => if hasFit its (.tup (u :: ps)) k d = true then some d else none) (by rw [List.length_map, sizeLine_eq]; have := hits.ln; omega) (fun i d hi K hK => ?_) ?_
        · obtain ⟨it, hm, rfl⟩ := List.mem_map.mp (List.mem_of_getElem? hi)
          have hth := hits.th it hm
          obtain ⟨b, ts, eb, hb, htl, hts⟩ := id hth
          rw [hasFit_at hits hm] at hK
          walk_at "dl"
          rw [oIx_dct rfl]
          refine ⟨it.2, dI_get hits hm, ?_⟩
          rw [eb] at hth hK ⊢
          refine ⟨u, ps, b, ts, k, rfl, hpat, hth, hkl, by omega, ?_⟩
          walk_at "dl"
          rw [optD_isNon]
          cases ef : fittedD (.tup (u :: ps)) (.tup (b :: ts)) k with
          | none =>
            simp only [ef, Option.isSome_none, Bool.false_eq_true, if_false] at hK
            simp only [Option.isNone_none]
            walk_at "dl"
            exact hK
          | some k2 =>
            simp only [ef, Option.isSome_some, if_true] at hK
            simp only [Option.isNone_some]
            walk_at "dl"
            exact hK
        · generalize hl : ((its.map fun it => D.int it.1).filterMap fun d => if hasFit its (.tup (u :: ps)) k d = true then some d else none) = l
          have hlok : l.all (okD 59) = true := List.all_eq_true.mpr fun x hx => by
            rw [← hl] at hx
            obtain ⟨y, hy1, hy2⟩ := List.mem_filterMap.mp hx
            obtain ⟨it, _, rfl⟩ := List.mem_map.mp hy1
            split at hy2
            · cases hy2; rfl
            · cases hy2
          have hemp : l.isEmpty = its.all fun it => (fittedD (.tup (u :: ps)) it.2 k).isNone := by
            rw [← hl, Bool.eq_iff_iff, List.isEmpty_iff, List.filterMap_eq_nil_iff, List.all_eq_true]
            constructor
            · intro g it hm
              have := g (.int it.1) (List.mem_map.mpr ⟨it, hm, rfl⟩)
              rw [hasFit_at hits hm] at this
              cases e : fittedD (.tup (u :: ps)) it.2 k with
              | none => rfl
              | some k2 => rw [e] at this; simp at this
            · intro g d hd
              obtain ⟨it, hm, rfl⟩ := List.mem_map.mp hd
              have := g it hm
              rw [hasFit_at hits hm]
              cases e : fittedD (.tup (u :: ps)) it.2 k with
              | none => simp
              | some k2 => rw [e] at this; cases this
          walk_at "dl"
          rw [oEq_ok (show okD 60 (D.lst l) = true from hlok) (show okD 60 (D.lst []) = true from rfl), eqv_lst_nil, hemp]
          walk_at "dl"
          cases e : its.all fun it => (fittedD (.tup (u :: ps)) it.2 k).isNone with
          | true =>
            rw [e, if_pos rfl] at h
            walk_at "dl"
            refine rest nums k (by omega) (by rw [ea]; exact hkf) hkl (by omega) _ ?_
            simpa using h
          | false =>
            rw [e, if_neg (by simp)] at h
            walk_at "dl"
            exact h
    · have hzs : PyData.strOk z = true := by rcases hz with rfl | rfl | rfl <;> decide +kernel
      have ez1 : (z == NOTS) = false := by rcases hz with rfl | rfl | rfl <;> decide +kernel
      have ez2 : (z == ISS) = false := by rcases hz with rfl | rfl | rfl <;> decide +kernel
      have ea : wantAdd bs (.tup [.str z, x, y]) = bs := by
        unfold wantAdd
        split
        · rename_i e
          injection e with e
          injection e with e1 e2
          injection e1 with e1
          subst e1
          rw [ez2]
          simp
        · rfl
      walk_at "dl"
      simp only [oEq_str hzs okNOT, ez1]
      walk_at "dl"
      simp only [oNe_str hzs okIS, ez2]
      walk_at "dl"
      have hsd : isSideD x bs = true ∧ isSideD y bs = true := by
        rcases want_cases hwant with ⟨_, _, e, _⟩ | ⟨_, _, _, e, _, g1, g2⟩
        · cases e
        · cases e
          exact ⟨g1, g2⟩
      obtain ⟨a, ha1, ha2, ha3⟩ := side_ok (datD_all (by omega) (sides_dat x hx)) hsd.1 hkf
      obtain ⟨b, hb1, hb2, hb3⟩ := side_ok (datD_all (by omega) (sides_dat y hy)) hsd.2 hkf
      have ep : passS (.tup [.str z, x, y]) its (nums, k) = if holdsD z a b = true then [(nums, k)] else [] := by simp only [passS, ha1, hb1]
      rw [ep] at h
      refine ⟨z, x, y, k, a, b, rfl, hz, hx, hy, hkl, ha1, hb1, ?_⟩
      walk_at "dl"
      cases e : holdsD z a b with
      | true =>
        rw [e, if_pos rfl] at h
        walk_at "dl"
        refine rest nums k (by omega) (by rw [ea]; exact hkf) hkl (by omega) _ ?_
        simpa using h
      | false =>
        rw [e, if_neg (by simp)] at h
        walk_at "dl"
        exact h
end RR
namespace RR
open PySem PySem.Spec L2 DL
open PyProof.Rows hiding St kindOf
local macro_rules | `(tactic| walk_at "dl") => `(tactic| simp (config := { failIfUnchanged := false }) only [↓ex_two, ↓ex_three, dFor_eq, updC_at, updC_upd, lstOf_upd, dctOf_upd, dctOf_dct, lstOf_lst, isLst_upd, app_upd, dSeq, dNext, dRet, dRetN, dDrop, dIfS, dNever, dAsg, dPar, dPut, gdName, sz_0, sl_0, sz_1, sl_1, sz_2, sl_2, sz_3, sl_3, sz_4, sl_4, sz_5, sl_5, sz_6, sl_6, sz_7, sl_7, sz_8, sl_8, sz_9, sl_9, sz_10, sl_10, sz_11, sl_11, sz_12, sl_12, sz_13, sl_13, sz_14, sl_14, exists_eq, gdCons_cons, gdNil_nil, gdTup_tup, gdUnl_lst, Nat.succ_eq_add_one, Nat.zero_add, dAnd, dOr, dNot, dTest, dAndV, dOrV, dNotV, dIf, dChain, dOp, dUn, dFn, dCall, dNil, dCons, dVar, dC, dTup, dLst, dLstC, dDct0, dDct0C, dPart, dNoPart, dSlice, dLc, dLcC, diSeq, diZip, diEnum, diRng1, diRng2, dYes, dMtL, dSetd, dFrz,
  dstart, List.map, List.replicate, List.length, List.append, List.cons_append, List.nil_append, List.append_nil, List.getElem?_cons_zero, List.getElem?_cons_succ, Option.some.injEq, exists_eq_left', exists_eq_left, wipeD,
  List.cons.injEq, and_true, true_and, D.bl.injEq, D.int.injEq, D.str.injEq, D.tup.injEq, D.lst.injEq, D.dct.injEq, if_true, if_false, Bool.false_eq_true, Bool.not_true, Bool.not_false, Bool.not_not, ite_true, ite_false, reduceIte, List.set_cons_zero, List.set_cons_succ, Option.map_some, Option.isSome_some, and_false, false_and, exists_const,
  slOk_tup, itOf_tup, itOf_lst, itOf_str, itOf_dct, cutL_1, oLe_int, oLt_int, oGe_int, oGt_int, oAdd_int, oSub_int, oIs_non, oIsNot_non, oLen_tup, oLen_lst, oIx_tup, oIx_lst, atI_0, atI_1, atI_2, atI_3, atI_m1, atI_cast, oIn_str, oEq_int, oNe_int, oEq_bl, ex_some,
  bl_and, bl_or, bl_andT, bl_orT, Nat.sub_self, Nat.add_sub_cancel, Nat.reduceSub, Nat.reduceAdd])
theorem ws_for : KnFor [] [] := ⟨⟨by simp, fun _ h => by cases h⟩, fun _ h => (by cases h), fun z h => by cases h⟩
theorem knl_nil : KnL [] := ⟨by simp, fun _ h => (by cases h), fun _ h => (by cases h), by simp⟩
def a__law_all : ASp := fun ds C R => ∃ rs its, ds = [.tup rs, .dct (dI its)] ∧ RulesGood rs ∧ ItsOk its ∧ R (.lst (sortD (foundD its rs))) C
theorem rd__law_all : ∀ ds C R, a__law_all ds C R → t__law_all (a__law_found 6) { nx := fun _ C' => R .non C', rt := R } (dstart ["_law_rules_here", "_law_things", "_law_found_here", "_law_k", "_law_numbers", "_law_known"] ds) C := by
  rintro ds C R ⟨rs, its, rfl, hrs, hits, h⟩
  unfold t__law_all
  have hrl := hrs.2.1
  walk_at "dl"
  refine ⟨by omega, by omega, ?_⟩
  obtain ⟨Pv, hPv⟩ : ∃ Pv : Nat → DSt → Cells → Prop, ∀ i δ C', Pv i δ C' ↔ ∃ o1, δ = [some (.tup rs), some (.dct (dI its)), some (.lst ((rs.zipIdx.take i).flatMap fun ri => ruleM its ri.2 ri.1)), o1, none, none] ∧ C' = C ∧ ((rs.zipIdx.take i).flatMap fun ri => ruleM its ri.2 ri.1).length ≤ i * 161051 := ⟨_, fun _ _ _ => Iff.rfl⟩
  refine for_rng Pv ((hPv _ _ _).mpr ⟨none, rfl, rfl, by simp⟩) (fun i δ C' hi hv => ?_) (fun δ C' hv => ?_)
  · obtain ⟨o1, rfl, rfl, hacc⟩ := (hPv _ _ _).mp hv
    have hi2 : i < rs.length := by omega
    have hir : rs[i]? = some rs[i] := List.getElem?_eq_getElem hi2
    generalize rs[i] = r at hir
    obtain ⟨nm, _, hr⟩ := hrs.2.2 i r hir
    obtain ⟨m, ws, qs, kn, rfl, h1, h2, hws, h3, h4, h5, h6, h7⟩ := hr.sh
    have hzi : rs.zipIdx[i]? = some (.tup [.str nm, .int m, .tup ws, .tup qs], i) := by rw [List.getElem?_zipIdx, hir]; simp
    walk_at "dl"
    simp only [Int.zero_add, atI_cast]
    refine ⟨_, hir, ?_⟩
    walk_at "dl"
    have hwm := ways_max (its := its) hits.ln (ws := ws) (ss := [([], [])]) (by omega)
    rw [List.length_singleton] at hwm
    refine ⟨ws, its, [], [], [], kn, rfl, by omega, by omega, hws.all, hws.bs, ws_for, knl_nil, by simp; omega, by simp; omega, hits, ?_⟩
    walk_at "dl"
    refine lc_map (fun d => match d with
      | .tup [x, _] => .tup [.int (i : Nat), x]
      | _ => .non) (by rw [List.length_map, sizeLine_eq]; omega) (fun d hd K hK => ?_) ?_
    · obtain ⟨s, _, rfl⟩ := List.mem_map.mp hd
      rw [show sD s = .tup [.tup (s.1.map .int), .dct s.2] from rfl] at hK ⊢
      walk_at "dl"
      exact hK
    · have e : ((ways its [([], [])] ws).map sD).map (fun d => match d with
          | .tup [x, _] => .tup [.int (i : Nat), x]
          | _ => .non) = ruleM its i (.tup [.str nm, .int m, .tup ws, .tup qs]) := by
        simp only [ruleM, List.map_map]
        rfl
      rw [e]
      have hrm : (ruleM its i (.tup [.str nm, .int m, .tup ws, .tup qs])).length ≤ 161051 := by
        simp only [ruleM, List.length_map]
        omega
      rw [oAdd_lst (by rw [sizeLine_eq]; omega)]
      refine (hPv _ _ _).mpr ⟨some (.int (i : Nat)), ?_, rfl, ?_⟩
      rotate_left
      · rw [take_snoc hzi, List.flatMap_append, List.length_append, List.flatMap_singleton]
        exact Nat.le_trans (Nat.add_le_add hacc hrm) (by omega)
      · rw [take_snoc hzi, List.flatMap_append]
        simp
  · obtain ⟨o1, rfl, rfl, hacc⟩ := (hPv _ _ _).mp hv
    walk_at "dl"
    rw [show (((rs.length : Nat) : Int)).toNat = rs.zipIdx.length by simp, List.take_length]
    rw [oSorted_def]
    obtain ⟨ms, e⟩ := found_matches its rs
    exact ⟨_, rfl, by rw [show (rs.zipIdx.flatMap fun ri => ruleM its ri.2 ri.1) = ms.map matchD from e]; exact sort_matches ms, h⟩
/-! ### alike -/
theorem oIsi_kind {x : D} {T k : String} {C : Cells} {R : D → Cells → Prop} (h : DL.kindOf C x = some k) (hT : types.contains T = true) : oIsi [x, .ty T] C R = R (.bl (isiT k T)) C := by
  rw [oIsi_def]
  have e : isiO C x (.ty T) = some (isiT k T) := by
    show (if types.contains T = true then (DL.kindOf C x).map (fun k => isiT k T) else none) = _
    rw [if_pos hT, h]; rfl
  rw [e]; simp only [Option.some.injEq, exists_eq_left']
theorem oIsi_kind2 {x : D} {T U k : String} {C : Cells} {R : D → Cells → Prop} (h : DL.kindOf C x = some k) (hT : (types.contains T && types.contains U) = true) : oIsi [x, .tup [.ty T, .ty U]] C R = R (.bl (isiT k T || isiT k U)) C := by
  rw [oIsi_def]
  have e : isiO C x (.tup [.ty T, .ty U]) = some (isiT k T || isiT k U) := by
    show (if (types.contains T && types.contains U) = true then (DL.kindOf C x).map (fun k => isiT k T || isiT k U) else none) = _
    rw [if_pos hT, h]; rfl
  rw [e]; simp only [Option.some.injEq, exists_eq_left']
mutual
theorem eqv_refl : ∀ (n : Nat) (d : D), datD n d = true → D.eqv d d = true
  | _, .non, _ => rfl
  | _, .bl b, _ => by simp [D.eqv]
  | _, .int b, _ => by simp [D.eqv]
  | _, .str b, _ => by simp [D.eqv]
  | n + 1, .tup ds, h => by
    simp only [datD, Bool.and_eq_true] at h
    show D.eqvL ds ds = true
    exact eqvL_refl n ds h.1
  | n + 1, .lst ds, h => by
    simp only [datD, Bool.and_eq_true] at h
    show D.eqvL ds ds = true
    exact eqvL_refl n ds h.1
  | 0, .tup _, h => by cases h
  | 0, .lst _, h => by cases h
  | 0, .dct _, h => by cases h
  | n + 1, .dct _, h => by cases h
  | 0, .ref _, h => by cases h
  | n + 1, .ref _, h => by cases h
  | 0, .ty _, h => by cases h
  | n + 1, .ty _, h => by cases h
theorem eqvL_refl : ∀ (n : Nat) (ds : List D), ds.all (datD n) = true → D.eqvL ds ds = true
  | _, [], _ => rfl
  | n, d :: ds, h => by
    simp only [List.all_cons, Bool.and_eq_true] at h
    show (D.eqv d d && D.eqvL ds ds) = true
    rw [eqv_refl n d h.1, eqvL_refl n ds h.2]
    rfl
end
def a__law_alike (n : Nat) : ASp := fun ds C R => ∃ x y m, ds = [x, y] ∧ n = m + 1 ∧ n ≤ 50 ∧ datD m y = true ∧ (x = y ∨ ∃ p l, x = .ref p ∧ y = .lst l ∧ C p = some (.lst l)) ∧ R (.bl true) C
theorem rd__law_alike (n : Nat) : ∀ ds C R, a__law_alike (n + 1) ds C R → t__law_alike (a__law_alike n) { nx := fun _ C' => R .non C', rt := R } (dstart ["_law_found_here", "_law_due", "_law_same_kind", "_law_k"] ds) C := by
  rintro ds C R ⟨x, y, m, rfl, hnm, hn, hy, hxy, h⟩
  obtain rfl : n = m := by omega
  unfold t__law_alike
  walk_at "dl"
  by_cases hc : (∃ l, y = .tup l) ∨ ∃ l, y = .lst l
  · rcases hc with ⟨l, rfl⟩ | ⟨l, rfl⟩
    · obtain rfl : x = .tup l := by rcases hxy with e | ⟨p, l', _, e, _⟩ <;> first | exact e | cases e
      obtain ⟨j, rfl⟩ : ∃ j, n = j + 1 := by cases n <;> first | (cases hy; done) | exact ⟨_, rfl⟩
      simp only [datD, Bool.and_eq_true, decide_eq_true_eq] at hy
      obtain ⟨hall, hlen⟩ := hy
      rw [oIsi_kind2 (k := "tuple") rfl (by decide)]
      walk_at "dl"
      simp only [show (isiT "tuple" "tuple" || isiT "tuple" "list") = true by decide]
      walk_at "dl"
      rw [oIsi_kind (k := "tuple") (T := "tuple") rfl (by decide)]
      walk_at "dl"
      rw [oIsi_kind (k := "tuple") (T := "tuple") rfl (by decide)]
      walk_at "dl"
      rw [oNe_ok rfl rfl, show D.eqv (.bl (isiT "tuple" "tuple")) (.bl (isiT "tuple" "tuple")) = true by decide]
      walk_at "dl"
      rw [oIsi_kind2 (k := "tuple") rfl (by decide)]
      walk_at "dl"
      simp only [show (isiT "tuple" "tuple" || isiT "tuple" "list") = true by decide]
      walk_at "dl"
      skip
      simp only [decide_true]
      walk_at "dl"
      refine ⟨by omega, by omega, ?_⟩
      refine lc_inv (n := ((l.length : Nat) : Int).toNat) (fun i acc C' => C' = C ∧ acc = []) (fun i _ hi => hi) (fun _ => Nat.le_refl _) ⟨rfl, rfl⟩ (fun i d acc C' hi hyl hv => ?_) (fun acc C' hv => ?_)
      · obtain ⟨rfl, rfl⟩ := hv
        have hyl : d = .int (0 + (i : Int)) := hyl
        subst hyl
        have hil : i < l.length := by omega
        walk_at "dl"
        simp only [Int.zero_add, atI_cast]
        skip
        refine ⟨l[i], List.getElem?_eq_getElem hil, l[i], List.getElem?_eq_getElem hil, l[i], l[i], j, rfl, rfl, by omega, List.all_eq_true.mp hall _ (List.getElem_mem hil), .inl rfl, ?_⟩
        walk_at "dl"
      · obtain ⟨rfl, rfl⟩ := hv
        walk_at "dl"
        rw [oEq_ok (show okD 60 (D.lst []) = true from rfl) (show okD 60 (D.lst []) = true from rfl)]
        exact h

    · obtain ⟨j, rfl⟩ : ∃ j, n = j + 1 := by cases n <;> first | (cases hy; done) | exact ⟨_, rfl⟩
      simp only [datD, Bool.and_eq_true, decide_eq_true_eq] at hy
      obtain ⟨hall, hlen⟩ := hy
      rcases hxy with rfl | ⟨p, l', rfl, e, hp⟩
      · skip
        rw [oIsi_kind2 (k := "list") rfl (by decide)]
        walk_at "dl"
        simp only [show (isiT "list" "tuple" || isiT "list" "list") = true by decide]
        walk_at "dl"
        rw [oIsi_kind (k := "list") (T := "tuple") rfl (by decide)]
        walk_at "dl"
        rw [oIsi_kind (k := "list") (T := "tuple") rfl (by decide)]
        walk_at "dl"
        rw [oNe_ok rfl rfl, show D.eqv (.bl (isiT "list" "tuple")) (.bl (isiT "list" "tuple")) = true by decide]
        walk_at "dl"
        rw [oIsi_kind2 (k := "list") rfl (by decide)]
        walk_at "dl"
        simp only [show (isiT "list" "tuple" || isiT "list" "list") = true by decide]
        walk_at "dl"
        skip
        simp only [decide_true]
        walk_at "dl"
        refine ⟨by omega, by omega, ?_⟩
        refine lc_inv (n := ((l.length : Nat) : Int).toNat) (fun i acc C' => C' = C ∧ acc = []) (fun i _ hi => hi) (fun _ => Nat.le_refl _) ⟨rfl, rfl⟩ (fun i d acc C' hi hyl hv => ?_) (fun acc C' hv => ?_)
        · obtain ⟨rfl, rfl⟩ := hv
          have hyl : d = .int (0 + (i : Int)) := hyl
          subst hyl
          have hil : i < l.length := by omega
          walk_at "dl"
          simp only [Int.zero_add, atI_cast]
          skip
          refine ⟨l[i], List.getElem?_eq_getElem hil, l[i], List.getElem?_eq_getElem hil, l[i], l[i], j, rfl, rfl, by omega, List.all_eq_true.mp hall _ (List.getElem_mem hil), .inl rfl, ?_⟩
          walk_at "dl"
        · obtain ⟨rfl, rfl⟩ := hv
          walk_at "dl"
          rw [oEq_ok (show okD 60 (D.lst []) = true from rfl) (show okD 60 (D.lst []) = true from rfl)]
          exact h

      · cases e
        have hkx : DL.kindOf C (.ref p) = some "list" := by show (C p).bind _ = _; rw [hp]; rfl
        rw [oIsi_kind2 (k := "list") rfl (by decide)]
        walk_at "dl"
        simp only [show (isiT "list" "tuple" || isiT "list" "list") = true by decide]
        walk_at "dl"
        rw [oIsi_kind (k := "list") (T := "tuple") hkx (by decide)]
        walk_at "dl"
        rw [oIsi_kind (k := "list") (T := "tuple") rfl (by decide)]
        walk_at "dl"
        rw [oNe_ok rfl rfl, show D.eqv (.bl (isiT "list" "tuple")) (.bl (isiT "list" "tuple")) = true by decide]
        walk_at "dl"
        rw [oIsi_kind2 (k := "list") hkx (by decide)]
        walk_at "dl"
        simp only [show (isiT "list" "tuple" || isiT "list" "list") = true by decide]
        walk_at "dl"
        rw [oLen_ref hp]
        walk_at "dl"
        simp only [decide_true]
        walk_at "dl"
        refine ⟨by omega, by omega, ?_⟩
        refine lc_inv (n := ((l.length : Nat) : Int).toNat) (fun i acc C' => C' = C ∧ acc = []) (fun i _ hi => hi) (fun _ => Nat.le_refl _) ⟨rfl, rfl⟩ (fun i d acc C' hi hyl hv => ?_) (fun acc C' hv => ?_)
        · obtain ⟨rfl, rfl⟩ := hv
          have hyl : d = .int (0 + (i : Int)) := hyl
          subst hyl
          have hil : i < l.length := by omega
          walk_at "dl"
          simp only [Int.zero_add, atI_cast]
          rw [oIx_ref hp]
          walk_at "dl"
          refine ⟨l[i], List.getElem?_eq_getElem hil, l[i], List.getElem?_eq_getElem hil, l[i], l[i], j, rfl, rfl, by omega, List.all_eq_true.mp hall _ (List.getElem_mem hil), .inl rfl, ?_⟩
          walk_at "dl"
        · obtain ⟨rfl, rfl⟩ := hv
          walk_at "dl"
          rw [oEq_ok (show okD 60 (D.lst []) = true from rfl) (show okD 60 (D.lst []) = true from rfl)]
          exact h

  · obtain rfl : x = y := by rcases hxy with e | ⟨p, l', _, e, _⟩ <;> first | exact e | exact absurd (.inr ⟨_, e⟩) hc
    have hk : ∃ kx, DL.kindOf C x = some kx ∧ (isiT kx "tuple" || isiT kx "list") = false := by
      cases x <;> first | exact ⟨_, rfl, by decide⟩ | exact absurd (.inl ⟨_, rfl⟩) hc | exact absurd (.inr ⟨_, rfl⟩) hc | (simp [datD] at hy; done)
    obtain ⟨kx, hk1, hk2⟩ := hk
    rw [oIsi_kind2 hk1 (by decide), hk2]
    walk_at "dl"
    cases en : DL.isNon x with
    | true =>
      walk_at "dl"
      exact h
    | false =>
      walk_at "dl"
      simp only [oIsi_kind (T := "str") hk1 (by decide), oIsi_kind (T := "bool") hk1 (by decide), oEq_bl, beq_self_eq_true]
      walk_at "dl"
      rw [oEq_ok (datD_ok (datD_all (show n ≤ 60 by omega) hy)) (datD_ok (datD_all (show n ≤ 60 by omega) hy)), eqv_refl _ x hy]
      exact h
end RR
namespace RR
open PySem PySem.Spec L2 DL
open PyProof.Rows hiding St kindOf
local macro_rules | `(tactic| walk_at "dl") => `(tactic| simp (config := { failIfUnchanged := false }) only [↓ex_two, ↓ex_three, dFor_eq, updC_at, updC_upd, lstOf_upd, dctOf_upd, dctOf_dct, lstOf_lst, isLst_upd, app_upd, dSeq, dNext, dRet, dRetN, dDrop, dIfS, dNever, dAsg, dPar, dPut, gdName, sz_0, sl_0, sz_1, sl_1, sz_2, sl_2, sz_3, sl_3, sz_4, sl_4, sz_5, sl_5, sz_6, sl_6, sz_7, sl_7, sz_8, sl_8, sz_9, sl_9, sz_10, sl_10, sz_11, sl_11, sz_12, sl_12, sz_13, sl_13, sz_14, sl_14, exists_eq, gdCons_cons, gdNil_nil, gdTup_tup, gdUnl_lst, Nat.succ_eq_add_one, Nat.zero_add, dAnd, dOr, dNot, dTest, dAndV, dOrV, dNotV, dIf, dChain, dOp, dUn, dFn, dCall, dNil, dCons, dVar, dC, dTup, dLst, dLstC, dDct0, dDct0C, dPart, dNoPart, dSlice, dLc, dLcC, diSeq, diZip, diEnum, diRng1, diRng2, dYes, dMtL, dSetd, dFrz,
  dstart, List.map, List.replicate, List.length, List.append, List.cons_append, List.nil_append, List.append_nil, List.getElem?_cons_zero, List.getElem?_cons_succ, Option.some.injEq, exists_eq_left', exists_eq_left, wipeD,
  List.cons.injEq, and_true, true_and, D.bl.injEq, D.int.injEq, D.str.injEq, D.tup.injEq, D.lst.injEq, D.dct.injEq, if_true, if_false, Bool.false_eq_true, Bool.not_true, Bool.not_false, Bool.not_not, ite_true, ite_false, reduceIte, List.set_cons_zero, List.set_cons_succ, Option.map_some, Option.isSome_some, and_false, false_and, exists_const,
  slOk_tup, itOf_tup, itOf_lst, itOf_str, itOf_dct, cutL_1, oLe_int, oLt_int, oGe_int, oGt_int, oAdd_int, oSub_int, oIs_non, oIsNot_non, oLen_tup, oLen_lst, oIx_tup, oIx_lst, atI_0, atI_1, atI_2, atI_3, atI_m1, atI_cast, oIn_str, oEq_int, oNe_int, oEq_bl, ex_some,
  bl_and, bl_or, bl_andT, bl_orT, Nat.sub_self, Nat.add_sub_cancel, Nat.reduceSub, Nat.reduceAdd])
/-! ### the law -/
theorem pairs_dI (its : List (Int × D)) : pairsD (its.map itD) = some (dI its) := by
  induction its with
  | nil => rfl
  | cons it its ih =>
    rw [List.map_cons]
    show (DL.keyOf (.int it.1)).bind (fun k => (pairsD (its.map itD)).map ((k, it.2) :: ·)) = _
    rw [ih]
    rfl
theorem merge_nd : ∀ (more acc : Kn), ((acc ++ more).map (·.1)).Nodup → mergeD acc more = acc ++ more
  | [], acc, _ => by simp [mergeD]
  | kv :: more, acc, h => by
    have hn : ¬ (acc.any fun x => decide (x.1 = kv.1)) = true := by
      intro ha
      obtain ⟨x, hx, e⟩ := List.any_eq_true.mp ha
      rw [List.map_append, List.nodup_append] at h
      exact h.2.2 x.1 (List.mem_map.mpr ⟨x, hx, rfl⟩) kv.1 (by simp) (by simpa using e)
    have hp : putD acc kv.1 kv.2 = acc ++ [kv] := by unfold putD; rw [if_neg hn]
    show mergeD (putD acc kv.1 kv.2) more = _
    rw [hp, merge_nd more (acc ++ [kv]) (by rw [List.append_assoc]; exact h), List.append_assoc]
    rfl
theorem numIt_nd (ds : List D) : ((numIt ds).map (·.1)).Nodup := by
  unfold numIt
  rw [List.map_map]
  have : ((fun x : Int × D => x.1) ∘ fun ti : D × Nat => ((ti.2 : Int), ti.1)) = fun ti => (ti.2 : Int) := rfl
  rw [this]
  have h : ((ds.zipIdx).map Prod.snd).Nodup := by rw [List.zipIdx_map_snd]; exact List.nodup_range'
  rw [show ds.zipIdx.map (fun ti => (ti.2 : Int)) = (ds.zipIdx.map Prod.snd).map (fun n : Nat => (n : Int)) by rw [List.map_map]; rfl]
  unfold List.Nodup at h ⊢
  rw [List.pairwise_map]
  exact h.imp fun hne e => hne (Int.ofNat.inj e)
theorem dI_keys {its : List (Int × D)} (h : (its.map (·.1)).Nodup) : ((dI its).map (·.1)).Nodup := by
  unfold dI
  rw [List.map_map]
  rw [show (its.map ((·.1) ∘ fun it : Int × D => ((.inl it.1, it.2) : Key × D))) = (its.map (·.1)).map Sum.inl by rw [List.map_map]; rfl]
  unfold List.Nodup at h ⊢
  rw [List.pairwise_map]
  exact h.imp fun h => fun e => h (Sum.inl.inj e)
theorem its_ok {ts : List D} (h : ∀ t ∈ ts, ThingOk t) (hl : ts.length ≤ 11) : ItsOk (numIt (distinctD ts)) := by
  refine ⟨numIt_nd _, fun it hit => ?_, by rw [numIt_len]; have := distinct_len ts; omega⟩
  have : it.2 ∈ (numIt (distinctD ts)).map (·.2) := List.mem_map.mpr ⟨it, hit, rfl⟩
  rw [numIt_snd] at this
  exact h _ (distinct_mem this)
theorem found_len {its : List (Int × D)} {rs : List D} (hits : ItsOk its) (hrs : RulesGood rs) : (foundD its rs).length ≤ 4 * 161051 := by
  have hr : ∀ ri ∈ rs.zipIdx, (ruleM its ri.2 ri.1).length ≤ 161051 := fun ri hri => by
    obtain ⟨r, j⟩ := ri
    obtain ⟨i, hi⟩ := List.getElem?_of_mem (List.fst_mem_of_mem_zipIdx hri)
    obtain ⟨nm, _, hg⟩ := hrs.2.2 i r hi
    obtain ⟨m, ws, qs, kn, rfl, h1, h2, hws, h3, h4, _⟩ := hg.sh
    have := ways_max (its := its) hits.ln (ws := ws) (ss := [([], [])]) h4
    rw [List.length_singleton] at this
    simp only [ruleM, List.length_map]
    omega
  have h4 : rs.zipIdx.length ≤ 4 := by simp; exact hrs.2.1
  unfold foundD
  generalize rs.zipIdx = l at hr h4
  have : ∀ l : List (D × Nat), (∀ ri ∈ l, (ruleM its ri.2 ri.1).length ≤ 161051) → (l.flatMap fun ri => ruleM its ri.2 ri.1).length ≤ l.length * 161051 := fun l => by
    induction l with
    | nil => simp
    | cons a l ih =>
      intro hl
      rw [List.flatMap_cons, List.length_append, List.length_cons]
      have h1 := hl a (by simp)
      have h2 := ih fun ri hri => hl ri (by simp [hri])
      omega
  exact Nat.le_trans (this l hr) (Nat.mul_le_mul_right _ h4)
theorem sort_dat {its : List (Int × D)} {rs : List D} (hl : (foundD its rs).length ≤ 1000000) (hn : ∀ d ∈ foundD its rs, datD 3 d = true) : datD 4 (.lst (sortD (foundD its rs))) = true := by
  show ((sortD (foundD its rs)).all (datD 3) && decide ((sortD (foundD its rs)).length ≤ 1000000)) = true
  rw [Bool.and_eq_true, decide_eq_true_eq]
  unfold sortD
  refine ⟨List.all_eq_true.mpr fun d hd => hn d (List.mem_mergeSort.mp hd), by rw [List.length_mergeSort]; exact hl⟩
theorem found_dat {its : List (Int × D)} (hits : ItsOk its) {rs : List D} (hrs : RulesGood rs) : ∀ d ∈ foundD its rs, datD 3 d = true := by
  intro d hd
  obtain ⟨ri, hri, hd⟩ := List.mem_flatMap.mp hd
  obtain ⟨r, j⟩ := ri
  obtain ⟨i, hi⟩ := List.getElem?_of_mem (List.fst_mem_of_mem_zipIdx hri)
  obtain ⟨nm, _, hg⟩ := hrs.2.2 i r hi
  obtain ⟨m, ws, qs, kn, rfl, h1, h2, hws, h3, h4, _⟩ := hg.sh
  simp only [ruleM] at hd
  obtain ⟨s, hs, rfl⟩ := List.mem_map.mp hd
  have hsl := ((ways_ok (fun it hit => thing_ok (hits.th it hit)) hws.bs (by omega)).1 s hs).2.1
  have hin : (s.1.map D.int).all (datD 1) = true := List.all_eq_true.mpr fun x hx => by
    obtain ⟨y, _, rfl⟩ := List.mem_map.mp hx
    rfl
  have h2 : datD 2 (.tup (s.1.map .int)) = true := by
    show ((s.1.map D.int).all (datD 1) && decide ((s.1.map D.int).length ≤ 1000000)) = true
    rw [hin, List.length_map, Bool.true_and, decide_eq_true_eq]
    omega
  show ([.int (j : Nat), .tup (s.1.map .int)].all (datD 2) && decide (([.int (j : Nat), .tup (s.1.map .int)] : List D).length ≤ 1000000)) = true
  simp only [List.all_cons, List.all_nil, h2, Bool.and_true]
  rfl
theorem lst_dat {ts : List D} (h : ∀ t ∈ ts, ThingOk t) (hl : ts.length ≤ 100) : datD 51 (.lst ts) = true := by
  show (ts.all (datD 50) && decide (ts.length ≤ 1000000)) = true
  rw [Bool.and_eq_true, decide_eq_true_eq]
  exact ⟨List.all_eq_true.mpr fun x hx => (thing_ok (h x hx)).1, by omega⟩
end RR
namespace RR
open PySem PySem.Spec L2 DL
open PyProof.Rows hiding St kindOf
local macro_rules | `(tactic| walk_at "dl") => `(tactic| simp (config := { failIfUnchanged := false }) only [↓ex_two, ↓ex_three, dFor_eq, updC_at, updC_upd, lstOf_upd, dctOf_upd, dctOf_dct, lstOf_lst, isLst_upd, app_upd, dSeq, dNext, dRet, dRetN, dDrop, dIfS, dNever, dAsg, dPar, dPut, gdName, sz_0, sl_0, sz_1, sl_1, sz_2, sl_2, sz_3, sl_3, sz_4, sl_4, sz_5, sl_5, sz_6, sl_6, sz_7, sl_7, sz_8, sl_8, sz_9, sl_9, sz_10, sl_10, sz_11, sl_11, sz_12, sl_12, sz_13, sl_13, sz_14, sl_14, exists_eq, gdCons_cons, gdNil_nil, gdTup_tup, gdUnl_lst, Nat.succ_eq_add_one, Nat.zero_add, dAnd, dOr, dNot, dTest, dAndV, dOrV, dNotV, dIf, dChain, dOp, dUn, dFn, dCall, dNil, dCons, dVar, dC, dTup, dLst, dLstC, dDct0, dDct0C, dPart, dNoPart, dSlice, dLc, dLcC, diSeq, diZip, diEnum, diRng1, diRng2, dYes, dMtL, dSetd, dFrz,
  dstart, List.map, List.replicate, List.length, List.append, List.cons_append, List.nil_append, List.append_nil, List.getElem?_cons_zero, List.getElem?_cons_succ, Option.some.injEq, exists_eq_left', exists_eq_left, wipeD,
  List.cons.injEq, and_true, true_and, D.bl.injEq, D.int.injEq, D.str.injEq, D.tup.injEq, D.lst.injEq, D.dct.injEq, if_true, if_false, Bool.false_eq_true, Bool.not_true, Bool.not_false, Bool.not_not, ite_true, ite_false, reduceIte, List.set_cons_zero, List.set_cons_succ, Option.map_some, Option.isSome_some, and_false, false_and, exists_const,
  slOk_tup, itOf_tup, itOf_lst, itOf_str, itOf_dct, cutL_1, oLe_int, oLt_int, oGe_int, oGt_int, oAdd_int, oSub_int, oIs_non, oIsNot_non, oLen_tup, oLen_lst, oIx_tup, oIx_lst, atI_0, atI_1, atI_2, atI_3, atI_m1, atI_cast, oIn_str, oEq_int, oNe_int, oEq_bl, ex_some,
  bl_and, bl_or, bl_andT, bl_orT, Nat.sub_self, Nat.add_sub_cancel, Nat.reduceSub, Nat.reduceAdd])
theorem wants_none : ∀ (l r : List D) (b0 : List D), wantsBs b0 l = none → wantsBs b0 (l ++ r) = none := by
  intro l
  induction l with
  | nil => intro r b0 e; cases e
  | cons v l ih =>
    intro r b0 e
    rw [List.cons_append, wantsBs_cons]
    rw [wantsBs_cons] at e
    split
    · rename_i g; rw [if_pos g] at e; exact ih r _ e
    · rfl
theorem want_at {ws bs : List D} {j : Nat} {w : D} (hb : wantsBs [] ws = some bs) (hj : ws[j]? = some w) : ∃ b, wantsBs [] (ws.take j) = some b ∧ isWantD w b = true := by
  have hx : wantsBs [] (ws.take (j + 1)) ≠ none := fun e => by
    have := wants_none _ (ws.drop (j + 1)) _ e
    rw [List.take_append_drop, hb] at this
    cases this
  rw [take_snoc hj, wantsBs_snoc] at hx
  cases e : wantsBs [] (ws.take j) with
  | none => rw [e] at hx; exact absurd rfl hx
  | some b =>
    rw [e] at hx
    refine ⟨b, rfl, ?_⟩
    cases e2 : isWantD w b with
    | true => rfl
    | false => simp [e2] at hx
/-! ### stuck -/
/-- the first number of fewer than n of which p holds -/
def firstJ (p : Nat → Bool) : Nat → D
  | 0 => .non
  | n + 1 => match firstJ p n with
    | .non => if p n = true then .int (n : Nat) else .non
    | d => d
theorem firstJ_none {p : Nat → Bool} : ∀ {n : Nat}, (∀ j < n, p j = false) → firstJ p n = .non
  | 0, _ => rfl
  | n + 1, h => by
    unfold firstJ
    rw [firstJ_none fun j hj => h j (by omega)]
    simp [h n (by omega)]
theorem firstJ_some {p : Nat → Bool} {i : Nat} (hi : p i = true) (hb : ∀ j < i, p j = false) : ∀ {n : Nat}, i < n → firstJ p n = .int (i : Nat)
  | 0, h => by omega
  | n + 1, h => by
    unfold firstJ
    by_cases e : i = n
    · subst e
      rw [firstJ_none hb]
      simp [hi]
    · rw [firstJ_some hi hb (n := n) (by omega)]
theorem firstJ_congr {p q : Nat → Bool} : ∀ {n : Nat}, (∀ j < n, p j = q j) → firstJ p n = firstJ q n
  | 0, _ => rfl
  | n + 1, h => by
    unfold firstJ
    rw [firstJ_congr fun j hj => h j (by omega), h n (by omega)]
theorem firstJ_cases (p : Nat → Bool) : ∀ n : Nat, firstJ p n = .non ∧ (∀ j < n, p j = false) ∨ ∃ i : Nat, firstJ p n = .int (i : Nat) ∧ i < n
  | 0 => .inl ⟨rfl, fun j h => by omega⟩
  | n + 1 => by
    rcases firstJ_cases p n with ⟨h1, h2⟩ | ⟨i, h1, h2⟩
    · unfold firstJ
      rw [h1]
      cases e : p n with
      | true => exact .inr ⟨n, by simp, by omega⟩
      | false =>
        refine .inl ⟨by simp, fun j hj => ?_⟩
        by_cases e2 : j = n
        · rw [e2]; exact e
        · exact h2 j (by omega)
    · unfold firstJ
      rw [h1]
      exact .inr ⟨i, rfl, by omega⟩
/-- nothing gets by the first j + 1 wants -/
def noWay (its : List (Int × D)) (ws : List D) (j : Nat) : Bool := (ways its [([], [])] (ws.take (j + 1))).isEmpty
def a_stuck : ASp := fun ds C R => ∃ rs ts i n m ws q, ds = [.tup rs, .lst ts, .int (i : Nat)] ∧ datD 50 (.tup rs) = true ∧ rs ≠ [] ∧ rs.length ≤ 8 ∧ rulesOk [] rs = true ∧ (∀ t ∈ ts, ThOk t) ∧ ts.length ≤ 11 ∧ rs[i]? = some (.tup [n, m, .tup ws, q]) ∧ R (firstJ (noWay (numIt (distinctD ts)) ws) ws.length) C
theorem eq_nil {xs : List D} {C : Cells} {R : D → Cells → Prop} (h : xs = [] ∨ xs ≠ []) : oEq (.lst xs) (.lst []) C R = R (.bl xs.isEmpty) C := by
  cases xs with
  | nil => rw [oEq_ok (show okD 60 (D.lst []) = true from rfl) (show okD 60 (D.lst []) = true from rfl)]; rfl
  | cons x xs =>
    unfold oEq
    have e : eqO C (.lst (x :: xs)) (.lst []) = some false := by
      unfold eqO
      split
      · simp [D.eqv, D.eqvL]
      · simp [DL.lstOf]
    rw [e]
    simp
theorem rd_stuck : ∀ ds C R, a_stuck ds C R → t_stuck a_need_rules a_need_things a_is_number a_numbered a_passed { nx := fun _ C' => R .non C', rt := R } (dstart ["rules", "things", "number", "some", "at", "want"] ds) C := by
  rintro ds C R ⟨rs, ts, i, n, m, ws, q, rfl, hd, hne, hl, hok, hts, htl, hi, h⟩
  unfold t_stuck
  have hil : i < rs.length := (List.getElem?_eq_some_iff.mp hi).1
  have hrd := datD_item hd (List.mem_of_getElem? hi)
  obtain ⟨_, _, _, _, bs, e, hb, hl5⟩ := (rules_ok_all (fun r hr => datD_item hd hr) hok _ (List.mem_of_getElem? hi)).sh
  cases e
  walk_at "dl"
  refine ⟨rs, rfl, hd, hne, hl, hok, ?_⟩
  walk_at "dl"
  refine ⟨ts, rfl, hts, by omega, ?_⟩
  walk_at "dl"
  refine ⟨.int (i : Nat), 0, (rs.length : Int) - 1, rfl, rfl, ?_⟩
  rw [show isNumD (.int (i : Nat)) 0 ((rs.length : Int) - 1) = true by simp only [isNumD, Bool.and_eq_true, decide_eq_true_eq]; omega]
  walk_at "dl"
  refine ⟨_, hi, ?_⟩
  walk_at "dl"
  have hwd : datD 50 (.tup ws) = true := datD_item hrd (by simp)
  have hits : ∀ it ∈ numIt (distinctD ts), ThOk it.2 := fun it hit => by
    have : it.2 ∈ (numIt (distinctD ts)).map (·.2) := List.mem_map.mpr ⟨it, hit, rfl⟩
    rw [numIt_snd] at this
    exact hts _ (distinct_mem this)
  have hdl := distinct_len ts
  have hm5 : (max 1 (numIt (distinctD ts)).length) ^ 5 ≤ 161051 := by
    have : max 1 (numIt (distinctD ts)).length ≤ 11 := by rw [numIt_len]; omega
    exact Nat.le_trans (Nat.pow_le_pow_left this 5) (by decide)
  obtain ⟨Pv, hPv⟩ : ∃ Pv : Nat → DSt → Cells → Prop, ∀ j δ C', Pv j δ C' ↔ ∃ o1 o2, δ = [some (.tup rs), some (.lst ts), some (.int (i : Nat)), some (.lst ((ways (numIt (distinctD ts)) [([], [])] (ws.take j)).map sD)), o1, o2] ∧ C' = C ∧ ∀ k < j, noWay (numIt (distinctD ts)) ws k = false := ⟨_, fun _ _ _ => Iff.rfl⟩
  refine ⟨rfl, for_enum (x := .tup ws) (ds := ws) (fun _ => rfl) Pv ((hPv _ _ _).mpr ⟨none, none, rfl, rfl, fun k hk => by omega⟩) (fun j w δ C' hj hv => ?_) (fun δ C' hv => ?_)⟩
  · obtain ⟨o1, o2, rfl, rfl, hno⟩ := (hPv _ _ _).mp hv
    have hjl : j < ws.length := (List.getElem?_eq_some_iff.mp hj).1
    walk_at "dl"
    obtain ⟨b, hb1, hw⟩ := want_at hb hj
    have hw5 := ways_ok hits hb1 (by have := len_take ws j; omega)
    refine ⟨ts, rfl, fun t ht => (hts t ht).1, by omega, ?_⟩
    walk_at "dl"
    refine ⟨w, b, ways (numIt (distinctD ts)) [([], [])] (ws.take j), numIt (distinctD ts), rfl, datD_item hwd (List.mem_of_getElem? hj), hw, fun s hs => ⟨(hw5.1 s hs).1, by have := (hw5.1 s hs).2.1; have := len_take ws j; omega⟩, hits, by rw [numIt_len]; omega, ?_, ?_⟩
    · have h1 := hw5.2
      have h2 : (ws.take j).length ≤ 4 := by rw [List.length_take]; omega
      have h3 : (max 1 (numIt (distinctD ts)).length) ^ (ws.take j).length ≤ (max 1 (numIt (distinctD ts)).length) ^ 4 := Nat.pow_le_pow_right (by omega) h2
      have h4 := Nat.mul_le_mul_right (max 1 (numIt (distinctD ts)).length) (Nat.le_trans h1 h3)
      have h5 : (max 1 (numIt (distinctD ts)).length) ^ 4 * max 1 (numIt (distinctD ts)).length = (max 1 (numIt (distinctD ts)).length) ^ 5 := (Nat.pow_succ _ _).symm
      exact Nat.le_trans h4 (by rw [h5]; exact Nat.le_trans hm5 (by decide))
    · rw [← ways_snoc, ← take_snoc hj]
      walk_at "dl"
      rw [eq_nil (Classical.em _)]
      have e3 : ((ways (numIt (distinctD ts)) [([], [])] (ws.take (j + 1))).map sD).isEmpty = noWay (numIt (distinctD ts)) ws j := by unfold noWay; rw [List.isEmpty_map]
      rw [e3]
      cases e4 : noWay (numIt (distinctD ts)) ws j with
      | true =>
        walk_at "dl"
        rw [firstJ_some e4 hno hjl] at h
        exact h
      | false =>
        walk_at "dl"
        refine (hPv _ _ _).mpr ⟨some (.int (j : Nat)), some w, rfl, rfl, fun k hk => ?_⟩
        by_cases e5 : k = j
        · rw [e5]; exact e4
        · exact hno k (by omega)
  · obtain ⟨o1, o2, rfl, rfl, hno⟩ := (hPv _ _ _).mp hv
    walk_at "dl"
    rw [firstJ_none hno] at h
    exact h
/-! ### what is known depends on the things alone, not on how often they are there -/
theorem mem_passS {w : D} {its1 its2 : List (Int × D)} (h : ∀ t, (∃ n, (n, t) ∈ its1) → ∃ n, (n, t) ∈ its2) (h' : ∀ t, (∃ n, (n, t) ∈ its2) → ∃ n, (n, t) ∈ its1) {s1 s2 : S1} (hs : s1.2 = s2.2) {k : Kn} (hk : k ∈ (passS w its1 s1).map (·.2)) : k ∈ (passS w its2 s2).map (·.2) := by
  obtain ⟨s, hs1, rfl⟩ := List.mem_map.mp hk
  unfold passS at hs1 ⊢
  rw [hs] at hs1
  split at hs1
  · split at hs1
    · rename_i hz
      obtain ⟨it, hit, e⟩ := List.mem_filterMap.mp hs1
      obtain ⟨k2, e1, e2⟩ := Option.map_eq_some_iff.mp e
      subst e2
      obtain ⟨n, hn⟩ := h it.2 ⟨it.1, hit⟩
      refine List.mem_map.mpr ⟨(s2.1 ++ [n], k2), ?_, rfl⟩
      simp only [hz, if_true]
      exact List.mem_filterMap.mpr ⟨(n, it.2), hn, by simp [e1]⟩
    · rename_i hz
      split at hs1
      · rename_i ha
        have ha2 : (its2.all fun it => (fittedD _ it.2 s2.2).isNone) = true := List.all_eq_true.mpr fun it hit => by
          obtain ⟨n, hn⟩ := h' it.2 ⟨it.1, hit⟩
          exact List.all_eq_true.mp ha (n, it.2) hn
        rw [List.mem_singleton.mp hs1, hs]
        simp only [hz, ha2]
        simp
      · cases hs1
  · split at hs1
    · split at hs1
      · rename_i e1 e2 hh
        rw [List.mem_singleton.mp hs1, hs]
        simp [hh]
      · cases hs1
    · cases hs1
  · cases hs1
theorem mem_ways {its1 its2 : List (Int × D)} (h : ∀ t, (∃ n, (n, t) ∈ its1) → ∃ n, (n, t) ∈ its2) (h' : ∀ t, (∃ n, (n, t) ∈ its2) → ∃ n, (n, t) ∈ its1) : ∀ (ws : List D) (ss1 ss2 : List S1), (∀ k, k ∈ ss1.map (·.2) → k ∈ ss2.map (·.2)) → ∀ k, k ∈ (ways its1 ss1 ws).map (·.2) → k ∈ (ways its2 ss2 ws).map (·.2)
  | [], ss1, ss2, hs, k, hk => hs k hk
  | w :: ws, ss1, ss2, hs, k, hk => by
    refine mem_ways h h' ws (ss1.flatMap (passS w its1)) (ss2.flatMap (passS w its2)) (fun k hk => ?_) k hk
    obtain ⟨s, hs1, rfl⟩ := List.mem_map.mp hk
    obtain ⟨s0, h0, h1⟩ := List.mem_flatMap.mp hs1
    obtain ⟨s3, h3, e3⟩ := List.mem_map.mp (hs s0.2 (List.mem_map.mpr ⟨s0, h0, rfl⟩))
    obtain ⟨s4, h4, e4⟩ := List.mem_map.mp (mem_passS h h' (s1 := s0) (s2 := s3) e3.symm (List.mem_map.mpr ⟨s, h1, rfl⟩))
    exact List.mem_map.mpr ⟨s4, List.mem_flatMap.mpr ⟨s3, h3, h4⟩, e4⟩
theorem ways_empty {its1 its2 : List (Int × D)} (h : ∀ t, (∃ n, (n, t) ∈ its1) ↔ ∃ n, (n, t) ∈ its2) (ws : List D) (ss : List S1) : (ways its1 ss ws).isEmpty = (ways its2 ss ws).isEmpty := by
  have half : ∀ {i1 i2 : List (Int × D)}, (∀ t, (∃ n, (n, t) ∈ i1) ↔ ∃ n, (n, t) ∈ i2) → ways i1 ss ws = [] → ways i2 ss ws = [] := fun {i1 i2} h e => by
    cases e2 : ways i2 ss ws with
    | nil => rfl
    | cons a r =>
      exfalso
      have := mem_ways (fun t => (h t).mpr) (fun t => (h t).mp) ws ss ss (fun k hk => hk) a.2 (by rw [e2]; simp)
      rw [e] at this
      cases this
  rw [Bool.eq_iff_iff, List.isEmpty_iff, List.isEmpty_iff]
  exact ⟨half h, half fun t => (h t).symm⟩
theorem numIt_mem {ts : List D} {t : D} : (∃ n, (n, t) ∈ numIt ts) ↔ t ∈ ts := by
  constructor
  · rintro ⟨n, hn⟩
    have : t ∈ (numIt ts).map (·.2) := List.mem_map.mpr ⟨_, hn, rfl⟩
    rwa [numIt_snd] at this
  · intro ht
    rw [← numIt_snd ts] at ht
    obtain ⟨it, hit, rfl⟩ := List.mem_map.mp ht
    exact ⟨it.1, hit⟩
theorem worths_clean : ∀ d ∈ WORTHS ++ HEADS, clean 5 d = true := by decide +kernel
theorem thing_clean {t : D} (h : ThingOk t) : clean 6 t = true := by
  obtain ⟨w, ps, rfl, hw, hl, hps⟩ := h
  show (w :: ps).all (clean 5) = true
  rw [List.all_cons, worths_clean w (List.mem_append_right _ hw), Bool.true_and]
  exact List.all_eq_true.mpr fun x hx => worths_clean x (List.mem_append_left _ (hps x hx))
theorem distinct_all {t : D} : ∀ {ts : List D}, (∀ x ∈ ts, ThingOk x) → t ∈ ts → t ∈ distinctD ts := by
  intro ts
  suffices H : ∀ n (ts : List D), ts.length = n → (∀ x ∈ ts, ThingOk x) → t ∈ ts → t ∈ distinctD ts from H _ ts rfl
  intro n
  induction n with
  | zero => intro ts hl hx h; obtain rfl := List.length_eq_zero_iff.mp hl; exact h
  | succ n ih =>
    intro ts hl hx h
    obtain ⟨ts, u, rfl⟩ : ∃ l x, ts = l ++ [x] := ⟨ts.dropLast, ts.getLast (by intro e; subst e; cases hl), (List.dropLast_concat_getLast _).symm⟩
    rw [List.length_append, List.length_singleton] at hl
    rw [distinct_snoc]
    have hx1 : ∀ x ∈ ts, ThingOk x := fun x h => hx x (List.mem_append_left _ h)
    split
    · rename_i hm
      rcases List.mem_append.mp h with h | h
      · exact ih ts (by omega) hx1 h
      · rw [List.mem_singleton.mp h]
        obtain ⟨z, hz, e⟩ := List.any_eq_true.mp hm
        rw [eqv_clean 6 z u (thing_clean (hx1 z (distinct_mem hz))) (thing_clean (hx u (by simp)))] at e
        rw [← of_decide_eq_true e]
        exact hz
    · rcases List.mem_append.mp h with h | h
      · exact List.mem_append_left _ (ih ts (by omega) hx1 h)
      · exact List.mem_append_right _ h
theorem noWay_distinct {ts ws : List D} (h : ∀ x ∈ ts, ThingOk x) (j : Nat) : noWay (numIt ts) ws j = noWay (numIt (distinctD ts)) ws j := by
  unfold noWay
  refine ways_empty (fun t => ?_) _ _
  rw [numIt_mem, numIt_mem]
  exact ⟨distinct_all h, distinct_mem⟩
end RR
namespace RR
open PySem PySem.Spec L2 DL
open PyProof.Rows hiding St kindOf
local macro_rules | `(tactic| walk_at "dl") => `(tactic| simp (config := { failIfUnchanged := false }) only [↓ex_two, ↓ex_three, dFor_eq, updC_at, updC_upd, lstOf_upd, dctOf_upd, dctOf_dct, lstOf_lst, isLst_upd, app_upd, dSeq, dNext, dRet, dRetN, dDrop, dIfS, dNever, dAsg, dPar, dPut, gdName, sz_0, sl_0, sz_1, sl_1, sz_2, sl_2, sz_3, sl_3, sz_4, sl_4, sz_5, sl_5, sz_6, sl_6, sz_7, sl_7, sz_8, sl_8, sz_9, sl_9, sz_10, sl_10, sz_11, sl_11, sz_12, sl_12, sz_13, sl_13, sz_14, sl_14, exists_eq, gdCons_cons, gdNil_nil, gdTup_tup, gdUnl_lst, Nat.succ_eq_add_one, Nat.zero_add, dAnd, dOr, dNot, dTest, dAndV, dOrV, dNotV, dIf, dChain, dOp, dUn, dFn, dCall, dNil, dCons, dVar, dC, dTup, dLst, dLstC, dDct0, dDct0C, dPart, dNoPart, dSlice, dLc, dLcC, diSeq, diZip, diEnum, diRng1, diRng2, dYes, dMtL, dSetd, dFrz,
  dstart, List.map, List.replicate, List.length, List.append, List.cons_append, List.nil_append, List.append_nil, List.getElem?_cons_zero, List.getElem?_cons_succ, Option.some.injEq, exists_eq_left', exists_eq_left, wipeD,
  List.cons.injEq, and_true, true_and, D.bl.injEq, D.int.injEq, D.str.injEq, D.tup.injEq, D.lst.injEq, D.dct.injEq, if_true, if_false, Bool.false_eq_true, Bool.not_true, Bool.not_false, Bool.not_not, ite_true, ite_false, reduceIte, List.set_cons_zero, List.set_cons_succ, Option.map_some, Option.isSome_some, and_false, false_and, exists_const,
  slOk_tup, itOf_tup, itOf_lst, itOf_str, itOf_dct, cutL_1, oLe_int, oLt_int, oGe_int, oGt_int, oAdd_int, oSub_int, oIs_non, oIsNot_non, oLen_tup, oLen_lst, oIx_tup, oIx_lst, atI_0, atI_1, atI_2, atI_3, atI_m1, atI_cast, oIn_str, oEq_int, oNe_int, oEq_bl, ex_some,
  bl_and, bl_or, bl_andT, bl_orT, Nat.sub_self, Nat.add_sub_cancel, Nat.reduceSub, Nat.reduceAdd])
theorem lst_dat2 {ts : List D} (h : ∀ t ∈ ts, ThingOk t) (hl : ts.length ≤ 100) : datD 51 (.lst ts) = true := lst_dat h hl
def a_law : ASp := fun ds C R => ∃ s : List Int, ds = [.lst (s.map .int)] ∧ s.length ≤ 100000 ∧ ∀ C', R (.bl true) C'
theorem rd_law : ∀ ds C R, a_law ds C R → t_law a__law_row a__law_rules a__law_taken a__law_thing (a__law_found 6) a_stuck (a__law_alike 1) { nx := fun _ C' => R .non C', rt := R } (dstart ["_law_script", "_law_row_here", "_law_turn", "_law_rules_here", "_law_things", "_law_kept", "_law_number", "_law_wants", "_law_due", "_law_k"] ds) C := by
  rintro ds C R ⟨s, rfl, hs, h⟩
  unfold t_law
  walk_at "dl"
  refine ⟨s, rfl, hs, fun p c hp hc => ?_⟩
  walk_at "dl"
  refine ⟨by omega, by omega, ?_⟩
  obtain ⟨Pv, hPv⟩ : ∃ Pv : Nat → DSt → Cells → Prop, ∀ i δ C', Pv i δ C' ↔ ∃ o2 o3 o4 o5 o6 o7 o8 o9 c, δ = [some (.lst (s.map .int)), some (.ref p), o2, o3, o4, o5, o6, o7, o8, o9] ∧ C' p = some (.lst c) ∧ RowSt c := ⟨_, fun _ _ _ => Iff.rfl⟩
  refine for_rng Pv ((hPv _ _ _).mpr ⟨none, none, none, none, none, none, none, none, c, rfl, updC_at, hc⟩) (fun tn δ C' hi hv => ?_) (fun δ C' hv => ?_)
  · obtain ⟨o2, o3, o4, o5, o6, o7, o8, o9, c, rfl, hp1, hc1⟩ := (hPv _ _ _).mp hv
    walk_at "dl"
    refine ⟨p, c, 4, rfl, by omega, by omega, hp1, hc1, fun rs c2 hrs hc2 => ?_⟩
    walk_at "dl"
    refine ⟨p, 10, c2, rfl, by omega, by omega, updC_at, hc2, fun r c3 h0 h1 hc3 => ?_⟩
    walk_at "dl"
    refine ⟨by omega, by omega, ?_⟩
    obtain ⟨Pl, hPl⟩ : ∃ Pl : Nat → List D → Cells → Prop, ∀ i acc C2, Pl i acc C2 ↔ ∃ c', C2 = updC C' p (.lst c') ∧ RowSt c' ∧ acc.length = i ∧ ∀ t ∈ acc, ThingOk t := ⟨_, fun _ _ _ => Iff.rfl⟩
    refine lc_inv (n := r.toNat) Pl (fun i _ hi => hi) (fun _ => Nat.le_refl _) ((hPl _ _ _).mpr ⟨c3, rfl, hc3, rfl, by simp⟩) (fun i d acc C2 hi hy hv => ?_) (fun acc C2 hv => ?_)
    · obtain ⟨c4, rfl, hc4, hal, hat⟩ := (hPl _ _ _).mp hv
      walk_at "dl"
      refine ⟨p, c4, rfl, updC_at, hc4, fun v c5 hv5 hc5 => ?_⟩
      rw [DL.updC_upd]
      exact ⟨by rw [sizeLine_eq]; omega, (hPl _ _ _).mpr ⟨c5, rfl, hc5, by simp [hal], mem_snoc hat hv5⟩⟩
    · obtain ⟨c4, rfl, hc4, htl, hts⟩ := (hPl _ _ _).mp hv
      have htl11 : acc.length ≤ 11 := by omega
      generalize acc = ts at htl hts htl11
      have hC2 : updC C' p (.lst c4) p = some (.lst c4) := updC_at
      generalize updC C' p (.lst c4) = C2 at hC2
      walk_at "dl"
      refine ⟨by omega, by omega, ?_⟩
      have hits : ItsOk (numIt ts) := ⟨numIt_nd _, fun it hit => hts _ (by
        have : it.2 ∈ (numIt ts).map (·.2) := List.mem_map.mpr ⟨it, hit, rfl⟩
        rwa [numIt_snd] at this), by rw [numIt_len]; exact htl11⟩
      refine lc_inv (n := ((ts.length : Nat) : Int).toNat) (fun i acc C3 => C3 = C2 ∧ acc = ((numIt ts).take i).map itD) (fun i _ hi => hi) (fun _ => Nat.le_refl _) ⟨rfl, by simp⟩ (fun i d acc C3 hi hy hv => ?_) (fun acc C3 hv => ?_)
      · obtain ⟨rfl, rfl⟩ := hv
        have hy : d = .int (0 + (i : Int)) := hy
        subst hy
        have hil : i < ts.length := by omega
        have hni : (numIt ts)[i]? = some ((i : Int), ts[i]) := by
          unfold numIt
          rw [List.getElem?_map, List.getElem?_zipIdx, List.getElem?_eq_getElem hil]
          simp
        walk_at "dl"
        simp only [Int.zero_add, atI_cast]
        refine ⟨ts[i], List.getElem?_eq_getElem hil, ?_⟩
        walk_at "dl"
        refine ⟨by rw [List.length_map, sizeLine_eq]; have := len_take (numIt ts) i; rw [numIt_len] at this; omega, ?_⟩
        rw [take_snoc hni, List.map_append]
        exact rfl
      · obtain ⟨rfl, rfl⟩ := hv
        rw [show (((ts.length : Nat) : Int)).toNat = (numIt ts).length by rw [numIt_len]; omega, List.take_length]
        walk_at "dl"
        rw [oDictP_def]
        refine ⟨_, _, rfl, pairs_dI _, ?_⟩
        rw [merge_nd _ _ (by rw [List.nil_append]; exact dI_keys hits.nd), List.nil_append]
        walk_at "dl"
        have hrl := hrs.2.1
        simp only [Int.zero_add]
        refine ⟨by omega, by omega, ?_⟩
        obtain ⟨Pz, hPz⟩ : ∃ Pz : Nat → DSt → Cells → Prop, ∀ i δ C', Pz i δ C' ↔ ∃ o6 o7 o8 o9 c, δ = [some (.lst (s.map .int)), some (.ref p), some (.int (tn : Int)), some (.tup rs), some (.lst ts), some (.dct (dI (numIt ts))), o6, o7, o8, o9] ∧ C' p = some (.lst c) ∧ RowSt c := ⟨_, fun _ _ _ => Iff.rfl⟩
        refine for_rng Pz ((hPz _ _ _).mpr ⟨_, _, _, _, _, rfl, hC2, hc4⟩) (fun i δ C' hi hv => ?_) (fun δ C' hv => ?_)
        · obtain ⟨o6, o7, o8, o9, c6, rfl, hp6, hc6⟩ := (hPz _ _ _).mp hv
          have hil : i < rs.length := by omega
          have hir : rs[i]? = some rs[i] := List.getElem?_eq_getElem hil
          generalize rs[i] = r at hir
          obtain ⟨nm, _, hg⟩ := hrs.2.2 i r hir
          obtain ⟨m, ws, qs, kn, rfl, g1, g2, hws, g3, g4, g5, g6, g7⟩ := hg.sh
          walk_at "dl"
          simp only [Int.zero_add, atI_cast]
          refine ⟨_, hir, ?_⟩
          walk_at "dl"
          refine ⟨by omega, by omega, ?_⟩
          obtain ⟨Pk, hPk⟩ : ∃ Pk : Nat → DSt → Cells → Prop, ∀ j δ C3, Pk j δ C3 ↔ ∃ o9, δ = [some (.lst (s.map .int)), some (.ref p), some (.int (tn : Int)), some (.tup rs), some (.lst ts), some (.dct (dI (numIt ts))), some (.int (i : Nat)), some (.tup ws), some (firstJ (noWay (numIt ts) ws) j), o9] ∧ C3 = C' := ⟨_, fun _ _ _ => Iff.rfl⟩
          refine for_rng Pk ((hPk _ _ _).mpr ⟨_, rfl, rfl⟩) (fun j δ C3 hj hv => ?_) (fun δ C3 hv => ?_)
          · obtain ⟨o9, rfl, rfl⟩ := (hPk _ _ _).mp hv
            have hjl : j < ws.length := by omega
            walk_at "dl"
            have next : ∀ d, d = firstJ (noWay (numIt ts) ws) (j + 1) → Pk (j + 1) [some (.lst (s.map .int)), some (.ref p), some (.int (tn : Int)), some (.tup rs), some (.lst ts), some (.dct (dI (numIt ts))), some (.int (i : Nat)), some (.tup ws), some d, some (.int (0 + (j : Int)))] C3 := fun d e => by
              subst e
              exact (hPk _ _ _).mpr ⟨_, rfl, rfl⟩
            rcases firstJ_cases (noWay (numIt ts) ws) j with ⟨e1, e2⟩ | ⟨i2, e1, e2⟩
            · rw [e1]
              have en : DL.isNon .non = true := rfl
              rw [en]
              walk_at "dl"
              have ec : cutL ws none (some (0 + (j : Int) + 1)) = ws.take (j + 1) := by
                rw [show (0 + (j : Int) + 1) = ((j + 1 : Nat) : Int) by omega]
                exact cutL_take ws (j + 1)
              rw [ec]
              have hwj : wantsBs [] (ws.take (j + 1)) ≠ none := fun e => by
                have := wants_none _ (ws.drop (j + 1)) _ e
                rw [List.take_append_drop, hws.bs] at this
                cases this
              cases ebs : wantsBs [] (ws.take (j + 1)) with
              | none => exact absurd ebs hwj
              | some bs =>
                have htk : (ws.take (j + 1)).length ≤ 5 := by rw [List.length_take]; omega
                refine ⟨ws.take (j + 1), numIt ts, [], [], [], bs, rfl, by omega, by omega, fun x hx => hws.all x (List.mem_of_mem_take hx), ebs, ws_for, knl_nil, by simp; omega, by simp; omega, hits, ?_⟩
                walk_at "dl"
                rw [eq_nil (Classical.em _)]
                have e3 : ((ways (numIt ts) [([], [])] (ws.take (j + 1))).map sD).isEmpty = noWay (numIt ts) ws j := by unfold noWay; rw [List.isEmpty_map]
                rw [e3]
                cases e4 : noWay (numIt ts) ws j with
                | true =>
                  walk_at "dl"
                  have := next (.int (0 + (j : Int))) (by unfold firstJ; rw [e1]; simp [e4])
                  exact this
                | false =>
                  walk_at "dl"
                  exact next .non (by unfold firstJ; rw [e1]; simp [e4])
            · rw [e1]
              have en : DL.isNon (.int (i2 : Nat)) = false := rfl
              rw [en]
              walk_at "dl"
              exact next (.int (i2 : Nat)) (by unfold firstJ; rw [e1])
          · obtain ⟨o9, rfl, rfl⟩ := (hPk _ _ _).mp hv
            rw [show (((ws.length : Nat) : Int)).toNat = ws.length by omega]
            walk_at "dl"
            have hgood := rules_good hrs
            refine ⟨rs, ts, i, _, _, ws, _, rfl, hgood.2, hrs.1, by omega, hgood.1, fun t ht => thing_ok (hts t ht), htl11, hir, ?_⟩
            have ef : firstJ (noWay (numIt (distinctD ts)) ws) ws.length = firstJ (noWay (numIt ts) ws) ws.length := firstJ_congr fun j _ => (noWay_distinct hts j).symm
            rw [ef]
            refine ⟨_, _, 0, rfl, rfl, by omega, ?_, .inl rfl, ?_⟩
            · rcases firstJ_cases (noWay (numIt ts) ws) ws.length with ⟨e1, _⟩ | ⟨i2, e1, _⟩ <;> (rw [e1]; rfl)
            · walk_at "dl"
              exact (hPz _ _ _).mpr ⟨_, _, _, _, c6, rfl, hp6, hc6⟩
        · obtain ⟨o6, o7, o8, o9, c6, rfl, hp6, hc6⟩ := (hPz _ _ _).mp hv
          exact (hPv _ _ _).mpr ⟨_, _, _, _, _, _, _, _, c6, rfl, hp6, hc6⟩
  · exact h C'
end RR
namespace RR
open PySem PySem.Spec L2 DL
open PyProof.Rows hiding St
def top (i : Nat) : Stmt := PySem.Challenge.pw_ruleroom_k05_why_a_rule_has_no_match.main.body.getD i (.Pass ⟨0, 0, 0, 0⟩)
abbrev s_is_number : Stmt := top 13
abbrev N_is_number : List Str := ["part", "low", "high"]
theorem sc_is_number : FnScope N_is_number ["part", "low", "high"] (defScope s_is_number) := ⟨rfl, rfl, rfl, by decide +kernel, rfl, by decide +kernel, by decide +kernel⟩
abbrev s_is_word : Stmt := top 14
abbrev N_is_word : List Str := ["part", "sign"]
theorem sc_is_word : FnScope N_is_word ["part"] (defScope s_is_word) := ⟨rfl, rfl, rfl, by decide +kernel, rfl, by decide +kernel, by decide +kernel⟩
abbrev s_is_worth : Stmt := top 15
abbrev N_is_worth : List Str := ["part"]
theorem sc_is_worth : FnScope N_is_worth ["part"] (defScope s_is_worth) := ⟨rfl, rfl, rfl, by decide +kernel, rfl, by decide +kernel, by decide +kernel⟩
abbrev s_is_blank : Stmt := top 16
abbrev N_is_blank : List Str := ["part"]
theorem sc_is_blank : FnScope N_is_blank ["part"] (defScope s_is_blank) := ⟨rfl, rfl, rfl, by decide +kernel, rfl, by decide +kernel, by decide +kernel⟩
abbrev s_is_thing : Stmt := top 17
abbrev N_is_thing : List Str := ["part", "one"]
theorem sc_is_thing : FnScope N_is_thing ["part"] (defScope s_is_thing) := ⟨rfl, rfl, rfl, by decide +kernel, rfl, by decide +kernel, by decide +kernel⟩
abbrev s_is_pattern : Stmt := top 18
abbrev N_is_pattern : List Str := ["part", "one"]
theorem sc_is_pattern : FnScope N_is_pattern ["part"] (defScope s_is_pattern) := ⟨rfl, rfl, rfl, by decide +kernel, rfl, by decide +kernel, by decide +kernel⟩
abbrev s_need_things : Stmt := top 19
abbrev N_need_things : List Str := ["things", "number", "thing"]
theorem sc_need_things : FnScope N_need_things ["things"] (defScope s_need_things) := ⟨rfl, rfl, rfl, by decide +kernel, rfl, by decide +kernel, by decide +kernel⟩
abbrev s_are_same : Stmt := top 20
abbrev N_are_same : List Str := ["one", "other"]
theorem sc_are_same : FnScope N_are_same ["one", "other"] (defScope s_are_same) := ⟨rfl, rfl, rfl, by decide +kernel, rfl, by decide +kernel, by decide +kernel⟩
abbrev s_is_alike : Stmt := top 21
abbrev N_is_alike : List Str := ["pattern", "thing"]
theorem sc_is_alike : FnScope N_is_alike ["pattern", "thing"] (defScope s_is_alike) := ⟨rfl, rfl, rfl, by decide +kernel, rfl, by decide +kernel, by decide +kernel⟩
abbrev s_fitted : Stmt := top 22
abbrev N_fitted : List Str := ["pattern", "thing", "known", "found", "part", "worth"]
theorem sc_fitted : FnScope N_fitted ["pattern", "thing", "known"] (defScope s_fitted) := ⟨rfl, rfl, rfl, by decide +kernel, rfl, by decide +kernel, by decide +kernel⟩
abbrev s_blanks_of : Stmt := top 33
abbrev N_blanks_of : List Str := ["pattern", "part"]
theorem sc_blanks_of : FnScope N_blanks_of ["pattern"] (defScope s_blanks_of) := ⟨rfl, rfl, rfl, by decide +kernel, rfl, by decide +kernel, by decide +kernel⟩
abbrev s_is_side : Stmt := top 34
abbrev N_is_side : List Str := ["part", "known"]
theorem sc_is_side : FnScope N_is_side ["part", "known"] (defScope s_is_side) := ⟨rfl, rfl, rfl, by decide +kernel, rfl, by decide +kernel, by decide +kernel⟩
abbrev s_is_want : Stmt := top 35
abbrev N_is_want : List Str := ["want", "known", "part"]
theorem sc_is_want : FnScope N_is_want ["want", "known"] (defScope s_is_want) := ⟨rfl, rfl, rfl, by decide +kernel, rfl, by decide +kernel, by decide +kernel⟩
abbrev s_is_template : Stmt := top 36
abbrev N_is_template : List Str := ["part", "known", "one"]
theorem sc_is_template : FnScope N_is_template ["part", "known"] (defScope s_is_template) := ⟨rfl, rfl, rfl, by decide +kernel, rfl, by decide +kernel, by decide +kernel⟩
abbrev s_is_deed : Stmt := top 37
abbrev N_is_deed : List Str := ["deed", "wants", "known"]
theorem sc_is_deed : FnScope N_is_deed ["deed", "wants", "known"] (defScope s_is_deed) := ⟨rfl, rfl, rfl, by decide +kernel, rfl, by decide +kernel, by decide +kernel⟩
abbrev s_bad_part : Stmt := top 38
abbrev N_bad_part : List Str := ["rule", "names", "name", "rank", "wants", "deeds", "known", "number", "want", "deed"]
theorem sc_bad_part : FnScope N_bad_part ["rule", "names"] (defScope s_bad_part) := ⟨rfl, rfl, rfl, by decide +kernel, rfl, by decide +kernel, by decide +kernel⟩
abbrev s_need_rules : Stmt := top 39
abbrev N_need_rules : List Str := ["rules", "names", "number", "rule", "part"]
theorem sc_need_rules : FnScope N_need_rules ["rules"] (defScope s_need_rules) := ⟨rfl, rfl, rfl, by decide +kernel, rfl, by decide +kernel, by decide +kernel⟩
abbrev s_side_of : Stmt := top 40
abbrev N_side_of : List Str := ["part", "known"]
theorem sc_side_of : FnScope N_side_of ["part", "known"] (defScope s_side_of) := ⟨rfl, rfl, rfl, by decide +kernel, rfl, by decide +kernel, by decide +kernel⟩
abbrev s_holds : Stmt := top 41
abbrev N_holds : List Str := ["test", "known", "one", "other"]
theorem sc_holds : FnScope N_holds ["test", "known"] (defScope s_holds) := ⟨rfl, rfl, rfl, by decide +kernel, rfl, by decide +kernel, by decide +kernel⟩
abbrev s_passed : Stmt := top 43
abbrev N_passed : List Str := ["want", "some", "things", "found", "numbers", "known", "number", "thing", "more"]
theorem sc_passed : FnScope N_passed ["want", "some", "things"] (defScope s_passed) := ⟨rfl, rfl, rfl, by decide +kernel, rfl, by decide +kernel, by decide +kernel⟩
abbrev s_numbered : Stmt := top 44
abbrev N_numbered : List Str := ["things", "found", "thing", "number", "one"]
theorem sc_numbered : FnScope N_numbered ["things"] (defScope s_numbered) := ⟨rfl, rfl, rfl, by decide +kernel, rfl, by decide +kernel, by decide +kernel⟩
abbrev s_stuck : Stmt := top 45
abbrev N_stuck : List Str := ["rules", "things", "number", "some", "at", "want"]
theorem sc_stuck : FnScope N_stuck ["rules", "things", "number"] (defScope s_stuck) := ⟨rfl, rfl, rfl, by decide +kernel, rfl, by decide +kernel, by decide +kernel⟩
abbrev s__law_row : Stmt := top 47
abbrev N__law_row : List Str := ["_law_script", "_law_mixed", "_law_cell"]
theorem sc__law_row : FnScope N__law_row ["_law_script"] (defScope s__law_row) := ⟨rfl, rfl, rfl, by decide +kernel, rfl, by decide +kernel, by decide +kernel⟩
abbrev s__law_taken : Stmt := top 48
abbrev N__law_taken : List Str := ["_law_row_here", "_law_many", "_law_found_here", "_law_cell"]
theorem sc__law_taken : FnScope N__law_taken ["_law_row_here", "_law_many"] (defScope s__law_taken) := ⟨rfl, rfl, rfl, by decide +kernel, rfl, by decide +kernel, by decide +kernel⟩
abbrev s__law_worth : Stmt := top 49
abbrev N__law_worth : List Str := ["_law_row_here"]
theorem sc__law_worth : FnScope N__law_worth ["_law_row_here"] (defScope s__law_worth) := ⟨rfl, rfl, rfl, by decide +kernel, rfl, by decide +kernel, by decide +kernel⟩
abbrev s__law_pattern : Stmt := top 50
abbrev N__law_pattern : List Str := ["_law_row_here", "_law_letters_here", "_law_found_here", "_law_k", "_law_some"]
theorem sc__law_pattern : FnScope N__law_pattern ["_law_row_here", "_law_letters_here"] (defScope s__law_pattern) := ⟨rfl, rfl, rfl, by decide +kernel, rfl, by decide +kernel, by decide +kernel⟩
abbrev s__law_letters : Stmt := top 51
abbrev N__law_letters : List Str := ["_law_pattern_here", "_law_part"]
theorem sc__law_letters : FnScope N__law_letters ["_law_pattern_here"] (defScope s__law_letters) := ⟨rfl, rfl, rfl, by decide +kernel, rfl, by decide +kernel, by decide +kernel⟩
abbrev s__law_template : Stmt := top 52
abbrev N__law_template : List Str := ["_law_row_here", "_law_known", "_law_found_here", "_law_k", "_law_part"]
theorem sc__law_template : FnScope N__law_template ["_law_row_here", "_law_known"] (defScope s__law_template) := ⟨rfl, rfl, rfl, by decide +kernel, rfl, by decide +kernel, by decide +kernel⟩
abbrev s__law_rule : Stmt := top 53
abbrev N__law_rule : List Str := ["_law_row_here", "_law_name", "_law_known", "_law_wants", "_law_k", "_law_way", "_law_side", "_law_other", "_law_pair", "_law_places", "_law_deeds"]
theorem sc__law_rule : FnScope N__law_rule ["_law_row_here", "_law_name"] (defScope s__law_rule) := ⟨rfl, rfl, rfl, by decide +kernel, rfl, by decide +kernel, by decide +kernel⟩
abbrev s__law_dense_rule : Stmt := top 54
abbrev N__law_dense_rule : List Str := ["_law_row_here", "_law_name", "_law_known", "_law_wants", "_law_k", "_law_letter", "_law_way", "_law_part", "_law_side", "_law_places", "_law_deeds", "_law_thing_here"]
theorem sc__law_dense_rule : FnScope N__law_dense_rule ["_law_row_here", "_law_name"] (defScope s__law_dense_rule) := ⟨rfl, rfl, rfl, by decide +kernel, rfl, by decide +kernel, by decide +kernel⟩
abbrev s__law_rules : Stmt := top 55
abbrev N__law_rules : List Str := ["_law_row_here", "_law_wished", "_law_names", "_law_dense", "_law_found_here", "_law_k"]
theorem sc__law_rules : FnScope N__law_rules ["_law_row_here", "_law_wished"] (defScope s__law_rules) := ⟨rfl, rfl, rfl, by decide +kernel, rfl, by decide +kernel, by decide +kernel⟩
abbrev s__law_thing : Stmt := top 56
abbrev N__law_thing : List Str := ["_law_row_here", "_law_word", "_law_k"]
theorem sc__law_thing : FnScope N__law_thing ["_law_row_here"] (defScope s__law_thing) := ⟨rfl, rfl, rfl, by decide +kernel, rfl, by decide +kernel, by decide +kernel⟩
abbrev s__law_fit : Stmt := top 57
abbrev N__law_fit : List Str := ["_law_pattern_here", "_law_thing_here", "_law_known", "_law_found_here", "_law_k", "_law_part", "_law_worth_here"]
theorem sc__law_fit : FnScope N__law_fit ["_law_pattern_here", "_law_thing_here", "_law_known"] (defScope s__law_fit) := ⟨rfl, rfl, rfl, by decide +kernel, rfl, by decide +kernel, by decide +kernel⟩
abbrev s__law_holds : Stmt := top 58
abbrev N__law_holds : List Str := ["_law_test", "_law_known", "_law_one", "_law_other", "_law_part"]
theorem sc__law_holds : FnScope N__law_holds ["_law_test", "_law_known"] (defScope s__law_holds) := ⟨rfl, rfl, rfl, by decide +kernel, rfl, by decide +kernel, by decide +kernel⟩
abbrev s__law_found : Stmt := top 59
abbrev N__law_found : List Str := ["_law_wants", "_law_things", "_law_numbers", "_law_known", "_law_word", "_law_rest", "_law_some", "_law_found_here", "_law_number", "_law_more"]
theorem sc__law_found : FnScope N__law_found ["_law_wants", "_law_things", "_law_numbers", "_law_known"] (defScope s__law_found) := ⟨rfl, rfl, rfl, by decide +kernel, rfl, by decide +kernel, by decide +kernel⟩
abbrev s__law_alike : Stmt := top 60
abbrev N__law_alike : List Str := ["_law_found_here", "_law_due", "_law_same_kind", "_law_k"]
theorem sc__law_alike : FnScope N__law_alike ["_law_found_here", "_law_due"] (defScope s__law_alike) := ⟨rfl, rfl, rfl, by decide +kernel, rfl, by decide +kernel, by decide +kernel⟩
abbrev s_law : Stmt := top 61
abbrev N_law : List Str := ["_law_script", "_law_row_here", "_law_turn", "_law_rules_here", "_law_things", "_law_kept", "_law_number", "_law_wants", "_law_due", "_law_k"]
theorem sc_law : FnScope N_law ["_law_script"] (defScope s_law) := ⟨rfl, rfl, rfl, by decide +kernel, rfl, by decide +kernel, by decide +kernel⟩
structure Pk (K : PySem.W.Frag) (mg : Str → Option Value) where
  f_is_number : Addr
  fd_is_number : FuncData
  F_is_number : Fun K "is_number" "is_number" s_is_number f_is_number fd_is_number
  d_is_number : Df K mg "is_number" f_is_number fd_is_number ["part", "low", "high"]
  f_is_word : Addr
  fd_is_word : FuncData
  F_is_word : Fun K "is_word" "is_word" s_is_word f_is_word fd_is_word
  d_is_word : Df K mg "is_word" f_is_word fd_is_word ["part"]
  f_is_worth : Addr
  fd_is_worth : FuncData
  F_is_worth : Fun K "is_worth" "is_worth" s_is_worth f_is_worth fd_is_worth
  d_is_worth : Df K mg "is_worth" f_is_worth fd_is_worth ["part"]
  f_is_blank : Addr
  fd_is_blank : FuncData
  F_is_blank : Fun K "is_blank" "is_blank" s_is_blank f_is_blank fd_is_blank
  d_is_blank : Df K mg "is_blank" f_is_blank fd_is_blank ["part"]
  f_is_thing : Addr
  fd_is_thing : FuncData
  F_is_thing : Fun K "is_thing" "is_thing" s_is_thing f_is_thing fd_is_thing
  d_is_thing : Df K mg "is_thing" f_is_thing fd_is_thing ["part"]
  f_is_pattern : Addr
  fd_is_pattern : FuncData
  F_is_pattern : Fun K "is_pattern" "is_pattern" s_is_pattern f_is_pattern fd_is_pattern
  d_is_pattern : Df K mg "is_pattern" f_is_pattern fd_is_pattern ["part"]
  f_need_things : Addr
  fd_need_things : FuncData
  F_need_things : Fun K "need_things" "need_things" s_need_things f_need_things fd_need_things
  d_need_things : Df K mg "need_things" f_need_things fd_need_things ["things"]
  f_are_same : Addr
  fd_are_same : FuncData
  F_are_same : Fun K "are_same" "are_same" s_are_same f_are_same fd_are_same
  d_are_same : Df K mg "are_same" f_are_same fd_are_same ["one", "other"]
  f_is_alike : Addr
  fd_is_alike : FuncData
  F_is_alike : Fun K "is_alike" "is_alike" s_is_alike f_is_alike fd_is_alike
  d_is_alike : Df K mg "is_alike" f_is_alike fd_is_alike ["pattern", "thing"]
  f_fitted : Addr
  fd_fitted : FuncData
  F_fitted : Fun K "fitted" "fitted" s_fitted f_fitted fd_fitted
  d_fitted : Df K mg "fitted" f_fitted fd_fitted ["pattern", "thing", "known"]
  f_blanks_of : Addr
  fd_blanks_of : FuncData
  F_blanks_of : Fun K "blanks_of" "blanks_of" s_blanks_of f_blanks_of fd_blanks_of
  d_blanks_of : Df K mg "blanks_of" f_blanks_of fd_blanks_of ["pattern"]
  f_is_side : Addr
  fd_is_side : FuncData
  F_is_side : Fun K "is_side" "is_side" s_is_side f_is_side fd_is_side
  d_is_side : Df K mg "is_side" f_is_side fd_is_side ["part", "known"]
  f_is_want : Addr
  fd_is_want : FuncData
  F_is_want : Fun K "is_want" "is_want" s_is_want f_is_want fd_is_want
  d_is_want : Df K mg "is_want" f_is_want fd_is_want ["want", "known"]
  f_is_template : Addr
  fd_is_template : FuncData
  F_is_template : Fun K "is_template" "is_template" s_is_template f_is_template fd_is_template
  d_is_template : Df K mg "is_template" f_is_template fd_is_template ["part", "known"]
  f_is_deed : Addr
  fd_is_deed : FuncData
  F_is_deed : Fun K "is_deed" "is_deed" s_is_deed f_is_deed fd_is_deed
  d_is_deed : Df K mg "is_deed" f_is_deed fd_is_deed ["deed", "wants", "known"]
  f_bad_part : Addr
  fd_bad_part : FuncData
  F_bad_part : Fun K "bad_part" "bad_part" s_bad_part f_bad_part fd_bad_part
  d_bad_part : Df K mg "bad_part" f_bad_part fd_bad_part ["rule", "names"]
  f_need_rules : Addr
  fd_need_rules : FuncData
  F_need_rules : Fun K "need_rules" "need_rules" s_need_rules f_need_rules fd_need_rules
  d_need_rules : Df K mg "need_rules" f_need_rules fd_need_rules ["rules"]
  f_side_of : Addr
  fd_side_of : FuncData
  F_side_of : Fun K "side_of" "side_of" s_side_of f_side_of fd_side_of
  d_side_of : Df K mg "side_of" f_side_of fd_side_of ["part", "known"]
  f_holds : Addr
  fd_holds : FuncData
  F_holds : Fun K "holds" "holds" s_holds f_holds fd_holds
  d_holds : Df K mg "holds" f_holds fd_holds ["test", "known"]
  f_passed : Addr
  fd_passed : FuncData
  F_passed : Fun K "passed" "passed" s_passed f_passed fd_passed
  d_passed : Df K mg "passed" f_passed fd_passed ["want", "some", "things"]
  f_numbered : Addr
  fd_numbered : FuncData
  F_numbered : Fun K "numbered" "numbered" s_numbered f_numbered fd_numbered
  d_numbered : Df K mg "numbered" f_numbered fd_numbered ["things"]
  f_stuck : Addr
  fd_stuck : FuncData
  F_stuck : Fun K "stuck" "stuck" s_stuck f_stuck fd_stuck
  d_stuck : Df K mg "stuck" f_stuck fd_stuck ["rules", "things", "number"]
  f__law_row : Addr
  fd__law_row : FuncData
  F__law_row : Fun K "_law_row" "_law_row" s__law_row f__law_row fd__law_row
  d__law_row : Df K mg "_law_row" f__law_row fd__law_row ["_law_script"]
  f__law_taken : Addr
  fd__law_taken : FuncData
  F__law_taken : Fun K "_law_taken" "_law_taken" s__law_taken f__law_taken fd__law_taken
  d__law_taken : Df K mg "_law_taken" f__law_taken fd__law_taken ["_law_row_here", "_law_many"]
  f__law_worth : Addr
  fd__law_worth : FuncData
  F__law_worth : Fun K "_law_worth" "_law_worth" s__law_worth f__law_worth fd__law_worth
  d__law_worth : Df K mg "_law_worth" f__law_worth fd__law_worth ["_law_row_here"]
  f__law_pattern : Addr
  fd__law_pattern : FuncData
  F__law_pattern : Fun K "_law_pattern" "_law_pattern" s__law_pattern f__law_pattern fd__law_pattern
  d__law_pattern : Df K mg "_law_pattern" f__law_pattern fd__law_pattern ["_law_row_here", "_law_letters_here"]
  f__law_letters : Addr
  fd__law_letters : FuncData
  F__law_letters : Fun K "_law_letters" "_law_letters" s__law_letters f__law_letters fd__law_letters
  d__law_letters : Df K mg "_law_letters" f__law_letters fd__law_letters ["_law_pattern_here"]
  f__law_template : Addr
  fd__law_template : FuncData
  F__law_template : Fun K "_law_template" "_law_template" s__law_template f__law_template fd__law_template
  d__law_template : Df K mg "_law_template" f__law_template fd__law_template ["_law_row_here", "_law_known"]
  f__law_rule : Addr
  fd__law_rule : FuncData
  F__law_rule : Fun K "_law_rule" "_law_rule" s__law_rule f__law_rule fd__law_rule
  d__law_rule : Df K mg "_law_rule" f__law_rule fd__law_rule ["_law_row_here", "_law_name"]
  f__law_dense_rule : Addr
  fd__law_dense_rule : FuncData
  F__law_dense_rule : Fun K "_law_dense_rule" "_law_dense_rule" s__law_dense_rule f__law_dense_rule fd__law_dense_rule
  d__law_dense_rule : Df K mg "_law_dense_rule" f__law_dense_rule fd__law_dense_rule ["_law_row_here", "_law_name"]
  f__law_rules : Addr
  fd__law_rules : FuncData
  F__law_rules : Fun K "_law_rules" "_law_rules" s__law_rules f__law_rules fd__law_rules
  d__law_rules : Df K mg "_law_rules" f__law_rules fd__law_rules ["_law_row_here", "_law_wished"]
  f__law_thing : Addr
  fd__law_thing : FuncData
  F__law_thing : Fun K "_law_thing" "_law_thing" s__law_thing f__law_thing fd__law_thing
  d__law_thing : Df K mg "_law_thing" f__law_thing fd__law_thing ["_law_row_here"]
  f__law_fit : Addr
  fd__law_fit : FuncData
  F__law_fit : Fun K "_law_fit" "_law_fit" s__law_fit f__law_fit fd__law_fit
  d__law_fit : Df K mg "_law_fit" f__law_fit fd__law_fit ["_law_pattern_here", "_law_thing_here", "_law_known"]
  f__law_holds : Addr
  fd__law_holds : FuncData
  F__law_holds : Fun K "_law_holds" "_law_holds" s__law_holds f__law_holds fd__law_holds
  d__law_holds : Df K mg "_law_holds" f__law_holds fd__law_holds ["_law_test", "_law_known"]
  f__law_found : Addr
  fd__law_found : FuncData
  F__law_found : Fun K "_law_found" "_law_found" s__law_found f__law_found fd__law_found
  d__law_found : Df K mg "_law_found" f__law_found fd__law_found ["_law_wants", "_law_things", "_law_numbers", "_law_known"]
  f__law_alike : Addr
  fd__law_alike : FuncData
  F__law_alike : Fun K "_law_alike" "_law_alike" s__law_alike f__law_alike fd__law_alike
  d__law_alike : Df K mg "_law_alike" f__law_alike fd__law_alike ["_law_found_here", "_law_due"]
  f_law : Addr
  fd_law : FuncData
  F_law : Fun K "law" "law" s_law f_law fd_law
  d_law : Df K mg "law" f_law fd_law ["_law_script"]
  n_isinstance : mg "isinstance" = none
  n_int : mg "int" = none
  n_bool : mg "bool" = none
  n_str : mg "str" = none
  n_len : mg "len" = none
  n_all : mg "all" = none
  n_tuple : mg "tuple" = none
  n_list : mg "list" = none
  n_enumerate : mg "enumerate" = none
  n_dict : mg "dict" = none
  n_zip : mg "zip" = none
  n_range : mg "range" = none
  c_MOST_LETTERS : GlD K mg "MOST_LETTERS" (.int 4)
  c_SMALL : GlD K mg "SMALL" (.str "abcdefghijklmnopqrstuvwxyz")
  c_MOST_NUMBER : GlD K mg "MOST_NUMBER" (.int 99)
  c_GREAT : GlD K mg "GREAT" (.str "ABCDEFGHIJKLMNOPQRSTUVWXYZ")
  c_MOST_PARTS : GlD K mg "MOST_PARTS" (.int 5)
  c_ANY : GlD K mg "ANY" (.str "_")
  c_MOST_THINGS : GlD K mg "MOST_THINGS" (.int 30)
  c_NOT : GlD K mg "NOT" (.str "not")
  c_IS : GlD K mg "IS" (.str "is")
  c_TESTS : GlD K mg "TESTS" (.tup [(.str "less"), (.str "same"), (.str "unlike")])
  c_TAKE : GlD K mg "TAKE" (.str "take")
  c_TELLERS : GlD K mg "TELLERS" (.tup [(.str "add"), (.str "hold"), (.str "say")])
  c_MOST_RANK : GlD K mg "MOST_RANK" (.int 9)
  c_MOST_WANTS : GlD K mg "MOST_WANTS" (.int 5)
  c_MOST_DEEDS : GlD K mg "MOST_DEEDS" (.int 4)
  c_MOST_RULES : GlD K mg "MOST_RULES" (.int 8)
theorem hu5_of {k : Nat} {A : Around} (hr : Room k A) : A.units + 65 < cLine := by
  have := hr.un
  omega
end RR
namespace RR
open PySem PySem.Spec L2 DL
open PyProof.Rows hiding St
section
variable {P : Program} {w : World} {K : PySem.W.Frag} {mg : Str → Option Value} {base : Heap}
theorem dv_is_number (T : Pk K mg) {k : Nat} {cdv : Value} {A : Around} {outer : List Env} {s : Shared} {H : Hp} {E : XK} {f : Addr} (hr : Room k (A.deeper (envOfC "is_number" (defScope s_is_number) s.heap.objs.size f cdv))) :
    PSs (cxOf CX0 P w K mg base N_is_number "is_number" (defScope s_is_number) f cdv A outer s H E).nox (defBody s_is_number) (liftS K (t_is_number)) := by
  have hu := hr.units
  have hu5 := hu5_of hr
  exact dss_one (ds_ret (de_and (de_cb cl_isi (by rfl) T.n_isinstance PyProof.Rows.boot_isinstance (da_cons (dv 0) (da_cons (de_bltn (by rfl) T.n_int PyProof.Rows.boot_int) (da_nil)))) (de_and (de_not (de_cb cl_isi (by rfl) T.n_isinstance PyProof.Rows.boot_isinstance (da_cons (dv 0) (da_cons (de_bltn (by rfl) T.n_bool PyProof.Rows.boot_bool) (da_nil))))) (de_one (de_ch cd_le cd_le (dv 1) (dv 0) (dv 2))))))
theorem fn_is_number (T : Pk K mg) {k : Nat} {a : ASp} (len : ∀ ds C R, a ds C R → ds.length = 3) (rd : ∀ ds C R, a ds C R → t_is_number { nx := fun _ C' => R .non C', rt := R } (dstart N_is_number ds) C) : FnOk P w K mg base CX0 (k + 1) T.f_is_number T.fd_is_number ["part", "low", "high"] (liftF K a) :=
  fnD T.F_is_number sc_is_number len fun cdv A outer s H E hr => ⟨_, dv_is_number T hr, rd⟩
theorem dv_is_word (T : Pk K mg) {k : Nat} {cdv : Value} {A : Around} {outer : List Env} {s : Shared} {H : Hp} {E : XK} {f : Addr} (hr : Room k (A.deeper (envOfC "is_word" (defScope s_is_word) s.heap.objs.size f cdv))) :
    PSs (cxOf CX0 P w K mg base N_is_word "is_word" (defScope s_is_word) f cdv A outer s H E).nox (defBody s_is_word) (liftS K (t_is_word)) := by
  have hu := hr.units
  have hu5 := hu5_of hr
  exact dss_cons (ds_if ((dw_or (dt_not (dt_val (de_cb cl_isi (by rfl) T.n_isinstance PyProof.Rows.boot_isinstance (da_cons (dv 0) (da_cons (de_bltn (by rfl) T.n_str PyProof.Rows.boot_str) (da_nil)))))) (dw_or1 (dt_not (dt_ch cd_le cd_le (de_int) (de_cb cl_len (by rfl) T.n_len PySem.boot_len (da_cons (dv 0) (da_nil))) (de_glob (by rfl) T.c_MOST_LETTERS))))).pt) (dss_one (ds_ret (de_bl))) (dss_nil)) (dss_one (ds_ret (de_cb (cl_all rfl) (by rfl) T.n_all PyProof.Rows.boot_all (da_cons (de_lc (own := [("sign", 1)]) (gd := gdName 1) rfl sc_is_word.nd (tg_name) (di_seq (dv 0)) (blkOk_by (N := N_is_word) (sc := defScope s_is_word) (by decide +kernel)) (fun _ _ _ _ _ => pg_name (i := 1) sc_is_word.nd rfl (Or.inl rfl)) (fun _ _ _ _ _ => dts_nil) (fun _ _ _ _ _ => de_cm (cd_in hu5) (dv 1) (de_glob (by rfl) T.c_SMALL))) (da_nil)))))
theorem fn_is_word (T : Pk K mg) {k : Nat} {a : ASp} (len : ∀ ds C R, a ds C R → ds.length = 1) (rd : ∀ ds C R, a ds C R → t_is_word { nx := fun _ C' => R .non C', rt := R } (dstart N_is_word ds) C) : FnOk P w K mg base CX0 (k + 1) T.f_is_word T.fd_is_word ["part"] (liftF K a) :=
  fnD T.F_is_word sc_is_word len fun cdv A outer s H E hr => ⟨_, dv_is_word T hr, rd⟩
theorem dv_is_worth (T : Pk K mg) {k : Nat} {a_is_word : ASp} {l_is_word : Nat} (G_is_word : FnOk P w K mg base CX0 l_is_word T.f_is_word T.fd_is_word ["part"] (liftF K a_is_word)) (h_is_word : l_is_word ≤ k) {a_is_number : ASp} {l_is_number : Nat} (G_is_number : FnOk P w K mg base CX0 l_is_number T.f_is_number T.fd_is_number ["part", "low", "high"] (liftF K a_is_number)) (h_is_number : l_is_number ≤ k) {cdv : Value} {A : Around} {outer : List Env} {s : Shared} {H : Hp} {E : XK} {f : Addr} (hr : Room k (A.deeper (envOfC "is_worth" (defScope s_is_worth) s.heap.objs.size f cdv))) :
    PSs (cxOf CX0 P w K mg base N_is_worth "is_worth" (defScope s_is_worth) f cdv A outer s H E).nox (defBody s_is_worth) (liftS K (t_is_worth a_is_word a_is_number)) := by
  have hu := hr.units
  have hu5 := hu5_of hr
  exact dss_one (ds_ret (de_or (de_cf T.d_is_word G_is_word (hr.mono (by omega)) (by rfl) (da_cons (dv 0) (da_nil))) (de_one (de_cf T.d_is_number G_is_number (hr.mono (by omega)) (by rfl) (da_cons (dv 0) (da_cons (de_sub (de_int) (de_glob (by rfl) T.c_MOST_NUMBER)) (da_cons (de_glob (by rfl) T.c_MOST_NUMBER) (da_nil))))))))
theorem fn_is_worth (T : Pk K mg) {k : Nat} {a_is_word : ASp} {l_is_word : Nat} (G_is_word : FnOk P w K mg base CX0 l_is_word T.f_is_word T.fd_is_word ["part"] (liftF K a_is_word)) (h_is_word : l_is_word ≤ k) {a_is_number : ASp} {l_is_number : Nat} (G_is_number : FnOk P w K mg base CX0 l_is_number T.f_is_number T.fd_is_number ["part", "low", "high"] (liftF K a_is_number)) (h_is_number : l_is_number ≤ k) {a : ASp} (len : ∀ ds C R, a ds C R → ds.length = 1) (rd : ∀ ds C R, a ds C R → t_is_worth a_is_word a_is_number { nx := fun _ C' => R .non C', rt := R } (dstart N_is_worth ds) C) : FnOk P w K mg base CX0 (k + 1) T.f_is_worth T.fd_is_worth ["part"] (liftF K a) :=
  fnD T.F_is_worth sc_is_worth len fun cdv A outer s H E hr => ⟨_, dv_is_worth T G_is_word h_is_word G_is_number h_is_number hr, rd⟩
theorem dv_is_blank (T : Pk K mg) {k : Nat} {cdv : Value} {A : Around} {outer : List Env} {s : Shared} {H : Hp} {E : XK} {f : Addr} (hr : Room k (A.deeper (envOfC "is_blank" (defScope s_is_blank) s.heap.objs.size f cdv))) :
    PSs (cxOf CX0 P w K mg base N_is_blank "is_blank" (defScope s_is_blank) f cdv A outer s H E).nox (defBody s_is_blank) (liftS K (t_is_blank)) := by
  have hu := hr.units
  have hu5 := hu5_of hr
  exact dss_one (ds_ret (de_and (de_cb cl_isi (by rfl) T.n_isinstance PyProof.Rows.boot_isinstance (da_cons (dv 0) (da_cons (de_bltn (by rfl) T.n_str PyProof.Rows.boot_str) (da_nil)))) (de_and (de_cm (cd_eq hu) (de_cb cl_len (by rfl) T.n_len PySem.boot_len (da_cons (dv 0) (da_nil))) (de_int)) (de_one (de_cm (cd_in hu5) (dv 0) (de_glob (by rfl) T.c_GREAT))))))
theorem fn_is_blank (T : Pk K mg) {k : Nat} {a : ASp} (len : ∀ ds C R, a ds C R → ds.length = 1) (rd : ∀ ds C R, a ds C R → t_is_blank { nx := fun _ C' => R .non C', rt := R } (dstart N_is_blank ds) C) : FnOk P w K mg base CX0 (k + 1) T.f_is_blank T.fd_is_blank ["part"] (liftF K a) :=
  fnD T.F_is_blank sc_is_blank len fun cdv A outer s H E hr => ⟨_, dv_is_blank T hr, rd⟩
theorem dv_is_thing (T : Pk K mg) {k : Nat} {a_is_word : ASp} {l_is_word : Nat} (G_is_word : FnOk P w K mg base CX0 l_is_word T.f_is_word T.fd_is_word ["part"] (liftF K a_is_word)) (h_is_word : l_is_word ≤ k) {a_is_worth : ASp} {l_is_worth : Nat} (G_is_worth : FnOk P w K mg base CX0 l_is_worth T.f_is_worth T.fd_is_worth ["part"] (liftF K a_is_worth)) (h_is_worth : l_is_worth ≤ k) {cdv : Value} {A : Around} {outer : List Env} {s : Shared} {H : Hp} {E : XK} {f : Addr} (hr : Room k (A.deeper (envOfC "is_thing" (defScope s_is_thing) s.heap.objs.size f cdv))) :
    PSs (cxOf CX0 P w K mg base N_is_thing "is_thing" (defScope s_is_thing) f cdv A outer s H E).nox (defBody s_is_thing) (liftS K (t_is_thing a_is_word a_is_worth)) := by
  have hu := hr.units
  have hu5 := hu5_of hr
  exact dss_cons (ds_if ((dw_or (dt_not (dt_val (de_cb cl_isi (by rfl) T.n_isinstance PyProof.Rows.boot_isinstance (da_cons (dv 0) (da_cons (de_bltn (by rfl) T.n_tuple PyProof.Rows.boot_tuple) (da_nil)))))) (dw_or (dt_not (dt_ch cd_le cd_le (de_int) (de_cb cl_len (by rfl) T.n_len PySem.boot_len (da_cons (dv 0) (da_nil))) (de_glob (by rfl) T.c_MOST_PARTS))) (dw_or1 (dt_not (dt_val (de_cf T.d_is_word G_is_word (hr.mono (by omega)) (by rfl) (da_cons (de_ix hu (dv 0) (de_int)) (da_nil)))))))).pt) (dss_one (ds_ret (de_bl))) (dss_nil)) (dss_one (ds_ret (de_cb (cl_all rfl) (by rfl) T.n_all PyProof.Rows.boot_all (da_cons (de_lc (own := [("one", 1)]) (gd := gdName 1) rfl sc_is_thing.nd (tg_name) (di_seq (de_slice (dv 0) (dp_some (de_int)) (dp_none))) (blkOk_by (N := N_is_thing) (sc := defScope s_is_thing) (by decide +kernel)) (fun _ _ _ _ _ => pg_name (i := 1) sc_is_thing.nd rfl (Or.inl rfl)) (fun _ _ _ _ _ => dts_nil) (fun _ _ _ _ _ => de_cf T.d_is_worth G_is_worth (hr.mono (by omega)) (by rfl) (da_cons (dv 1) (da_nil)))) (da_nil)))))
theorem fn_is_thing (T : Pk K mg) {k : Nat} {a_is_word : ASp} {l_is_word : Nat} (G_is_word : FnOk P w K mg base CX0 l_is_word T.f_is_word T.fd_is_word ["part"] (liftF K a_is_word)) (h_is_word : l_is_word ≤ k) {a_is_worth : ASp} {l_is_worth : Nat} (G_is_worth : FnOk P w K mg base CX0 l_is_worth T.f_is_worth T.fd_is_worth ["part"] (liftF K a_is_worth)) (h_is_worth : l_is_worth ≤ k) {a : ASp} (len : ∀ ds C R, a ds C R → ds.length = 1) (rd : ∀ ds C R, a ds C R → t_is_thing a_is_word a_is_worth { nx := fun _ C' => R .non C', rt := R } (dstart N_is_thing ds) C) : FnOk P w K mg base CX0 (k + 1) T.f_is_thing T.fd_is_thing ["part"] (liftF K a) :=
  fnD T.F_is_thing sc_is_thing len fun cdv A outer s H E hr => ⟨_, dv_is_thing T G_is_word h_is_word G_is_worth h_is_worth hr, rd⟩
theorem dv_is_pattern (T : Pk K mg) {k : Nat} {a_is_word : ASp} {l_is_word : Nat} (G_is_word : FnOk P w K mg base CX0 l_is_word T.f_is_word T.fd_is_word ["part"] (liftF K a_is_word)) (h_is_word : l_is_word ≤ k) {a_is_worth : ASp} {l_is_worth : Nat} (G_is_worth : FnOk P w K mg base CX0 l_is_worth T.f_is_worth T.fd_is_worth ["part"] (liftF K a_is_worth)) (h_is_worth : l_is_worth ≤ k) {a_is_blank : ASp} {l_is_blank : Nat} (G_is_blank : FnOk P w K mg base CX0 l_is_blank T.f_is_blank T.fd_is_blank ["part"] (liftF K a_is_blank)) (h_is_blank : l_is_blank ≤ k) {cdv : Value} {A : Around} {outer : List Env} {s : Shared} {H : Hp} {E : XK} {f : Addr} (hr : Room k (A.deeper (envOfC "is_pattern" (defScope s_is_pattern) s.heap.objs.size f cdv))) :
    PSs (cxOf CX0 P w K mg base N_is_pattern "is_pattern" (defScope s_is_pattern) f cdv A outer s H E).nox (defBody s_is_pattern) (liftS K (t_is_pattern a_is_word a_is_worth a_is_blank)) := by
  have hu := hr.units
  have hu5 := hu5_of hr
  exact dss_cons (ds_if ((dw_or (dt_not (dt_val (de_cb cl_isi (by rfl) T.n_isinstance PyProof.Rows.boot_isinstance (da_cons (dv 0) (da_cons (de_bltn (by rfl) T.n_tuple PyProof.Rows.boot_tuple) (da_nil)))))) (dw_or (dt_not (dt_ch cd_le cd_le (de_int) (de_cb cl_len (by rfl) T.n_len PySem.boot_len (da_cons (dv 0) (da_nil))) (de_glob (by rfl) T.c_MOST_PARTS))) (dw_or1 (dt_not (dt_val (de_cf T.d_is_word G_is_word (hr.mono (by omega)) (by rfl) (da_cons (de_ix hu (dv 0) (de_int)) (da_nil)))))))).pt) (dss_one (ds_ret (de_bl))) (dss_nil)) (dss_one (ds_ret (de_cb (cl_all rfl) (by rfl) T.n_all PyProof.Rows.boot_all (da_cons (de_lc (own := [("one", 1)]) (gd := gdName 1) rfl sc_is_pattern.nd (tg_name) (di_seq (de_slice (dv 0) (dp_some (de_int)) (dp_none))) (blkOk_by (N := N_is_pattern) (sc := defScope s_is_pattern) (by decide +kernel)) (fun _ _ _ _ _ => pg_name (i := 1) sc_is_pattern.nd rfl (Or.inl rfl)) (fun _ _ _ _ _ => dts_nil) (fun _ _ _ _ _ => de_or (de_cf T.d_is_worth G_is_worth (hr.mono (by omega)) (by rfl) (da_cons (dv 1) (da_nil))) (de_or (de_cf T.d_is_blank G_is_blank (hr.mono (by omega)) (by rfl) (da_cons (dv 1) (da_nil))) (de_one (de_and (de_cb cl_isi (by rfl) T.n_isinstance PyProof.Rows.boot_isinstance (da_cons (dv 1) (da_cons (de_bltn (by rfl) T.n_str PyProof.Rows.boot_str) (da_nil)))) (de_one (de_cm (cd_eq hu) (dv 1) (de_glob (by rfl) T.c_ANY)))))))) (da_nil)))))
theorem fn_is_pattern (T : Pk K mg) {k : Nat} {a_is_word : ASp} {l_is_word : Nat} (G_is_word : FnOk P w K mg base CX0 l_is_word T.f_is_word T.fd_is_word ["part"] (liftF K a_is_word)) (h_is_word : l_is_word ≤ k) {a_is_worth : ASp} {l_is_worth : Nat} (G_is_worth : FnOk P w K mg base CX0 l_is_worth T.f_is_worth T.fd_is_worth ["part"] (liftF K a_is_worth)) (h_is_worth : l_is_worth ≤ k) {a_is_blank : ASp} {l_is_blank : Nat} (G_is_blank : FnOk P w K mg base CX0 l_is_blank T.f_is_blank T.fd_is_blank ["part"] (liftF K a_is_blank)) (h_is_blank : l_is_blank ≤ k) {a : ASp} (len : ∀ ds C R, a ds C R → ds.length = 1) (rd : ∀ ds C R, a ds C R → t_is_pattern a_is_word a_is_worth a_is_blank { nx := fun _ C' => R .non C', rt := R } (dstart N_is_pattern ds) C) : FnOk P w K mg base CX0 (k + 1) T.f_is_pattern T.fd_is_pattern ["part"] (liftF K a) :=
  fnD T.F_is_pattern sc_is_pattern len fun cdv A outer s H E hr => ⟨_, dv_is_pattern T G_is_word h_is_word G_is_worth h_is_worth G_is_blank h_is_blank hr, rd⟩
theorem dv_need_things (T : Pk K mg) {k : Nat} {a_is_thing : ASp} {l_is_thing : Nat} (G_is_thing : FnOk P w K mg base CX0 l_is_thing T.f_is_thing T.fd_is_thing ["part"] (liftF K a_is_thing)) (h_is_thing : l_is_thing ≤ k) {cdv : Value} {A : Around} {outer : List Env} {s : Shared} {H : Hp} {E : XK} {f : Addr} (hr : Room k (A.deeper (envOfC "need_things" (defScope s_need_things) s.heap.objs.size f cdv))) :
    PSs (cxOf CX0 P w K mg base N_need_things "need_things" (defScope s_need_things) f cdv A outer s H E).nox (defBody s_need_things) (liftS K (t_need_things a_is_thing)) := by
  have hu := hr.units
  have hu5 := hu5_of hr
  exact dss_cons (ds_if (dt_not (dt_val (de_cb cl_isi (by rfl) T.n_isinstance PyProof.Rows.boot_isinstance (da_cons (dv 0) (da_cons (de_bltn (by rfl) T.n_list PyProof.Rows.boot_list) (da_nil)))))) (dss_one (ds_never)) (dss_nil)) (dss_one (ds_for PassesOwn.never rfl (di_enum (by rfl) T.n_enumerate (da_cons (dv 0) (da_nil))) (dg_tup rfl (dgs_cons (dg_name (i := 1) sc_need_things.nd rfl (Or.inl rfl)) (dgs_cons (dg_name (i := 2) sc_need_things.nd rfl (Or.inl rfl)) (dgs_nil)))) (dss_one (ds_if ((dw_or (dt_cm (cd_eq hu) (dv 1) (de_glob (by rfl) T.c_MOST_THINGS)) (dw_or1 (dt_not (dt_val (de_cf T.d_is_thing G_is_thing (hr.mono (by omega)) (by rfl) (da_cons (dv 2) (da_nil))))))).pt) (dss_one (ds_never)) (dss_nil)))))
theorem fn_need_things (T : Pk K mg) {k : Nat} {a_is_thing : ASp} {l_is_thing : Nat} (G_is_thing : FnOk P w K mg base CX0 l_is_thing T.f_is_thing T.fd_is_thing ["part"] (liftF K a_is_thing)) (h_is_thing : l_is_thing ≤ k) {a : ASp} (len : ∀ ds C R, a ds C R → ds.length = 1) (rd : ∀ ds C R, a ds C R → t_need_things a_is_thing { nx := fun _ C' => R .non C', rt := R } (dstart N_need_things ds) C) : FnOk P w K mg base CX0 (k + 1) T.f_need_things T.fd_need_things ["things"] (liftF K a) :=
  fnD T.F_need_things sc_need_things len fun cdv A outer s H E hr => ⟨_, dv_need_things T G_is_thing h_is_thing hr, rd⟩
theorem dv_are_same (T : Pk K mg) {k : Nat} {cdv : Value} {A : Around} {outer : List Env} {s : Shared} {H : Hp} {E : XK} {f : Addr} (hr : Room k (A.deeper (envOfC "are_same" (defScope s_are_same) s.heap.objs.size f cdv))) :
    PSs (cxOf CX0 P w K mg base N_are_same "are_same" (defScope s_are_same) f cdv A outer s H E).nox (defBody s_are_same) (liftS K (t_are_same)) := by
  have hu := hr.units
  have hu5 := hu5_of hr
  exact dss_one (ds_ret (de_and (de_cm (cd_eq hu) (de_cb cl_isi (by rfl) T.n_isinstance PyProof.Rows.boot_isinstance (da_cons (dv 0) (da_cons (de_bltn (by rfl) T.n_str PyProof.Rows.boot_str) (da_nil)))) (de_cb cl_isi (by rfl) T.n_isinstance PyProof.Rows.boot_isinstance (da_cons (dv 1) (da_cons (de_bltn (by rfl) T.n_str PyProof.Rows.boot_str) (da_nil))))) (de_one (de_cm (cd_eq hu) (dv 0) (dv 1)))))
theorem fn_are_same (T : Pk K mg) {k : Nat} {a : ASp} (len : ∀ ds C R, a ds C R → ds.length = 2) (rd : ∀ ds C R, a ds C R → t_are_same { nx := fun _ C' => R .non C', rt := R } (dstart N_are_same ds) C) : FnOk P w K mg base CX0 (k + 1) T.f_are_same T.fd_are_same ["one", "other"] (liftF K a) :=
  fnD T.F_are_same sc_are_same len fun cdv A outer s H E hr => ⟨_, dv_are_same T hr, rd⟩
theorem dv_is_alike (T : Pk K mg) {k : Nat} {cdv : Value} {A : Around} {outer : List Env} {s : Shared} {H : Hp} {E : XK} {f : Addr} (hr : Room k (A.deeper (envOfC "is_alike" (defScope s_is_alike) s.heap.objs.size f cdv))) :
    PSs (cxOf CX0 P w K mg base N_is_alike "is_alike" (defScope s_is_alike) f cdv A outer s H E).nox (defBody s_is_alike) (liftS K (t_is_alike)) := by
  have hu := hr.units
  have hu5 := hu5_of hr
  exact dss_one (ds_ret (de_and (de_cm (cd_eq hu) (de_ix hu (dv 0) (de_int)) (de_ix hu (dv 1) (de_int))) (de_one (de_cm (cd_eq hu) (de_cb cl_len (by rfl) T.n_len PySem.boot_len (da_cons (dv 0) (da_nil))) (de_cb cl_len (by rfl) T.n_len PySem.boot_len (da_cons (dv 1) (da_nil)))))))
theorem fn_is_alike (T : Pk K mg) {k : Nat} {a : ASp} (len : ∀ ds C R, a ds C R → ds.length = 2) (rd : ∀ ds C R, a ds C R → t_is_alike { nx := fun _ C' => R .non C', rt := R } (dstart N_is_alike ds) C) : FnOk P w K mg base CX0 (k + 1) T.f_is_alike T.fd_is_alike ["pattern", "thing"] (liftF K a) :=
  fnD T.F_is_alike sc_is_alike len fun cdv A outer s H E hr => ⟨_, dv_is_alike T hr, rd⟩
theorem dv_fitted (T : Pk K mg) {k : Nat} {a_is_alike : ASp} {l_is_alike : Nat} (G_is_alike : FnOk P w K mg base CX0 l_is_alike T.f_is_alike T.fd_is_alike ["pattern", "thing"] (liftF K a_is_alike)) (h_is_alike : l_is_alike ≤ k) {a_is_blank : ASp} {l_is_blank : Nat} (G_is_blank : FnOk P w K mg base CX0 l_is_blank T.f_is_blank T.fd_is_blank ["part"] (liftF K a_is_blank)) (h_is_blank : l_is_blank ≤ k) {a_are_same : ASp} {l_are_same : Nat} (G_are_same : FnOk P w K mg base CX0 l_are_same T.f_are_same T.fd_are_same ["one", "other"] (liftF K a_are_same)) (h_are_same : l_are_same ≤ k) {cdv : Value} {A : Around} {outer : List Env} {s : Shared} {H : Hp} {E : XK} {f : Addr} (hr : Room k (A.deeper (envOfC "fitted" (defScope s_fitted) s.heap.objs.size f cdv))) :
    PSs (cxOf CX0 P w K mg base N_fitted "fitted" (defScope s_fitted) f cdv A outer s H E).nox (defBody s_fitted) (liftS K (t_fitted a_is_alike a_is_blank a_are_same)) := by
  have hu := hr.units
  have hu5 := hu5_of hr
  exact dss_cons (ds_if (dt_not (dt_val (de_cf T.d_is_alike G_is_alike (hr.mono (by omega)) (by rfl) (da_cons (dv 0) (da_cons (dv 1) (da_nil)))))) (dss_one (ds_ret (de_non))) (dss_nil)) (dss_cons (ds_set (i := 3) sc_fitted.nd rfl (Or.inl rfl) (de_ct cl_dictC (by rfl) T.n_dict PyProof.Rows.boot_dict (da_cons (dv 2) (da_nil)))) (dss_cons (ds_for PassesOwn.never rfl (di_zip (by rfl) T.n_zip (da_cons (de_slice (dv 0) (dp_some (de_int)) (dp_none)) (da_cons (de_slice (dv 1) (dp_some (de_int)) (dp_none)) (da_nil)))) (dg_tup rfl (dgs_cons (dg_name (i := 4) sc_fitted.nd rfl (Or.inl rfl)) (dgs_cons (dg_name (i := 5) sc_fitted.nd rfl (Or.inl rfl)) (dgs_nil)))) (dss_one (ds_if (dt_val (de_cf T.d_is_blank G_is_blank (hr.mono (by omega)) (by rfl) (da_cons (dv 4) (da_nil)))) (dss_one (ds_if (dt_not (dt_val (de_cf T.d_are_same G_are_same (hr.mono (by omega)) (by rfl) (da_cons (de_setd (dv 3) (dv 4) (dv 5)) (da_cons (dv 5) (da_nil)))))) (dss_one (ds_ret (de_non))) (dss_nil))) (dss_one (ds_if ((dw_and (dt_cm (cd_ne hu) (dv 4) (de_glob (by rfl) T.c_ANY)) (dw_and1 (dt_not (dt_val (de_cf T.d_are_same G_are_same (hr.mono (by omega)) (by rfl) (da_cons (dv 4) (da_cons (dv 5) (da_nil)))))))).pt) (dss_one (ds_ret (de_non))) (dss_nil)))))) (dss_one (ds_ret (de_frz (dv 3))))))
theorem fn_fitted (T : Pk K mg) {k : Nat} {a_is_alike : ASp} {l_is_alike : Nat} (G_is_alike : FnOk P w K mg base CX0 l_is_alike T.f_is_alike T.fd_is_alike ["pattern", "thing"] (liftF K a_is_alike)) (h_is_alike : l_is_alike ≤ k) {a_is_blank : ASp} {l_is_blank : Nat} (G_is_blank : FnOk P w K mg base CX0 l_is_blank T.f_is_blank T.fd_is_blank ["part"] (liftF K a_is_blank)) (h_is_blank : l_is_blank ≤ k) {a_are_same : ASp} {l_are_same : Nat} (G_are_same : FnOk P w K mg base CX0 l_are_same T.f_are_same T.fd_are_same ["one", "other"] (liftF K a_are_same)) (h_are_same : l_are_same ≤ k) {a : ASp} (len : ∀ ds C R, a ds C R → ds.length = 3) (rd : ∀ ds C R, a ds C R → t_fitted a_is_alike a_is_blank a_are_same { nx := fun _ C' => lss R .non C', rt := lss R } (dstart N_fitted ds) C) : FnOk P w K mg base CX0 (k + 1) T.f_fitted T.fd_fitted ["pattern", "thing", "known"] (liftF K a) :=
  fnDL T.F_fitted sc_fitted len fun cdv A outer s H E hr => ⟨_, dv_fitted T G_is_alike h_is_alike G_is_blank h_is_blank G_are_same h_are_same hr, rd⟩
theorem dv_blanks_of (T : Pk K mg) {k : Nat} {a_is_blank : ASp} {l_is_blank : Nat} (G_is_blank : FnOk P w K mg base CX0 l_is_blank T.f_is_blank T.fd_is_blank ["part"] (liftF K a_is_blank)) (h_is_blank : l_is_blank ≤ k) {cdv : Value} {A : Around} {outer : List Env} {s : Shared} {H : Hp} {E : XK} {f : Addr} (hr : Room k (A.deeper (envOfC "blanks_of" (defScope s_blanks_of) s.heap.objs.size f cdv))) :
    PSs (cxOf CX0 P w K mg base N_blanks_of "blanks_of" (defScope s_blanks_of) f cdv A outer s H E).nox (defBody s_blanks_of) (liftS K (t_blanks_of a_is_blank)) := by
  have hu := hr.units
  have hu5 := hu5_of hr
  exact dss_one (ds_ret (de_lc (own := [("part", 1)]) (gd := gdName 1) rfl sc_blanks_of.nd (tg_name) (di_seq (de_slice (dv 0) (dp_some (de_int)) (dp_none))) (blkOk_by (N := N_blanks_of) (sc := defScope s_blanks_of) (by decide +kernel)) (fun _ _ _ _ _ => pg_name (i := 1) sc_blanks_of.nd rfl (Or.inl rfl)) (fun _ _ _ _ _ => dts_one (dt_val (de_cf T.d_is_blank G_is_blank (hr.mono (by omega)) (by rfl) (da_cons (dv 1) (da_nil))))) (fun _ _ _ _ _ => dv 1)))
theorem fn_blanks_of (T : Pk K mg) {k : Nat} {a_is_blank : ASp} {l_is_blank : Nat} (G_is_blank : FnOk P w K mg base CX0 l_is_blank T.f_is_blank T.fd_is_blank ["part"] (liftF K a_is_blank)) (h_is_blank : l_is_blank ≤ k) {a : ASp} (len : ∀ ds C R, a ds C R → ds.length = 1) (rd : ∀ ds C R, a ds C R → t_blanks_of a_is_blank { nx := fun _ C' => R .non C', rt := R } (dstart N_blanks_of ds) C) : FnOk P w K mg base CX0 (k + 1) T.f_blanks_of T.fd_blanks_of ["pattern"] (liftF K a) :=
  fnD T.F_blanks_of sc_blanks_of len fun cdv A outer s H E hr => ⟨_, dv_blanks_of T G_is_blank h_is_blank hr, rd⟩
theorem dv_is_side (T : Pk K mg) {k : Nat} {a_is_worth : ASp} {l_is_worth : Nat} (G_is_worth : FnOk P w K mg base CX0 l_is_worth T.f_is_worth T.fd_is_worth ["part"] (liftF K a_is_worth)) (h_is_worth : l_is_worth ≤ k) {a_is_blank : ASp} {l_is_blank : Nat} (G_is_blank : FnOk P w K mg base CX0 l_is_blank T.f_is_blank T.fd_is_blank ["part"] (liftF K a_is_blank)) (h_is_blank : l_is_blank ≤ k) {cdv : Value} {A : Around} {outer : List Env} {s : Shared} {H : Hp} {E : XK} {f : Addr} (hr : Room k (A.deeper (envOfC "is_side" (defScope s_is_side) s.heap.objs.size f cdv))) :
    PSs (cxOf CX0 P w K mg base N_is_side "is_side" (defScope s_is_side) f cdv A outer s H E).nox (defBody s_is_side) (liftS K (t_is_side a_is_worth a_is_blank)) := by
  have hu := hr.units
  have hu5 := hu5_of hr
  exact dss_one (ds_ret (de_or (de_cf T.d_is_worth G_is_worth (hr.mono (by omega)) (by rfl) (da_cons (dv 0) (da_nil))) (de_one (de_and (de_cf T.d_is_blank G_is_blank (hr.mono (by omega)) (by rfl) (da_cons (dv 0) (da_nil))) (de_one (de_cm (cd_in hu5) (dv 0) (dv 1)))))))
theorem fn_is_side (T : Pk K mg) {k : Nat} {a_is_worth : ASp} {l_is_worth : Nat} (G_is_worth : FnOk P w K mg base CX0 l_is_worth T.f_is_worth T.fd_is_worth ["part"] (liftF K a_is_worth)) (h_is_worth : l_is_worth ≤ k) {a_is_blank : ASp} {l_is_blank : Nat} (G_is_blank : FnOk P w K mg base CX0 l_is_blank T.f_is_blank T.fd_is_blank ["part"] (liftF K a_is_blank)) (h_is_blank : l_is_blank ≤ k) {a : ASp} (len : ∀ ds C R, a ds C R → ds.length = 2) (rd : ∀ ds C R, a ds C R → t_is_side a_is_worth a_is_blank { nx := fun _ C' => R .non C', rt := R } (dstart N_is_side ds) C) : FnOk P w K mg base CX0 (k + 1) T.f_is_side T.fd_is_side ["part", "known"] (liftF K a) :=
  fnD T.F_is_side sc_is_side len fun cdv A outer s H E hr => ⟨_, dv_is_side T G_is_worth h_is_worth G_is_blank h_is_blank hr, rd⟩
theorem dv_is_want (T : Pk K mg) {k : Nat} {a_is_pattern : ASp} {l_is_pattern : Nat} (G_is_pattern : FnOk P w K mg base CX0 l_is_pattern T.f_is_pattern T.fd_is_pattern ["part"] (liftF K a_is_pattern)) (h_is_pattern : l_is_pattern ≤ k) {a_is_side : ASp} {l_is_side : Nat} (G_is_side : FnOk P w K mg base CX0 l_is_side T.f_is_side T.fd_is_side ["part", "known"] (liftF K a_is_side)) (h_is_side : l_is_side ≤ k) {cdv : Value} {A : Around} {outer : List Env} {s : Shared} {H : Hp} {E : XK} {f : Addr} (hr : Room k (A.deeper (envOfC "is_want" (defScope s_is_want) s.heap.objs.size f cdv))) :
    PSs (cxOf CX0 P w K mg base N_is_want "is_want" (defScope s_is_want) f cdv A outer s H E).nox (defBody s_is_want) (liftS K (t_is_want a_is_pattern a_is_side)) := by
  have hu := hr.units
  have hu5 := hu5_of hr
  exact dss_cons (ds_if ((dw_or (dt_not (dt_val (de_cb cl_isi (by rfl) T.n_isinstance PyProof.Rows.boot_isinstance (da_cons (dv 0) (da_cons (de_bltn (by rfl) T.n_tuple PyProof.Rows.boot_tuple) (da_nil)))))) (dw_or (dt_cm (cd_eq hu) (dv 0) (de_tup (da_nil))) (dw_or1 (dt_not (dt_val (de_cb cl_isi (by rfl) T.n_isinstance PyProof.Rows.boot_isinstance (da_cons (de_ix hu (dv 0) (de_int)) (da_cons (de_bltn (by rfl) T.n_str PyProof.Rows.boot_str) (da_nil))))))))).pt) (dss_one (ds_ret (de_bl))) (dss_nil)) (dss_cons (ds_if (dt_cm (cd_in hu5) (de_ix hu (dv 0) (de_int)) (de_tup (da_cons (de_glob (by rfl) T.c_IS) (da_cons (de_glob (by rfl) T.c_NOT) (da_nil))))) (dss_one (ds_ret (de_and (de_cm (cd_eq hu) (de_cb cl_len (by rfl) T.n_len PySem.boot_len (da_cons (dv 0) (da_nil))) (de_int)) (de_one (de_cf T.d_is_pattern G_is_pattern (hr.mono (by omega)) (by rfl) (da_cons (de_ix hu (dv 0) (de_int)) (da_nil))))))) (dss_nil)) (dss_one (ds_ret (de_and (de_cm (cd_in hu5) (de_ix hu (dv 0) (de_int)) (de_glob (by rfl) T.c_TESTS)) (de_and (de_cm (cd_eq hu) (de_cb cl_len (by rfl) T.n_len PySem.boot_len (da_cons (dv 0) (da_nil))) (de_int)) (de_one (de_cb (cl_all rfl) (by rfl) T.n_all PyProof.Rows.boot_all (da_cons (de_lc (own := [("part", 2)]) (gd := gdName 2) rfl sc_is_want.nd (tg_name) (di_seq (de_slice (dv 0) (dp_some (de_int)) (dp_none))) (blkOk_by (N := N_is_want) (sc := defScope s_is_want) (by decide +kernel)) (fun _ _ _ _ _ => pg_name (i := 2) sc_is_want.nd rfl (Or.inl rfl)) (fun _ _ _ _ _ => dts_nil) (fun _ _ _ _ _ => de_cf T.d_is_side G_is_side (hr.mono (by omega)) (by rfl) (da_cons (dv 2) (da_cons (dv 1) (da_nil))))) (da_nil)))))))))
theorem fn_is_want (T : Pk K mg) {k : Nat} {a_is_pattern : ASp} {l_is_pattern : Nat} (G_is_pattern : FnOk P w K mg base CX0 l_is_pattern T.f_is_pattern T.fd_is_pattern ["part"] (liftF K a_is_pattern)) (h_is_pattern : l_is_pattern ≤ k) {a_is_side : ASp} {l_is_side : Nat} (G_is_side : FnOk P w K mg base CX0 l_is_side T.f_is_side T.fd_is_side ["part", "known"] (liftF K a_is_side)) (h_is_side : l_is_side ≤ k) {a : ASp} (len : ∀ ds C R, a ds C R → ds.length = 2) (rd : ∀ ds C R, a ds C R → t_is_want a_is_pattern a_is_side { nx := fun _ C' => R .non C', rt := R } (dstart N_is_want ds) C) : FnOk P w K mg base CX0 (k + 1) T.f_is_want T.fd_is_want ["want", "known"] (liftF K a) :=
  fnD T.F_is_want sc_is_want len fun cdv A outer s H E hr => ⟨_, dv_is_want T G_is_pattern h_is_pattern G_is_side h_is_side hr, rd⟩
theorem dv_is_template (T : Pk K mg) {k : Nat} {a_is_word : ASp} {l_is_word : Nat} (G_is_word : FnOk P w K mg base CX0 l_is_word T.f_is_word T.fd_is_word ["part"] (liftF K a_is_word)) (h_is_word : l_is_word ≤ k) {a_is_blank : ASp} {l_is_blank : Nat} (G_is_blank : FnOk P w K mg base CX0 l_is_blank T.f_is_blank T.fd_is_blank ["part"] (liftF K a_is_blank)) (h_is_blank : l_is_blank ≤ k) {a_is_number : ASp} {l_is_number : Nat} (G_is_number : FnOk P w K mg base CX0 l_is_number T.f_is_number T.fd_is_number ["part", "low", "high"] (liftF K a_is_number)) (h_is_number : l_is_number ≤ k) {a_is_side : ASp} {l_is_side : Nat} (G_is_side : FnOk P w K mg base CX0 l_is_side T.f_is_side T.fd_is_side ["part", "known"] (liftF K a_is_side)) (h_is_side : l_is_side ≤ k) {cdv : Value} {A : Around} {outer : List Env} {s : Shared} {H : Hp} {E : XK} {f : Addr} (hr : Room k (A.deeper (envOfC "is_template" (defScope s_is_template) s.heap.objs.size f cdv))) :
    PSs (cxOf CX0 P w K mg base N_is_template "is_template" (defScope s_is_template) f cdv A outer s H E).nox (defBody s_is_template) (liftS K (t_is_template a_is_word a_is_blank a_is_number a_is_side)) := by
  have hu := hr.units
  have hu5 := hu5_of hr
  exact dss_cons (ds_if ((dw_or (dt_not (dt_val (de_cb cl_isi (by rfl) T.n_isinstance PyProof.Rows.boot_isinstance (da_cons (dv 0) (da_cons (de_bltn (by rfl) T.n_tuple PyProof.Rows.boot_tuple) (da_nil)))))) (dw_or (dt_not (dt_ch cd_le cd_le (de_int) (de_cb cl_len (by rfl) T.n_len PySem.boot_len (da_cons (dv 0) (da_nil))) (de_glob (by rfl) T.c_MOST_PARTS))) (dw_or1 (dt_not (dt_val (de_cf T.d_is_word G_is_word (hr.mono (by omega)) (by rfl) (da_cons (de_ix hu (dv 0) (de_int)) (da_nil)))))))).pt) (dss_one (ds_ret (de_bl))) (dss_nil)) (dss_cons (ds_for PassesOwn.never rfl (di_seq (de_slice (dv 0) (dp_some (de_int)) (dp_none))) (dg_name (i := 2) sc_is_template.nd rfl (Or.inl rfl)) (dss_one (ds_if (dt_val (de_cb cl_isi (by rfl) T.n_isinstance PyProof.Rows.boot_isinstance (da_cons (dv 2) (da_cons (de_bltn (by rfl) T.n_tuple PyProof.Rows.boot_tuple) (da_nil))))) (dss_cons (ds_if ((dw_or (dt_cm (cd_ne hu) (de_cb cl_len (by rfl) T.n_len PySem.boot_len (da_cons (dv 2) (da_nil))) (de_int)) (dw_or (dt_not (dt_val (de_cf T.d_is_blank G_is_blank (hr.mono (by omega)) (by rfl) (da_cons (de_ix hu (dv 2) (de_int)) (da_nil))))) (dw_or1 (dt_cm (cd_notin hu5) (de_ix hu (dv 2) (de_int)) (dv 1))))).pt) (dss_one (ds_ret (de_bl))) (dss_nil)) (dss_one (ds_if (dt_not (dt_val (de_cf T.d_is_number G_is_number (hr.mono (by omega)) (by rfl) (da_cons (de_ix hu (dv 2) (de_int)) (da_cons (de_sub (de_int) (de_glob (by rfl) T.c_MOST_NUMBER)) (da_cons (de_glob (by rfl) T.c_MOST_NUMBER) (da_nil))))))) (dss_one (ds_ret (de_bl))) (dss_nil)))) (dss_one (ds_if (dt_not (dt_val (de_cf T.d_is_side G_is_side (hr.mono (by omega)) (by rfl) (da_cons (dv 2) (da_cons (dv 1) (da_nil)))))) (dss_one (ds_ret (de_bl))) (dss_nil)))))) (dss_one (ds_ret (de_bl))))
theorem fn_is_template (T : Pk K mg) {k : Nat} {a_is_word : ASp} {l_is_word : Nat} (G_is_word : FnOk P w K mg base CX0 l_is_word T.f_is_word T.fd_is_word ["part"] (liftF K a_is_word)) (h_is_word : l_is_word ≤ k) {a_is_blank : ASp} {l_is_blank : Nat} (G_is_blank : FnOk P w K mg base CX0 l_is_blank T.f_is_blank T.fd_is_blank ["part"] (liftF K a_is_blank)) (h_is_blank : l_is_blank ≤ k) {a_is_number : ASp} {l_is_number : Nat} (G_is_number : FnOk P w K mg base CX0 l_is_number T.f_is_number T.fd_is_number ["part", "low", "high"] (liftF K a_is_number)) (h_is_number : l_is_number ≤ k) {a_is_side : ASp} {l_is_side : Nat} (G_is_side : FnOk P w K mg base CX0 l_is_side T.f_is_side T.fd_is_side ["part", "known"] (liftF K a_is_side)) (h_is_side : l_is_side ≤ k) {a : ASp} (len : ∀ ds C R, a ds C R → ds.length = 2) (rd : ∀ ds C R, a ds C R → t_is_template a_is_word a_is_blank a_is_number a_is_side { nx := fun _ C' => R .non C', rt := R } (dstart N_is_template ds) C) : FnOk P w K mg base CX0 (k + 1) T.f_is_template T.fd_is_template ["part", "known"] (liftF K a) :=
  fnD T.F_is_template sc_is_template len fun cdv A outer s H E hr => ⟨_, dv_is_template T G_is_word h_is_word G_is_blank h_is_blank G_is_number h_is_number G_is_side h_is_side hr, rd⟩
theorem dv_is_deed (T : Pk K mg) {k : Nat} {a_is_number : ASp} {l_is_number : Nat} (G_is_number : FnOk P w K mg base CX0 l_is_number T.f_is_number T.fd_is_number ["part", "low", "high"] (liftF K a_is_number)) (h_is_number : l_is_number ≤ k) {a_is_template : ASp} {l_is_template : Nat} (G_is_template : FnOk P w K mg base CX0 l_is_template T.f_is_template T.fd_is_template ["part", "known"] (liftF K a_is_template)) (h_is_template : l_is_template ≤ k) {cdv : Value} {A : Around} {outer : List Env} {s : Shared} {H : Hp} {E : XK} {f : Addr} (hr : Room k (A.deeper (envOfC "is_deed" (defScope s_is_deed) s.heap.objs.size f cdv))) :
    PSs (cxOf CX0 P w K mg base N_is_deed "is_deed" (defScope s_is_deed) f cdv A outer s H E).nox (defBody s_is_deed) (liftS K (t_is_deed a_is_number a_is_template)) := by
  have hu := hr.units
  have hu5 := hu5_of hr
  exact dss_cons (ds_if ((dw_or (dt_not (dt_val (de_cb cl_isi (by rfl) T.n_isinstance PyProof.Rows.boot_isinstance (da_cons (dv 0) (da_cons (de_bltn (by rfl) T.n_tuple PyProof.Rows.boot_tuple) (da_nil)))))) (dw_or (dt_cm (cd_ne hu) (de_cb cl_len (by rfl) T.n_len PySem.boot_len (da_cons (dv 0) (da_nil))) (de_int)) (dw_or1 (dt_not (dt_val (de_cb cl_isi (by rfl) T.n_isinstance PyProof.Rows.boot_isinstance (da_cons (de_ix hu (dv 0) (de_int)) (da_cons (de_bltn (by rfl) T.n_str PyProof.Rows.boot_str) (da_nil))))))))).pt) (dss_one (ds_ret (de_bl))) (dss_nil)) (dss_cons (ds_if (dt_cm (cd_eq hu) (de_ix hu (dv 0) (de_int)) (de_glob (by rfl) T.c_TAKE)) (dss_one (ds_ret (de_and (de_cf T.d_is_number G_is_number (hr.mono (by omega)) (by rfl) (da_cons (de_ix hu (dv 0) (de_int)) (da_cons (de_int) (da_cons (de_sub (de_cb cl_len (by rfl) T.n_len PySem.boot_len (da_cons (dv 1) (da_nil))) (de_int)) (da_nil))))) (de_one (de_cm (cd_eq hu) (de_ix hu (de_ix hu (dv 1) (de_ix hu (dv 0) (de_int))) (de_int)) (de_glob (by rfl) T.c_IS)))))) (dss_nil)) (dss_one (ds_ret (de_and (de_cm (cd_in hu5) (de_ix hu (dv 0) (de_int)) (de_glob (by rfl) T.c_TELLERS)) (de_one (de_cf T.d_is_template G_is_template (hr.mono (by omega)) (by rfl) (da_cons (de_ix hu (dv 0) (de_int)) (da_cons (dv 2) (da_nil)))))))))
theorem fn_is_deed (T : Pk K mg) {k : Nat} {a_is_number : ASp} {l_is_number : Nat} (G_is_number : FnOk P w K mg base CX0 l_is_number T.f_is_number T.fd_is_number ["part", "low", "high"] (liftF K a_is_number)) (h_is_number : l_is_number ≤ k) {a_is_template : ASp} {l_is_template : Nat} (G_is_template : FnOk P w K mg base CX0 l_is_template T.f_is_template T.fd_is_template ["part", "known"] (liftF K a_is_template)) (h_is_template : l_is_template ≤ k) {a : ASp} (len : ∀ ds C R, a ds C R → ds.length = 3) (rd : ∀ ds C R, a ds C R → t_is_deed a_is_number a_is_template { nx := fun _ C' => R .non C', rt := R } (dstart N_is_deed ds) C) : FnOk P w K mg base CX0 (k + 1) T.f_is_deed T.fd_is_deed ["deed", "wants", "known"] (liftF K a) :=
  fnD T.F_is_deed sc_is_deed len fun cdv A outer s H E hr => ⟨_, dv_is_deed T G_is_number h_is_number G_is_template h_is_template hr, rd⟩
theorem dv_bad_part (T : Pk K mg) {k : Nat} {a_is_word : ASp} {l_is_word : Nat} (G_is_word : FnOk P w K mg base CX0 l_is_word T.f_is_word T.fd_is_word ["part"] (liftF K a_is_word)) (h_is_word : l_is_word ≤ k) {a_is_number : ASp} {l_is_number : Nat} (G_is_number : FnOk P w K mg base CX0 l_is_number T.f_is_number T.fd_is_number ["part", "low", "high"] (liftF K a_is_number)) (h_is_number : l_is_number ≤ k) {a_is_want : ASp} {l_is_want : Nat} (G_is_want : FnOk P w K mg base CX0 l_is_want T.f_is_want T.fd_is_want ["want", "known"] (liftF K a_is_want)) (h_is_want : l_is_want ≤ k) {a_blanks_of : ASp} {l_blanks_of : Nat} (G_blanks_of : FnOk P w K mg base CX0 l_blanks_of T.f_blanks_of T.fd_blanks_of ["pattern"] (liftF K a_blanks_of)) (h_blanks_of : l_blanks_of ≤ k) {a_is_deed : ASp} {l_is_deed : Nat} (G_is_deed : FnOk P w K mg base CX0 l_is_deed T.f_is_deed T.fd_is_deed ["deed", "wants", "known"] (liftF K a_is_deed)) (h_is_deed : l_is_deed ≤ k) {cdv : Value} {A : Around} {outer : List Env} {s : Shared} {H : Hp} {E : XK} {f : Addr} (hr : Room k (A.deeper (envOfC "bad_part" (defScope s_bad_part) s.heap.objs.size f cdv))) :
    PSs (cxOf CX0 P w K mg base N_bad_part "bad_part" (defScope s_bad_part) f cdv A outer s H E).nox (defBody s_bad_part) (liftS K (t_bad_part a_is_word a_is_number a_is_want a_blanks_of a_is_deed)) := by
  have hu := hr.units
  have hu5 := hu5_of hr
  exact dss_cons (ds_if ((dw_or (dt_not (dt_val (de_cb cl_isi (by rfl) T.n_isinstance PyProof.Rows.boot_isinstance (da_cons (dv 0) (da_cons (de_bltn (by rfl) T.n_tuple PyProof.Rows.boot_tuple) (da_nil)))))) (dw_or1 (dt_cm (cd_ne hu) (de_cb cl_len (by rfl) T.n_len PySem.boot_len (da_cons (dv 0) (da_nil))) (de_int)))).pt) (dss_one (ds_ret (de_neg (de_int)))) (dss_nil)) (dss_cons (ds_asg (dv 0) (dg_tup rfl (dgs_cons (dg_name (i := 2) sc_bad_part.nd rfl (Or.inl rfl)) (dgs_cons (dg_name (i := 3) sc_bad_part.nd rfl (Or.inl rfl)) (dgs_cons (dg_name (i := 4) sc_bad_part.nd rfl (Or.inr rfl)) (dgs_cons (dg_name (i := 5) sc_bad_part.nd rfl (Or.inl rfl)) (dgs_nil))))))) (dss_cons (ds_if ((dw_or (dt_not (dt_val (de_cf T.d_is_word G_is_word (hr.mono (by omega)) (by rfl) (da_cons (dv 2) (da_nil))))) (dw_or1 (dt_cm (cd_in hu5) (dv 2) (dv 1)))).pt) (dss_one (ds_ret (de_int))) (dss_nil)) (dss_cons (ds_if (dt_not (dt_val (de_cf T.d_is_number G_is_number (hr.mono (by omega)) (by rfl) (da_cons (dv 3) (da_cons (de_sub (de_int) (de_glob (by rfl) T.c_MOST_RANK)) (da_cons (de_glob (by rfl) T.c_MOST_RANK) (da_nil))))))) (dss_one (ds_ret (de_int))) (dss_nil)) (dss_cons (ds_if ((dw_or (dt_not (dt_val (de_cb cl_isi (by rfl) T.n_isinstance PyProof.Rows.boot_isinstance (da_cons (dv 4) (da_cons (de_bltn (by rfl) T.n_tuple PyProof.Rows.boot_tuple) (da_nil)))))) (dw_or1 (dt_not (dt_ch cd_le cd_le (de_int) (de_cb cl_len (by rfl) T.n_len PySem.boot_len (da_cons (dv 4) (da_nil))) (de_glob (by rfl) T.c_MOST_WANTS))))).pt) (dss_one (ds_ret (de_int))) (dss_nil)) (dss_cons (ds_set (i := 6) sc_bad_part.nd rfl (Or.inr rfl) (de_lstC (da_nil))) (dss_cons (ds_for PassesOwn.never rfl (di_enum (by rfl) T.n_enumerate (da_cons (dv 4) (da_nil))) (dg_tup rfl (dgs_cons (dg_name (i := 7) sc_bad_part.nd rfl (Or.inl rfl)) (dgs_cons (dg_name (i := 8) sc_bad_part.nd rfl (Or.inl rfl)) (dgs_nil)))) (dss_cons (ds_if ((dw_or (dt_not (dt_val (de_cf T.d_is_want G_is_want (hr.mono (by omega)) (by rfl) (da_cons (dv 8) (da_cons (dv 6) (da_nil)))))) (dw_or1 ((dw_and (dt_cm (cd_eq hu) (dv 7) (de_int)) (dw_and1 (dt_cm (cd_ne hu) (de_ix hu (dv 8) (de_int)) (de_glob (by rfl) T.c_IS)))).pt))).pt) (dss_one (ds_ret (de_int))) (dss_nil)) (dss_one (ds_expr (de_extend (dv 6) (da_cons (de_ifExp (dt_cm (cd_eq hu) (de_ix hu (dv 8) (de_int)) (de_glob (by rfl) T.c_IS)) (de_cf T.d_blanks_of G_blanks_of (hr.mono (by omega)) (by rfl) (da_cons (de_ix hu (dv 8) (de_int)) (da_nil))) (de_lst (da_nil))) (da_nil))))))) (dss_cons (ds_if ((dw_or (dt_not (dt_val (de_cb cl_isi (by rfl) T.n_isinstance PyProof.Rows.boot_isinstance (da_cons (dv 5) (da_cons (de_bltn (by rfl) T.n_tuple PyProof.Rows.boot_tuple) (da_nil)))))) (dw_or1 (dt_not (dt_ch cd_le cd_le (de_int) (de_cb cl_len (by rfl) T.n_len PySem.boot_len (da_cons (dv 5) (da_nil))) (de_glob (by rfl) T.c_MOST_DEEDS))))).pt) (dss_one (ds_ret (de_int))) (dss_nil)) (dss_one (ds_ret (de_ifExp (dt_val (de_cb (cl_all rfl) (by rfl) T.n_all PyProof.Rows.boot_all (da_cons (de_lc (own := [("deed", 9)]) (gd := gdName 9) rfl sc_bad_part.nd (tg_name) (di_seq (dv 5)) (blkOk_by (N := N_bad_part) (sc := defScope s_bad_part) (by decide +kernel)) (fun _ _ _ _ _ => pg_name (i := 9) sc_bad_part.nd rfl (Or.inl rfl)) (fun _ _ _ _ _ => dts_nil) (fun _ _ _ _ _ => de_cf T.d_is_deed G_is_deed (hr.mono (by omega)) (by rfl) (da_cons (dv 9) (da_cons (dv 4) (da_cons (dv 6) (da_nil)))))) (da_nil)))) (de_non) (de_int)))))))))))
theorem fn_bad_part (T : Pk K mg) {k : Nat} {a_is_word : ASp} {l_is_word : Nat} (G_is_word : FnOk P w K mg base CX0 l_is_word T.f_is_word T.fd_is_word ["part"] (liftF K a_is_word)) (h_is_word : l_is_word ≤ k) {a_is_number : ASp} {l_is_number : Nat} (G_is_number : FnOk P w K mg base CX0 l_is_number T.f_is_number T.fd_is_number ["part", "low", "high"] (liftF K a_is_number)) (h_is_number : l_is_number ≤ k) {a_is_want : ASp} {l_is_want : Nat} (G_is_want : FnOk P w K mg base CX0 l_is_want T.f_is_want T.fd_is_want ["want", "known"] (liftF K a_is_want)) (h_is_want : l_is_want ≤ k) {a_blanks_of : ASp} {l_blanks_of : Nat} (G_blanks_of : FnOk P w K mg base CX0 l_blanks_of T.f_blanks_of T.fd_blanks_of ["pattern"] (liftF K a_blanks_of)) (h_blanks_of : l_blanks_of ≤ k) {a_is_deed : ASp} {l_is_deed : Nat} (G_is_deed : FnOk P w K mg base CX0 l_is_deed T.f_is_deed T.fd_is_deed ["deed", "wants", "known"] (liftF K a_is_deed)) (h_is_deed : l_is_deed ≤ k) {a : ASp} (len : ∀ ds C R, a ds C R → ds.length = 2) (rd : ∀ ds C R, a ds C R → t_bad_part a_is_word a_is_number a_is_want a_blanks_of a_is_deed { nx := fun _ C' => lss R .non C', rt := lss R } (dstart N_bad_part ds) C) : FnOk P w K mg base CX0 (k + 1) T.f_bad_part T.fd_bad_part ["rule", "names"] (liftF K a) :=
  fnDL T.F_bad_part sc_bad_part len fun cdv A outer s H E hr => ⟨_, dv_bad_part T G_is_word h_is_word G_is_number h_is_number G_is_want h_is_want G_blanks_of h_blanks_of G_is_deed h_is_deed hr, rd⟩
theorem dv_need_rules (T : Pk K mg) {k : Nat} {a_bad_part : ASp} {l_bad_part : Nat} (G_bad_part : FnOk P w K mg base CX0 l_bad_part T.f_bad_part T.fd_bad_part ["rule", "names"] (liftF K a_bad_part)) (h_bad_part : l_bad_part ≤ k) {cdv : Value} {A : Around} {outer : List Env} {s : Shared} {H : Hp} {E : XK} {f : Addr} (hr : Room k (A.deeper (envOfC "need_rules" (defScope s_need_rules) s.heap.objs.size f cdv))) :
    PSs (cxOf CX0 P w K mg base N_need_rules "need_rules" (defScope s_need_rules) f cdv A outer s H E).nox (defBody s_need_rules) (liftS K (t_need_rules a_bad_part)) := by
  have hu := hr.units
  have hu5 := hu5_of hr
  exact dss_cons (ds_if ((dw_or (dt_not (dt_val (de_cb cl_isi (by rfl) T.n_isinstance PyProof.Rows.boot_isinstance (da_cons (dv 0) (da_cons (de_bltn (by rfl) T.n_tuple PyProof.Rows.boot_tuple) (da_nil)))))) (dw_or1 (dt_cm (cd_eq hu) (dv 0) (de_tup (da_nil))))).pt) (dss_one (ds_never)) (dss_nil)) (dss_cons (ds_set (i := 1) sc_need_rules.nd rfl (Or.inl rfl) (de_lstC (da_nil))) (dss_one (ds_for PassesOwn.never rfl (di_enum (by rfl) T.n_enumerate (da_cons (dv 0) (da_nil))) (dg_tup rfl (dgs_cons (dg_name (i := 2) sc_need_rules.nd rfl (Or.inl rfl)) (dgs_cons (dg_name (i := 3) sc_need_rules.nd rfl (Or.inl rfl)) (dgs_nil)))) (dss_cons (ds_set (i := 4) sc_need_rules.nd rfl (Or.inl rfl) (de_ifExp (dt_cm (cd_eq hu) (dv 2) (de_glob (by rfl) T.c_MOST_RULES)) (de_neg (de_int)) (de_cf T.d_bad_part G_bad_part (hr.mono (by omega)) (by rfl) (da_cons (dv 3) (da_cons (dv 1) (da_nil)))))) (dss_cons (ds_if (dt_cm cd_isnot (dv 4) (de_non)) (dss_one (ds_never)) (dss_nil)) (dss_one (ds_expr (de_append (dv 1) (da_cons (de_ix hu (dv 3) (de_int)) (da_nil))))))))))
theorem fn_need_rules (T : Pk K mg) {k : Nat} {a_bad_part : ASp} {l_bad_part : Nat} (G_bad_part : FnOk P w K mg base CX0 l_bad_part T.f_bad_part T.fd_bad_part ["rule", "names"] (liftF K a_bad_part)) (h_bad_part : l_bad_part ≤ k) {a : ASp} (len : ∀ ds C R, a ds C R → ds.length = 1) (rd : ∀ ds C R, a ds C R → t_need_rules a_bad_part { nx := fun _ C' => lss R .non C', rt := lss R } (dstart N_need_rules ds) C) : FnOk P w K mg base CX0 (k + 1) T.f_need_rules T.fd_need_rules ["rules"] (liftF K a) :=
  fnDL T.F_need_rules sc_need_rules len fun cdv A outer s H E hr => ⟨_, dv_need_rules T G_bad_part h_bad_part hr, rd⟩
theorem dv_side_of (T : Pk K mg) {k : Nat} {a_is_blank : ASp} {l_is_blank : Nat} (G_is_blank : FnOk P w K mg base CX0 l_is_blank T.f_is_blank T.fd_is_blank ["part"] (liftF K a_is_blank)) (h_is_blank : l_is_blank ≤ k) {cdv : Value} {A : Around} {outer : List Env} {s : Shared} {H : Hp} {E : XK} {f : Addr} (hr : Room k (A.deeper (envOfC "side_of" (defScope s_side_of) s.heap.objs.size f cdv))) :
    PSs (cxOf CX0 P w K mg base N_side_of "side_of" (defScope s_side_of) f cdv A outer s H E).nox (defBody s_side_of) (liftS K (t_side_of a_is_blank)) := by
  have hu := hr.units
  have hu5 := hu5_of hr
  exact dss_one (ds_ret (de_ifExp (dt_val (de_cf T.d_is_blank G_is_blank (hr.mono (by omega)) (by rfl) (da_cons (dv 0) (da_nil)))) (de_ix hu (dv 1) (dv 0)) (dv 0)))
theorem fn_side_of (T : Pk K mg) {k : Nat} {a_is_blank : ASp} {l_is_blank : Nat} (G_is_blank : FnOk P w K mg base CX0 l_is_blank T.f_is_blank T.fd_is_blank ["part"] (liftF K a_is_blank)) (h_is_blank : l_is_blank ≤ k) {a : ASp} (len : ∀ ds C R, a ds C R → ds.length = 2) (rd : ∀ ds C R, a ds C R → t_side_of a_is_blank { nx := fun _ C' => R .non C', rt := R } (dstart N_side_of ds) C) : FnOk P w K mg base CX0 (k + 1) T.f_side_of T.fd_side_of ["part", "known"] (liftF K a) :=
  fnD T.F_side_of sc_side_of len fun cdv A outer s H E hr => ⟨_, dv_side_of T G_is_blank h_is_blank hr, rd⟩
theorem dv_holds (T : Pk K mg) {k : Nat} {a_side_of : ASp} {l_side_of : Nat} (G_side_of : FnOk P w K mg base CX0 l_side_of T.f_side_of T.fd_side_of ["part", "known"] (liftF K a_side_of)) (h_side_of : l_side_of ≤ k) {a_are_same : ASp} {l_are_same : Nat} (G_are_same : FnOk P w K mg base CX0 l_are_same T.f_are_same T.fd_are_same ["one", "other"] (liftF K a_are_same)) (h_are_same : l_are_same ≤ k) {cdv : Value} {A : Around} {outer : List Env} {s : Shared} {H : Hp} {E : XK} {f : Addr} (hr : Room k (A.deeper (envOfC "holds" (defScope s_holds) s.heap.objs.size f cdv))) :
    PSs (cxOf CX0 P w K mg base N_holds "holds" (defScope s_holds) f cdv A outer s H E).nox (defBody s_holds) (liftS K (t_holds a_side_of a_are_same)) := by
  have hu := hr.units
  have hu5 := hu5_of hr
  exact dss_cons (ds_par (i := 2) (j := 3) rfl sc_holds.nd rfl rfl (by decide) rfl rfl (da_cons (de_cf T.d_side_of G_side_of (hr.mono (by omega)) (by rfl) (da_cons (de_ix hu (dv 0) (de_int)) (da_cons (dv 1) (da_nil)))) (da_cons (de_cf T.d_side_of G_side_of (hr.mono (by omega)) (by rfl) (da_cons (de_ix hu (dv 0) (de_int)) (da_cons (dv 1) (da_nil)))) (da_nil))) rfl) (dss_cons (ds_if (dt_cm (cd_eq hu) (de_ix hu (dv 0) (de_int)) (de_str)) (dss_one (ds_ret (de_and (de_not (de_cb cl_isi (by rfl) T.n_isinstance PyProof.Rows.boot_isinstance (da_cons (dv 2) (da_cons (de_bltn (by rfl) T.n_str PyProof.Rows.boot_str) (da_nil))))) (de_and (de_not (de_cb cl_isi (by rfl) T.n_isinstance PyProof.Rows.boot_isinstance (da_cons (dv 3) (da_cons (de_bltn (by rfl) T.n_str PyProof.Rows.boot_str) (da_nil))))) (de_one (de_cm cd_lt (dv 2) (dv 3))))))) (dss_nil)) (dss_one (ds_ret (de_cm (cd_eq hu) (de_cf T.d_are_same G_are_same (hr.mono (by omega)) (by rfl) (da_cons (dv 2) (da_cons (dv 3) (da_nil)))) (de_cm (cd_eq hu) (de_ix hu (dv 0) (de_int)) (de_str))))))
theorem fn_holds (T : Pk K mg) {k : Nat} {a_side_of : ASp} {l_side_of : Nat} (G_side_of : FnOk P w K mg base CX0 l_side_of T.f_side_of T.fd_side_of ["part", "known"] (liftF K a_side_of)) (h_side_of : l_side_of ≤ k) {a_are_same : ASp} {l_are_same : Nat} (G_are_same : FnOk P w K mg base CX0 l_are_same T.f_are_same T.fd_are_same ["one", "other"] (liftF K a_are_same)) (h_are_same : l_are_same ≤ k) {a : ASp} (len : ∀ ds C R, a ds C R → ds.length = 2) (rd : ∀ ds C R, a ds C R → t_holds a_side_of a_are_same { nx := fun _ C' => R .non C', rt := R } (dstart N_holds ds) C) : FnOk P w K mg base CX0 (k + 1) T.f_holds T.fd_holds ["test", "known"] (liftF K a) :=
  fnD T.F_holds sc_holds len fun cdv A outer s H E hr => ⟨_, dv_holds T G_side_of h_side_of G_are_same h_are_same hr, rd⟩
theorem dv_passed (T : Pk K mg) {k : Nat} {a_fitted : ASp} {l_fitted : Nat} (G_fitted : FnOk P w K mg base CX0 l_fitted T.f_fitted T.fd_fitted ["pattern", "thing", "known"] (liftF K a_fitted)) (h_fitted : l_fitted ≤ k) {a_holds : ASp} {l_holds : Nat} (G_holds : FnOk P w K mg base CX0 l_holds T.f_holds T.fd_holds ["test", "known"] (liftF K a_holds)) (h_holds : l_holds ≤ k) {cdv : Value} {A : Around} {outer : List Env} {s : Shared} {H : Hp} {E : XK} {f : Addr} (hr : Room k (A.deeper (envOfC "passed" (defScope s_passed) s.heap.objs.size f cdv))) :
    PSs (cxOf CX0 P w K mg base N_passed "passed" (defScope s_passed) f cdv A outer s H E).nox (defBody s_passed) (liftS K (t_passed a_fitted a_holds)) := by
  have hu := hr.units
  have hu5 := hu5_of hr
  exact dss_cons (ds_set (i := 3) sc_passed.nd rfl (Or.inl rfl) (de_lstC (da_nil))) (dss_cons (ds_for PassesOwn.never rfl (di_seq (dv 1)) (dg_tup rfl (dgs_cons (dg_name (i := 4) sc_passed.nd rfl (Or.inl rfl)) (dgs_cons (dg_name (i := 5) sc_passed.nd rfl (Or.inr rfl)) (dgs_nil)))) (dss_one (ds_if (dt_cm (cd_eq hu) (de_ix hu (dv 0) (de_int)) (de_glob (by rfl) T.c_IS)) (dss_one (ds_for PassesOwn.never rfl (di_seq (dv 2)) (dg_tup rfl (dgs_cons (dg_name (i := 6) sc_passed.nd rfl (Or.inl rfl)) (dgs_cons (dg_name (i := 7) sc_passed.nd rfl (Or.inl rfl)) (dgs_nil)))) (dss_cons (ds_set (i := 8) sc_passed.nd rfl (Or.inl rfl) (de_cf T.d_fitted G_fitted (hr.mono (by omega)) (by rfl) (da_cons (de_ix hu (dv 0) (de_int)) (da_cons (dv 7) (da_cons (dv 5) (da_nil)))))) (dss_one (ds_if (dt_cm cd_isnot (dv 8) (de_non)) (dss_one (ds_expr (de_append (dv 3) (da_cons (de_tup (da_cons (de_add (dv 4) (de_tup (da_cons (dv 6) (da_nil)))) (da_cons (dv 8) (da_nil)))) (da_nil))))) (dss_nil)))))) (dss_one (ds_if (dt_cm (cd_eq hu) (de_ix hu (dv 0) (de_int)) (de_glob (by rfl) T.c_NOT)) (dss_one (ds_if (dt_val (de_cb (cl_all rfl) (by rfl) T.n_all PyProof.Rows.boot_all (da_cons (de_lc (own := [("number", 6), ("thing", 7)]) (gd := gdTup 2 (gdCons (gdName 6) (gdCons (gdName 7) (gdNil)))) rfl sc_passed.nd (tg_tup (tgs_cons (tg_name) (tgs_cons (tg_name) (tgs_nil)))) (di_seq (dv 2)) (blkOk_by (N := N_passed) (sc := defScope s_passed) (by decide +kernel)) (fun _ _ _ _ _ => pg_tup rfl (pgs_cons (pg_name (i := 6) sc_passed.nd rfl (Or.inl rfl)) (pgs_cons (pg_name (i := 7) sc_passed.nd rfl (Or.inl rfl)) (pgs_nil)))) (fun _ _ _ _ _ => dts_nil) (fun _ _ _ _ _ => de_cm cd_is (de_cf T.d_fitted G_fitted (hr.mono (by omega)) (by rfl) (da_cons (de_ix hu (dv 0) (de_int)) (da_cons (dv 7) (da_cons (dv 5) (da_nil))))) (de_non))) (da_nil)))) (dss_one (ds_expr (de_append (dv 3) (da_cons (de_tup (da_cons (dv 4) (da_cons (dv 5) (da_nil)))) (da_nil))))) (dss_nil))) (dss_one (ds_if (dt_val (de_cf T.d_holds G_holds (hr.mono (by omega)) (by rfl) (da_cons (dv 0) (da_cons (dv 5) (da_nil))))) (dss_one (ds_expr (de_append (dv 3) (da_cons (de_tup (da_cons (dv 4) (da_cons (dv 5) (da_nil)))) (da_nil))))) (dss_nil)))))))) (dss_one (ds_ret (de_frz (dv 3)))))
theorem fn_passed (T : Pk K mg) {k : Nat} {a_fitted : ASp} {l_fitted : Nat} (G_fitted : FnOk P w K mg base CX0 l_fitted T.f_fitted T.fd_fitted ["pattern", "thing", "known"] (liftF K a_fitted)) (h_fitted : l_fitted ≤ k) {a_holds : ASp} {l_holds : Nat} (G_holds : FnOk P w K mg base CX0 l_holds T.f_holds T.fd_holds ["test", "known"] (liftF K a_holds)) (h_holds : l_holds ≤ k) {a : ASp} (len : ∀ ds C R, a ds C R → ds.length = 3) (rd : ∀ ds C R, a ds C R → t_passed a_fitted a_holds { nx := fun _ C' => lss R .non C', rt := lss R } (dstart N_passed ds) C) : FnOk P w K mg base CX0 (k + 1) T.f_passed T.fd_passed ["want", "some", "things"] (liftF K a) :=
  fnDL T.F_passed sc_passed len fun cdv A outer s H E hr => ⟨_, dv_passed T G_fitted h_fitted G_holds h_holds hr, rd⟩
theorem dv_numbered (T : Pk K mg) {k : Nat} {cdv : Value} {A : Around} {outer : List Env} {s : Shared} {H : Hp} {E : XK} {f : Addr} (hr : Room k (A.deeper (envOfC "numbered" (defScope s_numbered) s.heap.objs.size f cdv))) :
    PSs (cxOf CX0 P w K mg base N_numbered "numbered" (defScope s_numbered) f cdv A outer s H E).nox (defBody s_numbered) (liftS K (t_numbered)) := by
  have hu := hr.units
  have hu5 := hu5_of hr
  exact dss_cons (ds_set (i := 1) sc_numbered.nd rfl (Or.inl rfl) (de_lstC (da_nil))) (dss_cons (ds_for PassesOwn.never rfl (di_seq (dv 0)) (dg_name (i := 2) sc_numbered.nd rfl (Or.inl rfl)) (dss_one (ds_if (dt_cm (cd_notin hu5) (dv 2) (de_lc (own := [("number", 3), ("one", 4)]) (gd := gdTup 2 (gdCons (gdName 3) (gdCons (gdName 4) (gdNil)))) rfl sc_numbered.nd (tg_tup (tgs_cons (tg_name) (tgs_cons (tg_name) (tgs_nil)))) (di_seq (dv 1)) (blkOk_by (N := N_numbered) (sc := defScope s_numbered) (by decide +kernel)) (fun _ _ _ _ _ => pg_tup rfl (pgs_cons (pg_name (i := 3) sc_numbered.nd rfl (Or.inl rfl)) (pgs_cons (pg_name (i := 4) sc_numbered.nd rfl (Or.inl rfl)) (pgs_nil)))) (fun _ _ _ _ _ => dts_nil) (fun _ _ _ _ _ => dv 4))) (dss_one (ds_expr (de_append (dv 1) (da_cons (de_tup (da_cons (de_cb cl_len (by rfl) T.n_len PySem.boot_len (da_cons (dv 1) (da_nil))) (da_cons (dv 2) (da_nil)))) (da_nil))))) (dss_nil)))) (dss_one (ds_ret (de_frz (dv 1)))))
theorem fn_numbered (T : Pk K mg) {k : Nat} {a : ASp} (len : ∀ ds C R, a ds C R → ds.length = 1) (rd : ∀ ds C R, a ds C R → t_numbered { nx := fun _ C' => lss R .non C', rt := lss R } (dstart N_numbered ds) C) : FnOk P w K mg base CX0 (k + 1) T.f_numbered T.fd_numbered ["things"] (liftF K a) :=
  fnDL T.F_numbered sc_numbered len fun cdv A outer s H E hr => ⟨_, dv_numbered T hr, rd⟩
theorem dv_stuck (T : Pk K mg) {k : Nat} {a_need_rules : ASp} {l_need_rules : Nat} (G_need_rules : FnOk P w K mg base CX0 l_need_rules T.f_need_rules T.fd_need_rules ["rules"] (liftF K a_need_rules)) (h_need_rules : l_need_rules ≤ k) {a_need_things : ASp} {l_need_things : Nat} (G_need_things : FnOk P w K mg base CX0 l_need_things T.f_need_things T.fd_need_things ["things"] (liftF K a_need_things)) (h_need_things : l_need_things ≤ k) {a_is_number : ASp} {l_is_number : Nat} (G_is_number : FnOk P w K mg base CX0 l_is_number T.f_is_number T.fd_is_number ["part", "low", "high"] (liftF K a_is_number)) (h_is_number : l_is_number ≤ k) {a_numbered : ASp} {l_numbered : Nat} (G_numbered : FnOk P w K mg base CX0 l_numbered T.f_numbered T.fd_numbered ["things"] (liftF K a_numbered)) (h_numbered : l_numbered ≤ k) {a_passed : ASp} {l_passed : Nat} (G_passed : FnOk P w K mg base CX0 l_passed T.f_passed T.fd_passed ["want", "some", "things"] (liftF K a_passed)) (h_passed : l_passed ≤ k) {cdv : Value} {A : Around} {outer : List Env} {s : Shared} {H : Hp} {E : XK} {f : Addr} (hr : Room k (A.deeper (envOfC "stuck" (defScope s_stuck) s.heap.objs.size f cdv))) :
    PSs (cxOf CX0 P w K mg base N_stuck "stuck" (defScope s_stuck) f cdv A outer s H E).nox (defBody s_stuck) (liftS K (t_stuck a_need_rules a_need_things a_is_number a_numbered a_passed)) := by
  have hu := hr.units
  have hu5 := hu5_of hr
  exact dss_cons (ds_expr (de_cf T.d_need_rules G_need_rules (hr.mono (by omega)) (by rfl) (da_cons (dv 0) (da_nil)))) (dss_cons (ds_expr (de_cf T.d_need_things G_need_things (hr.mono (by omega)) (by rfl) (da_cons (dv 1) (da_nil)))) (dss_cons (ds_if (dt_not (dt_val (de_cf T.d_is_number G_is_number (hr.mono (by omega)) (by rfl) (da_cons (dv 2) (da_cons (de_int) (da_cons (de_sub (de_cb cl_len (by rfl) T.n_len PySem.boot_len (da_cons (dv 0) (da_nil))) (de_int)) (da_nil))))))) (dss_one (ds_never)) (dss_nil)) (dss_cons (ds_set (i := 3) sc_stuck.nd rfl (Or.inl rfl) (de_lst (da_cons (de_tup (da_cons (de_tup (da_nil)) (da_cons (de_dct0) (da_nil)))) (da_nil)))) (dss_cons (ds_for PassesOwn.never rfl (di_enum (by rfl) T.n_enumerate (da_cons (de_ix hu (de_ix hu (dv 0) (dv 2)) (de_int)) (da_nil))) (dg_tup rfl (dgs_cons (dg_name (i := 4) sc_stuck.nd rfl (Or.inl rfl)) (dgs_cons (dg_name (i := 5) sc_stuck.nd rfl (Or.inl rfl)) (dgs_nil)))) (dss_cons (ds_set (i := 3) sc_stuck.nd rfl (Or.inl rfl) (de_cf T.d_passed G_passed (hr.mono (by omega)) (by rfl) (da_cons (dv 5) (da_cons (dv 3) (da_cons (de_cf T.d_numbered G_numbered (hr.mono (by omega)) (by rfl) (da_cons (dv 1) (da_nil))) (da_nil)))))) (dss_one (ds_if (dt_cm (cd_eq hu) (dv 3) (de_lst (da_nil))) (dss_one (ds_ret (dv 4))) (dss_nil))))) (dss_one (ds_ret (de_non)))))))
theorem fn_stuck (T : Pk K mg) {k : Nat} {a_need_rules : ASp} {l_need_rules : Nat} (G_need_rules : FnOk P w K mg base CX0 l_need_rules T.f_need_rules T.fd_need_rules ["rules"] (liftF K a_need_rules)) (h_need_rules : l_need_rules ≤ k) {a_need_things : ASp} {l_need_things : Nat} (G_need_things : FnOk P w K mg base CX0 l_need_things T.f_need_things T.fd_need_things ["things"] (liftF K a_need_things)) (h_need_things : l_need_things ≤ k) {a_is_number : ASp} {l_is_number : Nat} (G_is_number : FnOk P w K mg base CX0 l_is_number T.f_is_number T.fd_is_number ["part", "low", "high"] (liftF K a_is_number)) (h_is_number : l_is_number ≤ k) {a_numbered : ASp} {l_numbered : Nat} (G_numbered : FnOk P w K mg base CX0 l_numbered T.f_numbered T.fd_numbered ["things"] (liftF K a_numbered)) (h_numbered : l_numbered ≤ k) {a_passed : ASp} {l_passed : Nat} (G_passed : FnOk P w K mg base CX0 l_passed T.f_passed T.fd_passed ["want", "some", "things"] (liftF K a_passed)) (h_passed : l_passed ≤ k) {a : ASp} (len : ∀ ds C R, a ds C R → ds.length = 3) (rd : ∀ ds C R, a ds C R → t_stuck a_need_rules a_need_things a_is_number a_numbered a_passed { nx := fun _ C' => R .non C', rt := R } (dstart N_stuck ds) C) : FnOk P w K mg base CX0 (k + 1) T.f_stuck T.fd_stuck ["rules", "things", "number"] (liftF K a) :=
  fnD T.F_stuck sc_stuck len fun cdv A outer s H E hr => ⟨_, dv_stuck T G_need_rules h_need_rules G_need_things h_need_things G_is_number h_is_number G_numbered h_numbered G_passed h_passed hr, rd⟩
theorem dv__law_row (T : Pk K mg) {k : Nat} {cdv : Value} {A : Around} {outer : List Env} {s : Shared} {H : Hp} {E : XK} {f : Addr} (hr : Room k (A.deeper (envOfC "_law_row" (defScope s__law_row) s.heap.objs.size f cdv))) :
    PSs (cxOf CX0 P w K mg base N__law_row "_law_row" (defScope s__law_row) f cdv A outer s H E).nox (defBody s__law_row) (liftS K (t__law_row)) := by
  have hu := hr.units
  have hu5 := hu5_of hr
  exact dss_cons (ds_set (i := 1) sc__law_row.nd rfl (Or.inl rfl) (de_int)) (dss_cons (ds_for PassesOwn.never rfl (di_seq (dv 0)) (dg_name (i := 2) sc__law_row.nd rfl (Or.inl rfl)) (dss_one (ds_set (i := 1) sc__law_row.nd rfl (Or.inl rfl) (de_mod (de_add (de_add (de_mul (dv 1) (de_int)) (dv 2)) (de_int)) (de_int))))) (dss_one (ds_ret (de_lstC (da_cons (dv 0) (da_cons (de_int) (da_cons (de_int) (da_cons (dv 1) (da_nil)))))))))
theorem fn__law_row (T : Pk K mg) {k : Nat} {a : ASp} (len : ∀ ds C R, a ds C R → ds.length = 1) (rd : ∀ ds C R, a ds C R → t__law_row { nx := fun _ C' => lss R .non C', rt := lss R } (dstart N__law_row ds) C) : FnOk P w K mg base CX0 (k + 1) T.f__law_row T.fd__law_row ["_law_script"] (liftF K a) :=
  fnDL T.F__law_row sc__law_row len fun cdv A outer s H E hr => ⟨_, dv__law_row T hr, rd⟩
theorem dv__law_taken (T : Pk K mg) {k : Nat} {cdv : Value} {A : Around} {outer : List Env} {s : Shared} {H : Hp} {E : XK} {f : Addr} (hr : Room k (A.deeper (envOfC "_law_taken" (defScope s__law_taken) s.heap.objs.size f cdv))) :
    PSs (cxOf CX0 P w K mg base N__law_taken "_law_taken" (defScope s__law_taken) f cdv A outer s H E).nox (defBody s__law_taken) (liftS K (t__law_taken)) := by
  have hu := hr.units
  have hu5 := hu5_of hr
  exact dss_cons (ds_if (dt_cm cd_gt (de_ix hu (dv 0) (de_int)) (de_int)) (dss_cons (ds_set (i := 2) sc__law_taken.nd rfl (Or.inl rfl) (de_mod (de_ix hu (dv 0) (de_int)) (dv 1))) (dss_cons (ds_asg (de_div (de_ix hu (dv 0) (de_int)) (dv 1)) (dg_subL (dv 0) (de_int))) (dss_one (ds_ret (dv 2))))) (dss_nil)) (dss_cons (ds_if (dt_cm cd_lt (de_ix hu (dv 0) (de_int)) (de_cb cl_len (by rfl) T.n_len PySem.boot_len (da_cons (de_ix hu (dv 0) (de_int)) (da_nil)))) (dss_cons (ds_set (i := 3) sc__law_taken.nd rfl (Or.inl rfl) (de_ix hu (de_ix hu (dv 0) (de_int)) (de_ix hu (dv 0) (de_int)))) (dss_cons (ds_asg (de_add (de_ix hu (dv 0) (de_int)) (de_int)) (dg_subL (dv 0) (de_int))) (dss_cons (ds_if (dt_cm cd_ge (dv 3) (de_pow (de_int) (de_int))) (dss_one (ds_asg (de_div (dv 3) (dv 1)) (dg_subL (dv 0) (de_int)))) (dss_nil)) (dss_one (ds_ret (de_mod (dv 3) (dv 1))))))) (dss_nil)) (dss_cons (ds_asg (de_mod (de_add (de_mul (de_ix hu (dv 0) (de_int)) (de_int)) (de_int)) (de_int)) (dg_subL (dv 0) (de_int))) (dss_one (ds_ret (de_mod (de_div (de_ix hu (dv 0) (de_int)) (de_int)) (dv 1))))))
theorem fn__law_taken (T : Pk K mg) {k : Nat} {a : ASp} (len : ∀ ds C R, a ds C R → ds.length = 2) (rd : ∀ ds C R, a ds C R → t__law_taken { nx := fun _ C' => R .non C', rt := R } (dstart N__law_taken ds) C) : FnOk P w K mg base CX0 (k + 1) T.f__law_taken T.fd__law_taken ["_law_row_here", "_law_many"] (liftF K a) :=
  fnD T.F__law_taken sc__law_taken len fun cdv A outer s H E hr => ⟨_, dv__law_taken T hr, rd⟩
theorem dv__law_worth (T : Pk K mg) {k : Nat} {a__law_taken : ASp} {l__law_taken : Nat} (G__law_taken : FnOk P w K mg base CX0 l__law_taken T.f__law_taken T.fd__law_taken ["_law_row_here", "_law_many"] (liftF K a__law_taken)) (h__law_taken : l__law_taken ≤ k) {cdv : Value} {A : Around} {outer : List Env} {s : Shared} {H : Hp} {E : XK} {f : Addr} (hr : Room k (A.deeper (envOfC "_law_worth" (defScope s__law_worth) s.heap.objs.size f cdv))) :
    PSs (cxOf CX0 P w K mg base N__law_worth "_law_worth" (defScope s__law_worth) f cdv A outer s H E).nox (defBody s__law_worth) (liftS K (t__law_worth a__law_taken)) := by
  have hu := hr.units
  have hu5 := hu5_of hr
  exact dss_one (ds_ret (de_ix hu (de_lst (da_cons (de_str) (da_cons (de_str) (da_cons (de_int) (da_cons (de_int) (da_cons (de_int) (da_cons (de_str) (da_cons (de_int) (da_cons (de_sub (de_int) (de_int)) (da_nil)))))))))) (de_ix hu (de_lst (da_cons (de_int) (da_cons (de_int) (da_cons (de_int) (da_cons (de_int) (da_cons (de_int) (da_cons (de_int) (da_cons (de_int) (da_cons (de_int) (da_cons (de_int) (da_cons (de_int) (da_cons (de_int) (da_cons (de_int) (da_nil)))))))))))))) (de_cf T.d__law_taken G__law_taken (hr.mono (by omega)) (by rfl) (da_cons (dv 0) (da_cons (de_int) (da_nil)))))))
theorem fn__law_worth (T : Pk K mg) {k : Nat} {a__law_taken : ASp} {l__law_taken : Nat} (G__law_taken : FnOk P w K mg base CX0 l__law_taken T.f__law_taken T.fd__law_taken ["_law_row_here", "_law_many"] (liftF K a__law_taken)) (h__law_taken : l__law_taken ≤ k) {a : ASp} (len : ∀ ds C R, a ds C R → ds.length = 1) (rd : ∀ ds C R, a ds C R → t__law_worth a__law_taken { nx := fun _ C' => R .non C', rt := R } (dstart N__law_worth ds) C) : FnOk P w K mg base CX0 (k + 1) T.f__law_worth T.fd__law_worth ["_law_row_here"] (liftF K a) :=
  fnD T.F__law_worth sc__law_worth len fun cdv A outer s H E hr => ⟨_, dv__law_worth T G__law_taken h__law_taken hr, rd⟩
theorem dv__law_pattern (T : Pk K mg) {k : Nat} {a__law_taken : ASp} {l__law_taken : Nat} (G__law_taken : FnOk P w K mg base CX0 l__law_taken T.f__law_taken T.fd__law_taken ["_law_row_here", "_law_many"] (liftF K a__law_taken)) (h__law_taken : l__law_taken ≤ k) {a__law_worth : ASp} {l__law_worth : Nat} (G__law_worth : FnOk P w K mg base CX0 l__law_worth T.f__law_worth T.fd__law_worth ["_law_row_here"] (liftF K a__law_worth)) (h__law_worth : l__law_worth ≤ k) {cdv : Value} {A : Around} {outer : List Env} {s : Shared} {H : Hp} {E : XK} {f : Addr} (hr : Room k (A.deeper (envOfC "_law_pattern" (defScope s__law_pattern) s.heap.objs.size f cdv))) :
    PSs (cxOf CX0 P w K mg base N__law_pattern "_law_pattern" (defScope s__law_pattern) f cdv A outer s H E).nox (defBody s__law_pattern) (liftS K (t__law_pattern a__law_taken a__law_worth)) := by
  have hu := hr.units
  have hu5 := hu5_of hr
  exact dss_cons (ds_set (i := 2) sc__law_pattern.nd rfl (Or.inl rfl) (de_tup (da_cons (de_ix hu (de_lst (da_cons (de_str) (da_cons (de_str) (da_cons (de_str) (da_nil))))) (de_cf T.d__law_taken G__law_taken (hr.mono (by omega)) (by rfl) (da_cons (dv 0) (da_cons (de_int) (da_nil))))) (da_nil)))) (dss_cons (ds_for PassesOwn.never rfl (di_range1 (by rfl) T.n_range (da_cons (de_ix hu (de_lst (da_cons (de_int) (da_cons (de_int) (da_cons (de_int) (da_cons (de_int) (da_cons (de_int) (da_nil))))))) (de_cf T.d__law_taken G__law_taken (hr.mono (by omega)) (by rfl) (da_cons (dv 0) (da_cons (de_int) (da_nil))))) (da_nil))) (dg_name (i := 3) sc__law_pattern.nd rfl (Or.inl rfl)) (dss_cons (ds_set (i := 4) sc__law_pattern.nd rfl (Or.inl rfl) (de_lst (da_cons (de_cf T.d__law_worth G__law_worth (hr.mono (by omega)) (by rfl) (da_cons (dv 0) (da_nil))) (da_cons (de_str) (da_cons (de_ix hu (dv 1) (de_cf T.d__law_taken G__law_taken (hr.mono (by omega)) (by rfl) (da_cons (dv 0) (da_cons (de_int) (da_nil))))) (da_cons (de_ix hu (dv 1) (de_cf T.d__law_taken G__law_taken (hr.mono (by omega)) (by rfl) (da_cons (dv 0) (da_cons (de_int) (da_nil))))) (da_nil))))))) (dss_one (ds_set (i := 2) sc__law_pattern.nd rfl (Or.inl rfl) (de_add (dv 2) (de_tup (da_cons (de_ix hu (dv 4) (de_cf T.d__law_taken G__law_taken (hr.mono (by omega)) (by rfl) (da_cons (dv 0) (da_cons (de_int) (da_nil))))) (da_nil)))))))) (dss_one (ds_ret (dv 2))))
theorem fn__law_pattern (T : Pk K mg) {k : Nat} {a__law_taken : ASp} {l__law_taken : Nat} (G__law_taken : FnOk P w K mg base CX0 l__law_taken T.f__law_taken T.fd__law_taken ["_law_row_here", "_law_many"] (liftF K a__law_taken)) (h__law_taken : l__law_taken ≤ k) {a__law_worth : ASp} {l__law_worth : Nat} (G__law_worth : FnOk P w K mg base CX0 l__law_worth T.f__law_worth T.fd__law_worth ["_law_row_here"] (liftF K a__law_worth)) (h__law_worth : l__law_worth ≤ k) {a : ASp} (len : ∀ ds C R, a ds C R → ds.length = 2) (rd : ∀ ds C R, a ds C R → t__law_pattern a__law_taken a__law_worth { nx := fun _ C' => R .non C', rt := R } (dstart N__law_pattern ds) C) : FnOk P w K mg base CX0 (k + 1) T.f__law_pattern T.fd__law_pattern ["_law_row_here", "_law_letters_here"] (liftF K a) :=
  fnD T.F__law_pattern sc__law_pattern len fun cdv A outer s H E hr => ⟨_, dv__law_pattern T G__law_taken h__law_taken G__law_worth h__law_worth hr, rd⟩
theorem dv__law_letters (T : Pk K mg) {k : Nat} {cdv : Value} {A : Around} {outer : List Env} {s : Shared} {H : Hp} {E : XK} {f : Addr} (hr : Room k (A.deeper (envOfC "_law_letters" (defScope s__law_letters) s.heap.objs.size f cdv))) :
    PSs (cxOf CX0 P w K mg base N__law_letters "_law_letters" (defScope s__law_letters) f cdv A outer s H E).nox (defBody s__law_letters) (liftS K (t__law_letters)) := by
  have hu := hr.units
  have hu5 := hu5_of hr
  exact dss_one (ds_ret (de_lc (own := [("_law_part", 1)]) (gd := gdName 1) rfl sc__law_letters.nd (tg_name) (di_seq (de_slice (dv 0) (dp_some (de_int)) (dp_none))) (blkOk_by (N := N__law_letters) (sc := defScope s__law_letters) (by decide +kernel)) (fun _ _ _ _ _ => pg_name (i := 1) sc__law_letters.nd rfl (Or.inl rfl)) (fun _ _ _ _ _ => dts_one ((dw_and (dt_val (de_cb cl_isi (by rfl) T.n_isinstance PyProof.Rows.boot_isinstance (da_cons (dv 1) (da_cons (de_bltn (by rfl) T.n_str PyProof.Rows.boot_str) (da_nil))))) (dw_and (dt_ch cd_le cd_le (de_str) (dv 1) (de_str)) (dw_and1 (dt_cm (cd_eq hu) (de_cb cl_len (by rfl) T.n_len PySem.boot_len (da_cons (dv 1) (da_nil))) (de_int))))).pt)) (fun _ _ _ _ _ => dv 1)))
theorem fn__law_letters (T : Pk K mg) {k : Nat} {a : ASp} (len : ∀ ds C R, a ds C R → ds.length = 1) (rd : ∀ ds C R, a ds C R → t__law_letters { nx := fun _ C' => R .non C', rt := R } (dstart N__law_letters ds) C) : FnOk P w K mg base CX0 (k + 1) T.f__law_letters T.fd__law_letters ["_law_pattern_here"] (liftF K a) :=
  fnD T.F__law_letters sc__law_letters len fun cdv A outer s H E hr => ⟨_, dv__law_letters T hr, rd⟩
theorem dv__law_template (T : Pk K mg) {k : Nat} {a__law_taken : ASp} {l__law_taken : Nat} (G__law_taken : FnOk P w K mg base CX0 l__law_taken T.f__law_taken T.fd__law_taken ["_law_row_here", "_law_many"] (liftF K a__law_taken)) (h__law_taken : l__law_taken ≤ k) {a__law_worth : ASp} {l__law_worth : Nat} (G__law_worth : FnOk P w K mg base CX0 l__law_worth T.f__law_worth T.fd__law_worth ["_law_row_here"] (liftF K a__law_worth)) (h__law_worth : l__law_worth ≤ k) {cdv : Value} {A : Around} {outer : List Env} {s : Shared} {H : Hp} {E : XK} {f : Addr} (hr : Room k (A.deeper (envOfC "_law_template" (defScope s__law_template) s.heap.objs.size f cdv))) :
    PSs (cxOf CX0 P w K mg base N__law_template "_law_template" (defScope s__law_template) f cdv A outer s H E).nox (defBody s__law_template) (liftS K (t__law_template a__law_taken a__law_worth)) := by
  have hu := hr.units
  have hu5 := hu5_of hr
  exact dss_cons (ds_set (i := 2) sc__law_template.nd rfl (Or.inl rfl) (de_tup (da_cons (de_ix hu (de_lst (da_cons (de_str) (da_cons (de_str) (da_cons (de_str) (da_nil))))) (de_cf T.d__law_taken G__law_taken (hr.mono (by omega)) (by rfl) (da_cons (dv 0) (da_cons (de_int) (da_nil))))) (da_nil)))) (dss_cons (ds_for PassesOwn.never rfl (di_range1 (by rfl) T.n_range (da_cons (de_ix hu (de_lst (da_cons (de_int) (da_cons (de_int) (da_cons (de_int) (da_cons (de_int) (da_nil)))))) (de_cf T.d__law_taken G__law_taken (hr.mono (by omega)) (by rfl) (da_cons (dv 0) (da_cons (de_int) (da_nil))))) (da_nil))) (dg_name (i := 3) sc__law_template.nd rfl (Or.inl rfl)) (dss_cons (ds_set (i := 4) sc__law_template.nd rfl (Or.inl rfl) (de_cf T.d__law_worth G__law_worth (hr.mono (by omega)) (by rfl) (da_cons (dv 0) (da_nil)))) (dss_cons (ds_if ((dw_and (dt_cm (cd_ne hu) (dv 1) (de_lst (da_nil))) (dw_and1 (dt_cm cd_gt (de_cf T.d__law_taken G__law_taken (hr.mono (by omega)) (by rfl) (da_cons (dv 0) (da_cons (de_int) (da_nil)))) (de_int)))).pt) (dss_cons (ds_set (i := 4) sc__law_template.nd rfl (Or.inl rfl) (de_ix hu (dv 1) (de_cf T.d__law_taken G__law_taken (hr.mono (by omega)) (by rfl) (da_cons (dv 0) (da_cons (de_cb cl_len (by rfl) T.n_len PySem.boot_len (da_cons (dv 1) (da_nil))) (da_nil)))))) (dss_one (ds_if (dt_cm (cd_eq hu) (de_cf T.d__law_taken G__law_taken (hr.mono (by omega)) (by rfl) (da_cons (dv 0) (da_cons (de_int) (da_nil)))) (de_int)) (dss_one (ds_set (i := 4) sc__law_template.nd rfl (Or.inl rfl) (de_tup (da_cons (dv 4) (da_cons (de_ix hu (de_lst (da_cons (de_int) (da_cons (de_sub (de_int) (de_int)) (da_cons (de_int) (da_cons (de_int) (da_nil)))))) (de_cf T.d__law_taken G__law_taken (hr.mono (by omega)) (by rfl) (da_cons (dv 0) (da_cons (de_int) (da_nil))))) (da_nil)))))) (dss_nil)))) (dss_nil)) (dss_one (ds_set (i := 2) sc__law_template.nd rfl (Or.inl rfl) (de_add (dv 2) (de_tup (da_cons (dv 4) (da_nil))))))))) (dss_one (ds_ret (dv 2))))
theorem fn__law_template (T : Pk K mg) {k : Nat} {a__law_taken : ASp} {l__law_taken : Nat} (G__law_taken : FnOk P w K mg base CX0 l__law_taken T.f__law_taken T.fd__law_taken ["_law_row_here", "_law_many"] (liftF K a__law_taken)) (h__law_taken : l__law_taken ≤ k) {a__law_worth : ASp} {l__law_worth : Nat} (G__law_worth : FnOk P w K mg base CX0 l__law_worth T.f__law_worth T.fd__law_worth ["_law_row_here"] (liftF K a__law_worth)) (h__law_worth : l__law_worth ≤ k) {a : ASp} (len : ∀ ds C R, a ds C R → ds.length = 2) (rd : ∀ ds C R, a ds C R → t__law_template a__law_taken a__law_worth { nx := fun _ C' => R .non C', rt := R } (dstart N__law_template ds) C) : FnOk P w K mg base CX0 (k + 1) T.f__law_template T.fd__law_template ["_law_row_here", "_law_known"] (liftF K a) :=
  fnD T.F__law_template sc__law_template len fun cdv A outer s H E hr => ⟨_, dv__law_template T G__law_taken h__law_taken G__law_worth h__law_worth hr, rd⟩
theorem dv__law_rule (T : Pk K mg) {k : Nat} {a__law_taken : ASp} {l__law_taken : Nat} (G__law_taken : FnOk P w K mg base CX0 l__law_taken T.f__law_taken T.fd__law_taken ["_law_row_here", "_law_many"] (liftF K a__law_taken)) (h__law_taken : l__law_taken ≤ k) {a__law_pattern : ASp} {l__law_pattern : Nat} (G__law_pattern : FnOk P w K mg base CX0 l__law_pattern T.f__law_pattern T.fd__law_pattern ["_law_row_here", "_law_letters_here"] (liftF K a__law_pattern)) (h__law_pattern : l__law_pattern ≤ k) {a__law_letters : ASp} {l__law_letters : Nat} (G__law_letters : FnOk P w K mg base CX0 l__law_letters T.f__law_letters T.fd__law_letters ["_law_pattern_here"] (liftF K a__law_letters)) (h__law_letters : l__law_letters ≤ k) {a__law_worth : ASp} {l__law_worth : Nat} (G__law_worth : FnOk P w K mg base CX0 l__law_worth T.f__law_worth T.fd__law_worth ["_law_row_here"] (liftF K a__law_worth)) (h__law_worth : l__law_worth ≤ k) {a__law_template : ASp} {l__law_template : Nat} (G__law_template : FnOk P w K mg base CX0 l__law_template T.f__law_template T.fd__law_template ["_law_row_here", "_law_known"] (liftF K a__law_template)) (h__law_template : l__law_template ≤ k) {cdv : Value} {A : Around} {outer : List Env} {s : Shared} {H : Hp} {E : XK} {f : Addr} (hr : Room k (A.deeper (envOfC "_law_rule" (defScope s__law_rule) s.heap.objs.size f cdv))) :
    PSs (cxOf CX0 P w K mg base N__law_rule "_law_rule" (defScope s__law_rule) f cdv A outer s H E).nox (defBody s__law_rule) (liftS K (t__law_rule a__law_taken a__law_pattern a__law_letters a__law_worth a__law_template)) := by
  have hu := hr.units
  have hu5 := hu5_of hr
  exact dss_cons (ds_asg (de_tup (da_cons (de_lst (da_nil)) (da_cons (de_lstC (da_nil)) (da_nil)))) (dg_tup rfl (dgs_cons (dg_name (i := 2) sc__law_rule.nd rfl (Or.inl rfl)) (dgs_cons (dg_name (i := 3) sc__law_rule.nd rfl (Or.inr rfl)) (dgs_nil))))) (dss_cons (ds_for PassesOwn.never rfl (di_range1 (by rfl) T.n_range (da_cons (de_ix hu (de_lst (da_cons (de_int) (da_cons (de_int) (da_cons (de_int) (da_cons (de_int) (da_cons (de_int) (da_nil))))))) (de_cf T.d__law_taken G__law_taken (hr.mono (by omega)) (by rfl) (da_cons (dv 0) (da_cons (de_int) (da_nil))))) (da_nil))) (dg_name (i := 4) sc__law_rule.nd rfl (Or.inl rfl)) (dss_cons (ds_set (i := 5) sc__law_rule.nd rfl (Or.inl rfl) (de_ifExp (dt_cm cd_gt (dv 4) (de_int)) (de_cf T.d__law_taken G__law_taken (hr.mono (by omega)) (by rfl) (da_cons (dv 0) (da_cons (de_int) (da_nil)))) (de_int))) (dss_one (ds_if ((dw_or (dt_cm cd_lt (dv 5) (de_int)) (dw_or1 ((dw_and (dt_cm cd_gt (dv 5) (de_int)) (dw_and1 (dt_cm (cd_eq hu) (dv 2) (de_lst (da_nil))))).pt))).pt) (dss_cons (ds_expr (de_append (dv 3) (da_cons (de_tup (da_cons (de_str) (da_cons (de_cf T.d__law_pattern G__law_pattern (hr.mono (by omega)) (by rfl) (da_cons (dv 0) (da_cons (de_str) (da_nil)))) (da_nil)))) (da_nil)))) (dss_one (ds_set (i := 2) sc__law_rule.nd rfl (Or.inl rfl) (de_add (dv 2) (de_cf T.d__law_letters G__law_letters (hr.mono (by omega)) (by rfl) (da_cons (de_ix hu (de_ix hu (dv 3) (de_neg (de_int))) (de_int)) (da_nil))))))) (dss_one (ds_if (dt_cm cd_lt (dv 5) (de_int)) (dss_one (ds_expr (de_append (dv 3) (da_cons (de_tup (da_cons (de_str) (da_cons (de_cf T.d__law_pattern G__law_pattern (hr.mono (by omega)) (by rfl) (da_cons (dv 0) (da_cons (de_str) (da_nil)))) (da_nil)))) (da_nil))))) (dss_cons (ds_set (i := 6) sc__law_rule.nd rfl (Or.inl rfl) (de_ix hu (dv 2) (de_cf T.d__law_taken G__law_taken (hr.mono (by omega)) (by rfl) (da_cons (dv 0) (da_cons (de_cb cl_len (by rfl) T.n_len PySem.boot_len (da_cons (dv 2) (da_nil))) (da_nil)))))) (dss_cons (ds_set (i := 7) sc__law_rule.nd rfl (Or.inl rfl) (de_ix hu (de_lst (da_cons (de_cf T.d__law_worth G__law_worth (hr.mono (by omega)) (by rfl) (da_cons (dv 0) (da_nil))) (da_cons (de_ix hu (dv 2) (de_cf T.d__law_taken G__law_taken (hr.mono (by omega)) (by rfl) (da_cons (dv 0) (da_cons (de_cb cl_len (by rfl) T.n_len PySem.boot_len (da_cons (dv 2) (da_nil))) (da_nil))))) (da_nil)))) (de_cf T.d__law_taken G__law_taken (hr.mono (by omega)) (by rfl) (da_cons (dv 0) (da_cons (de_int) (da_nil)))))) (dss_cons (ds_set (i := 8) sc__law_rule.nd rfl (Or.inl rfl) (de_ifExp (dt_cm (cd_eq hu) (de_cf T.d__law_taken G__law_taken (hr.mono (by omega)) (by rfl) (da_cons (dv 0) (da_cons (de_int) (da_nil)))) (de_int)) (de_tup (da_cons (dv 6) (da_cons (dv 7) (da_nil)))) (de_tup (da_cons (dv 7) (da_cons (dv 6) (da_nil)))))) (dss_one (ds_expr (de_append (dv 3) (da_cons (de_add (de_tup (da_cons (de_ix hu (de_lst (da_cons (de_str) (da_cons (de_str) (da_cons (de_str) (da_nil))))) (de_cf T.d__law_taken G__law_taken (hr.mono (by omega)) (by rfl) (da_cons (dv 0) (da_cons (de_int) (da_nil))))) (da_nil))) (dv 8)) (da_nil)))))))))))))) (dss_cons (ds_setLc (i := 9) (own := [("_law_k", 4)]) (gd := gdName 4) rfl sc__law_rule.nd rfl rfl (sw_true rfl rfl rfl (by decide +kernel)) (tg_name) (di_range1 (by rfl) T.n_range (da_cons (de_cb cl_len (by rfl) T.n_len PySem.boot_len (da_cons (dv 3) (da_nil))) (da_nil))) (blkOk_by (N := N__law_rule) (sc := defScope s__law_rule) (by decide +kernel)) (fun _ _ _ _ _ => pg_name (i := 4) sc__law_rule.nd rfl (Or.inl rfl)) (fun _ _ _ _ _ => dts_one (dt_cm (cd_eq hu) (de_ix hu (de_ix hu (dv 3) (dv 4)) (de_int)) (de_str))) (fun _ _ _ _ _ => dv 4)) (dss_cons (ds_set (i := 10) sc__law_rule.nd rfl (Or.inl rfl) (de_lstC (da_nil))) (dss_cons (ds_for PassesOwn.never rfl (di_range1 (by rfl) T.n_range (da_cons (de_ix hu (de_lst (da_cons (de_int) (da_cons (de_int) (da_cons (de_int) (da_cons (de_int) (da_nil)))))) (de_cf T.d__law_taken G__law_taken (hr.mono (by omega)) (by rfl) (da_cons (dv 0) (da_cons (de_int) (da_nil))))) (da_nil))) (dg_name (i := 4) sc__law_rule.nd rfl (Or.inl rfl)) (dss_cons (ds_set (i := 5) sc__law_rule.nd rfl (Or.inl rfl) (de_cf T.d__law_taken G__law_taken (hr.mono (by omega)) (by rfl) (da_cons (dv 0) (da_cons (de_int) (da_nil))))) (dss_one (ds_if (dt_cm (cd_eq hu) (dv 5) (de_int)) (dss_one (ds_expr (de_append (dv 10) (da_cons (de_tup (da_cons (de_str) (da_cons (de_ix hu (dv 9) (de_cf T.d__law_taken G__law_taken (hr.mono (by omega)) (by rfl) (da_cons (dv 0) (da_cons (de_cb cl_len (by rfl) T.n_len PySem.boot_len (da_cons (dv 9) (da_nil))) (da_nil))))) (da_nil)))) (da_nil))))) (dss_one (ds_expr (de_append (dv 10) (da_cons (de_tup (da_cons (de_ix hu (de_lst (da_cons (de_str) (da_cons (de_str) (da_cons (de_str) (da_cons (de_str) (da_cons (de_str) (da_cons (de_str) (da_cons (de_str) (da_nil))))))))) (de_sub (dv 5) (de_int))) (da_cons (de_cf T.d__law_template G__law_template (hr.mono (by omega)) (by rfl) (da_cons (dv 0) (da_cons (dv 2) (da_nil)))) (da_nil)))) (da_nil))))))))) (dss_one (ds_ret (de_tup (da_cons (dv 1) (da_cons (de_sub (de_cf T.d__law_taken G__law_taken (hr.mono (by omega)) (by rfl) (da_cons (dv 0) (da_cons (de_int) (da_nil)))) (de_int)) (da_cons (de_ct cl_tuple (by rfl) T.n_tuple PyProof.Rows.boot_tuple (da_cons (dv 3) (da_nil))) (da_cons (de_ct cl_tuple (by rfl) T.n_tuple PyProof.Rows.boot_tuple (da_cons (dv 10) (da_nil))) (da_nil))))))))))))
theorem fn__law_rule (T : Pk K mg) {k : Nat} {a__law_taken : ASp} {l__law_taken : Nat} (G__law_taken : FnOk P w K mg base CX0 l__law_taken T.f__law_taken T.fd__law_taken ["_law_row_here", "_law_many"] (liftF K a__law_taken)) (h__law_taken : l__law_taken ≤ k) {a__law_pattern : ASp} {l__law_pattern : Nat} (G__law_pattern : FnOk P w K mg base CX0 l__law_pattern T.f__law_pattern T.fd__law_pattern ["_law_row_here", "_law_letters_here"] (liftF K a__law_pattern)) (h__law_pattern : l__law_pattern ≤ k) {a__law_letters : ASp} {l__law_letters : Nat} (G__law_letters : FnOk P w K mg base CX0 l__law_letters T.f__law_letters T.fd__law_letters ["_law_pattern_here"] (liftF K a__law_letters)) (h__law_letters : l__law_letters ≤ k) {a__law_worth : ASp} {l__law_worth : Nat} (G__law_worth : FnOk P w K mg base CX0 l__law_worth T.f__law_worth T.fd__law_worth ["_law_row_here"] (liftF K a__law_worth)) (h__law_worth : l__law_worth ≤ k) {a__law_template : ASp} {l__law_template : Nat} (G__law_template : FnOk P w K mg base CX0 l__law_template T.f__law_template T.fd__law_template ["_law_row_here", "_law_known"] (liftF K a__law_template)) (h__law_template : l__law_template ≤ k) {a : ASp} (len : ∀ ds C R, a ds C R → ds.length = 2) (rd : ∀ ds C R, a ds C R → t__law_rule a__law_taken a__law_pattern a__law_letters a__law_worth a__law_template { nx := fun _ C' => lss R .non C', rt := lss R } (dstart N__law_rule ds) C) : FnOk P w K mg base CX0 (k + 1) T.f__law_rule T.fd__law_rule ["_law_row_here", "_law_name"] (liftF K a) :=
  fnDL T.F__law_rule sc__law_rule len fun cdv A outer s H E hr => ⟨_, dv__law_rule T G__law_taken h__law_taken G__law_pattern h__law_pattern G__law_letters h__law_letters G__law_worth h__law_worth G__law_template h__law_template hr, rd⟩
theorem dv__law_dense_rule (T : Pk K mg) {k : Nat} {a__law_taken : ASp} {l__law_taken : Nat} (G__law_taken : FnOk P w K mg base CX0 l__law_taken T.f__law_taken T.fd__law_taken ["_law_row_here", "_law_many"] (liftF K a__law_taken)) (h__law_taken : l__law_taken ≤ k) {a__law_worth : ASp} {l__law_worth : Nat} (G__law_worth : FnOk P w K mg base CX0 l__law_worth T.f__law_worth T.fd__law_worth ["_law_row_here"] (liftF K a__law_worth)) (h__law_worth : l__law_worth ≤ k) {cdv : Value} {A : Around} {outer : List Env} {s : Shared} {H : Hp} {E : XK} {f : Addr} (hr : Room k (A.deeper (envOfC "_law_dense_rule" (defScope s__law_dense_rule) s.heap.objs.size f cdv))) :
    PSs (cxOf CX0 P w K mg base N__law_dense_rule "_law_dense_rule" (defScope s__law_dense_rule) f cdv A outer s H E).nox (defBody s__law_dense_rule) (liftS K (t__law_dense_rule a__law_taken a__law_worth)) := by
  have hu := hr.units
  have hu5 := hu5_of hr
  exact dss_cons (ds_asg (de_tup (da_cons (de_lstC (da_cons (de_str) (da_nil))) (da_cons (de_lstC (da_cons (de_tup (da_cons (de_str) (da_cons (de_tup (da_cons (de_ix hu (de_lst (da_cons (de_str) (da_cons (de_str) (da_nil)))) (de_cf T.d__law_taken G__law_taken (hr.mono (by omega)) (by rfl) (da_cons (dv 0) (da_cons (de_int) (da_nil))))) (da_cons (de_str) (da_nil)))) (da_nil)))) (da_nil))) (da_nil)))) (dg_tup rfl (dgs_cons (dg_name (i := 2) sc__law_dense_rule.nd rfl (Or.inl rfl)) (dgs_cons (dg_name (i := 3) sc__law_dense_rule.nd rfl (Or.inr rfl)) (dgs_nil))))) (dss_cons (ds_for PassesOwn.never rfl (di_range1 (by rfl) T.n_range (da_cons (de_cf T.d__law_taken G__law_taken (hr.mono (by omega)) (by rfl) (da_cons (dv 0) (da_cons (de_int) (da_nil)))) (da_nil))) (dg_name (i := 4) sc__law_dense_rule.nd rfl (Or.inl rfl)) (dss_cons (ds_set (i := 5) sc__law_dense_rule.nd rfl (Or.inl rfl) (de_ix hu (de_str) (de_cf T.d__law_taken G__law_taken (hr.mono (by omega)) (by rfl) (da_cons (dv 0) (da_cons (de_int) (da_nil)))))) (dss_cons (ds_set (i := 6) sc__law_dense_rule.nd rfl (Or.inl rfl) (de_cf T.d__law_taken G__law_taken (hr.mono (by omega)) (by rfl) (da_cons (dv 0) (da_cons (de_int) (da_nil))))) (dss_one (ds_if (dt_cm cd_lt (dv 6) (de_int)) (dss_cons (ds_expr (de_append (dv 3) (da_cons (de_tup (da_cons (de_str) (da_cons (de_tup (da_cons (de_ix hu (de_lst (da_cons (de_str) (da_cons (de_str) (da_cons (de_str) (da_nil))))) (dv 6)) (da_cons (dv 5) (da_nil)))) (da_nil)))) (da_nil)))) (dss_one (ds_expr (de_append (dv 2) (da_cons (dv 5) (da_nil)))))) (dss_one (ds_if (dt_cm cd_lt (dv 6) (de_int)) (dss_cons (ds_set (i := 7) sc__law_dense_rule.nd rfl (Or.inl rfl) (de_ix hu (de_lst (da_cons (dv 5) (da_cons (dv 5) (da_cons (de_cf T.d__law_worth G__law_worth (hr.mono (by omega)) (by rfl) (da_cons (dv 0) (da_nil))) (da_nil))))) (de_cf T.d__law_taken G__law_taken (hr.mono (by omega)) (by rfl) (da_cons (dv 0) (da_cons (de_int) (da_nil)))))) (dss_one (ds_expr (de_append (dv 3) (da_cons (de_tup (da_cons (de_str) (da_cons (de_tup (da_cons (de_ix hu (de_lst (da_cons (de_str) (da_cons (de_str) (da_cons (de_str) (da_nil))))) (de_sub (dv 6) (de_int))) (da_cons (dv 7) (da_nil)))) (da_nil)))) (da_nil)))))) (dss_cons (ds_set (i := 8) sc__law_dense_rule.nd rfl (Or.inl rfl) (de_ix hu (dv 2) (de_cf T.d__law_taken G__law_taken (hr.mono (by omega)) (by rfl) (da_cons (dv 0) (da_cons (de_cb cl_len (by rfl) T.n_len PySem.boot_len (da_cons (dv 2) (da_nil))) (da_nil)))))) (dss_one (ds_expr (de_append (dv 3) (da_cons (de_tup (da_cons (de_ix hu (de_lst (da_cons (de_str) (da_cons (de_str) (da_nil)))) (de_sub (dv 6) (de_int))) (da_cons (dv 8) (da_cons (de_ix hu (de_lst (da_cons (de_cf T.d__law_worth G__law_worth (hr.mono (by omega)) (by rfl) (da_cons (dv 0) (da_nil))) (da_cons (de_str) (da_nil)))) (de_sub (dv 6) (de_int))) (da_nil))))) (da_nil))))))))))))) (dss_cons (ds_setLc (i := 9) (own := [("_law_k", 4)]) (gd := gdName 4) rfl sc__law_dense_rule.nd rfl rfl (sw_true rfl rfl rfl (by decide +kernel)) (tg_name) (di_range1 (by rfl) T.n_range (da_cons (de_cb cl_len (by rfl) T.n_len PySem.boot_len (da_cons (dv 3) (da_nil))) (da_nil))) (blkOk_by (N := N__law_dense_rule) (sc := defScope s__law_dense_rule) (by decide +kernel)) (fun _ _ _ _ _ => pg_name (i := 4) sc__law_dense_rule.nd rfl (Or.inl rfl)) (fun _ _ _ _ _ => dts_one (dt_cm (cd_eq hu) (de_ix hu (de_ix hu (dv 3) (dv 4)) (de_int)) (de_str))) (fun _ _ _ _ _ => dv 4)) (dss_cons (ds_set (i := 10) sc__law_dense_rule.nd rfl (Or.inl rfl) (de_lstC (da_nil))) (dss_cons (ds_for PassesOwn.never rfl (di_range1 (by rfl) T.n_range (da_cons (de_add (de_int) (de_cf T.d__law_taken G__law_taken (hr.mono (by omega)) (by rfl) (da_cons (dv 0) (da_cons (de_int) (da_nil))))) (da_nil))) (dg_name (i := 4) sc__law_dense_rule.nd rfl (Or.inl rfl)) (dss_cons (ds_set (i := 7) sc__law_dense_rule.nd rfl (Or.inl rfl) (de_ix hu (de_lst (da_cons (de_ix hu (dv 2) (de_cf T.d__law_taken G__law_taken (hr.mono (by omega)) (by rfl) (da_cons (dv 0) (da_cons (de_cb cl_len (by rfl) T.n_len PySem.boot_len (da_cons (dv 2) (da_nil))) (da_nil))))) (da_cons (de_cf T.d__law_worth G__law_worth (hr.mono (by omega)) (by rfl) (da_cons (dv 0) (da_nil))) (da_nil)))) (de_cf T.d__law_taken G__law_taken (hr.mono (by omega)) (by rfl) (da_cons (dv 0) (da_cons (de_int) (da_nil)))))) (dss_cons (ds_set (i := 11) sc__law_dense_rule.nd rfl (Or.inl rfl) (de_tup (da_cons (de_ix hu (de_lst (da_cons (de_str) (da_cons (de_str) (da_cons (de_str) (da_nil))))) (de_cf T.d__law_taken G__law_taken (hr.mono (by omega)) (by rfl) (da_cons (dv 0) (da_cons (de_int) (da_nil))))) (da_cons (dv 7) (da_nil))))) (dss_cons (ds_expr (de_append (dv 10) (da_cons (de_tup (da_cons (de_ix hu (de_lst (da_cons (de_str) (da_cons (de_str) (da_cons (de_str) (da_cons (de_str) (da_cons (de_str) (da_cons (de_str) (da_nil)))))))) (de_cf T.d__law_taken G__law_taken (hr.mono (by omega)) (by rfl) (da_cons (dv 0) (da_cons (de_int) (da_nil))))) (da_cons (dv 11) (da_nil)))) (da_nil)))) (dss_one (ds_if (dt_cm (cd_eq hu) (de_ix hu (de_ix hu (dv 10) (de_neg (de_int))) (de_int)) (de_str)) (dss_one (ds_asg (de_tup (da_cons (de_str) (da_cons (de_ix hu (dv 9) (de_cf T.d__law_taken G__law_taken (hr.mono (by omega)) (by rfl) (da_cons (dv 0) (da_cons (de_cb cl_len (by rfl) T.n_len PySem.boot_len (da_cons (dv 9) (da_nil))) (da_nil))))) (da_nil)))) (dg_subL (dv 10) (de_neg (de_int))))) (dss_nil))))))) (dss_one (ds_ret (de_tup (da_cons (dv 1) (da_cons (de_sub (de_cf T.d__law_taken G__law_taken (hr.mono (by omega)) (by rfl) (da_cons (dv 0) (da_cons (de_int) (da_nil)))) (de_int)) (da_cons (de_ct cl_tuple (by rfl) T.n_tuple PyProof.Rows.boot_tuple (da_cons (dv 3) (da_nil))) (da_cons (de_ct cl_tuple (by rfl) T.n_tuple PyProof.Rows.boot_tuple (da_cons (dv 10) (da_nil))) (da_nil))))))))))))
theorem fn__law_dense_rule (T : Pk K mg) {k : Nat} {a__law_taken : ASp} {l__law_taken : Nat} (G__law_taken : FnOk P w K mg base CX0 l__law_taken T.f__law_taken T.fd__law_taken ["_law_row_here", "_law_many"] (liftF K a__law_taken)) (h__law_taken : l__law_taken ≤ k) {a__law_worth : ASp} {l__law_worth : Nat} (G__law_worth : FnOk P w K mg base CX0 l__law_worth T.f__law_worth T.fd__law_worth ["_law_row_here"] (liftF K a__law_worth)) (h__law_worth : l__law_worth ≤ k) {a : ASp} (len : ∀ ds C R, a ds C R → ds.length = 2) (rd : ∀ ds C R, a ds C R → t__law_dense_rule a__law_taken a__law_worth { nx := fun _ C' => lss R .non C', rt := lss R } (dstart N__law_dense_rule ds) C) : FnOk P w K mg base CX0 (k + 1) T.f__law_dense_rule T.fd__law_dense_rule ["_law_row_here", "_law_name"] (liftF K a) :=
  fnDL T.F__law_dense_rule sc__law_dense_rule len fun cdv A outer s H E hr => ⟨_, dv__law_dense_rule T G__law_taken h__law_taken G__law_worth h__law_worth hr, rd⟩
theorem dv__law_rules (T : Pk K mg) {k : Nat} {a__law_taken : ASp} {l__law_taken : Nat} (G__law_taken : FnOk P w K mg base CX0 l__law_taken T.f__law_taken T.fd__law_taken ["_law_row_here", "_law_many"] (liftF K a__law_taken)) (h__law_taken : l__law_taken ≤ k) {a__law_dense_rule : ASp} {l__law_dense_rule : Nat} (G__law_dense_rule : FnOk P w K mg base CX0 l__law_dense_rule T.f__law_dense_rule T.fd__law_dense_rule ["_law_row_here", "_law_name"] (liftF K a__law_dense_rule)) (h__law_dense_rule : l__law_dense_rule ≤ k) {a__law_rule : ASp} {l__law_rule : Nat} (G__law_rule : FnOk P w K mg base CX0 l__law_rule T.f__law_rule T.fd__law_rule ["_law_row_here", "_law_name"] (liftF K a__law_rule)) (h__law_rule : l__law_rule ≤ k) {cdv : Value} {A : Around} {outer : List Env} {s : Shared} {H : Hp} {E : XK} {f : Addr} (hr : Room k (A.deeper (envOfC "_law_rules" (defScope s__law_rules) s.heap.objs.size f cdv))) :
    PSs (cxOf CX0 P w K mg base N__law_rules "_law_rules" (defScope s__law_rules) f cdv A outer s H E).nox (defBody s__law_rules) (liftS K (t__law_rules a__law_taken a__law_dense_rule a__law_rule)) := by
  have hu := hr.units
  have hu5 := hu5_of hr
  exact dss_cons (ds_par (i := 2) (j := 3) rfl sc__law_rules.nd rfl rfl (by decide) rfl rfl (da_cons (de_lst (da_cons (de_str) (da_cons (de_str) (da_cons (de_str) (da_cons (de_str) (da_nil)))))) (da_cons (de_cm (cd_eq hu) (de_cf T.d__law_taken G__law_taken (hr.mono (by omega)) (by rfl) (da_cons (dv 0) (da_cons (de_int) (da_nil)))) (de_int)) (da_nil))) rfl) (dss_cons (ds_set (i := 4) sc__law_rules.nd rfl (Or.inl rfl) (de_lstC (da_nil))) (dss_cons (ds_for PassesOwn.never rfl (di_range1 (by rfl) T.n_range (da_cons (de_add (de_int) (de_cf T.d__law_taken G__law_taken (hr.mono (by omega)) (by rfl) (da_cons (dv 0) (da_cons (dv 1) (da_nil))))) (da_nil))) (dg_name (i := 5) sc__law_rules.nd rfl (Or.inl rfl)) (dss_one (ds_expr (de_append (dv 4) (da_cons (de_ifExp (dt_val (dv 3)) (de_cf T.d__law_dense_rule G__law_dense_rule (hr.mono (by omega)) (by rfl) (da_cons (dv 0) (da_cons (de_ix hu (dv 2) (dv 5)) (da_nil)))) (de_cf T.d__law_rule G__law_rule (hr.mono (by omega)) (by rfl) (da_cons (dv 0) (da_cons (de_ix hu (dv 2) (dv 5)) (da_nil))))) (da_nil)))))) (dss_one (ds_ret (de_ct cl_tuple (by rfl) T.n_tuple PyProof.Rows.boot_tuple (da_cons (dv 4) (da_nil)))))))
theorem fn__law_rules (T : Pk K mg) {k : Nat} {a__law_taken : ASp} {l__law_taken : Nat} (G__law_taken : FnOk P w K mg base CX0 l__law_taken T.f__law_taken T.fd__law_taken ["_law_row_here", "_law_many"] (liftF K a__law_taken)) (h__law_taken : l__law_taken ≤ k) {a__law_dense_rule : ASp} {l__law_dense_rule : Nat} (G__law_dense_rule : FnOk P w K mg base CX0 l__law_dense_rule T.f__law_dense_rule T.fd__law_dense_rule ["_law_row_here", "_law_name"] (liftF K a__law_dense_rule)) (h__law_dense_rule : l__law_dense_rule ≤ k) {a__law_rule : ASp} {l__law_rule : Nat} (G__law_rule : FnOk P w K mg base CX0 l__law_rule T.f__law_rule T.fd__law_rule ["_law_row_here", "_law_name"] (liftF K a__law_rule)) (h__law_rule : l__law_rule ≤ k) {a : ASp} (len : ∀ ds C R, a ds C R → ds.length = 2) (rd : ∀ ds C R, a ds C R → t__law_rules a__law_taken a__law_dense_rule a__law_rule { nx := fun _ C' => lss R .non C', rt := lss R } (dstart N__law_rules ds) C) : FnOk P w K mg base CX0 (k + 1) T.f__law_rules T.fd__law_rules ["_law_row_here", "_law_wished"] (liftF K a) :=
  fnDL T.F__law_rules sc__law_rules len fun cdv A outer s H E hr => ⟨_, dv__law_rules T G__law_taken h__law_taken G__law_dense_rule h__law_dense_rule G__law_rule h__law_rule hr, rd⟩
theorem dv__law_thing (T : Pk K mg) {k : Nat} {a__law_taken : ASp} {l__law_taken : Nat} (G__law_taken : FnOk P w K mg base CX0 l__law_taken T.f__law_taken T.fd__law_taken ["_law_row_here", "_law_many"] (liftF K a__law_taken)) (h__law_taken : l__law_taken ≤ k) {a__law_worth : ASp} {l__law_worth : Nat} (G__law_worth : FnOk P w K mg base CX0 l__law_worth T.f__law_worth T.fd__law_worth ["_law_row_here"] (liftF K a__law_worth)) (h__law_worth : l__law_worth ≤ k) {cdv : Value} {A : Around} {outer : List Env} {s : Shared} {H : Hp} {E : XK} {f : Addr} (hr : Room k (A.deeper (envOfC "_law_thing" (defScope s__law_thing) s.heap.objs.size f cdv))) :
    PSs (cxOf CX0 P w K mg base N__law_thing "_law_thing" (defScope s__law_thing) f cdv A outer s H E).nox (defBody s__law_thing) (liftS K (t__law_thing a__law_taken a__law_worth)) := by
  have hu := hr.units
  have hu5 := hu5_of hr
  exact dss_cons (ds_set (i := 1) sc__law_thing.nd rfl (Or.inl rfl) (de_ix hu (de_lst (da_cons (de_str) (da_cons (de_str) (da_cons (de_str) (da_nil))))) (de_cf T.d__law_taken G__law_taken (hr.mono (by omega)) (by rfl) (da_cons (dv 0) (da_cons (de_int) (da_nil)))))) (dss_one (ds_ret (de_add (de_tup (da_cons (dv 1) (da_nil))) (de_ct cl_tuple (by rfl) T.n_tuple PyProof.Rows.boot_tuple (da_cons (de_lc (own := [("_law_k", 2)]) (gd := gdName 2) rfl sc__law_thing.nd (tg_name) (di_range1 (by rfl) T.n_range (da_cons (de_ix hu (de_lst (da_cons (de_int) (da_cons (de_int) (da_cons (de_int) (da_cons (de_int) (da_cons (de_int) (da_cons (de_int) (da_nil)))))))) (de_cf T.d__law_taken G__law_taken (hr.mono (by omega)) (by rfl) (da_cons (dv 0) (da_cons (de_int) (da_nil))))) (da_nil))) (blkOk_by (N := N__law_thing) (sc := defScope s__law_thing) (by decide +kernel)) (fun _ _ _ _ _ => pg_name (i := 2) sc__law_thing.nd rfl (Or.inl rfl)) (fun _ _ _ _ _ => dts_nil) (fun _ _ _ _ _ => de_cf T.d__law_worth G__law_worth (hr.mono (by omega)) (by rfl) (da_cons (dv 0) (da_nil)))) (da_nil))))))
theorem fn__law_thing (T : Pk K mg) {k : Nat} {a__law_taken : ASp} {l__law_taken : Nat} (G__law_taken : FnOk P w K mg base CX0 l__law_taken T.f__law_taken T.fd__law_taken ["_law_row_here", "_law_many"] (liftF K a__law_taken)) (h__law_taken : l__law_taken ≤ k) {a__law_worth : ASp} {l__law_worth : Nat} (G__law_worth : FnOk P w K mg base CX0 l__law_worth T.f__law_worth T.fd__law_worth ["_law_row_here"] (liftF K a__law_worth)) (h__law_worth : l__law_worth ≤ k) {a : ASp} (len : ∀ ds C R, a ds C R → ds.length = 1) (rd : ∀ ds C R, a ds C R → t__law_thing a__law_taken a__law_worth { nx := fun _ C' => R .non C', rt := R } (dstart N__law_thing ds) C) : FnOk P w K mg base CX0 (k + 1) T.f__law_thing T.fd__law_thing ["_law_row_here"] (liftF K a) :=
  fnD T.F__law_thing sc__law_thing len fun cdv A outer s H E hr => ⟨_, dv__law_thing T G__law_taken h__law_taken G__law_worth h__law_worth hr, rd⟩
theorem dv__law_fit (T : Pk K mg) {k : Nat} {a__law_letters : ASp} {l__law_letters : Nat} (G__law_letters : FnOk P w K mg base CX0 l__law_letters T.f__law_letters T.fd__law_letters ["_law_pattern_here"] (liftF K a__law_letters)) (h__law_letters : l__law_letters ≤ k) {cdv : Value} {A : Around} {outer : List Env} {s : Shared} {H : Hp} {E : XK} {f : Addr} (hr : Room k (A.deeper (envOfC "_law_fit" (defScope s__law_fit) s.heap.objs.size f cdv))) :
    PSs (cxOf CX0 P w K mg base N__law_fit "_law_fit" (defScope s__law_fit) f cdv A outer s H E).nox (defBody s__law_fit) (liftS K (t__law_fit a__law_letters)) := by
  have hu := hr.units
  have hu5 := hu5_of hr
  exact dss_cons (ds_if ((dw_or (dt_cm (cd_ne hu) (de_cb cl_len (by rfl) T.n_len PySem.boot_len (da_cons (dv 0) (da_nil))) (de_cb cl_len (by rfl) T.n_len PySem.boot_len (da_cons (dv 1) (da_nil)))) (dw_or1 (dt_cm (cd_ne hu) (de_ix hu (dv 0) (de_int)) (de_ix hu (dv 1) (de_int))))).pt) (dss_one (ds_ret (de_non))) (dss_nil)) (dss_cons (ds_set (i := 3) sc__law_fit.nd rfl (Or.inl rfl) (de_ct cl_dictC (by rfl) T.n_dict PyProof.Rows.boot_dict (da_cons (dv 2) (da_nil)))) (dss_cons (ds_for PassesOwn.never rfl (di_range2 (by rfl) T.n_range (da_cons (de_int) (da_cons (de_cb cl_len (by rfl) T.n_len PySem.boot_len (da_cons (dv 0) (da_nil))) (da_nil)))) (dg_name (i := 4) sc__law_fit.nd rfl (Or.inl rfl)) (dss_cons (ds_par (i := 5) (j := 6) rfl sc__law_fit.nd rfl rfl (by decide) rfl rfl (da_cons (de_ix hu (dv 0) (dv 4)) (da_cons (de_ix hu (dv 1) (dv 4)) (da_nil))) rfl) (dss_one (ds_if (dt_cm (cd_in hu5) (dv 5) (de_cf T.d__law_letters G__law_letters (hr.mono (by omega)) (by rfl) (da_cons (dv 0) (da_nil)))) (dss_cons (ds_if ((dw_and (dt_cm (cd_in hu5) (dv 5) (dv 3)) (dw_and1 (dt_cm (cd_ne hu) (de_ix hu (dv 3) (dv 5)) (dv 6)))).pt) (dss_one (ds_ret (de_non))) (dss_nil)) (dss_one (ds_put hu (dv 3) (dv 5) (dv 6)))) (dss_one (ds_if ((dw_and (dt_cm (cd_ne hu) (dv 5) (de_str)) (dw_and1 (dt_cm (cd_ne hu) (dv 5) (dv 6)))).pt) (dss_one (ds_ret (de_non))) (dss_nil))))))) (dss_one (ds_ret (de_frz (dv 3))))))
theorem fn__law_fit (T : Pk K mg) {k : Nat} {a__law_letters : ASp} {l__law_letters : Nat} (G__law_letters : FnOk P w K mg base CX0 l__law_letters T.f__law_letters T.fd__law_letters ["_law_pattern_here"] (liftF K a__law_letters)) (h__law_letters : l__law_letters ≤ k) {a : ASp} (len : ∀ ds C R, a ds C R → ds.length = 3) (rd : ∀ ds C R, a ds C R → t__law_fit a__law_letters { nx := fun _ C' => lss R .non C', rt := lss R } (dstart N__law_fit ds) C) : FnOk P w K mg base CX0 (k + 1) T.f__law_fit T.fd__law_fit ["_law_pattern_here", "_law_thing_here", "_law_known"] (liftF K a) :=
  fnDL T.F__law_fit sc__law_fit len fun cdv A outer s H E hr => ⟨_, dv__law_fit T G__law_letters h__law_letters hr, rd⟩
theorem dv__law_holds (T : Pk K mg) {k : Nat} {cdv : Value} {A : Around} {outer : List Env} {s : Shared} {H : Hp} {E : XK} {f : Addr} (hr : Room k (A.deeper (envOfC "_law_holds" (defScope s__law_holds) s.heap.objs.size f cdv))) :
    PSs (cxOf CX0 P w K mg base N__law_holds "_law_holds" (defScope s__law_holds) f cdv A outer s H E).nox (defBody s__law_holds) (liftS K (t__law_holds)) := by
  have hu := hr.units
  have hu5 := hu5_of hr
  exact dss_cons (ds_asg (de_lc (own := [("_law_part", 4)]) (gd := gdName 4) rfl sc__law_holds.nd (tg_name) (di_seq (de_slice (dv 0) (dp_some (de_int)) (dp_none))) (blkOk_by (N := N__law_holds) (sc := defScope s__law_holds) (by decide +kernel)) (fun _ _ _ _ _ => pg_name (i := 4) sc__law_holds.nd rfl (Or.inl rfl)) (fun _ _ _ _ _ => dts_nil) (fun _ _ _ _ _ => de_ifExp ((dw_and (dt_val (de_cb cl_isi (by rfl) T.n_isinstance PyProof.Rows.boot_isinstance (da_cons (dv 4) (da_cons (de_bltn (by rfl) T.n_str PyProof.Rows.boot_str) (da_nil))))) (dw_and1 (dt_cm (cd_in hu5) (dv 4) (dv 1)))).pt) (de_ix hu (dv 1) (dv 4)) (dv 4))) (dg_unl rfl (dgs_cons (dg_name (i := 2) sc__law_holds.nd rfl (Or.inl rfl)) (dgs_cons (dg_name (i := 3) sc__law_holds.nd rfl (Or.inl rfl)) (dgs_nil))))) (dss_cons (ds_if (dt_cm (cd_eq hu) (de_ix hu (dv 0) (de_int)) (de_str)) (dss_one (ds_ret (de_and (de_not (de_cb cl_isi (by rfl) T.n_isinstance PyProof.Rows.boot_isinstance (da_cons (dv 2) (da_cons (de_bltn (by rfl) T.n_str PyProof.Rows.boot_str) (da_nil))))) (de_and (de_not (de_cb cl_isi (by rfl) T.n_isinstance PyProof.Rows.boot_isinstance (da_cons (dv 3) (da_cons (de_bltn (by rfl) T.n_str PyProof.Rows.boot_str) (da_nil))))) (de_one (de_cm cd_lt (dv 2) (dv 3))))))) (dss_nil)) (dss_one (ds_ret (de_cm (cd_eq hu) (de_cm (cd_eq hu) (dv 2) (dv 3)) (de_cm (cd_eq hu) (de_ix hu (dv 0) (de_int)) (de_str))))))
theorem fn__law_holds (T : Pk K mg) {k : Nat} {a : ASp} (len : ∀ ds C R, a ds C R → ds.length = 2) (rd : ∀ ds C R, a ds C R → t__law_holds { nx := fun _ C' => R .non C', rt := R } (dstart N__law_holds ds) C) : FnOk P w K mg base CX0 (k + 1) T.f__law_holds T.fd__law_holds ["_law_test", "_law_known"] (liftF K a) :=
  fnD T.F__law_holds sc__law_holds len fun cdv A outer s H E hr => ⟨_, dv__law_holds T hr, rd⟩
theorem dv__law_found (T : Pk K mg) {k : Nat} {a__law_fit : ASp} {l__law_fit : Nat} (G__law_fit : FnOk P w K mg base CX0 l__law_fit T.f__law_fit T.fd__law_fit ["_law_pattern_here", "_law_thing_here", "_law_known"] (liftF K a__law_fit)) (h__law_fit : l__law_fit ≤ k) {a__law_found : ASp} {l__law_found : Nat} (G__law_found : FnOk P w K mg base CX0 l__law_found T.f__law_found T.fd__law_found ["_law_wants", "_law_things", "_law_numbers", "_law_known"] (liftF K a__law_found)) (h__law_found : l__law_found ≤ k) {a__law_holds : ASp} {l__law_holds : Nat} (G__law_holds : FnOk P w K mg base CX0 l__law_holds T.f__law_holds T.fd__law_holds ["_law_test", "_law_known"] (liftF K a__law_holds)) (h__law_holds : l__law_holds ≤ k) {cdv : Value} {A : Around} {outer : List Env} {s : Shared} {H : Hp} {E : XK} {f : Addr} (hr : Room k (A.deeper (envOfC "_law_found" (defScope s__law_found) s.heap.objs.size f cdv))) :
    PSs (cxOf CX0 P w K mg base N__law_found "_law_found" (defScope s__law_found) f cdv A outer s H E).nox (defBody s__law_found) (liftS K (t__law_found a__law_fit a__law_found a__law_holds)) := by
  have hu := hr.units
  have hu5 := hu5_of hr
  exact dss_cons (ds_if (dt_cm (cd_eq hu) (dv 0) (de_tup (da_nil))) (dss_one (ds_ret (de_lst (da_cons (de_tup (da_cons (dv 2) (da_cons (dv 3) (da_nil)))) (da_nil))))) (dss_nil)) (dss_cons (ds_asg (de_tup (da_cons (de_ix hu (dv 0) (de_int)) (da_cons (de_slice (dv 0) (dp_some (de_int)) (dp_none)) (da_nil)))) (dg_tup rfl (dgs_cons (dg_name (i := 4) sc__law_found.nd rfl (Or.inr rfl)) (dgs_cons (dg_name (i := 5) sc__law_found.nd rfl (Or.inl rfl)) (dgs_nil))))) (dss_cons (ds_if (dt_cm (cd_eq hu) (de_ix hu (dv 4) (de_int)) (de_str)) (dss_cons (ds_setLc (i := 6) (own := [("_law_number", 8)]) (gd := gdName 8) rfl sc__law_found.nd rfl rfl (sw_true rfl rfl rfl (by decide +kernel)) (tg_name) (di_seq (dv 1)) (blkOk_by (N := N__law_found) (sc := defScope s__law_found) (by decide +kernel)) (fun _ _ _ _ _ => pg_name (i := 8) sc__law_found.nd rfl (Or.inl rfl)) (fun _ _ _ _ _ => dts_one (dt_cm cd_isnot (de_cf T.d__law_fit G__law_fit (hr.mono (by omega)) (by rfl) (da_cons (de_ix hu (dv 4) (de_int)) (da_cons (de_ix hu (dv 1) (dv 8)) (da_cons (dv 3) (da_nil))))) (de_non))) (fun _ _ _ _ _ => dv 8)) (dss_one (ds_ret (de_ifExp (dt_cm (cd_eq hu) (dv 6) (de_lst (da_nil))) (de_cf T.d__law_found G__law_found (hr.mono (by omega)) (by rfl) (da_cons (dv 5) (da_cons (dv 1) (da_cons (dv 2) (da_cons (dv 3) (da_nil)))))) (de_lst (da_nil)))))) (dss_nil)) (dss_cons (ds_if (dt_cm (cd_ne hu) (de_ix hu (dv 4) (de_int)) (de_str)) (dss_one (ds_ret (de_ifExp (dt_val (de_cf T.d__law_holds G__law_holds (hr.mono (by omega)) (by rfl) (da_cons (dv 4) (da_cons (dv 3) (da_nil))))) (de_cf T.d__law_found G__law_found (hr.mono (by omega)) (by rfl) (da_cons (dv 5) (da_cons (dv 1) (da_cons (dv 2) (da_cons (dv 3) (da_nil)))))) (de_lst (da_nil))))) (dss_nil)) (dss_cons (ds_set (i := 7) sc__law_found.nd rfl (Or.inl rfl) (de_lst (da_nil))) (dss_cons (ds_for PassesOwn.never rfl (di_seq (dv 1)) (dg_name (i := 8) sc__law_found.nd rfl (Or.inl rfl)) (dss_cons (ds_set (i := 9) sc__law_found.nd rfl (Or.inl rfl) (de_cf T.d__law_fit G__law_fit (hr.mono (by omega)) (by rfl) (da_cons (de_ix hu (dv 4) (de_int)) (da_cons (de_ix hu (dv 1) (dv 8)) (da_cons (dv 3) (da_nil)))))) (dss_one (ds_if (dt_cm cd_isnot (dv 9) (de_non)) (dss_one (ds_set (i := 7) sc__law_found.nd rfl (Or.inl rfl) (de_add (dv 7) (de_cf T.d__law_found G__law_found (hr.mono (by omega)) (by rfl) (da_cons (dv 5) (da_cons (dv 1) (da_cons (de_add (dv 2) (de_tup (da_cons (dv 8) (da_nil)))) (da_cons (dv 9) (da_nil))))))))) (dss_nil))))) (dss_one (ds_ret (dv 7))))))))
theorem fn__law_found (T : Pk K mg) {k : Nat} {a__law_fit : ASp} {l__law_fit : Nat} (G__law_fit : FnOk P w K mg base CX0 l__law_fit T.f__law_fit T.fd__law_fit ["_law_pattern_here", "_law_thing_here", "_law_known"] (liftF K a__law_fit)) (h__law_fit : l__law_fit ≤ k) {a__law_found : ASp} {l__law_found : Nat} (G__law_found : FnOk P w K mg base CX0 l__law_found T.f__law_found T.fd__law_found ["_law_wants", "_law_things", "_law_numbers", "_law_known"] (liftF K a__law_found)) (h__law_found : l__law_found ≤ k) {a__law_holds : ASp} {l__law_holds : Nat} (G__law_holds : FnOk P w K mg base CX0 l__law_holds T.f__law_holds T.fd__law_holds ["_law_test", "_law_known"] (liftF K a__law_holds)) (h__law_holds : l__law_holds ≤ k) {a : ASp} (len : ∀ ds C R, a ds C R → ds.length = 4) (rd : ∀ ds C R, a ds C R → t__law_found a__law_fit a__law_found a__law_holds { nx := fun _ C' => R .non C', rt := R } (dstart N__law_found ds) C) : FnOk P w K mg base CX0 (k + 1) T.f__law_found T.fd__law_found ["_law_wants", "_law_things", "_law_numbers", "_law_known"] (liftF K a) :=
  fnD T.F__law_found sc__law_found len fun cdv A outer s H E hr => ⟨_, dv__law_found T G__law_fit h__law_fit G__law_found h__law_found G__law_holds h__law_holds hr, rd⟩
theorem dv__law_alike (T : Pk K mg) {k : Nat} {a__law_alike : ASp} {l__law_alike : Nat} (G__law_alike : FnOk P w K mg base CX0 l__law_alike T.f__law_alike T.fd__law_alike ["_law_found_here", "_law_due"] (liftF K a__law_alike)) (h__law_alike : l__law_alike ≤ k) {cdv : Value} {A : Around} {outer : List Env} {s : Shared} {H : Hp} {E : XK} {f : Addr} (hr : Room k (A.deeper (envOfC "_law_alike" (defScope s__law_alike) s.heap.objs.size f cdv))) :
    PSs (cxOf CX0 P w K mg base N__law_alike "_law_alike" (defScope s__law_alike) f cdv A outer s H E).nox (defBody s__law_alike) (liftS K (t__law_alike a__law_alike)) := by
  have hu := hr.units
  have hu5 := hu5_of hr
  exact dss_cons (ds_if (dt_val (de_cb cl_isi (by rfl) T.n_isinstance PyProof.Rows.boot_isinstance (da_cons (dv 1) (da_cons (de_tup (da_cons (de_bltn (by rfl) T.n_tuple PyProof.Rows.boot_tuple) (da_cons (de_bltn (by rfl) T.n_list PyProof.Rows.boot_list) (da_nil)))) (da_nil))))) (dss_cons (ds_if ((dw_or (dt_cm (cd_ne hu) (de_cb cl_isi (by rfl) T.n_isinstance PyProof.Rows.boot_isinstance (da_cons (dv 0) (da_cons (de_bltn (by rfl) T.n_tuple PyProof.Rows.boot_tuple) (da_nil)))) (de_cb cl_isi (by rfl) T.n_isinstance PyProof.Rows.boot_isinstance (da_cons (dv 1) (da_cons (de_bltn (by rfl) T.n_tuple PyProof.Rows.boot_tuple) (da_nil))))) (dw_or1 (dt_not (dt_val (de_cb cl_isi (by rfl) T.n_isinstance PyProof.Rows.boot_isinstance (da_cons (dv 0) (da_cons (de_tup (da_cons (de_bltn (by rfl) T.n_tuple PyProof.Rows.boot_tuple) (da_cons (de_bltn (by rfl) T.n_list PyProof.Rows.boot_list) (da_nil)))) (da_nil)))))))).pt) (dss_one (ds_ret (de_bl))) (dss_nil)) (dss_cons (ds_if (dt_cm (cd_ne hu) (de_cb cl_len (by rfl) T.n_len PySem.boot_len (da_cons (dv 0) (da_nil))) (de_cb cl_len (by rfl) T.n_len PySem.boot_len (da_cons (dv 1) (da_nil)))) (dss_one (ds_ret (de_bl))) (dss_nil)) (dss_one (ds_ret (de_cm (cd_eq hu) (de_lc (own := [("_law_k", 3)]) (gd := gdName 3) rfl sc__law_alike.nd (tg_name) (di_range1 (by rfl) T.n_range (da_cons (de_cb cl_len (by rfl) T.n_len PySem.boot_len (da_cons (dv 1) (da_nil))) (da_nil))) (blkOk_by (N := N__law_alike) (sc := defScope s__law_alike) (by decide +kernel)) (fun _ _ _ _ _ => pg_name (i := 3) sc__law_alike.nd rfl (Or.inl rfl)) (fun _ _ _ _ _ => dts_one (dt_not (dt_val (de_cf T.d__law_alike G__law_alike (hr.mono (by omega)) (by rfl) (da_cons (de_ix hu (dv 0) (dv 3)) (da_cons (de_ix hu (dv 1) (dv 3)) (da_nil))))))) (fun _ _ _ _ _ => dv 3)) (de_lst (da_nil))))))) (dss_nil)) (dss_cons (ds_if ((dw_or (dt_cm cd_is (dv 1) (de_non)) (dw_or1 (dt_cm cd_is (dv 0) (de_non)))).pt) (dss_one (ds_ret (de_and (de_cm cd_is (dv 1) (de_non)) (de_one (de_cm cd_is (dv 0) (de_non)))))) (dss_nil)) (dss_cons (ds_set (i := 2) sc__law_alike.nd rfl (Or.inl rfl) (de_cm (cd_eq hu) (de_cb cl_isi (by rfl) T.n_isinstance PyProof.Rows.boot_isinstance (da_cons (dv 1) (da_cons (de_bltn (by rfl) T.n_str PyProof.Rows.boot_str) (da_nil)))) (de_cb cl_isi (by rfl) T.n_isinstance PyProof.Rows.boot_isinstance (da_cons (dv 0) (da_cons (de_bltn (by rfl) T.n_str PyProof.Rows.boot_str) (da_nil)))))) (dss_one (ds_ret (de_and (dv 2) (de_and (de_cm (cd_eq hu) (de_cb cl_isi (by rfl) T.n_isinstance PyProof.Rows.boot_isinstance (da_cons (dv 1) (da_cons (de_bltn (by rfl) T.n_bool PyProof.Rows.boot_bool) (da_nil)))) (de_cb cl_isi (by rfl) T.n_isinstance PyProof.Rows.boot_isinstance (da_cons (dv 0) (da_cons (de_bltn (by rfl) T.n_bool PyProof.Rows.boot_bool) (da_nil))))) (de_one (de_cm (cd_eq hu) (dv 0) (dv 1)))))))))
theorem fn__law_alike (T : Pk K mg) {k : Nat} {a__law_alike : ASp} {l__law_alike : Nat} (G__law_alike : FnOk P w K mg base CX0 l__law_alike T.f__law_alike T.fd__law_alike ["_law_found_here", "_law_due"] (liftF K a__law_alike)) (h__law_alike : l__law_alike ≤ k) {a : ASp} (len : ∀ ds C R, a ds C R → ds.length = 2) (rd : ∀ ds C R, a ds C R → t__law_alike a__law_alike { nx := fun _ C' => R .non C', rt := R } (dstart N__law_alike ds) C) : FnOk P w K mg base CX0 (k + 1) T.f__law_alike T.fd__law_alike ["_law_found_here", "_law_due"] (liftF K a) :=
  fnD T.F__law_alike sc__law_alike len fun cdv A outer s H E hr => ⟨_, dv__law_alike T G__law_alike h__law_alike hr, rd⟩
theorem dv_law (T : Pk K mg) {k : Nat} {a__law_row : ASp} {l__law_row : Nat} (G__law_row : FnOk P w K mg base CX0 l__law_row T.f__law_row T.fd__law_row ["_law_script"] (liftF K a__law_row)) (h__law_row : l__law_row ≤ k) {a__law_rules : ASp} {l__law_rules : Nat} (G__law_rules : FnOk P w K mg base CX0 l__law_rules T.f__law_rules T.fd__law_rules ["_law_row_here", "_law_wished"] (liftF K a__law_rules)) (h__law_rules : l__law_rules ≤ k) {a__law_taken : ASp} {l__law_taken : Nat} (G__law_taken : FnOk P w K mg base CX0 l__law_taken T.f__law_taken T.fd__law_taken ["_law_row_here", "_law_many"] (liftF K a__law_taken)) (h__law_taken : l__law_taken ≤ k) {a__law_thing : ASp} {l__law_thing : Nat} (G__law_thing : FnOk P w K mg base CX0 l__law_thing T.f__law_thing T.fd__law_thing ["_law_row_here"] (liftF K a__law_thing)) (h__law_thing : l__law_thing ≤ k) {a__law_found : ASp} {l__law_found : Nat} (G__law_found : FnOk P w K mg base CX0 l__law_found T.f__law_found T.fd__law_found ["_law_wants", "_law_things", "_law_numbers", "_law_known"] (liftF K a__law_found)) (h__law_found : l__law_found ≤ k) {a_stuck : ASp} {l_stuck : Nat} (G_stuck : FnOk P w K mg base CX0 l_stuck T.f_stuck T.fd_stuck ["rules", "things", "number"] (liftF K a_stuck)) (h_stuck : l_stuck ≤ k) {a__law_alike : ASp} {l__law_alike : Nat} (G__law_alike : FnOk P w K mg base CX0 l__law_alike T.f__law_alike T.fd__law_alike ["_law_found_here", "_law_due"] (liftF K a__law_alike)) (h__law_alike : l__law_alike ≤ k) {cdv : Value} {A : Around} {outer : List Env} {s : Shared} {H : Hp} {E : XK} {f : Addr} (hr : Room k (A.deeper (envOfC "law" (defScope s_law) s.heap.objs.size f cdv))) :
    PSs (cxOf CX0 P w K mg base N_law "law" (defScope s_law) f cdv A outer s H E).nox (defBody s_law) (liftS K (t_law a__law_row a__law_rules a__law_taken a__law_thing a__law_found a_stuck a__law_alike)) := by
  have hu := hr.units
  have hu5 := hu5_of hr
  exact dss_cons (ds_set (i := 1) sc_law.nd rfl (Or.inr rfl) (de_cf T.d__law_row G__law_row (hr.mono (by omega)) (by rfl) (da_cons (dv 0) (da_nil)))) (dss_cons (ds_for PassesOwn.never rfl (di_range1 (by rfl) T.n_range (da_cons (de_int) (da_nil))) (dg_name (i := 2) sc_law.nd rfl (Or.inl rfl)) (dss_cons (ds_asg (de_tup (da_cons (de_cf T.d__law_rules G__law_rules (hr.mono (by omega)) (by rfl) (da_cons (dv 1) (da_cons (de_int) (da_nil)))) (da_cons (de_lc (own := [("_law_k", 9)]) (gd := gdName 9) rfl sc_law.nd (tg_name) (di_range1 (by rfl) T.n_range (da_cons (de_cf T.d__law_taken G__law_taken (hr.mono (by omega)) (by rfl) (da_cons (dv 1) (da_cons (de_int) (da_nil)))) (da_nil))) (blkOk_by (N := N_law) (sc := defScope s_law) (by decide +kernel)) (fun _ _ _ _ _ => pg_name (i := 9) sc_law.nd rfl (Or.inl rfl)) (fun _ _ _ _ _ => dts_nil) (fun _ _ _ _ _ => de_cf T.d__law_thing G__law_thing (hr.mono (by omega)) (by rfl) (da_cons (dv 1) (da_nil)))) (da_nil)))) (dg_tup rfl (dgs_cons (dg_name (i := 3) sc_law.nd rfl (Or.inl rfl)) (dgs_cons (dg_name (i := 4) sc_law.nd rfl (Or.inr rfl)) (dgs_nil))))) (dss_cons (ds_set (i := 5) sc_law.nd rfl (Or.inl rfl) (de_ct (cl_dictP rfl) (by rfl) T.n_dict PyProof.Rows.boot_dict (da_cons (de_lc (own := [("_law_k", 9)]) (gd := gdName 9) rfl sc_law.nd (tg_name) (di_range1 (by rfl) T.n_range (da_cons (de_cb cl_len (by rfl) T.n_len PySem.boot_len (da_cons (dv 4) (da_nil))) (da_nil))) (blkOk_by (N := N_law) (sc := defScope s_law) (by decide +kernel)) (fun _ _ _ _ _ => pg_name (i := 9) sc_law.nd rfl (Or.inl rfl)) (fun _ _ _ _ _ => dts_nil) (fun _ _ _ _ _ => de_tup (da_cons (dv 9) (da_cons (de_ix hu (dv 4) (dv 9)) (da_nil))))) (da_nil)))) (dss_one (ds_for PassesOwn.never rfl (di_range1 (by rfl) T.n_range (da_cons (de_cb cl_len (by rfl) T.n_len PySem.boot_len (da_cons (dv 3) (da_nil))) (da_nil))) (dg_name (i := 6) sc_law.nd rfl (Or.inl rfl)) (dss_cons (ds_par (i := 7) (j := 8) rfl sc_law.nd rfl rfl (by decide) rfl rfl (da_cons (de_ix hu (de_ix hu (dv 3) (dv 6)) (de_int)) (da_cons (de_non) (da_nil))) rfl) (dss_cons (ds_for PassesOwn.never rfl (di_range1 (by rfl) T.n_range (da_cons (de_cb cl_len (by rfl) T.n_len PySem.boot_len (da_cons (dv 7) (da_nil))) (da_nil))) (dg_name (i := 9) sc_law.nd rfl (Or.inl rfl)) (dss_one (ds_if ((dw_and (dt_cm cd_is (dv 8) (de_non)) (dw_and1 (dt_cm (cd_eq hu) (de_cf T.d__law_found G__law_found (hr.mono (by omega)) (by rfl) (da_cons (de_slice (dv 7) (dp_none) (dp_some (de_add (dv 9) (de_int)))) (da_cons (dv 5) (da_cons (de_tup (da_nil)) (da_cons (de_dct0) (da_nil)))))) (de_lst (da_nil))))).pt) (dss_one (ds_set (i := 8) sc_law.nd rfl (Or.inl rfl) (dv 9))) (dss_nil)))) (dss_one (ds_if (dt_not (dt_val (de_cf T.d__law_alike G__law_alike (hr.mono (by omega)) (by rfl) (da_cons (de_cf T.d_stuck G_stuck (hr.mono (by omega)) (by rfl) (da_cons (dv 3) (da_cons (dv 4) (da_cons (dv 6) (da_nil))))) (da_cons (dv 8) (da_nil)))))) (dss_one (ds_ret (de_bl))) (dss_nil)))))))))) (dss_one (ds_ret (de_bl))))
theorem fn_law (T : Pk K mg) {k : Nat} {a__law_row : ASp} {l__law_row : Nat} (G__law_row : FnOk P w K mg base CX0 l__law_row T.f__law_row T.fd__law_row ["_law_script"] (liftF K a__law_row)) (h__law_row : l__law_row ≤ k) {a__law_rules : ASp} {l__law_rules : Nat} (G__law_rules : FnOk P w K mg base CX0 l__law_rules T.f__law_rules T.fd__law_rules ["_law_row_here", "_law_wished"] (liftF K a__law_rules)) (h__law_rules : l__law_rules ≤ k) {a__law_taken : ASp} {l__law_taken : Nat} (G__law_taken : FnOk P w K mg base CX0 l__law_taken T.f__law_taken T.fd__law_taken ["_law_row_here", "_law_many"] (liftF K a__law_taken)) (h__law_taken : l__law_taken ≤ k) {a__law_thing : ASp} {l__law_thing : Nat} (G__law_thing : FnOk P w K mg base CX0 l__law_thing T.f__law_thing T.fd__law_thing ["_law_row_here"] (liftF K a__law_thing)) (h__law_thing : l__law_thing ≤ k) {a__law_found : ASp} {l__law_found : Nat} (G__law_found : FnOk P w K mg base CX0 l__law_found T.f__law_found T.fd__law_found ["_law_wants", "_law_things", "_law_numbers", "_law_known"] (liftF K a__law_found)) (h__law_found : l__law_found ≤ k) {a_stuck : ASp} {l_stuck : Nat} (G_stuck : FnOk P w K mg base CX0 l_stuck T.f_stuck T.fd_stuck ["rules", "things", "number"] (liftF K a_stuck)) (h_stuck : l_stuck ≤ k) {a__law_alike : ASp} {l__law_alike : Nat} (G__law_alike : FnOk P w K mg base CX0 l__law_alike T.f__law_alike T.fd__law_alike ["_law_found_here", "_law_due"] (liftF K a__law_alike)) (h__law_alike : l__law_alike ≤ k) {a : ASp} (len : ∀ ds C R, a ds C R → ds.length = 1) (rd : ∀ ds C R, a ds C R → t_law a__law_row a__law_rules a__law_taken a__law_thing a__law_found a_stuck a__law_alike { nx := fun _ C' => R .non C', rt := R } (dstart N_law ds) C) : FnOk P w K mg base CX0 (k + 1) T.f_law T.fd_law ["_law_script"] (liftF K a) :=
  fnD T.F_law sc_law len fun cdv A outer s H E hr => ⟨_, dv_law T G__law_row h__law_row G__law_rules h__law_rules G__law_taken h__law_taken G__law_thing h__law_thing G__law_found h__law_found G_stuck h_stuck G__law_alike h__law_alike hr, rd⟩
end
end RR
namespace RR
open PySem PySem.Spec L2 DL
open PyProof.Rows hiding St kindOf
section
variable {P : Program} {w : World} {K : PySem.W.Frag} {mg : Str → Option Value} {base : Heap}
theorem fn_none {k : Nat} {f : Addr} {fd : FuncData} {ps : List Str} {a : ASp} (h : ∀ ds C R, ¬ a ds C R) : FnOk P w K mg base CX0 k f fd ps (liftF K a) :=
  ⟨fun vs H Q E ⟨_, _, ds, C, R, _, _, q, _⟩ => absurd q (h ds C R), fun A outer s H args us vs Q E _ _ _ _ ⟨_, _, ds, C, R, _, _, q, _⟩ => absurd q (h ds C R)⟩
theorem ok_is_number (T : Pk K mg) : FnOk P w K mg base CX0 1 T.f_is_number T.fd_is_number ["part", "low", "high"] (liftF K a_is_number) := fn_is_number T (k := 0)  (by intro ds C R h; first | (obtain ⟨e, _⟩ := h; subst e; rfl) | (obtain ⟨_, e, _⟩ := h; subst e; rfl) | (obtain ⟨_, _, e, _⟩ := h; subst e; rfl) | (obtain ⟨_, _, _, e, _⟩ := h; subst e; rfl) | (obtain ⟨_, _, _, _, e, _⟩ := h; subst e; rfl) | (obtain ⟨_, _, _, _, _, e, _⟩ := h; subst e; rfl) | (obtain ⟨_, _, _, _, _, _, e, _⟩ := h; subst e; rfl) | (obtain ⟨_, _, _, _, _, _, _, e, _⟩ := h; subst e; rfl) | (obtain ⟨_, _, _, _, _, _, _, _, e, _⟩ := h; subst e; rfl)) rd_is_number
theorem ok_is_word (T : Pk K mg) : FnOk P w K mg base CX0 1 T.f_is_word T.fd_is_word ["part"] (liftF K a_is_word) := fn_is_word T (k := 0)  (by intro ds C R h; first | (obtain ⟨e, _⟩ := h; subst e; rfl) | (obtain ⟨_, e, _⟩ := h; subst e; rfl) | (obtain ⟨_, _, e, _⟩ := h; subst e; rfl) | (obtain ⟨_, _, _, e, _⟩ := h; subst e; rfl) | (obtain ⟨_, _, _, _, e, _⟩ := h; subst e; rfl) | (obtain ⟨_, _, _, _, _, e, _⟩ := h; subst e; rfl) | (obtain ⟨_, _, _, _, _, _, e, _⟩ := h; subst e; rfl) | (obtain ⟨_, _, _, _, _, _, _, e, _⟩ := h; subst e; rfl) | (obtain ⟨_, _, _, _, _, _, _, _, e, _⟩ := h; subst e; rfl)) rd_is_word
theorem ok_is_worth (T : Pk K mg) : FnOk P w K mg base CX0 2 T.f_is_worth T.fd_is_worth ["part"] (liftF K a_is_worth) := fn_is_worth T (k := 1) (ok_is_word T) (by omega) (ok_is_number T) (by omega) (by intro ds C R h; first | (obtain ⟨e, _⟩ := h; subst e; rfl) | (obtain ⟨_, e, _⟩ := h; subst e; rfl) | (obtain ⟨_, _, e, _⟩ := h; subst e; rfl) | (obtain ⟨_, _, _, e, _⟩ := h; subst e; rfl) | (obtain ⟨_, _, _, _, e, _⟩ := h; subst e; rfl) | (obtain ⟨_, _, _, _, _, e, _⟩ := h; subst e; rfl) | (obtain ⟨_, _, _, _, _, _, e, _⟩ := h; subst e; rfl) | (obtain ⟨_, _, _, _, _, _, _, e, _⟩ := h; subst e; rfl) | (obtain ⟨_, _, _, _, _, _, _, _, e, _⟩ := h; subst e; rfl)) rd_is_worth
theorem ok_is_blank (T : Pk K mg) : FnOk P w K mg base CX0 1 T.f_is_blank T.fd_is_blank ["part"] (liftF K a_is_blank) := fn_is_blank T (k := 0)  (by intro ds C R h; first | (obtain ⟨e, _⟩ := h; subst e; rfl) | (obtain ⟨_, e, _⟩ := h; subst e; rfl) | (obtain ⟨_, _, e, _⟩ := h; subst e; rfl) | (obtain ⟨_, _, _, e, _⟩ := h; subst e; rfl) | (obtain ⟨_, _, _, _, e, _⟩ := h; subst e; rfl) | (obtain ⟨_, _, _, _, _, e, _⟩ := h; subst e; rfl) | (obtain ⟨_, _, _, _, _, _, e, _⟩ := h; subst e; rfl) | (obtain ⟨_, _, _, _, _, _, _, e, _⟩ := h; subst e; rfl) | (obtain ⟨_, _, _, _, _, _, _, _, e, _⟩ := h; subst e; rfl)) rd_is_blank
theorem ok_is_thing (T : Pk K mg) : FnOk P w K mg base CX0 3 T.f_is_thing T.fd_is_thing ["part"] (liftF K a_is_thing) := fn_is_thing T (k := 2) (ok_is_word T) (by omega) (ok_is_worth T) (by omega) (by intro ds C R h; first | (obtain ⟨e, _⟩ := h; subst e; rfl) | (obtain ⟨_, e, _⟩ := h; subst e; rfl) | (obtain ⟨_, _, e, _⟩ := h; subst e; rfl) | (obtain ⟨_, _, _, e, _⟩ := h; subst e; rfl) | (obtain ⟨_, _, _, _, e, _⟩ := h; subst e; rfl) | (obtain ⟨_, _, _, _, _, e, _⟩ := h; subst e; rfl) | (obtain ⟨_, _, _, _, _, _, e, _⟩ := h; subst e; rfl) | (obtain ⟨_, _, _, _, _, _, _, e, _⟩ := h; subst e; rfl) | (obtain ⟨_, _, _, _, _, _, _, _, e, _⟩ := h; subst e; rfl)) rd_is_thing
theorem ok_is_pattern (T : Pk K mg) : FnOk P w K mg base CX0 3 T.f_is_pattern T.fd_is_pattern ["part"] (liftF K a_is_pattern) := fn_is_pattern T (k := 2) (ok_is_word T) (by omega) (ok_is_worth T) (by omega) (ok_is_blank T) (by omega) (by intro ds C R h; first | (obtain ⟨e, _⟩ := h; subst e; rfl) | (obtain ⟨_, e, _⟩ := h; subst e; rfl) | (obtain ⟨_, _, e, _⟩ := h; subst e; rfl) | (obtain ⟨_, _, _, e, _⟩ := h; subst e; rfl) | (obtain ⟨_, _, _, _, e, _⟩ := h; subst e; rfl) | (obtain ⟨_, _, _, _, _, e, _⟩ := h; subst e; rfl) | (obtain ⟨_, _, _, _, _, _, e, _⟩ := h; subst e; rfl) | (obtain ⟨_, _, _, _, _, _, _, e, _⟩ := h; subst e; rfl) | (obtain ⟨_, _, _, _, _, _, _, _, e, _⟩ := h; subst e; rfl)) rd_is_pattern
theorem ok_need_things (T : Pk K mg) : FnOk P w K mg base CX0 4 T.f_need_things T.fd_need_things ["things"] (liftF K a_need_things) := fn_need_things T (k := 3) (ok_is_thing T) (by omega) (by intro ds C R h; first | (obtain ⟨e, _⟩ := h; subst e; rfl) | (obtain ⟨_, e, _⟩ := h; subst e; rfl) | (obtain ⟨_, _, e, _⟩ := h; subst e; rfl) | (obtain ⟨_, _, _, e, _⟩ := h; subst e; rfl) | (obtain ⟨_, _, _, _, e, _⟩ := h; subst e; rfl) | (obtain ⟨_, _, _, _, _, e, _⟩ := h; subst e; rfl) | (obtain ⟨_, _, _, _, _, _, e, _⟩ := h; subst e; rfl) | (obtain ⟨_, _, _, _, _, _, _, e, _⟩ := h; subst e; rfl) | (obtain ⟨_, _, _, _, _, _, _, _, e, _⟩ := h; subst e; rfl)) rd_need_things
theorem ok_are_same (T : Pk K mg) : FnOk P w K mg base CX0 1 T.f_are_same T.fd_are_same ["one", "other"] (liftF K a_are_same) := fn_are_same T (k := 0)  (by intro ds C R h; first | (obtain ⟨e, _⟩ := h; subst e; rfl) | (obtain ⟨_, e, _⟩ := h; subst e; rfl) | (obtain ⟨_, _, e, _⟩ := h; subst e; rfl) | (obtain ⟨_, _, _, e, _⟩ := h; subst e; rfl) | (obtain ⟨_, _, _, _, e, _⟩ := h; subst e; rfl) | (obtain ⟨_, _, _, _, _, e, _⟩ := h; subst e; rfl) | (obtain ⟨_, _, _, _, _, _, e, _⟩ := h; subst e; rfl) | (obtain ⟨_, _, _, _, _, _, _, e, _⟩ := h; subst e; rfl) | (obtain ⟨_, _, _, _, _, _, _, _, e, _⟩ := h; subst e; rfl)) rd_are_same
theorem ok_is_alike (T : Pk K mg) : FnOk P w K mg base CX0 1 T.f_is_alike T.fd_is_alike ["pattern", "thing"] (liftF K a_is_alike) := fn_is_alike T (k := 0)  (by intro ds C R h; first | (obtain ⟨e, _⟩ := h; subst e; rfl) | (obtain ⟨_, e, _⟩ := h; subst e; rfl) | (obtain ⟨_, _, e, _⟩ := h; subst e; rfl) | (obtain ⟨_, _, _, e, _⟩ := h; subst e; rfl) | (obtain ⟨_, _, _, _, e, _⟩ := h; subst e; rfl) | (obtain ⟨_, _, _, _, _, e, _⟩ := h; subst e; rfl) | (obtain ⟨_, _, _, _, _, _, e, _⟩ := h; subst e; rfl) | (obtain ⟨_, _, _, _, _, _, _, e, _⟩ := h; subst e; rfl) | (obtain ⟨_, _, _, _, _, _, _, _, e, _⟩ := h; subst e; rfl)) rd_is_alike
theorem ok_fitted (T : Pk K mg) : FnOk P w K mg base CX0 2 T.f_fitted T.fd_fitted ["pattern", "thing", "known"] (liftF K a_fitted) := fn_fitted T (k := 1) (ok_is_alike T) (by omega) (ok_is_blank T) (by omega) (ok_are_same T) (by omega) (by intro ds C R h; first | (obtain ⟨e, _⟩ := h; subst e; rfl) | (obtain ⟨_, e, _⟩ := h; subst e; rfl) | (obtain ⟨_, _, e, _⟩ := h; subst e; rfl) | (obtain ⟨_, _, _, e, _⟩ := h; subst e; rfl) | (obtain ⟨_, _, _, _, e, _⟩ := h; subst e; rfl) | (obtain ⟨_, _, _, _, _, e, _⟩ := h; subst e; rfl) | (obtain ⟨_, _, _, _, _, _, e, _⟩ := h; subst e; rfl) | (obtain ⟨_, _, _, _, _, _, _, e, _⟩ := h; subst e; rfl) | (obtain ⟨_, _, _, _, _, _, _, _, e, _⟩ := h; subst e; rfl)) rd_fitted
theorem ok_blanks_of (T : Pk K mg) : FnOk P w K mg base CX0 2 T.f_blanks_of T.fd_blanks_of ["pattern"] (liftF K a_blanks_of) := fn_blanks_of T (k := 1) (ok_is_blank T) (by omega) (by intro ds C R h; first | (obtain ⟨e, _⟩ := h; subst e; rfl) | (obtain ⟨_, e, _⟩ := h; subst e; rfl) | (obtain ⟨_, _, e, _⟩ := h; subst e; rfl) | (obtain ⟨_, _, _, e, _⟩ := h; subst e; rfl) | (obtain ⟨_, _, _, _, e, _⟩ := h; subst e; rfl) | (obtain ⟨_, _, _, _, _, e, _⟩ := h; subst e; rfl) | (obtain ⟨_, _, _, _, _, _, e, _⟩ := h; subst e; rfl) | (obtain ⟨_, _, _, _, _, _, _, e, _⟩ := h; subst e; rfl) | (obtain ⟨_, _, _, _, _, _, _, _, e, _⟩ := h; subst e; rfl)) rd_blanks_of
theorem ok_is_side (T : Pk K mg) : FnOk P w K mg base CX0 3 T.f_is_side T.fd_is_side ["part", "known"] (liftF K a_is_side) := fn_is_side T (k := 2) (ok_is_worth T) (by omega) (ok_is_blank T) (by omega) (by intro ds C R h; first | (obtain ⟨e, _⟩ := h; subst e; rfl) | (obtain ⟨_, e, _⟩ := h; subst e; rfl) | (obtain ⟨_, _, e, _⟩ := h; subst e; rfl) | (obtain ⟨_, _, _, e, _⟩ := h; subst e; rfl) | (obtain ⟨_, _, _, _, e, _⟩ := h; subst e; rfl) | (obtain ⟨_, _, _, _, _, e, _⟩ := h; subst e; rfl) | (obtain ⟨_, _, _, _, _, _, e, _⟩ := h; subst e; rfl) | (obtain ⟨_, _, _, _, _, _, _, e, _⟩ := h; subst e; rfl) | (obtain ⟨_, _, _, _, _, _, _, _, e, _⟩ := h; subst e; rfl)) rd_is_side
theorem ok_is_want (T : Pk K mg) : FnOk P w K mg base CX0 4 T.f_is_want T.fd_is_want ["want", "known"] (liftF K a_is_want) := fn_is_want T (k := 3) (ok_is_pattern T) (by omega) (ok_is_side T) (by omega) (by intro ds C R h; first | (obtain ⟨e, _⟩ := h; subst e; rfl) | (obtain ⟨_, e, _⟩ := h; subst e; rfl) | (obtain ⟨_, _, e, _⟩ := h; subst e; rfl) | (obtain ⟨_, _, _, e, _⟩ := h; subst e; rfl) | (obtain ⟨_, _, _, _, e, _⟩ := h; subst e; rfl) | (obtain ⟨_, _, _, _, _, e, _⟩ := h; subst e; rfl) | (obtain ⟨_, _, _, _, _, _, e, _⟩ := h; subst e; rfl) | (obtain ⟨_, _, _, _, _, _, _, e, _⟩ := h; subst e; rfl) | (obtain ⟨_, _, _, _, _, _, _, _, e, _⟩ := h; subst e; rfl)) rd_is_want
theorem ok_is_template (T : Pk K mg) : FnOk P w K mg base CX0 4 T.f_is_template T.fd_is_template ["part", "known"] (liftF K a_is_template) := fn_is_template T (k := 3) (ok_is_word T) (by omega) (ok_is_blank T) (by omega) (ok_is_number T) (by omega) (ok_is_side T) (by omega) (by intro ds C R h; first | (obtain ⟨e, _⟩ := h; subst e; rfl) | (obtain ⟨_, e, _⟩ := h; subst e; rfl) | (obtain ⟨_, _, e, _⟩ := h; subst e; rfl) | (obtain ⟨_, _, _, e, _⟩ := h; subst e; rfl) | (obtain ⟨_, _, _, _, e, _⟩ := h; subst e; rfl) | (obtain ⟨_, _, _, _, _, e, _⟩ := h; subst e; rfl) | (obtain ⟨_, _, _, _, _, _, e, _⟩ := h; subst e; rfl) | (obtain ⟨_, _, _, _, _, _, _, e, _⟩ := h; subst e; rfl) | (obtain ⟨_, _, _, _, _, _, _, _, e, _⟩ := h; subst e; rfl)) rd_is_template
theorem ok_is_deed (T : Pk K mg) : FnOk P w K mg base CX0 5 T.f_is_deed T.fd_is_deed ["deed", "wants", "known"] (liftF K a_is_deed) := fn_is_deed T (k := 4) (ok_is_number T) (by omega) (ok_is_template T) (by omega) (by intro ds C R h; first | (obtain ⟨e, _⟩ := h; subst e; rfl) | (obtain ⟨_, e, _⟩ := h; subst e; rfl) | (obtain ⟨_, _, e, _⟩ := h; subst e; rfl) | (obtain ⟨_, _, _, e, _⟩ := h; subst e; rfl) | (obtain ⟨_, _, _, _, e, _⟩ := h; subst e; rfl) | (obtain ⟨_, _, _, _, _, e, _⟩ := h; subst e; rfl) | (obtain ⟨_, _, _, _, _, _, e, _⟩ := h; subst e; rfl) | (obtain ⟨_, _, _, _, _, _, _, e, _⟩ := h; subst e; rfl) | (obtain ⟨_, _, _, _, _, _, _, _, e, _⟩ := h; subst e; rfl)) rd_is_deed
theorem ok_bad_part (T : Pk K mg) : FnOk P w K mg base CX0 6 T.f_bad_part T.fd_bad_part ["rule", "names"] (liftF K a_bad_part) := fn_bad_part T (k := 5) (ok_is_word T) (by omega) (ok_is_number T) (by omega) (ok_is_want T) (by omega) (ok_blanks_of T) (by omega) (ok_is_deed T) (by omega) (by intro ds C R h; first | (obtain ⟨e, _⟩ := h; subst e; rfl) | (obtain ⟨_, e, _⟩ := h; subst e; rfl) | (obtain ⟨_, _, e, _⟩ := h; subst e; rfl) | (obtain ⟨_, _, _, e, _⟩ := h; subst e; rfl) | (obtain ⟨_, _, _, _, e, _⟩ := h; subst e; rfl) | (obtain ⟨_, _, _, _, _, e, _⟩ := h; subst e; rfl) | (obtain ⟨_, _, _, _, _, _, e, _⟩ := h; subst e; rfl) | (obtain ⟨_, _, _, _, _, _, _, e, _⟩ := h; subst e; rfl) | (obtain ⟨_, _, _, _, _, _, _, _, e, _⟩ := h; subst e; rfl)) rd_bad_part
theorem ok_need_rules (T : Pk K mg) : FnOk P w K mg base CX0 7 T.f_need_rules T.fd_need_rules ["rules"] (liftF K a_need_rules) := fn_need_rules T (k := 6) (ok_bad_part T) (by omega) (by intro ds C R h; first | (obtain ⟨e, _⟩ := h; subst e; rfl) | (obtain ⟨_, e, _⟩ := h; subst e; rfl) | (obtain ⟨_, _, e, _⟩ := h; subst e; rfl) | (obtain ⟨_, _, _, e, _⟩ := h; subst e; rfl) | (obtain ⟨_, _, _, _, e, _⟩ := h; subst e; rfl) | (obtain ⟨_, _, _, _, _, e, _⟩ := h; subst e; rfl) | (obtain ⟨_, _, _, _, _, _, e, _⟩ := h; subst e; rfl) | (obtain ⟨_, _, _, _, _, _, _, e, _⟩ := h; subst e; rfl) | (obtain ⟨_, _, _, _, _, _, _, _, e, _⟩ := h; subst e; rfl)) rd_need_rules
theorem ok_side_of (T : Pk K mg) : FnOk P w K mg base CX0 2 T.f_side_of T.fd_side_of ["part", "known"] (liftF K a_side_of) := fn_side_of T (k := 1) (ok_is_blank T) (by omega) (by intro ds C R h; first | (obtain ⟨e, _⟩ := h; subst e; rfl) | (obtain ⟨_, e, _⟩ := h; subst e; rfl) | (obtain ⟨_, _, e, _⟩ := h; subst e; rfl) | (obtain ⟨_, _, _, e, _⟩ := h; subst e; rfl) | (obtain ⟨_, _, _, _, e, _⟩ := h; subst e; rfl) | (obtain ⟨_, _, _, _, _, e, _⟩ := h; subst e; rfl) | (obtain ⟨_, _, _, _, _, _, e, _⟩ := h; subst e; rfl) | (obtain ⟨_, _, _, _, _, _, _, e, _⟩ := h; subst e; rfl) | (obtain ⟨_, _, _, _, _, _, _, _, e, _⟩ := h; subst e; rfl)) rd_side_of
theorem ok_holds (T : Pk K mg) : FnOk P w K mg base CX0 3 T.f_holds T.fd_holds ["test", "known"] (liftF K a_holds) := fn_holds T (k := 2) (ok_side_of T) (by omega) (ok_are_same T) (by omega) (by intro ds C R h; first | (obtain ⟨e, _⟩ := h; subst e; rfl) | (obtain ⟨_, e, _⟩ := h; subst e; rfl) | (obtain ⟨_, _, e, _⟩ := h; subst e; rfl) | (obtain ⟨_, _, _, e, _⟩ := h; subst e; rfl) | (obtain ⟨_, _, _, _, e, _⟩ := h; subst e; rfl) | (obtain ⟨_, _, _, _, _, e, _⟩ := h; subst e; rfl) | (obtain ⟨_, _, _, _, _, _, e, _⟩ := h; subst e; rfl) | (obtain ⟨_, _, _, _, _, _, _, e, _⟩ := h; subst e; rfl) | (obtain ⟨_, _, _, _, _, _, _, _, e, _⟩ := h; subst e; rfl)) rd_holds
theorem ok_passed (T : Pk K mg) : FnOk P w K mg base CX0 4 T.f_passed T.fd_passed ["want", "some", "things"] (liftF K a_passed) := fn_passed T (k := 3) (ok_fitted T) (by omega) (ok_holds T) (by omega) (by intro ds C R h; first | (obtain ⟨e, _⟩ := h; subst e; rfl) | (obtain ⟨_, e, _⟩ := h; subst e; rfl) | (obtain ⟨_, _, e, _⟩ := h; subst e; rfl) | (obtain ⟨_, _, _, e, _⟩ := h; subst e; rfl) | (obtain ⟨_, _, _, _, e, _⟩ := h; subst e; rfl) | (obtain ⟨_, _, _, _, _, e, _⟩ := h; subst e; rfl) | (obtain ⟨_, _, _, _, _, _, e, _⟩ := h; subst e; rfl) | (obtain ⟨_, _, _, _, _, _, _, e, _⟩ := h; subst e; rfl) | (obtain ⟨_, _, _, _, _, _, _, _, e, _⟩ := h; subst e; rfl)) rd_passed
theorem ok_numbered (T : Pk K mg) : FnOk P w K mg base CX0 1 T.f_numbered T.fd_numbered ["things"] (liftF K a_numbered) := fn_numbered T (k := 0)  (by intro ds C R h; first | (obtain ⟨e, _⟩ := h; subst e; rfl) | (obtain ⟨_, e, _⟩ := h; subst e; rfl) | (obtain ⟨_, _, e, _⟩ := h; subst e; rfl) | (obtain ⟨_, _, _, e, _⟩ := h; subst e; rfl) | (obtain ⟨_, _, _, _, e, _⟩ := h; subst e; rfl) | (obtain ⟨_, _, _, _, _, e, _⟩ := h; subst e; rfl) | (obtain ⟨_, _, _, _, _, _, e, _⟩ := h; subst e; rfl) | (obtain ⟨_, _, _, _, _, _, _, e, _⟩ := h; subst e; rfl) | (obtain ⟨_, _, _, _, _, _, _, _, e, _⟩ := h; subst e; rfl)) rd_numbered
theorem ok_stuck (T : Pk K mg) : FnOk P w K mg base CX0 8 T.f_stuck T.fd_stuck ["rules", "things", "number"] (liftF K a_stuck) := fn_stuck T (k := 7) (ok_need_rules T) (by omega) (ok_need_things T) (by omega) (ok_is_number T) (by omega) (ok_numbered T) (by omega) (ok_passed T) (by omega) (by intro ds C R h; first | (obtain ⟨e, _⟩ := h; subst e; rfl) | (obtain ⟨_, e, _⟩ := h; subst e; rfl) | (obtain ⟨_, _, e, _⟩ := h; subst e; rfl) | (obtain ⟨_, _, _, e, _⟩ := h; subst e; rfl) | (obtain ⟨_, _, _, _, e, _⟩ := h; subst e; rfl) | (obtain ⟨_, _, _, _, _, e, _⟩ := h; subst e; rfl) | (obtain ⟨_, _, _, _, _, _, e, _⟩ := h; subst e; rfl) | (obtain ⟨_, _, _, _, _, _, _, e, _⟩ := h; subst e; rfl) | (obtain ⟨_, _, _, _, _, _, _, _, e, _⟩ := h; subst e; rfl)) rd_stuck
theorem ok__law_row (T : Pk K mg) : FnOk P w K mg base CX0 1 T.f__law_row T.fd__law_row ["_law_script"] (liftF K a__law_row) := fn__law_row T (k := 0)  (by intro ds C R h; first | (obtain ⟨e, _⟩ := h; subst e; rfl) | (obtain ⟨_, e, _⟩ := h; subst e; rfl) | (obtain ⟨_, _, e, _⟩ := h; subst e; rfl) | (obtain ⟨_, _, _, e, _⟩ := h; subst e; rfl) | (obtain ⟨_, _, _, _, e, _⟩ := h; subst e; rfl) | (obtain ⟨_, _, _, _, _, e, _⟩ := h; subst e; rfl) | (obtain ⟨_, _, _, _, _, _, e, _⟩ := h; subst e; rfl) | (obtain ⟨_, _, _, _, _, _, _, e, _⟩ := h; subst e; rfl) | (obtain ⟨_, _, _, _, _, _, _, _, e, _⟩ := h; subst e; rfl)) rd__law_row
theorem ok__law_taken (T : Pk K mg) : FnOk P w K mg base CX0 1 T.f__law_taken T.fd__law_taken ["_law_row_here", "_law_many"] (liftF K a__law_taken) := fn__law_taken T (k := 0)  (by intro ds C R h; first | (obtain ⟨e, _⟩ := h; subst e; rfl) | (obtain ⟨_, e, _⟩ := h; subst e; rfl) | (obtain ⟨_, _, e, _⟩ := h; subst e; rfl) | (obtain ⟨_, _, _, e, _⟩ := h; subst e; rfl) | (obtain ⟨_, _, _, _, e, _⟩ := h; subst e; rfl) | (obtain ⟨_, _, _, _, _, e, _⟩ := h; subst e; rfl) | (obtain ⟨_, _, _, _, _, _, e, _⟩ := h; subst e; rfl) | (obtain ⟨_, _, _, _, _, _, _, e, _⟩ := h; subst e; rfl) | (obtain ⟨_, _, _, _, _, _, _, _, e, _⟩ := h; subst e; rfl)) rd__law_taken
theorem ok__law_worth (T : Pk K mg) : FnOk P w K mg base CX0 2 T.f__law_worth T.fd__law_worth ["_law_row_here"] (liftF K a__law_worth) := fn__law_worth T (k := 1) (ok__law_taken T) (by omega) (by intro ds C R h; first | (obtain ⟨e, _⟩ := h; subst e; rfl) | (obtain ⟨_, e, _⟩ := h; subst e; rfl) | (obtain ⟨_, _, e, _⟩ := h; subst e; rfl) | (obtain ⟨_, _, _, e, _⟩ := h; subst e; rfl) | (obtain ⟨_, _, _, _, e, _⟩ := h; subst e; rfl) | (obtain ⟨_, _, _, _, _, e, _⟩ := h; subst e; rfl) | (obtain ⟨_, _, _, _, _, _, e, _⟩ := h; subst e; rfl) | (obtain ⟨_, _, _, _, _, _, _, e, _⟩ := h; subst e; rfl) | (obtain ⟨_, _, _, _, _, _, _, _, e, _⟩ := h; subst e; rfl)) rd__law_worth
theorem ok__law_pattern (T : Pk K mg) : FnOk P w K mg base CX0 3 T.f__law_pattern T.fd__law_pattern ["_law_row_here", "_law_letters_here"] (liftF K a__law_pattern) := fn__law_pattern T (k := 2) (ok__law_taken T) (by omega) (ok__law_worth T) (by omega) (by intro ds C R h; first | (obtain ⟨e, _⟩ := h; subst e; rfl) | (obtain ⟨_, e, _⟩ := h; subst e; rfl) | (obtain ⟨_, _, e, _⟩ := h; subst e; rfl) | (obtain ⟨_, _, _, e, _⟩ := h; subst e; rfl) | (obtain ⟨_, _, _, _, e, _⟩ := h; subst e; rfl) | (obtain ⟨_, _, _, _, _, e, _⟩ := h; subst e; rfl) | (obtain ⟨_, _, _, _, _, _, e, _⟩ := h; subst e; rfl) | (obtain ⟨_, _, _, _, _, _, _, e, _⟩ := h; subst e; rfl) | (obtain ⟨_, _, _, _, _, _, _, _, e, _⟩ := h; subst e; rfl)) rd__law_pattern
theorem ok__law_letters (T : Pk K mg) : FnOk P w K mg base CX0 1 T.f__law_letters T.fd__law_letters ["_law_pattern_here"] (liftF K a__law_letters) := fn__law_letters T (k := 0)  (by intro ds C R h; first | (obtain ⟨e, _⟩ := h; subst e; rfl) | (obtain ⟨_, e, _⟩ := h; subst e; rfl) | (obtain ⟨_, _, e, _⟩ := h; subst e; rfl) | (obtain ⟨_, _, _, e, _⟩ := h; subst e; rfl) | (obtain ⟨_, _, _, _, e, _⟩ := h; subst e; rfl) | (obtain ⟨_, _, _, _, _, e, _⟩ := h; subst e; rfl) | (obtain ⟨_, _, _, _, _, _, e, _⟩ := h; subst e; rfl) | (obtain ⟨_, _, _, _, _, _, _, e, _⟩ := h; subst e; rfl) | (obtain ⟨_, _, _, _, _, _, _, _, e, _⟩ := h; subst e; rfl)) rd__law_letters
theorem ok__law_template (T : Pk K mg) : FnOk P w K mg base CX0 3 T.f__law_template T.fd__law_template ["_law_row_here", "_law_known"] (liftF K a__law_template) := fn__law_template T (k := 2) (ok__law_taken T) (by omega) (ok__law_worth T) (by omega) (by intro ds C R h; first | (obtain ⟨e, _⟩ := h; subst e; rfl) | (obtain ⟨_, e, _⟩ := h; subst e; rfl) | (obtain ⟨_, _, e, _⟩ := h; subst e; rfl) | (obtain ⟨_, _, _, e, _⟩ := h; subst e; rfl) | (obtain ⟨_, _, _, _, e, _⟩ := h; subst e; rfl) | (obtain ⟨_, _, _, _, _, e, _⟩ := h; subst e; rfl) | (obtain ⟨_, _, _, _, _, _, e, _⟩ := h; subst e; rfl) | (obtain ⟨_, _, _, _, _, _, _, e, _⟩ := h; subst e; rfl) | (obtain ⟨_, _, _, _, _, _, _, _, e, _⟩ := h; subst e; rfl)) rd__law_template
theorem ok__law_rule (T : Pk K mg) : FnOk P w K mg base CX0 4 T.f__law_rule T.fd__law_rule ["_law_row_here", "_law_name"] (liftF K a__law_rule) := fn__law_rule T (k := 3) (ok__law_taken T) (by omega) (ok__law_pattern T) (by omega) (ok__law_letters T) (by omega) (ok__law_worth T) (by omega) (ok__law_template T) (by omega) (by intro ds C R h; first | (obtain ⟨e, _⟩ := h; subst e; rfl) | (obtain ⟨_, e, _⟩ := h; subst e; rfl) | (obtain ⟨_, _, e, _⟩ := h; subst e; rfl) | (obtain ⟨_, _, _, e, _⟩ := h; subst e; rfl) | (obtain ⟨_, _, _, _, e, _⟩ := h; subst e; rfl) | (obtain ⟨_, _, _, _, _, e, _⟩ := h; subst e; rfl) | (obtain ⟨_, _, _, _, _, _, e, _⟩ := h; subst e; rfl) | (obtain ⟨_, _, _, _, _, _, _, e, _⟩ := h; subst e; rfl) | (obtain ⟨_, _, _, _, _, _, _, _, e, _⟩ := h; subst e; rfl)) rd__law_rule
theorem ok__law_dense_rule (T : Pk K mg) : FnOk P w K mg base CX0 3 T.f__law_dense_rule T.fd__law_dense_rule ["_law_row_here", "_law_name"] (liftF K a__law_dense_rule) := fn__law_dense_rule T (k := 2) (ok__law_taken T) (by omega) (ok__law_worth T) (by omega) (by intro ds C R h; first | (obtain ⟨e, _⟩ := h; subst e; rfl) | (obtain ⟨_, e, _⟩ := h; subst e; rfl) | (obtain ⟨_, _, e, _⟩ := h; subst e; rfl) | (obtain ⟨_, _, _, e, _⟩ := h; subst e; rfl) | (obtain ⟨_, _, _, _, e, _⟩ := h; subst e; rfl) | (obtain ⟨_, _, _, _, _, e, _⟩ := h; subst e; rfl) | (obtain ⟨_, _, _, _, _, _, e, _⟩ := h; subst e; rfl) | (obtain ⟨_, _, _, _, _, _, _, e, _⟩ := h; subst e; rfl) | (obtain ⟨_, _, _, _, _, _, _, _, e, _⟩ := h; subst e; rfl)) rd__law_dense_rule
theorem ok__law_rules (T : Pk K mg) : FnOk P w K mg base CX0 5 T.f__law_rules T.fd__law_rules ["_law_row_here", "_law_wished"] (liftF K a__law_rules) := fn__law_rules T (k := 4) (ok__law_taken T) (by omega) (ok__law_dense_rule T) (by omega) (ok__law_rule T) (by omega) (by intro ds C R h; first | (obtain ⟨e, _⟩ := h; subst e; rfl) | (obtain ⟨_, e, _⟩ := h; subst e; rfl) | (obtain ⟨_, _, e, _⟩ := h; subst e; rfl) | (obtain ⟨_, _, _, e, _⟩ := h; subst e; rfl) | (obtain ⟨_, _, _, _, e, _⟩ := h; subst e; rfl) | (obtain ⟨_, _, _, _, _, e, _⟩ := h; subst e; rfl) | (obtain ⟨_, _, _, _, _, _, e, _⟩ := h; subst e; rfl) | (obtain ⟨_, _, _, _, _, _, _, e, _⟩ := h; subst e; rfl) | (obtain ⟨_, _, _, _, _, _, _, _, e, _⟩ := h; subst e; rfl)) rd__law_rules
theorem ok__law_thing (T : Pk K mg) : FnOk P w K mg base CX0 3 T.f__law_thing T.fd__law_thing ["_law_row_here"] (liftF K a__law_thing) := fn__law_thing T (k := 2) (ok__law_taken T) (by omega) (ok__law_worth T) (by omega) (by intro ds C R h; first | (obtain ⟨e, _⟩ := h; subst e; rfl) | (obtain ⟨_, e, _⟩ := h; subst e; rfl) | (obtain ⟨_, _, e, _⟩ := h; subst e; rfl) | (obtain ⟨_, _, _, e, _⟩ := h; subst e; rfl) | (obtain ⟨_, _, _, _, e, _⟩ := h; subst e; rfl) | (obtain ⟨_, _, _, _, _, e, _⟩ := h; subst e; rfl) | (obtain ⟨_, _, _, _, _, _, e, _⟩ := h; subst e; rfl) | (obtain ⟨_, _, _, _, _, _, _, e, _⟩ := h; subst e; rfl) | (obtain ⟨_, _, _, _, _, _, _, _, e, _⟩ := h; subst e; rfl)) rd__law_thing
theorem ok__law_fit (T : Pk K mg) : FnOk P w K mg base CX0 2 T.f__law_fit T.fd__law_fit ["_law_pattern_here", "_law_thing_here", "_law_known"] (liftF K a__law_fit) := fn__law_fit T (k := 1) (ok__law_letters T) (by omega) (by intro ds C R h; first | (obtain ⟨e, _⟩ := h; subst e; rfl) | (obtain ⟨_, e, _⟩ := h; subst e; rfl) | (obtain ⟨_, _, e, _⟩ := h; subst e; rfl) | (obtain ⟨_, _, _, e, _⟩ := h; subst e; rfl) | (obtain ⟨_, _, _, _, e, _⟩ := h; subst e; rfl) | (obtain ⟨_, _, _, _, _, e, _⟩ := h; subst e; rfl) | (obtain ⟨_, _, _, _, _, _, e, _⟩ := h; subst e; rfl) | (obtain ⟨_, _, _, _, _, _, _, e, _⟩ := h; subst e; rfl) | (obtain ⟨_, _, _, _, _, _, _, _, e, _⟩ := h; subst e; rfl)) rd__law_fit
theorem ok__law_holds (T : Pk K mg) : FnOk P w K mg base CX0 1 T.f__law_holds T.fd__law_holds ["_law_test", "_law_known"] (liftF K a__law_holds) := fn__law_holds T (k := 0)  (by intro ds C R h; first | (obtain ⟨e, _⟩ := h; subst e; rfl) | (obtain ⟨_, e, _⟩ := h; subst e; rfl) | (obtain ⟨_, _, e, _⟩ := h; subst e; rfl) | (obtain ⟨_, _, _, e, _⟩ := h; subst e; rfl) | (obtain ⟨_, _, _, _, e, _⟩ := h; subst e; rfl) | (obtain ⟨_, _, _, _, _, e, _⟩ := h; subst e; rfl) | (obtain ⟨_, _, _, _, _, _, e, _⟩ := h; subst e; rfl) | (obtain ⟨_, _, _, _, _, _, _, e, _⟩ := h; subst e; rfl) | (obtain ⟨_, _, _, _, _, _, _, _, e, _⟩ := h; subst e; rfl)) rd__law_holds
theorem ok__law_found (T : Pk K mg) : ∀ n : Nat, FnOk P w K mg base CX0 (3 + n) T.f__law_found T.fd__law_found ["_law_wants", "_law_things", "_law_numbers", "_law_known"] (liftF K (a__law_found n))
  | 0 => fn_none (by intro ds C R h; obtain ⟨ws, its, nums, k, bs, bs', _, h, _⟩ := h; exact absurd h (by omega))
  | n + 1 => fn__law_found T (k := 3 + n) (ok__law_fit T) (by omega) (ok__law_found T n) (by omega) (ok__law_holds T) (by omega) (by intro ds C R h; first | (obtain ⟨e, _⟩ := h; subst e; rfl) | (obtain ⟨_, e, _⟩ := h; subst e; rfl) | (obtain ⟨_, _, e, _⟩ := h; subst e; rfl) | (obtain ⟨_, _, _, e, _⟩ := h; subst e; rfl) | (obtain ⟨_, _, _, _, e, _⟩ := h; subst e; rfl) | (obtain ⟨_, _, _, _, _, e, _⟩ := h; subst e; rfl) | (obtain ⟨_, _, _, _, _, _, e, _⟩ := h; subst e; rfl) | (obtain ⟨_, _, _, _, _, _, _, e, _⟩ := h; subst e; rfl) | (obtain ⟨_, _, _, _, _, _, _, _, e, _⟩ := h; subst e; rfl)) (rd__law_found n)
theorem ok__law_alike (T : Pk K mg) : ∀ n : Nat, FnOk P w K mg base CX0 (1 + n) T.f__law_alike T.fd__law_alike ["_law_found_here", "_law_due"] (liftF K (a__law_alike n))
  | 0 => fn_none (by intro ds C R h; obtain ⟨x, y, m, _, h, _⟩ := h; omega)
  | n + 1 => fn__law_alike T (k := 1 + n) (ok__law_alike T n) (by omega) (by intro ds C R h; first | (obtain ⟨e, _⟩ := h; subst e; rfl) | (obtain ⟨_, e, _⟩ := h; subst e; rfl) | (obtain ⟨_, _, e, _⟩ := h; subst e; rfl) | (obtain ⟨_, _, _, e, _⟩ := h; subst e; rfl) | (obtain ⟨_, _, _, _, e, _⟩ := h; subst e; rfl) | (obtain ⟨_, _, _, _, _, e, _⟩ := h; subst e; rfl) | (obtain ⟨_, _, _, _, _, _, e, _⟩ := h; subst e; rfl) | (obtain ⟨_, _, _, _, _, _, _, e, _⟩ := h; subst e; rfl) | (obtain ⟨_, _, _, _, _, _, _, _, e, _⟩ := h; subst e; rfl)) (rd__law_alike n)
theorem ok_law (T : Pk K mg) : FnOk P w K mg base CX0 10 T.f_law T.fd_law ["_law_script"] (liftF K a_law) := fn_law T (k := 9) (ok__law_row T) (by omega) (ok__law_rules T) (by omega) (ok__law_taken T) (by omega) (ok__law_thing T) (by omega) (ok__law_found T 6) (by omega) (ok_stuck T) (by omega) (ok__law_alike T 1) (by omega) (by intro ds C R h; first | (obtain ⟨e, _⟩ := h; subst e; rfl) | (obtain ⟨_, e, _⟩ := h; subst e; rfl) | (obtain ⟨_, _, e, _⟩ := h; subst e; rfl) | (obtain ⟨_, _, _, e, _⟩ := h; subst e; rfl) | (obtain ⟨_, _, _, _, e, _⟩ := h; subst e; rfl) | (obtain ⟨_, _, _, _, _, e, _⟩ := h; subst e; rfl) | (obtain ⟨_, _, _, _, _, _, e, _⟩ := h; subst e; rfl) | (obtain ⟨_, _, _, _, _, _, _, e, _⟩ := h; subst e; rfl) | (obtain ⟨_, _, _, _, _, _, _, _, e, _⟩ := h; subst e; rfl)) rd_law
end
end RR
namespace RR
open PySem PySem.Spec L2 DL
open PyProof.Rows hiding St kindOf
/-- a def as the top has made it -/
def DefAt (K : PySem.W.Frag) (x : Str) (st : Stmt) : Prop := ∃ (f : Addr) (od an : Option Addr) (sl : Array (Option Value)) (oc kV dc pm cd ct : Value), PySem.W.nsIn K mainGlobals x = some (some (.ref f)) ∧ K.lookup f = some ⟨oc, od, .func (PySem.W.fnOf x x (defArgs st) (defBody st) (defScope st) .none kV dc pm an cd ct), sl⟩ ∧ PySem.W.codeIn K cd x = true ∧ PySem.W.keepIn K (.ref f) = true
theorem def_at {K : PySem.W.Frag} {x : Str} {st : Stmt} {f : Addr} {od an : Option Addr} {sl : Array (Option Value)} {oc kV dc pm cd ct : Value} (a : PySem.W.nsIn K mainGlobals x = some (some (.ref f))) (l : K.lookup f = some ⟨oc, od, .func (PySem.W.fnOf x x (defArgs st) (defBody st) (defScope st) .none kV dc pm an cd ct), sl⟩) (c : PySem.W.codeIn K cd x = true) (k : PySem.W.keepIn K (.ref f) = true) : DefAt K x st :=
  ⟨f, od, an, sl, oc, kV, dc, pm, cd, ct, a, l, c, k⟩
theorem DefAt.mk {K : PySem.W.Frag} {h : Heap} {mg : Str → Option Value} {x : Str} {st : Stmt} {ps : List Str} (X : K.In h) (G : h.Ns mainGlobals mg) (d : DefAt K x st)
    (hb : ∀ (f : Addr) (fd : FuncData), Fun K x x st f fd → Binds K fd ps []) : ∃ (f : Addr) (fd : FuncData), Fun K x x st f fd ∧ Df K mg x f fd ps ∧ ∃ (kV dc pm cd ct : Value) (an : Option Addr), fd = PySem.W.fnOf x x (defArgs st) (defBody st) (defScope st) .none kV dc pm an cd ct := by
  obtain ⟨f, od, an, sl, oc, kV, dc, pm, cd, ct, a, l, c, k⟩ := d
  have F := fun_mk (st := st) l c k
  exact ⟨f, _, F, ⟨PySem.W.mg_of X G a, k, hb f _ F⟩, kV, dc, pm, cd, ct, an, rfl⟩
def IntAt (K : PySem.W.Frag) (x : Str) (i : Int) : Prop := ∃ t, PySem.W.nsIn K mainGlobals x = some (some (.int i t))
theorem int_at {K : PySem.W.Frag} {x : Str} {i : Int} {t : Tok} (a : PySem.W.nsIn K mainGlobals x = some (some (.int i t))) : IntAt K x i := ⟨t, a⟩
theorem IntAt.mk {K : PySem.W.Frag} {h : Heap} {mg : Str → Option Value} {x : Str} {i : Int} (X : K.In h) (G : h.Ns mainGlobals mg) (d : IntAt K x i) : GlD K mg x (.int i) := by
  obtain ⟨t, a⟩ := d
  exact ⟨.int i, _, PySem.W.mg_of X G a, ⟨t, rfl⟩, fun _ => .int i⟩
def StrAt (K : PySem.W.Frag) (x : Str) (z : Str) : Prop := ∃ t, PySem.W.nsIn K mainGlobals x = some (some (.str z t))
theorem str_at {K : PySem.W.Frag} {x z : Str} {t : Tok} (a : PySem.W.nsIn K mainGlobals x = some (some (.str z t))) : StrAt K x z := ⟨t, a⟩
theorem StrAt.mk {K : PySem.W.Frag} {h : Heap} {mg : Str → Option Value} {x z : Str} (X : K.In h) (G : h.Ns mainGlobals mg) (d : StrAt K x z) : GlD K mg x (.str z) := by
  obtain ⟨t, a⟩ := d
  exact ⟨.str z, _, PySem.W.mg_of X G a, ⟨t, rfl⟩, fun _ => .str z⟩
def Tup3At (K : PySem.W.Frag) (x z1 z2 z3 : Str) : Prop := ∃ (a : Addr) (od : Option Addr) (sl : Array (Option Value)) (t1 t2 t3 : Tok) (n : Nat), PySem.W.nsIn K mainGlobals x = some (some (.ref a)) ∧ K.lookup a = some ⟨.type "tuple", od, .seq #[.str z1 t1, .str z2 t2, .str z3 t3] n, sl⟩
theorem tup3_at {K : PySem.W.Frag} {x z1 z2 z3 : Str} {a : Addr} {od : Option Addr} {sl : Array (Option Value)} {t1 t2 t3 : Tok} {n : Nat} (h : PySem.W.nsIn K mainGlobals x = some (some (.ref a))) (l : K.lookup a = some ⟨.type "tuple", od, .seq #[.str z1 t1, .str z2 t2, .str z3 t3] n, sl⟩) : Tup3At K x z1 z2 z3 := ⟨a, od, sl, t1, t2, t3, n, h, l⟩
theorem Tup3At.mk {K : PySem.W.Frag} {h : Heap} {mg : Str → Option Value} {x z1 z2 z3 : Str} (X : K.In h) (G : h.Ns mainGlobals mg) (d : Tup3At K x z1 z2 z3) : GlD K mg x (.tup [.str z1, .str z2, .str z3]) := by
  obtain ⟨a, od, sl, t1, t2, t3, n, h1, h2⟩ := d
  refine ⟨.ref a, _, PySem.W.mg_of X G h1, rfl, fun _ => .tup (xs := [.str z1, .str z2, .str z3]) (.inr ⟨_, _, n, h2, rfl, rfl, by rw [sizeLine_eq]; simp, ?_⟩) (.cons (.str z1) (.cons (.str z2) (.cons (.str z3) .nil)))⟩
  exact .cons ⟨t1, rfl⟩ (.cons ⟨t2, rfl⟩ (.cons ⟨t3, rfl⟩ .nil))
/-- no such name of the module's own: the built-in one -/
def NoAt (K : PySem.W.Frag) (x : Str) : Prop := PySem.W.nsIn K mainGlobals x = some none
theorem all_mk {P : Program} {w : World} {K : PySem.W.Frag} {h : Heap} {mg : Str → Option Value} {fa : Addr} (X : K.In h) (G : h.Ns mainGlobals mg) (hfa : mg "law" = some (.ref fa)) (h_is_number : DefAt K "is_number" s_is_number) (h_is_word : DefAt K "is_word" s_is_word) (h_is_worth : DefAt K "is_worth" s_is_worth) (h_is_blank : DefAt K "is_blank" s_is_blank) (h_is_thing : DefAt K "is_thing" s_is_thing) (h_is_pattern : DefAt K "is_pattern" s_is_pattern) (h_need_things : DefAt K "need_things" s_need_things) (h_are_same : DefAt K "are_same" s_are_same) (h_is_alike : DefAt K "is_alike" s_is_alike) (h_fitted : DefAt K "fitted" s_fitted) (h_blanks_of : DefAt K "blanks_of" s_blanks_of) (h_is_side : DefAt K "is_side" s_is_side) (h_is_want : DefAt K "is_want" s_is_want) (h_is_template : DefAt K "is_template" s_is_template) (h_is_deed : DefAt K "is_deed" s_is_deed) (h_bad_part : DefAt K "bad_part" s_bad_part) (h_need_rules : DefAt K "need_rules" s_need_rules) (h_side_of : DefAt K "side_of" s_side_of) (h_holds : DefAt K "holds" s_holds) (h_passed : DefAt K "passed" s_passed) (h_numbered : DefAt K "numbered" s_numbered) (h_stuck : DefAt K "stuck" s_stuck) (h__law_row : DefAt K "_law_row" s__law_row) (h__law_taken : DefAt K "_law_taken" s__law_taken) (h__law_worth : DefAt K "_law_worth" s__law_worth) (h__law_pattern : DefAt K "_law_pattern" s__law_pattern) (h__law_letters : DefAt K "_law_letters" s__law_letters) (h__law_template : DefAt K "_law_template" s__law_template) (h__law_rule : DefAt K "_law_rule" s__law_rule) (h__law_dense_rule : DefAt K "_law_dense_rule" s__law_dense_rule) (h__law_rules : DefAt K "_law_rules" s__law_rules) (h__law_thing : DefAt K "_law_thing" s__law_thing) (h__law_fit : DefAt K "_law_fit" s__law_fit) (h__law_holds : DefAt K "_law_holds" s__law_holds) (h__law_found : DefAt K "_law_found" s__law_found) (h__law_alike : DefAt K "_law_alike" s__law_alike) (h_law : DefAt K "law" s_law) (h_isinstance : NoAt K "isinstance") (h_int : NoAt K "int") (h_bool : NoAt K "bool") (h_str : NoAt K "str") (h_len : NoAt K "len") (h_all : NoAt K "all") (h_tuple : NoAt K "tuple") (h_list : NoAt K "list") (h_enumerate : NoAt K "enumerate") (h_dict : NoAt K "dict") (h_zip : NoAt K "zip") (h_range : NoAt K "range") (h_MOST_LETTERS : IntAt K "MOST_LETTERS" (4)) (h_SMALL : StrAt K "SMALL" "abcdefghijklmnopqrstuvwxyz") (h_MOST_NUMBER : IntAt K "MOST_NUMBER" (99)) (h_GREAT : StrAt K "GREAT" "ABCDEFGHIJKLMNOPQRSTUVWXYZ") (h_MOST_PARTS : IntAt K "MOST_PARTS" (5)) (h_ANY : StrAt K "ANY" "_") (h_MOST_THINGS : IntAt K "MOST_THINGS" (30)) (h_NOT : StrAt K "NOT" "not") (h_IS : StrAt K "IS" "is") (h_TESTS : Tup3At K "TESTS" "less" "same" "unlike") (h_TAKE : StrAt K "TAKE" "take") (h_TELLERS : Tup3At K "TELLERS" "add" "hold" "say") (h_MOST_RANK : IntAt K "MOST_RANK" (9)) (h_MOST_WANTS : IntAt K "MOST_WANTS" (5)) (h_MOST_DEEDS : IntAt K "MOST_DEEDS" (4)) (h_MOST_RULES : IntAt K "MOST_RULES" (8)) :
    ∃ fd : FuncData, (∀ (s : Shared) (v : Value), BindsTo s fd ⟨[v], []⟩ [("_law_script", v)]) ∧ ∀ base : Heap, K.In base → base.Ns mainGlobals mg → FnOk P w K mg base CX0 10 fa fd ["_law_script"] (liftF K a_law) := by
  obtain ⟨f_is_number, fd_is_number, F_is_number, d_is_number, e_is_number⟩ := h_is_number.mk (ps := ["part", "low", "high"]) X G fun _ _ F => F.binds (ps := ["part", "low", "high"]) fun _ _ _ _ _ _ us hl => match us, hl with | [_, _, _], _ => rfl
  obtain ⟨f_is_word, fd_is_word, F_is_word, d_is_word, e_is_word⟩ := h_is_word.mk (ps := ["part"]) X G fun _ _ F => F.binds (ps := ["part"]) fun _ _ _ _ _ _ us hl => match us, hl with | [_], _ => rfl
  obtain ⟨f_is_worth, fd_is_worth, F_is_worth, d_is_worth, e_is_worth⟩ := h_is_worth.mk (ps := ["part"]) X G fun _ _ F => F.binds (ps := ["part"]) fun _ _ _ _ _ _ us hl => match us, hl with | [_], _ => rfl
  obtain ⟨f_is_blank, fd_is_blank, F_is_blank, d_is_blank, e_is_blank⟩ := h_is_blank.mk (ps := ["part"]) X G fun _ _ F => F.binds (ps := ["part"]) fun _ _ _ _ _ _ us hl => match us, hl with | [_], _ => rfl
  obtain ⟨f_is_thing, fd_is_thing, F_is_thing, d_is_thing, e_is_thing⟩ := h_is_thing.mk (ps := ["part"]) X G fun _ _ F => F.binds (ps := ["part"]) fun _ _ _ _ _ _ us hl => match us, hl with | [_], _ => rfl
  obtain ⟨f_is_pattern, fd_is_pattern, F_is_pattern, d_is_pattern, e_is_pattern⟩ := h_is_pattern.mk (ps := ["part"]) X G fun _ _ F => F.binds (ps := ["part"]) fun _ _ _ _ _ _ us hl => match us, hl with | [_], _ => rfl
  obtain ⟨f_need_things, fd_need_things, F_need_things, d_need_things, e_need_things⟩ := h_need_things.mk (ps := ["things"]) X G fun _ _ F => F.binds (ps := ["things"]) fun _ _ _ _ _ _ us hl => match us, hl with | [_], _ => rfl
  obtain ⟨f_are_same, fd_are_same, F_are_same, d_are_same, e_are_same⟩ := h_are_same.mk (ps := ["one", "other"]) X G fun _ _ F => F.binds (ps := ["one", "other"]) fun _ _ _ _ _ _ us hl => match us, hl with | [_, _], _ => rfl
  obtain ⟨f_is_alike, fd_is_alike, F_is_alike, d_is_alike, e_is_alike⟩ := h_is_alike.mk (ps := ["pattern", "thing"]) X G fun _ _ F => F.binds (ps := ["pattern", "thing"]) fun _ _ _ _ _ _ us hl => match us, hl with | [_, _], _ => rfl
  obtain ⟨f_fitted, fd_fitted, F_fitted, d_fitted, e_fitted⟩ := h_fitted.mk (ps := ["pattern", "thing", "known"]) X G fun _ _ F => F.binds (ps := ["pattern", "thing", "known"]) fun _ _ _ _ _ _ us hl => match us, hl with | [_, _, _], _ => rfl
  obtain ⟨f_blanks_of, fd_blanks_of, F_blanks_of, d_blanks_of, e_blanks_of⟩ := h_blanks_of.mk (ps := ["pattern"]) X G fun _ _ F => F.binds (ps := ["pattern"]) fun _ _ _ _ _ _ us hl => match us, hl with | [_], _ => rfl
  obtain ⟨f_is_side, fd_is_side, F_is_side, d_is_side, e_is_side⟩ := h_is_side.mk (ps := ["part", "known"]) X G fun _ _ F => F.binds (ps := ["part", "known"]) fun _ _ _ _ _ _ us hl => match us, hl with | [_, _], _ => rfl
  obtain ⟨f_is_want, fd_is_want, F_is_want, d_is_want, e_is_want⟩ := h_is_want.mk (ps := ["want", "known"]) X G fun _ _ F => F.binds (ps := ["want", "known"]) fun _ _ _ _ _ _ us hl => match us, hl with | [_, _], _ => rfl
  obtain ⟨f_is_template, fd_is_template, F_is_template, d_is_template, e_is_template⟩ := h_is_template.mk (ps := ["part", "known"]) X G fun _ _ F => F.binds (ps := ["part", "known"]) fun _ _ _ _ _ _ us hl => match us, hl with | [_, _], _ => rfl
  obtain ⟨f_is_deed, fd_is_deed, F_is_deed, d_is_deed, e_is_deed⟩ := h_is_deed.mk (ps := ["deed", "wants", "known"]) X G fun _ _ F => F.binds (ps := ["deed", "wants", "known"]) fun _ _ _ _ _ _ us hl => match us, hl with | [_, _, _], _ => rfl
  obtain ⟨f_bad_part, fd_bad_part, F_bad_part, d_bad_part, e_bad_part⟩ := h_bad_part.mk (ps := ["rule", "names"]) X G fun _ _ F => F.binds (ps := ["rule", "names"]) fun _ _ _ _ _ _ us hl => match us, hl with | [_, _], _ => rfl
  obtain ⟨f_need_rules, fd_need_rules, F_need_rules, d_need_rules, e_need_rules⟩ := h_need_rules.mk (ps := ["rules"]) X G fun _ _ F => F.binds (ps := ["rules"]) fun _ _ _ _ _ _ us hl => match us, hl with | [_], _ => rfl
  obtain ⟨f_side_of, fd_side_of, F_side_of, d_side_of, e_side_of⟩ := h_side_of.mk (ps := ["part", "known"]) X G fun _ _ F => F.binds (ps := ["part", "known"]) fun _ _ _ _ _ _ us hl => match us, hl with | [_, _], _ => rfl
  obtain ⟨f_holds, fd_holds, F_holds, d_holds, e_holds⟩ := h_holds.mk (ps := ["test", "known"]) X G fun _ _ F => F.binds (ps := ["test", "known"]) fun _ _ _ _ _ _ us hl => match us, hl with | [_, _], _ => rfl
  obtain ⟨f_passed, fd_passed, F_passed, d_passed, e_passed⟩ := h_passed.mk (ps := ["want", "some", "things"]) X G fun _ _ F => F.binds (ps := ["want", "some", "things"]) fun _ _ _ _ _ _ us hl => match us, hl with | [_, _, _], _ => rfl
  obtain ⟨f_numbered, fd_numbered, F_numbered, d_numbered, e_numbered⟩ := h_numbered.mk (ps := ["things"]) X G fun _ _ F => F.binds (ps := ["things"]) fun _ _ _ _ _ _ us hl => match us, hl with | [_], _ => rfl
  obtain ⟨f_stuck, fd_stuck, F_stuck, d_stuck, e_stuck⟩ := h_stuck.mk (ps := ["rules", "things", "number"]) X G fun _ _ F => F.binds (ps := ["rules", "things", "number"]) fun _ _ _ _ _ _ us hl => match us, hl with | [_, _, _], _ => rfl
  obtain ⟨f__law_row, fd__law_row, F__law_row, d__law_row, e__law_row⟩ := h__law_row.mk (ps := ["_law_script"]) X G fun _ _ F => F.binds (ps := ["_law_script"]) fun _ _ _ _ _ _ us hl => match us, hl with | [_], _ => rfl
  obtain ⟨f__law_taken, fd__law_taken, F__law_taken, d__law_taken, e__law_taken⟩ := h__law_taken.mk (ps := ["_law_row_here", "_law_many"]) X G fun _ _ F => F.binds (ps := ["_law_row_here", "_law_many"]) fun _ _ _ _ _ _ us hl => match us, hl with | [_, _], _ => rfl
  obtain ⟨f__law_worth, fd__law_worth, F__law_worth, d__law_worth, e__law_worth⟩ := h__law_worth.mk (ps := ["_law_row_here"]) X G fun _ _ F => F.binds (ps := ["_law_row_here"]) fun _ _ _ _ _ _ us hl => match us, hl with | [_], _ => rfl
  obtain ⟨f__law_pattern, fd__law_pattern, F__law_pattern, d__law_pattern, e__law_pattern⟩ := h__law_pattern.mk (ps := ["_law_row_here", "_law_letters_here"]) X G fun _ _ F => F.binds (ps := ["_law_row_here", "_law_letters_here"]) fun _ _ _ _ _ _ us hl => match us, hl with | [_, _], _ => rfl
  obtain ⟨f__law_letters, fd__law_letters, F__law_letters, d__law_letters, e__law_letters⟩ := h__law_letters.mk (ps := ["_law_pattern_here"]) X G fun _ _ F => F.binds (ps := ["_law_pattern_here"]) fun _ _ _ _ _ _ us hl => match us, hl with | [_], _ => rfl
  obtain ⟨f__law_template, fd__law_template, F__law_template, d__law_template, e__law_template⟩ := h__law_template.mk (ps := ["_law_row_here", "_law_known"]) X G fun _ _ F => F.binds (ps := ["_law_row_here", "_law_known"]) fun _ _ _ _ _ _ us hl => match us, hl with | [_, _], _ => rfl
  obtain ⟨f__law_rule, fd__law_rule, F__law_rule, d__law_rule, e__law_rule⟩ := h__law_rule.mk (ps := ["_law_row_here", "_law_name"]) X G fun _ _ F => F.binds (ps := ["_law_row_here", "_law_name"]) fun _ _ _ _ _ _ us hl => match us, hl with | [_, _], _ => rfl
  obtain ⟨f__law_dense_rule, fd__law_dense_rule, F__law_dense_rule, d__law_dense_rule, e__law_dense_rule⟩ := h__law_dense_rule.mk (ps := ["_law_row_here", "_law_name"]) X G fun _ _ F => F.binds (ps := ["_law_row_here", "_law_name"]) fun _ _ _ _ _ _ us hl => match us, hl with | [_, _], _ => rfl
  obtain ⟨f__law_rules, fd__law_rules, F__law_rules, d__law_rules, e__law_rules⟩ := h__law_rules.mk (ps := ["_law_row_here", "_law_wished"]) X G fun _ _ F => F.binds (ps := ["_law_row_here", "_law_wished"]) fun _ _ _ _ _ _ us hl => match us, hl with | [_, _], _ => rfl
  obtain ⟨f__law_thing, fd__law_thing, F__law_thing, d__law_thing, e__law_thing⟩ := h__law_thing.mk (ps := ["_law_row_here"]) X G fun _ _ F => F.binds (ps := ["_law_row_here"]) fun _ _ _ _ _ _ us hl => match us, hl with | [_], _ => rfl
  obtain ⟨f__law_fit, fd__law_fit, F__law_fit, d__law_fit, e__law_fit⟩ := h__law_fit.mk (ps := ["_law_pattern_here", "_law_thing_here", "_law_known"]) X G fun _ _ F => F.binds (ps := ["_law_pattern_here", "_law_thing_here", "_law_known"]) fun _ _ _ _ _ _ us hl => match us, hl with | [_, _, _], _ => rfl
  obtain ⟨f__law_holds, fd__law_holds, F__law_holds, d__law_holds, e__law_holds⟩ := h__law_holds.mk (ps := ["_law_test", "_law_known"]) X G fun _ _ F => F.binds (ps := ["_law_test", "_law_known"]) fun _ _ _ _ _ _ us hl => match us, hl with | [_, _], _ => rfl
  obtain ⟨f__law_found, fd__law_found, F__law_found, d__law_found, e__law_found⟩ := h__law_found.mk (ps := ["_law_wants", "_law_things", "_law_numbers", "_law_known"]) X G fun _ _ F => F.binds (ps := ["_law_wants", "_law_things", "_law_numbers", "_law_known"]) fun _ _ _ _ _ _ us hl => match us, hl with | [_, _, _, _], _ => rfl
  obtain ⟨f__law_alike, fd__law_alike, F__law_alike, d__law_alike, e__law_alike⟩ := h__law_alike.mk (ps := ["_law_found_here", "_law_due"]) X G fun _ _ F => F.binds (ps := ["_law_found_here", "_law_due"]) fun _ _ _ _ _ _ us hl => match us, hl with | [_, _], _ => rfl
  obtain ⟨f_law, fd_law, F_law, d_law, e_law⟩ := h_law.mk (ps := ["_law_script"]) X G fun _ _ F => F.binds (ps := ["_law_script"]) fun _ _ _ _ _ _ us hl => match us, hl with | [_], _ => rfl
  have e := hfa.symm.trans d_law.mg
  cases e
  obtain ⟨kV, dc, pm, cd, ct, an, e⟩ := e_law
  let T : Pk K mg := {
    f_is_number := f_is_number, fd_is_number := fd_is_number, F_is_number := F_is_number, d_is_number := d_is_number,
    f_is_word := f_is_word, fd_is_word := fd_is_word, F_is_word := F_is_word, d_is_word := d_is_word,
    f_is_worth := f_is_worth, fd_is_worth := fd_is_worth, F_is_worth := F_is_worth, d_is_worth := d_is_worth,
    f_is_blank := f_is_blank, fd_is_blank := fd_is_blank, F_is_blank := F_is_blank, d_is_blank := d_is_blank,
    f_is_thing := f_is_thing, fd_is_thing := fd_is_thing, F_is_thing := F_is_thing, d_is_thing := d_is_thing,
    f_is_pattern := f_is_pattern, fd_is_pattern := fd_is_pattern, F_is_pattern := F_is_pattern, d_is_pattern := d_is_pattern,
    f_need_things := f_need_things, fd_need_things := fd_need_things, F_need_things := F_need_things, d_need_things := d_need_things,
    f_are_same := f_are_same, fd_are_same := fd_are_same, F_are_same := F_are_same, d_are_same := d_are_same,
    f_is_alike := f_is_alike, fd_is_alike := fd_is_alike, F_is_alike := F_is_alike, d_is_alike := d_is_alike,
    f_fitted := f_fitted, fd_fitted := fd_fitted, F_fitted := F_fitted, d_fitted := d_fitted,
    f_blanks_of := f_blanks_of, fd_blanks_of := fd_blanks_of, F_blanks_of := F_blanks_of, d_blanks_of := d_blanks_of,
    f_is_side := f_is_side, fd_is_side := fd_is_side, F_is_side := F_is_side, d_is_side := d_is_side,
    f_is_want := f_is_want, fd_is_want := fd_is_want, F_is_want := F_is_want, d_is_want := d_is_want,
    f_is_template := f_is_template, fd_is_template := fd_is_template, F_is_template := F_is_template, d_is_template := d_is_template,
    f_is_deed := f_is_deed, fd_is_deed := fd_is_deed, F_is_deed := F_is_deed, d_is_deed := d_is_deed,
    f_bad_part := f_bad_part, fd_bad_part := fd_bad_part, F_bad_part := F_bad_part, d_bad_part := d_bad_part,
    f_need_rules := f_need_rules, fd_need_rules := fd_need_rules, F_need_rules := F_need_rules, d_need_rules := d_need_rules,
    f_side_of := f_side_of, fd_side_of := fd_side_of, F_side_of := F_side_of, d_side_of := d_side_of,
    f_holds := f_holds, fd_holds := fd_holds, F_holds := F_holds, d_holds := d_holds,
    f_passed := f_passed, fd_passed := fd_passed, F_passed := F_passed, d_passed := d_passed,
    f_numbered := f_numbered, fd_numbered := fd_numbered, F_numbered := F_numbered, d_numbered := d_numbered,
    f_stuck := f_stuck, fd_stuck := fd_stuck, F_stuck := F_stuck, d_stuck := d_stuck,
    f__law_row := f__law_row, fd__law_row := fd__law_row, F__law_row := F__law_row, d__law_row := d__law_row,
    f__law_taken := f__law_taken, fd__law_taken := fd__law_taken, F__law_taken := F__law_taken, d__law_taken := d__law_taken,
    f__law_worth := f__law_worth, fd__law_worth := fd__law_worth, F__law_worth := F__law_worth, d__law_worth := d__law_worth,
    f__law_pattern := f__law_pattern, fd__law_pattern := fd__law_pattern, F__law_pattern := F__law_pattern, d__law_pattern := d__law_pattern,
    f__law_letters := f__law_letters, fd__law_letters := fd__law_letters, F__law_letters := F__law_letters, d__law_letters := d__law_letters,
    f__law_template := f__law_template, fd__law_template := fd__law_template, F__law_template := F__law_template, d__law_template := d__law_template,
    f__law_rule := f__law_rule, fd__law_rule := fd__law_rule, F__law_rule := F__law_rule, d__law_rule := d__law_rule,
    f__law_dense_rule := f__law_dense_rule, fd__law_dense_rule := fd__law_dense_rule, F__law_dense_rule := F__law_dense_rule, d__law_dense_rule := d__law_dense_rule,
    f__law_rules := f__law_rules, fd__law_rules := fd__law_rules, F__law_rules := F__law_rules, d__law_rules := d__law_rules,
    f__law_thing := f__law_thing, fd__law_thing := fd__law_thing, F__law_thing := F__law_thing, d__law_thing := d__law_thing,
    f__law_fit := f__law_fit, fd__law_fit := fd__law_fit, F__law_fit := F__law_fit, d__law_fit := d__law_fit,
    f__law_holds := f__law_holds, fd__law_holds := fd__law_holds, F__law_holds := F__law_holds, d__law_holds := d__law_holds,
    f__law_found := f__law_found, fd__law_found := fd__law_found, F__law_found := F__law_found, d__law_found := d__law_found,
    f__law_alike := f__law_alike, fd__law_alike := fd__law_alike, F__law_alike := F__law_alike, d__law_alike := d__law_alike,
    f_law := fa, fd_law := fd_law, F_law := F_law, d_law := d_law,
    n_isinstance := PySem.W.mg_none_of X G h_isinstance,
    n_int := PySem.W.mg_none_of X G h_int,
    n_bool := PySem.W.mg_none_of X G h_bool,
    n_str := PySem.W.mg_none_of X G h_str,
    n_len := PySem.W.mg_none_of X G h_len,
    n_all := PySem.W.mg_none_of X G h_all,
    n_tuple := PySem.W.mg_none_of X G h_tuple,
    n_list := PySem.W.mg_none_of X G h_list,
    n_enumerate := PySem.W.mg_none_of X G h_enumerate,
    n_dict := PySem.W.mg_none_of X G h_dict,
    n_zip := PySem.W.mg_none_of X G h_zip,
    n_range := PySem.W.mg_none_of X G h_range,
    c_MOST_LETTERS := h_MOST_LETTERS.mk X G,
    c_SMALL := h_SMALL.mk X G,
    c_MOST_NUMBER := h_MOST_NUMBER.mk X G,
    c_GREAT := h_GREAT.mk X G,
    c_MOST_PARTS := h_MOST_PARTS.mk X G,
    c_ANY := h_ANY.mk X G,
    c_MOST_THINGS := h_MOST_THINGS.mk X G,
    c_NOT := h_NOT.mk X G,
    c_IS := h_IS.mk X G,
    c_TESTS := h_TESTS.mk X G,
    c_TAKE := h_TAKE.mk X G,
    c_TELLERS := h_TELLERS.mk X G,
    c_MOST_RANK := h_MOST_RANK.mk X G,
    c_MOST_WANTS := h_MOST_WANTS.mk X G,
    c_MOST_DEEDS := h_MOST_DEEDS.mk X G,
    c_MOST_RULES := h_MOST_RULES.mk X G }
  exact ⟨fd_law, fun s v => by rw [e]; exact .of_eq rfl, fun base _ _ => ok_law T⟩
def isListCls : Value → Bool
  | .type n => n == "list"
  | _ => false
/-- the top has written no list -/
def noLists (K : PySem.W.Frag) : Bool := K.all fun p => !isListCls p.2.cls
theorem look_mem {α : Type} {a : Addr} {o : α} : ∀ {K : List (Addr × α)}, K.lookup a = some o → ∃ b, (b, o) ∈ K
  | [], h => by cases h
  | (b, x) :: K, h => by
    rw [List.lookup_cons] at h
    split at h
    · cases h; exact ⟨b, List.mem_cons_self⟩
    · obtain ⟨c, hc⟩ := look_mem h
      exact ⟨c, List.mem_cons_of_mem _ hc⟩
theorem rd_of {K : PySem.W.Frag} {H : Hp} {a : Addr} {xs : List V} (hK : noLists K = true) (hS : SqL K H a xs) : Rd H a (.lst xs) := by
  rcases hS with h | ⟨o, its, n, h1, h2, _⟩
  · exact h
  · exfalso
    obtain ⟨b, hb⟩ := look_mem h1
    have := List.all_eq_true.mp hK _ hb
    rw [h2] at this
    cases this
/-- the script, as the machine hands it in -/
theorem script_in {K : PySem.W.Frag} {H : Hp} {a : Addr} {ns : List Int} (hK : noLists K = true) (hl : ns.length ≤ 63) (hS : SqL K H a (ns.map V.int)) : liftF K a_law [.ref a] H (fun v _ => v = .bl true) fun _ _ _ => False := by
  refine ⟨fun _ => none, H, [.lst (ns.map .int)], fun _ => none, fun d _ => d = .bl true, ⟨fun _ _ e => e, fun _ _ e => (by cases e), fun _ _ e => by cases e⟩, ?_, ⟨ns, rfl, by omega, fun _ => rfl⟩, ?_⟩
  · refine .cons (.lst (xs := ns.map V.int) (rd_of hK hS) ?_) .nil
    clear hS hl
    induction ns with
    | nil => exact .nil
    | cons n ns ih => exact .cons (.int n) ih
  · rintro d C rfl v H' G' s' A' r
    cases r
    rfl
theorem walk {l : PySem.W.OpenLaw} {q : Program} {loose : List Str} {XP : (Str → Option Value) → Heap → Prop} {YP : World → Heap → Prop} {d : DefRec} {K : Params → PySem.W.Frag} (hn : l.most = some 63) (hdf : d.params.defaults = [])
    (hY : ∀ (w : World) (h : Heap), YP w h → (K w.params).In h) (hN : ∀ w : World, noLists (K w.params) = true)
    (F : ∀ (w : World) (mg : Str → Option Value) (fa : Addr) (h : Heap), (K w.params).In h → h.Ns mainGlobals mg → mg d.name = some (.ref fa) →
      ∃ fd : FuncData, (∀ (s : Shared) (u : Value), BindsTo s fd ⟨[u], []⟩ [("_law_script", u)]) ∧ ∀ base : Heap, (K w.params).In base → base.Ns mainGlobals mg → FnOk l.prog w (K w.params) mg base CX0 10 fa fd ["_law_script"] (liftF (K w.params) a_law)) :
    PySem.W.WalkO q loose XP YP l.row.toRowW d [] (fun f vs => PySem.call f vs) :=
  L2.walk_of (n := 63) (k := 10) (x := "_law_script") (CX := fun _ => CX0) (sp := fun w => liftF (K w.params) a_law) hn (by decide) hdf ⟨rfl, by decide, by decide⟩ hY F (fun _ _ a ns hl _ hS => script_in (hN _) hl hS) fun _ _ _ _ _ z => z
end RR
open PySem PySem.W PyProof.Rows
set_option maxRecDepth 100000 in
set_option maxHeartbeats 0 in
theorem PySem.Challenge.cw_ruleroom_k05_why_a_rule_has_no_match_holds : PySem.Challenge.rw_ruleroom_k05_why_a_rule_has_no_match.Holds := by
  w_on; o_law; k_head; (case hw => w_witness2)
  k_fill
  refine RR.walk (l := PySem.Challenge.rw_ruleroom_k05_why_a_rule_has_no_match) rfl rfl (fun w h Y => PySem.W.kIn_of Y) ?noL ?F
  case noL => (intro w; rfl)
  case F =>
    intro w mg fa h KX G hmg
    refine' RR.all_mk KX G hmg ?h_is_number ?h_is_word ?h_is_worth ?h_is_blank ?h_is_thing ?h_is_pattern ?h_need_things ?h_are_same ?h_is_alike ?h_fitted ?h_blanks_of ?h_is_side ?h_is_want ?h_is_template ?h_is_deed ?h_bad_part ?h_need_rules ?h_side_of ?h_holds ?h_passed ?h_numbered ?h_stuck ?h__law_row ?h__law_taken ?h__law_worth ?h__law_pattern ?h__law_letters ?h__law_template ?h__law_rule ?h__law_dense_rule ?h__law_rules ?h__law_thing ?h__law_fit ?h__law_holds ?h__law_found ?h__law_alike ?h_law ?h_isinstance ?h_int ?h_bool ?h_str ?h_len ?h_all ?h_tuple ?h_list ?h_enumerate ?h_dict ?h_zip ?h_range ?h_MOST_LETTERS ?h_SMALL ?h_MOST_NUMBER ?h_GREAT ?h_MOST_PARTS ?h_ANY ?h_MOST_THINGS ?h_NOT ?h_IS ?h_TESTS ?h_TAKE ?h_TELLERS ?h_MOST_RANK ?h_MOST_WANTS ?h_MOST_DEEDS ?h_MOST_RULES
    case h_is_number => (refine' RR.def_at ?a ?l ?c ?k; (case a => k_is); (case l => k_is); (case c => k_is); (case k => k_is))
    case h_is_word => (refine' RR.def_at ?a ?l ?c ?k; (case a => k_is); (case l => k_is); (case c => k_is); (case k => k_is))
    case h_is_worth => (refine' RR.def_at ?a ?l ?c ?k; (case a => k_is); (case l => k_is); (case c => k_is); (case k => k_is))
    case h_is_blank => (refine' RR.def_at ?a ?l ?c ?k; (case a => k_is); (case l => k_is); (case c => k_is); (case k => k_is))
    case h_is_thing => (refine' RR.def_at ?a ?l ?c ?k; (case a => k_is); (case l => k_is); (case c => k_is); (case k => k_is))
    case h_is_pattern => (refine' RR.def_at ?a ?l ?c ?k; (case a => k_is); (case l => k_is); (case c => k_is); (case k => k_is))
    case h_need_things => (refine' RR.def_at ?a ?l ?c ?k; (case a => k_is); (case l => k_is); (case c => k_is); (case k => k_is))
    case h_are_same => (refine' RR.def_at ?a ?l ?c ?k; (case a => k_is); (case l => k_is); (case c => k_is); (case k => k_is))
    case h_is_alike => (refine' RR.def_at ?a ?l ?c ?k; (case a => k_is); (case l => k_is); (case c => k_is); (case k => k_is))
    case h_fitted => (refine' RR.def_at ?a ?l ?c ?k; (case a => k_is); (case l => k_is); (case c => k_is); (case k => k_is))
    case h_blanks_of => (refine' RR.def_at ?a ?l ?c ?k; (case a => k_is); (case l => k_is); (case c => k_is); (case k => k_is))
    case h_is_side => (refine' RR.def_at ?a ?l ?c ?k; (case a => k_is); (case l => k_is); (case c => k_is); (case k => k_is))
    case h_is_want => (refine' RR.def_at ?a ?l ?c ?k; (case a => k_is); (case l => k_is); (case c => k_is); (case k => k_is))
    case h_is_template => (refine' RR.def_at ?a ?l ?c ?k; (case a => k_is); (case l => k_is); (case c => k_is); (case k => k_is))
    case h_is_deed => (refine' RR.def_at ?a ?l ?c ?k; (case a => k_is); (case l => k_is); (case c => k_is); (case k => k_is))
    case h_bad_part => (refine' RR.def_at ?a ?l ?c ?k; (case a => k_is); (case l => k_is); (case c => k_is); (case k => k_is))
    case h_need_rules => (refine' RR.def_at ?a ?l ?c ?k; (case a => k_is); (case l => k_is); (case c => k_is); (case k => k_is))
    case h_side_of => (refine' RR.def_at ?a ?l ?c ?k; (case a => k_is); (case l => k_is); (case c => k_is); (case k => k_is))
    case h_holds => (refine' RR.def_at ?a ?l ?c ?k; (case a => k_is); (case l => k_is); (case c => k_is); (case k => k_is))
    case h_passed => (refine' RR.def_at ?a ?l ?c ?k; (case a => k_is); (case l => k_is); (case c => k_is); (case k => k_is))
    case h_numbered => (refine' RR.def_at ?a ?l ?c ?k; (case a => k_is); (case l => k_is); (case c => k_is); (case k => k_is))
    case h_stuck => (refine' RR.def_at ?a ?l ?c ?k; (case a => k_is); (case l => k_is); (case c => k_is); (case k => k_is))
    case h__law_row => (refine' RR.def_at ?a ?l ?c ?k; (case a => k_is); (case l => k_is); (case c => k_is); (case k => k_is))
    case h__law_taken => (refine' RR.def_at ?a ?l ?c ?k; (case a => k_is); (case l => k_is); (case c => k_is); (case k => k_is))
    case h__law_worth => (refine' RR.def_at ?a ?l ?c ?k; (case a => k_is); (case l => k_is); (case c => k_is); (case k => k_is))
    case h__law_pattern => (refine' RR.def_at ?a ?l ?c ?k; (case a => k_is); (case l => k_is); (case c => k_is); (case k => k_is))
    case h__law_letters => (refine' RR.def_at ?a ?l ?c ?k; (case a => k_is); (case l => k_is); (case c => k_is); (case k => k_is))
    case h__law_template => (refine' RR.def_at ?a ?l ?c ?k; (case a => k_is); (case l => k_is); (case c => k_is); (case k => k_is))
    case h__law_rule => (refine' RR.def_at ?a ?l ?c ?k; (case a => k_is); (case l => k_is); (case c => k_is); (case k => k_is))
    case h__law_dense_rule => (refine' RR.def_at ?a ?l ?c ?k; (case a => k_is); (case l => k_is); (case c => k_is); (case k => k_is))
    case h__law_rules => (refine' RR.def_at ?a ?l ?c ?k; (case a => k_is); (case l => k_is); (case c => k_is); (case k => k_is))
    case h__law_thing => (refine' RR.def_at ?a ?l ?c ?k; (case a => k_is); (case l => k_is); (case c => k_is); (case k => k_is))
    case h__law_fit => (refine' RR.def_at ?a ?l ?c ?k; (case a => k_is); (case l => k_is); (case c => k_is); (case k => k_is))
    case h__law_holds => (refine' RR.def_at ?a ?l ?c ?k; (case a => k_is); (case l => k_is); (case c => k_is); (case k => k_is))
    case h__law_found => (refine' RR.def_at ?a ?l ?c ?k; (case a => k_is); (case l => k_is); (case c => k_is); (case k => k_is))
    case h__law_alike => (refine' RR.def_at ?a ?l ?c ?k; (case a => k_is); (case l => k_is); (case c => k_is); (case k => k_is))
    case h_law => (refine' RR.def_at ?a ?l ?c ?k; (case a => k_is); (case l => k_is); (case c => k_is); (case k => k_is))
    case h_isinstance => (show PySem.W.nsIn _ _ _ = _; k_is)
    case h_int => (show PySem.W.nsIn _ _ _ = _; k_is)
    case h_bool => (show PySem.W.nsIn _ _ _ = _; k_is)
    case h_str => (show PySem.W.nsIn _ _ _ = _; k_is)
    case h_len => (show PySem.W.nsIn _ _ _ = _; k_is)
    case h_all => (show PySem.W.nsIn _ _ _ = _; k_is)
    case h_tuple => (show PySem.W.nsIn _ _ _ = _; k_is)
    case h_list => (show PySem.W.nsIn _ _ _ = _; k_is)
    case h_enumerate => (show PySem.W.nsIn _ _ _ = _; k_is)
    case h_dict => (show PySem.W.nsIn _ _ _ = _; k_is)
    case h_zip => (show PySem.W.nsIn _ _ _ = _; k_is)
    case h_range => (show PySem.W.nsIn _ _ _ = _; k_is)
    case h_MOST_LETTERS => (refine' RR.int_at ?a; (case a => k_is))
    case h_SMALL => (refine' RR.str_at ?a; (case a => k_is))
    case h_MOST_NUMBER => (refine' RR.int_at ?a; (case a => k_is))
    case h_GREAT => (refine' RR.str_at ?a; (case a => k_is))
    case h_MOST_PARTS => (refine' RR.int_at ?a; (case a => k_is))
    case h_ANY => (refine' RR.str_at ?a; (case a => k_is))
    case h_MOST_THINGS => (refine' RR.int_at ?a; (case a => k_is))
    case h_NOT => (refine' RR.str_at ?a; (case a => k_is))
    case h_IS => (refine' RR.str_at ?a; (case a => k_is))
    case h_TESTS => (refine' RR.tup3_at ?h ?l; (case h => k_is); (case l => k_is))
    case h_TAKE => (refine' RR.str_at ?a; (case a => k_is))
    case h_TELLERS => (refine' RR.tup3_at ?h ?l; (case h => k_is); (case l => k_is))
    case h_MOST_RANK => (refine' RR.int_at ?a; (case a => k_is))
    case h_MOST_WANTS => (refine' RR.int_at ?a; (case a => k_is))
    case h_MOST_DEEDS => (refine' RR.int_at ?a; (case a => k_is))
    case h_MOST_RULES => (refine' RR.int_at ?a; (case a => k_is))
