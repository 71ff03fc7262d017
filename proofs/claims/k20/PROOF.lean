import PyProof.Rows.All
import Wide.All
import OpenK.AllK
import Wide.FinOn
import HandS.ForMost
import HandS.IsInst
import HandS.Zip
import HandS.Deep
import HandS.TupAny
import HandS.Wide
import HandS.SetKeys
import HandS.Style
import HandS.TupMul
import HandS.DictComp
import HandS.StrMore
import HandS.StrSplit
import HandS.NoneIn
import KE.GoesMore
import HandS.SortOrd
import HandS.SortInts
import HandS.SortRule
import KE.SortData
import KE.KDictKeyed
import KE.KDictWalk
import HandS.DictTup
import PyProof.Draws
import HandS.Lambda
import HandS.RaiseMore
import KE.KUnpackStar
import KE.KDictSum
import KE.KDictItemsList
import HandS.SortKw
import KE.KEqDict
import HandS.Conv
import KE.KMinKey
import KE.DataCmp
import HandS.Nested
import HandS.Defaults
import HandS.Strs
import HandS.WordsExc
import HandS.ExcOwn
import HandS.ExcInit
import HandS.ClsMeth
import HandS.FStr
import HandS.ExcField
import HandS.ExcIs
import KE.KExcIs
import HandS.SetFor
import PySem.Challenge.RW_ruleroom_k20_any_text_read
import HandS.MakeKwOnly
import HandS.Head2
import KE.KNestM
import HandS.EndTab
import KE.RegKIsAll
import KE.RegKTryMore
set_option Elab.async false
set_option linter.all false
set_option maxRecDepth 100000
set_option maxHeartbeats 4000000
namespace DL
open PySem PySem.Spec L2
open PyProof.Rows hiding St
/-- a value with all that it holds -/
inductive D where
  | non | bl (b : Bool) | int (i : Int) | str (x : Str) | tup (ds : List D) | lst (ds : List D) | dct (kvs : List (Key × D)) | ref (a : Addr) | ty (n : String)
section
variable (K : PySem.W.Frag) (G : Hp)
mutual
/-- v stands for d, by what stays in G -/
inductive Rp : D → V → Prop
  | non : Rp .non .non
  | bl (b : Bool) : Rp (.bl b) (.bl b)
  | int (i : Int) : Rp (.int i) (.int i)
  | str (x : Str) : Rp (.str x) (.str x)
  | ref (a : Addr) : Rp (.ref a) (.ref a)
  | ty (n : String) : Rp (.ty n) (.ty n)
  | tup {ds : List D} {a : Addr} {xs : List V} : SqT K G a xs → RpL ds xs → Rp (.tup ds) (.ref a)
  | lst {ds : List D} {a : Addr} {xs : List V} : Rd G a (.lst xs) → RpL ds xs → Rp (.lst ds) (.ref a)
  | dct {kvs : List (Key × D)} {a : Addr} {o : Obj} {ks : List (Key × V)} : G a = some (.frz o (.dK ks)) → RpK kvs ks → Rp (.dct kvs) (.ref a)
inductive RpL : List D → List V → Prop
  | nil : RpL [] []
  | cons {d : D} {ds : List D} {v : V} {vs : List V} : Rp d v → RpL ds vs → RpL (d :: ds) (v :: vs)
inductive RpK : List (Key × D) → List (Key × V) → Prop
  | nil : RpK [] []
  | cons {k : Key} {d : D} {ds : List (Key × D)} {v : V} {vs : List (Key × V)} : Rp d v → RpK ds vs → RpK ((k, d) :: ds) ((k, v) :: vs)
end
end
theorem rd_mono {H H' : Hp} {a : Addr} {u : HO} (e : Same H H') (h : Rd H a u) : Rd H' a u := by
  rcases h with h | ⟨o, h⟩
  · exact .inl (e _ _ h)
  · exact .inr ⟨o, e _ _ h⟩
theorem sqT_mono {K : PySem.W.Frag} {H H' : Hp} {a : Addr} {xs : List V} (e : Same H H') (h : SqT K H a xs) : SqT K H' a xs := by
  rcases h with (h | ⟨o, h⟩) | h
  · exact .inl (.inl (e _ _ h))
  · exact .inl (.inr ⟨o, e _ _ h⟩)
  · exact .inr h
section
variable {K : PySem.W.Frag} {G G' : Hp}
mutual
theorem Rp.mono (s : Same G G') : ∀ {d : D} {v : V}, Rp K G d v → Rp K G' d v
  | _, _, .non => .non
  | _, _, .bl b => .bl b
  | _, _, .int i => .int i
  | _, _, .str x => .str x
  | _, _, .ref a => .ref a
  | _, _, .ty n => .ty n
  | _, _, .tup h r => .tup (sqT_mono s h) (RpL.mono s r)
  | _, _, .lst h r => .lst (rd_mono s h) (RpL.mono s r)
  | _, _, .dct h r => .dct (s _ _ h) (RpK.mono s r)
theorem RpL.mono (s : Same G G') : ∀ {d : List D} {v : List V}, RpL K G d v → RpL K G' d v
  | _, _, .nil => .nil
  | _, _, .cons a b => .cons (Rp.mono s a) (RpL.mono s b)
theorem RpK.mono (s : Same G G') : ∀ {d : List (Key × D)} {v : List (Key × V)}, RpK K G d v → RpK K G' d v
  | _, _, .nil => .nil
  | _, _, .cons a b => .cons (Rp.mono s a) (RpK.mono s b)
end
end
section
variable {K : PySem.W.Frag} {G : Hp}
theorem RpL.length : ∀ {ds : List D} {vs : List V}, RpL K G ds vs → ds.length = vs.length
  | _, _, .nil => rfl
  | _, _, .cons _ t => congrArg (· + 1) (RpL.length t)
theorem RpL.get : ∀ {ds : List D} {vs : List V} {i : Nat} {v : V}, RpL K G ds vs → vs[i]? = some v → ∃ d, ds[i]? = some d ∧ Rp K G d v
  | _, _, i, v, .nil, e => by simp at e
  | _, _, 0, v, .cons r _, e => by simp at e; subst e; exact ⟨_, rfl, r⟩
  | _, _, i + 1, v, .cons _ t, e => by
    obtain ⟨d, h1, h2⟩ := RpL.get (i := i) t (by simpa using e)
    exact ⟨d, by simpa using h1, h2⟩
theorem RpL.getD : ∀ {ds : List D} {vs : List V} {i : Nat} {d : D}, RpL K G ds vs → ds[i]? = some d → ∃ v, vs[i]? = some v ∧ Rp K G d v
  | _, _, i, v, .nil, e => by simp at e
  | _, _, 0, v, .cons r _, e => by simp at e; subst e; exact ⟨_, rfl, r⟩
  | _, _, i + 1, v, .cons _ t, e => by
    obtain ⟨d, h1, h2⟩ := RpL.getD (i := i) t (by simpa using e)
    exact ⟨d, by simpa using h1, h2⟩
theorem RpL.append : ∀ {ds es : List D} {vs us : List V}, RpL K G ds vs → RpL K G es us → RpL K G (ds ++ es) (vs ++ us)
  | _, _, _, _, .nil, s => s
  | _, _, _, _, .cons r t, s => .cons r (RpL.append t s)
theorem RpL.take : ∀ {ds : List D} {vs : List V} (n : Nat), RpL K G ds vs → RpL K G (ds.take n) (vs.take n)
  | _, _, 0, _ => .nil
  | _, _, _ + 1, .nil => .nil
  | _, _, n + 1, .cons r t => .cons r (RpL.take n t)
theorem RpL.drop : ∀ {ds : List D} {vs : List V} (n : Nat), RpL K G ds vs → RpL K G (ds.drop n) (vs.drop n)
  | _, _, 0, r => r
  | _, _, _ + 1, .nil => .nil
  | _, _, n + 1, .cons _ t => RpL.drop n t
theorem RpL.set {d : D} {v : V} (q : Rp K G d v) : ∀ {ds : List D} {vs : List V} (n : Nat), RpL K G ds vs → RpL K G (ds.set n d) (vs.set n v)
  | _, _, _, .nil => .nil
  | _, _, 0, .cons _ t => .cons q t
  | _, _, n + 1, .cons r t => .cons r (RpL.set q n t)
theorem RpL.dropLast : ∀ {ds : List D} {vs : List V}, RpL K G ds vs → RpL K G ds.dropLast vs.dropLast := fun {ds vs} r => by
  rw [List.dropLast_eq_take, List.dropLast_eq_take, r.length]
  exact r.take _
theorem RpK.length : ∀ {ds : List (Key × D)} {vs : List (Key × V)}, RpK K G ds vs → ds.length = vs.length
  | _, _, .nil => rfl
  | _, _, .cons _ t => congrArg (· + 1) (RpK.length t)
end
abbrev DSt := List (Option D)
inductive RpS (K : PySem.W.Frag) (G : Hp) : DSt → St → Prop
  | nil : RpS K G [] []
  | some {d : D} {ds : DSt} {v : V} {vs : St} : Rp K G d v → RpS K G ds vs → RpS K G (some d :: ds) (some v :: vs)
  | none {ds : DSt} {o : Option V} {vs : St} : RpS K G ds vs → RpS K G (none :: ds) (o :: vs)
section
variable {K : PySem.W.Frag} {G G' : Hp}
theorem RpS.mono (s : Same G G') : ∀ {δ : DSt} {σ : St}, RpS K G δ σ → RpS K G' δ σ
  | _, _, .nil => .nil
  | _, _, .some a b => .some (a.mono s) (RpS.mono s b)
  | _, _, .none b => .none (RpS.mono s b)
theorem RpS.get : ∀ {δ : DSt} {σ : St} {i : Nat} {d : D}, RpS K G δ σ → δ[i]? = Option.some (Option.some d) → ∃ v, σ[i]? = Option.some (Option.some v) ∧ Rp K G d v
  | _, _, i, d, .nil, e => by simp at e
  | _, _, 0, d, .some r _, e => by simp at e; subst e; exact ⟨_, rfl, r⟩
  | _, _, 0, d, .none _, e => by simp at e
  | _, _, i + 1, d, .some _ t, e => by
    obtain ⟨v, h1, h2⟩ := RpS.get (i := i) t (by simpa using e)
    exact ⟨v, by simpa using h1, h2⟩
  | _, _, i + 1, d, .none t, e => by
    obtain ⟨v, h1, h2⟩ := RpS.get (i := i) t (by simpa using e)
    exact ⟨v, by simpa using h1, h2⟩
theorem RpS.set {d : D} {v : V} (q : Rp K G d v) : ∀ {δ : DSt} {σ : St} (i : Nat), RpS K G δ σ → RpS K G (δ.set i (Option.some d)) (σ.set i (Option.some v))
  | _, _, _, .nil => .nil
  | _, _, 0, .some _ t => .some q t
  | _, _, 0, .none t => .some q t
  | _, _, i + 1, .some r t => .some r (RpS.set q i t)
  | _, _, i + 1, .none t => .none (RpS.set q i t)
theorem RpS.start : ∀ {ds : List D} {vs : List V}, RpL K G ds vs → ∀ n, RpS K G (ds.map Option.some ++ List.replicate n Option.none) (vs.map Option.some ++ List.replicate n Option.none)
  | _, _, .nil, 0 => .nil
  | _, _, .nil, n + 1 => .none (RpS.start .nil n)
  | _, _, .cons r t, n => .some r (RpS.start t n)
end
inductive Cell where
  | lst (ds : List D) | dct (kvs : List (Key × D)) | dcn (kvs : List (D × D)) | ins (C : Addr) (fs : List (Str × D)) | lck (o : Obj) (c : Cell) | tab (q : Str)
abbrev Cells := Addr → Option Cell
def updC (C : Cells) (a : Addr) (c : Cell) : Cells := fun b => if b = a then some c else C b
def delC (C : Cells) (a : Addr) : Cells := fun b => if b = a then none else C b
theorem updC_same {C : Cells} {a : Addr} {c : Cell} : updC C a c a = some c := if_pos rfl
theorem updC_ne {C : Cells} {a b : Addr} {c : Cell} (h : b ≠ a) : updC C a c b = C b := if_neg h
theorem updC_upd {C : Cells} {a : Addr} {c d : Cell} : updC (updC C a c) a d = updC C a d := by
  funext b; unfold updC; split <;> rfl
theorem delC_upd {C : Cells} {a : Addr} {c : Cell} (h : C a = none) : delC (updC C a c) a = C := by
  funext b; unfold updC delC; split
  · rename_i e; rw [e, h]
  · rename_i e; exact if_neg e
inductive RpF (K : PySem.W.Frag) (G : Hp) : List (Str × D) → List (Str × V) → Prop
  | nil : RpF K G [] []
  | cons {f : Str} {d : D} {ds : List (Str × D)} {v : V} {vs : List (Str × V)} : Rp K G d v → RpF K G ds vs → RpF K G ((f, d) :: ds) ((f, v) :: vs)
theorem RpF.mono {K : PySem.W.Frag} {G G' : Hp} (s : Same G G') : ∀ {δ : List (Str × D)} {σ : List (Str × V)}, RpF K G δ σ → RpF K G' δ σ
  | _, _, .nil => .nil
  | _, _, .cons a b => .cons (a.mono s) (RpF.mono s b)
mutual
/-- the key, of the kit's kind -/
def nkD : D → NestedKey
  | .int i => .num i
  | .tup ds => .tup (nkL ds)
  | _ => .none
def nkL : List D → List NestedKey
  | [] => []
  | d :: ds => nkD d :: nkL ds
end
/-- a whole number, or a tuple of such, at most n deep -/
def isNk : Nat → D → Bool
  | _, .int _ => true
  | n + 1, .tup ds => ds.all (isNk n)
  | _, _ => false
/-- a key of such a dict -/
def isTk (d : D) : Bool := match d with
  | .tup _ => isNk 8 d
  | _ => false
mutual
/-- the hash of a key without texts -/
def hI : NestedKey → Int
  | .none => reduceHash 0xFCA86420
  | .num i => hashInt i
  | .text _ => 0
  | .tup ks => reduceHash (Builtin.Tuple.tupleHashOf (hIs ks))
def hIs : List NestedKey → List Int
  | [] => []
  | k :: ks => hI k :: hIs ks
end
def entK (x : NestedKey × Addr × Value) : DictEntry := ⟨hI x.1, .ref x.2.1, x.2.2⟩
/-- at a stands a dict with these entries -/
def isKeyed (a : Addr) (xs : List (NestedKey × Addr × Value)) : Heap → Prop := fun h => ∃ o es ep, h.get? a = some o ∧ o.ExactDict ∧ o.data = .dict es ep ∧ es.toList = xs.map entK ∧ (xs.map (·.1)).Nodup ∧ (a == sysModules) = false ∧ xs.length ≤ sizeLine
/-- entries by data -/
inductive RpN (K : PySem.W.Frag) (G : Hp) : List (D × D) → List (NestedKey × Addr × Value) → Prop
  | nil : RpN K G [] []
  | cons {k d : D} {kvs : List (D × D)} {p : Addr} {v : V} {u : Value} {xs : List (NestedKey × Addr × Value)} : isTk k = true → Rp K G k (.ref p) → Rp K G d v → RelV v u → RpN K G kvs xs → RpN K G ((k, d) :: kvs) ((nkD k, p, u) :: xs)
theorem RpN.mono {K : PySem.W.Frag} {G G' : Hp} (s : Same G G') : ∀ {δ : List (D × D)} {σ : List (NestedKey × Addr × Value)}, RpN K G δ σ → RpN K G' δ σ
  | _, _, .nil => .nil
  | _, _, .cons a b c d e => .cons a (b.mono s) (c.mono s) d (RpN.mono s e)
theorem RpN.length {K : PySem.W.Frag} {G : Hp} : ∀ {δ : List (D × D)} {σ : List (NestedKey × Addr × Value)}, RpN K G δ σ → δ.length = σ.length
  | _, _, .nil => rfl
  | _, _, .cons _ _ _ _ e => congrArg (· + 1) (RpN.length e)
/-- what stands at a in the abstract heap for a cell -/
inductive HoOk (K : PySem.W.Frag) (G : Hp) : Addr → Cell → HO → Prop
  | lst {a : Addr} {ds : List D} {xs : List V} : RpL K G ds xs → HoOk K G a (.lst ds) (.lst xs)
  | dct {a : Addr} {kvs : List (Key × D)} {ks : List (Key × V)} : RpK K G kvs ks → HoOk K G a (.dct kvs) (.dK ks)
  | ins {a C dx : Addr} {fs : List (Str × D)} {gs : List (Str × V)} : RpF K G fs gs → HoOk K G a (.ins C fs) (.ins C dx gs)
  | lck {a : Addr} {o : Obj} {c : Cell} {u : HO} : HoOk K G a c u → HoOk K G a (.lck o c) (.frz o u)
  | dcn {a : Addr} {kvs : List (D × D)} {xs : List (NestedKey × Addr × Value)} : RpN K G kvs xs → HoOk K G a (.dcn kvs) (.ext (isKeyed a xs))
  /-- a def's table of code objects, all of one name -/
  | tab {a : Addr} {q : Str} {ps : Array Value} : TriplesOk ps.toList → (∀ (pos : Pos) (cv : Value), codeAmong pos ps.toList = some cv → ∃ c, cv = .ref c ∧ G c = some (LamX.CodeO c q)) → HoOk K G a (.tab q) (.tbl ps)
theorem HoOk.mono {K : PySem.W.Frag} {G G' : Hp} (s : Same G G') : ∀ {a : Addr} {c : Cell} {u : HO}, HoOk K G a c u → HoOk K G' a c u
  | _, _, _, .lst r => .lst (r.mono s)
  | _, _, _, .dct r => .dct (r.mono s)
  | _, _, _, .ins r => .ins (r.mono s)
  | _, _, _, .lck r => .lck (HoOk.mono s r)
  | _, _, _, .dcn r => .dcn (r.mono s)
  | _, _, _, .tab h r => .tab h fun pos cv e => by
    obtain ⟨c, h1, h2⟩ := r pos cv e
    exact ⟨c, h1, s _ _ h2⟩
/-- the heap: what stays (G) and the cells -/
structure Ab (K : PySem.W.Frag) (F : Cells) (G H : Hp) (C : Cells) : Prop where
  sub : Same G H
  cell : ∀ a c, C a = some c → G a = none ∧ ∃ u, H a = some u ∧ HoOk K G a c u
  fr : ∀ a c, F a = some c → C a = none ∧ G a = none ∧ ∃ u, H a = some u ∧ HoOk K G a c u
section
variable {K : PySem.W.Frag} {G G' H H' : Hp} {F C C' : Cells} {a p : Addr} {c : Cell} {u : HO}
theorem Ab.free (A : Ab K F G H C) (h : H p = none) : C p = none := by
  cases e : C p with
  | none => rfl
  | some c =>
    obtain ⟨_, u, e2, _⟩ := A.cell p c e
    rw [h] at e2; cases e2
theorem Ab.freeF (A : Ab K F G H C) (h : H p = none) : F p = none := by
  cases e : F p with
  | none => rfl
  | some c =>
    obtain ⟨_, _, u, e2, _⟩ := A.fr p c e
    rw [h] at e2; cases e2
theorem Ab.noF {c : Cell} (A : Ab K F G H C) (h : C p = some c) : F p = none := by
  cases e : F p with
  | none => rfl
  | some c' =>
    obtain ⟨e2, _⟩ := A.fr p c' e
    rw [h] at e2; cases e2
theorem Ab.freeG (A : Ab K F G H C) (h : H p = none) : G p = none := A.sub.free h
theorem same_upd (hG : G p = none) : Same G (upd G p u) := fun b o e => by rw [upd_ne (ne_of_none e hG)]; exact e
/-- a new thing that stays -/
theorem Ab.grow (A : Ab K F G H C) (h : H p = none) : Ab K F (upd G p u) (upd H p u) C ∧ Same G (upd G p u) := by
  have hG := A.freeG h
  have sm : Same G (upd G p u) := same_upd hG
  refine ⟨⟨fun b o e => ?_, fun b c e => ?_, fun b c e => ?_⟩, sm⟩
  · by_cases hb : b = p
    · subst hb; rw [upd_same] at e; rw [upd_same]; exact e
    · rw [upd_ne hb] at e; rw [upd_ne hb]; exact A.sub b o e
  · obtain ⟨h1, v, h2, h3⟩ := A.cell b c e
    have hb : b ≠ p := ne_of_none h2 h
    exact ⟨by rw [upd_ne hb]; exact h1, v, by rw [upd_ne hb]; exact h2, h3.mono sm⟩
  · obtain ⟨h0, h1, v, h2, h3⟩ := A.fr b c e
    have hb : b ≠ p := ne_of_none h2 h
    exact ⟨h0, by rw [upd_ne hb]; exact h1, v, by rw [upd_ne hb]; exact h2, h3.mono sm⟩
/-- a cell put -/
theorem Ab.put (A : Ab K F G H C) (hG : G p = none) (hF : F p = none) (ok : HoOk K G p c u) : Ab K F G (upd H p u) (updC C p c) := by
  refine ⟨fun b o e => ?_, fun b d e => ?_, fun b d e => ?_⟩
  · rw [upd_ne (ne_of_none e hG)]; exact A.sub b o e
  · by_cases hb : b = p
    · subst hb; rw [updC_same] at e; cases e
      exact ⟨hG, u, upd_same, ok⟩
    · rw [updC_ne hb] at e
      obtain ⟨h1, v, h2, h3⟩ := A.cell b d e
      exact ⟨h1, v, by rw [upd_ne hb]; exact h2, h3⟩
  · obtain ⟨h0, h1, v, h2, h3⟩ := A.fr b d e
    have hb : b ≠ p := by rintro rfl; rw [hF] at e; cases e
    exact ⟨by rw [updC_ne hb]; exact h0, h1, v, by rw [upd_ne hb]; exact h2, h3⟩
/-- a new cell -/
theorem Ab.cellNew (A : Ab K F G H C) (h : H p = none) (ok : HoOk K G p c u) : Ab K F G (upd H p u) (updC C p c) := A.put (A.freeG h) (A.freeF h) ok
/-- a cell written -/
theorem Ab.write {c0 : Cell} (A : Ab K F G H C) (h : C p = some c0) (ok : HoOk K G p c u) : Ab K F G (upd H p u) (updC C p c) := A.put (A.cell p c0 h).1 (A.noF h) ok
/-- a cell is let go: it stays from now on as it is -/
theorem Ab.freeze (A : Ab K F G H C) (h : C p = some c) : ∃ u, H p = some u ∧ HoOk K G p c u ∧ Same G (upd G p u) ∧ Ab K F (upd G p u) H (delC C p) := by
  obtain ⟨hG, u, hH, ok⟩ := A.cell p c h
  have hF := A.noF h
  have sm : Same G (upd G p u) := same_upd hG
  refine ⟨u, hH, ok, sm, ⟨fun b o e => ?_, fun b d e => ?_, fun b d e => ?_⟩⟩
  · by_cases hb : b = p
    · subst hb; rw [upd_same] at e; cases e; exact hH
    · rw [upd_ne hb] at e; exact A.sub b o e
  · have hb : b ≠ p := by
      rintro rfl
      unfold delC at e; rw [if_pos rfl] at e; cases e
    unfold delC at e; rw [if_neg hb] at e
    obtain ⟨h1, v, h2, h3⟩ := A.cell b d e
    exact ⟨by rw [upd_ne hb]; exact h1, v, h2, h3.mono sm⟩
  · obtain ⟨h0, h1, v, h2, h3⟩ := A.fr b d e
    have hb : b ≠ p := by rintro rfl; rw [hF] at e; cases e
    exact ⟨by unfold delC; rw [if_neg hb]; exact h0, by rw [upd_ne hb]; exact h1, v, h2, h3.mono sm⟩
/-- a cell is forgotten -/
theorem Ab.less (A : Ab K F G H C) (h : ∀ a c, C' a = some c → C a = some c) : Ab K F G H C' := ⟨A.sub, fun b c e => A.cell b c (h b c e), fun b c e => by
  obtain ⟨h0, h1⟩ := A.fr b c e
  refine ⟨?_, h1⟩
  cases q : C' b with
  | none => rfl
  | some c' => rw [h b c' q] at h0; cases h0⟩
/-- a cell goes into the frame -/
theorem Ab.hide (A : Ab K F G H C) (h : C p = some c) : Ab K (updC F p c) G H (delC C p) := by
  refine ⟨A.sub, fun b d e => ?_, fun b d e => ?_⟩
  · unfold delC at e
    by_cases hb : b = p
    · rw [if_pos hb] at e; cases e
    · rw [if_neg hb] at e; exact A.cell b d e
  · by_cases hb : b = p
    · subst hb
      rw [updC_same] at e; cases e
      obtain ⟨h1, h2⟩ := A.cell _ _ h
      exact ⟨if_pos rfl, h1, h2⟩
    · rw [updC_ne hb] at e
      obtain ⟨h0, h1⟩ := A.fr b d e
      exact ⟨by unfold delC; rw [if_neg hb]; exact h0, h1⟩
/-- .. and comes back -/
theorem Ab.show (A : Ab K (updC F p c) G H C) (h : F p = none) : Ab K F G H (updC C p c) ∧ C p = none := by
  obtain ⟨e0, e1, u, e2, e3⟩ := A.fr p c updC_same
  refine ⟨⟨A.sub, fun b d e => ?_, fun b d e => ?_⟩, e0⟩
  · by_cases hb : b = p
    · subst hb; rw [updC_same] at e; cases e
      exact ⟨e1, u, e2, e3⟩
    · rw [updC_ne hb] at e; exact A.cell b d e
  · have hb : b ≠ p := by rintro rfl; rw [h] at e; cases e
    obtain ⟨h0, h1⟩ := A.fr b d (by rw [updC_ne hb]; exact e)
    exact ⟨by rw [updC_ne hb]; exact h0, h1⟩
end
abbrev DE := DSt → Cells → (D → Cells → Prop) → Prop
abbrev DT := DSt → Cells → (Bool → Cells → Prop) → Prop
abbrev DA := DSt → Cells → (List D → Cells → Prop) → Prop
structure DEnds where
  nx : DSt → Cells → Prop
  rt : D → Cells → Prop
  bk : DSt → Cells → Prop := fun _ _ => False
  ct : DSt → Cells → Prop := fun _ _ => False
abbrev DS := DEnds → DSt → Cells → Prop
section
variable (K : PySem.W.Frag)
def ToE (F : Cells) (G : Hp) (R : D → Cells → Prop) (Q : VK) : Prop := ∀ d C, R d C → ∀ v H' G', Same G G' → Ab K F G' H' C → Rp K G' d v → Q v H'
def ToT (F : Cells) (G : Hp) (R : Bool → Cells → Prop) (Q : Bool → Hp → Prop) : Prop := ∀ b C, R b C → ∀ H' G', Same G G' → Ab K F G' H' C → Q b H'
def ToA (F : Cells) (G : Hp) (R : List D → Cells → Prop) (Q : List V → Hp → Prop) : Prop := ∀ ds C, R ds C → ∀ vs H' G', Same G G' → Ab K F G' H' C → RpL K G' ds vs → Q vs H'
def ToN (F : Cells) (G : Hp) (R : DSt → Cells → Prop) (Q : St → Hp → Prop) : Prop := ∀ δ C, R δ C → ∀ σ H' G', Same G G' → Ab K F G' H' C → RpS K G' δ σ → Q σ H'
structure ToS (F : Cells) (G : Hp) (R : DEnds) (N : Ends) : Prop where
  nx : ToN K F G R.nx N.nx
  rt : ToE K F G R.rt N.rt
  bk : ToN K F G R.bk N.bk
  ct : ToN K F G R.ct N.ct
def liftE (t : DE) : TE := fun σ H Q => ∃ F G δ C R, Ab K F G H C ∧ RpS K G δ σ ∧ t δ C R ∧ ToE K F G R Q
def liftT (t : DT) : TT := fun σ H Q => ∃ F G δ C R, Ab K F G H C ∧ RpS K G δ σ ∧ t δ C R ∧ ToT K F G R Q
def liftA (t : DA) : TA := fun σ H Q => ∃ F G δ C R, Ab K F G H C ∧ RpS K G δ σ ∧ t δ C R ∧ ToA K F G R Q
def liftS (t : DS) : TS := fun N σ H => ∃ F G δ C R, Ab K F G H C ∧ RpS K G δ σ ∧ t R δ C ∧ ToS K F G R N
end
section
variable {K : PySem.W.Frag} {F : Cells} {G G' : Hp}
theorem ToE.mono {R : D → Cells → Prop} {Q : VK} (h : ToE K F G R Q) (s : Same G G') : ToE K F G' R Q := fun d C r v H' G2 s2 => h d C r v H' G2 (s.trans s2)
theorem ToT.mono {R : Bool → Cells → Prop} {Q : Bool → Hp → Prop} (h : ToT K F G R Q) (s : Same G G') : ToT K F G' R Q := fun d C r H' G2 s2 => h d C r H' G2 (s.trans s2)
theorem ToA.mono {R : List D → Cells → Prop} {Q : List V → Hp → Prop} (h : ToA K F G R Q) (s : Same G G') : ToA K F G' R Q := fun d C r v H' G2 s2 => h d C r v H' G2 (s.trans s2)
theorem ToN.mono {R : DSt → Cells → Prop} {Q : St → Hp → Prop} (h : ToN K F G R Q) (s : Same G G') : ToN K F G' R Q := fun d C r v H' G2 s2 => h d C r v H' G2 (s.trans s2)
theorem ToS.mono {R : DEnds} {N : Ends} (h : ToS K F G R N) (s : Same G G') : ToS K F G' R N := ⟨h.nx.mono s, h.rt.mono s, h.bk.mono s, h.ct.mono s⟩
end
section
variable {X : Cx}
theorem _root_.L2.PE.weak {e : Expr} {t t' : TE} (h : PE X e t) (w : ∀ σ H Q, t' σ H Q → t σ H Q) : PE X e t' := ⟨fun pins s σ H Q I q => h.run pins s σ H Q I (w σ H Q q)⟩
theorem _root_.L2.PT.weak {e : Expr} {t t' : TT} (h : PT X e t) (w : ∀ σ H Q, t' σ H Q → t σ H Q) : PT X e t' := ⟨fun pins s σ H Q I q => h.run pins s σ H Q I (w σ H Q q)⟩
theorem _root_.L2.PW.weak {e : Expr} {t t' : TT} (h : PW X e t) (w : ∀ σ H Q, t' σ H Q → t σ H Q) : PW X e t' := ⟨fun wh pins s σ H Q I q => h.run wh pins s σ H Q I (w σ H Q q)⟩
theorem _root_.L2.PA.weak {e : List Expr} {t t' : TA} (h : PA X e t) (w : ∀ σ H Q, t' σ H Q → t σ H Q) : PA X e t' := ⟨fun pos pins s σ H Q I q => h.run pos pins s σ H Q I (w σ H Q q)⟩
theorem _root_.L2.PS.weak {e : Stmt} {t t' : TS} (h : PS X e t) (w : ∀ D σ H, t' D σ H → t D σ H) : PS X e t' := ⟨fun pins s σ H D I q => h.run pins s σ H D I (w D σ H q)⟩
theorem _root_.L2.PSs.weak {e : List Stmt} {t t' : TS} (h : PSs X e t) (w : ∀ D σ H, t' D σ H → t D σ H) : PSs X e t' := ⟨fun pins s σ H D I q => h.run pins s σ H D I (w D σ H q)⟩
end
end DL
namespace DL
open PySem PySem.Spec L2
open PyProof.Rows hiding St
section
variable {X : Cx}
def dVar (i : Nat) : DE := fun δ C R => match δ[i]? with
  | some (some d) => R d C
  | _ => False
theorem dVar_ex {i : Nat} {δ : DSt} {C : Cells} {R : D → Cells → Prop} (h : dVar i δ C R) : ∃ d, δ[i]? = some (some d) ∧ R d C := by
  unfold dVar at h
  split at h
  · exact ⟨_, by assumption, h⟩
  · exact h.elim
def dC (d : D) : DE := fun _ C R => R d C
theorem dv (i : Nat) {x : Str} {pos : Pos} (hN : X.N[i]? = some x := by rfl) (hv : Vis X.env.scope x := by first | exact Or.inl rfl | exact Or.inr (Or.inl rfl) | exact Or.inr (Or.inr rfl)) (hd : (x == ("__debug__" : Str)) = false := by decide)
    (hcd : (x == ("__classdict__" : Str)) = false := by decide) : PE X (.Name x pos) (liftE X.K (dVar i)) :=
  (pe_var hN hv hd hcd).weak fun σ H Q ⟨F, G, δ, C, R, A, S, h, k⟩ => by
    obtain ⟨d, e, q⟩ := dVar_ex h
    obtain ⟨v, e1, r⟩ := S.get e
    exact ⟨v, e1, k d C q v H G (Same.refl G) A r⟩
theorem lift_c {K : PySem.W.Frag} {d : D} {v : V} (r : ∀ G, Rp K G d v) : ∀ σ H Q, liftE K (dC d) σ H Q → tC v σ H Q := fun σ H Q ⟨F, G, δ, C, R, A, S, q, k⟩ => k d C q v H G (Same.refl G) A (r G)
theorem de_int {i j pos} : PE X (.Constant (.int i) j pos) (liftE X.K (dC (.int i))) := pe_int.weak (lift_c fun _ => .int i)
theorem de_bl {b j pos} : PE X (.Constant (.bool b) j pos) (liftE X.K (dC (.bl b))) := pe_bl.weak (lift_c fun _ => .bl b)
theorem de_non {j pos} : PE X (.Constant .none j pos) (liftE X.K (dC .non)) := pe_non.weak (lift_c fun _ => .non)
theorem de_str {x j pos} : PE X (.Constant (.str x) j pos) (liftE X.K (dC (.str x))) := pe_str.weak (lift_c fun _ => .str x)
/-- a module's constant, as data -/
structure GlD (K : PySem.W.Frag) (mg : Str → Option Value) (x : Str) (d : D) : Prop where
  at_ : ∃ v u, mg x = some u ∧ RelV v u ∧ ∀ G, Rp K G d v
theorem de_glob {x : Str} {d : D} {pos : Pos} (hg : Gl X x) (g : GlD X.K X.mg x d) (hd : (x == ("__debug__" : Str)) = false := by decide) : PE X (.Name x pos) (liftE X.K (dC d)) := by
  obtain ⟨v, u, h1, h2, h3⟩ := g.at_
  exact (pe_glob hg h1 h2 hd).weak (lift_c h3)
/-- a built-in type as a value -/
theorem de_bltn {x : Str} {T : String} {pos : Pos} (hg : Gl X x) (hm : X.mg x = none) (hv : bootBuiltins x = some (.type T)) (hn : x ≠ "__name__" := by decide) (hd : (x == ("__debug__" : Str)) = false := by decide) : PE X (.Name x pos) (liftE X.K (dC (.ty T))) :=
  (pe_bltn (v := .ty T) hg hm hv rfl hn hd).weak (lift_c fun _ => .ty T)
end
abbrev DO1 := D → Cells → (D → Cells → Prop) → Prop
abbrev DO2 := D → D → Cells → (D → Cells → Prop) → Prop
abbrev DOs := List D → Cells → (D → Cells → Prop) → Prop
def dOp (o : DO2) (ta tb : DE) : DE := fun δ C R => ta δ C fun x C1 => tb δ C1 fun y C2 => o x y C2 R
def dUn (o : DO1) (ta : DE) : DE := fun δ C R => ta δ C fun x C1 => o x C1 R
def dFn (o : DOs) (ta : DA) : DE := fun δ C R => ta δ C fun xs C1 => o xs C1 R
def LO2 (K : PySem.W.Frag) (r : R2) (o : DO2) : Prop := ∀ F G H C x y v u R Q, Ab K F G H C → Rp K G x v → Rp K G y u → o x y C R → ToE K F G R Q → r v u H Q
def LO1 (K : PySem.W.Frag) (r : V → Hp → VK → Prop) (o : DO1) : Prop := ∀ F G H C x v R Q, Ab K F G H C → Rp K G x v → o x C R → ToE K F G R Q → r v H Q
def LOs (K : PySem.W.Frag) (r : List V → Hp → VK → Prop) (o : DOs) : Prop := ∀ F G H C xs vs R Q, Ab K F G H C → RpL K G xs vs → o xs C R → ToE K F G R Q → r vs H Q
section
variable {K : PySem.W.Frag}
theorem lift_op {r : R2} {o : DO2} {ta tb : DE} (h : LO2 K r o) : ∀ σ H Q, liftE K (dOp o ta tb) σ H Q → tOp r (liftE K ta) (liftE K tb) σ H Q := by
  rintro σ H Q ⟨F, G, δ, C, R, A, S, t, k⟩
  refine ⟨F, G, δ, C, _, A, S, t, fun x C1 q1 v H1 G1 s1 A1 r1 => ⟨F, G1, δ, C1, _, A1, S.mono s1, q1, fun y C2 q2 u H2 G2 s2 A2 r2 => ?_⟩⟩
  exact h F G2 H2 C2 x y v u R Q A2 (r1.mono s2) r2 q2 (k.mono (s1.trans s2))
theorem lift_un {r : V → Hp → VK → Prop} {o : DO1} {ta : DE} (h : LO1 K r o) : ∀ σ H Q, liftE K (dUn o ta) σ H Q → tUn r (liftE K ta) σ H Q := by
  rintro σ H Q ⟨F, G, δ, C, R, A, S, t, k⟩
  exact ⟨F, G, δ, C, _, A, S, t, fun x C1 q1 v H1 G1 s1 A1 r1 => h F G1 H1 C1 x v R Q A1 r1 q1 (k.mono s1)⟩
theorem lift_fn {r : List V → Hp → VK → Prop} {o : DOs} {ta : DA} (h : LOs K r o) : ∀ σ H Q, liftE K (dFn o ta) σ H Q → liftA K ta σ H fun vs H1 => r vs H1 Q := by
  rintro σ H Q ⟨F, G, δ, C, R, A, S, t, k⟩
  exact ⟨F, G, δ, C, _, A, S, t, fun x C1 q1 v H1 G1 s1 A1 r1 => h F G1 H1 C1 x v R Q A1 r1 q1 (k.mono s1)⟩
/-- a result that stands in what stays already -/
theorem ToE.now {G H : Hp} {F C : Cells} {R : D → Cells → Prop} {Q : VK} {d : D} {v : V} (k : ToE K F G R Q) (A : Ab K F G H C) (q : R d C) (r : Rp K G d v) : Q v H := k d C q v H G (Same.refl G) A r
/-- a new thing that stays -/
theorem ToE.new {G H : Hp} {F C : Cells} {R : D → Cells → Prop} {Q : VK} {d : D} {p : Addr} {u : HO} (k : ToE K F G R Q) (A : Ab K F G H C) (hp : H p = none) (q : R d C) (r : Rp K (upd G p u) d (.ref p)) : Q (.ref p) (upd H p u) :=
  k d C q _ _ _ (A.grow (u := u) hp).2 (A.grow hp).1 r
/-- a new cell -/
theorem ToE.cell {G H : Hp} {F C : Cells} {R : D → Cells → Prop} {Q : VK} {c : Cell} {p : Addr} {u : HO} (k : ToE K F G R Q) (A : Ab K F G H C) (hp : H p = none) (q : R (.ref p) (updC C p c)) (ok : HoOk K G p c u) : Q (.ref p) (upd H p u) :=
  k _ _ q _ _ _ (Same.refl G) (A.cellNew hp ok) (.ref p)
end
section
variable {X : Cx} {a b : Expr} {ta tb : DE} {pos : Pos}
theorem de_op {op : Operator} {r : R2} {o : DO2} (ho : OpR X (binaryOp op) r) (h : LO2 X.K r o) (ha : PE X a (liftE X.K ta)) (hb : PE X b (liftE X.K tb)) : PE X (.BinOp a op b pos) (liftE X.K (dOp o ta tb)) := (pe_op ho ha hb).weak (lift_op h)
theorem de_un {op : UnaryOp} {r : V → Hp → VK → Prop} {o : DO1} (ho : UnR X (unaryOp op) r) (h : LO1 X.K r o) (ha : PE X a (liftE X.K ta)) : PE X (.UnaryOp op a pos) (liftE X.K (dUn o ta)) := (pe_un ho ha).weak (lift_un h)
theorem de_cmp {op : CmpOp} {r : R2} {o : DO2} (ho : OpR X (compareOp op) r) (h : LO2 X.K r o) (ha : PE X a (liftE X.K ta)) (hb : PE X b (liftE X.K tb)) (hm : behindInMarks op b = false) : PE X (.Compare a [op] [b] pos) (liftE X.K (dOp o ta tb)) := (pe_cmpR ho ha hb hm).weak (lift_op h)
/-- a value that is a bool, as a test -/
def dTest (t : DE) : DT := fun δ C R => t δ C fun d C1 => ∃ b, d = .bl b ∧ R b C1
theorem lift_test {K : PySem.W.Frag} {t : DE} : ∀ σ H Q, liftT K (dTest t) σ H Q → tTest (liftE K t) σ H Q := by
  rintro σ H Q ⟨F, G, δ, C, R, A, S, t, k⟩
  refine ⟨F, G, δ, C, _, A, S, t, ?_⟩
  rintro x C1 ⟨b, rfl, q⟩ v H1 G1 s1 A1 r1
  cases r1
  exact ⟨b, rfl, k b C1 q H1 G1 s1 A1⟩
theorem dt_cmp {op : CmpOp} {r : R2} {o : DO2} (ho : OpR X (compareOp op) r) (h : LO2 X.K r o) (ha : PE X a (liftE X.K ta)) (hb : PE X b (liftE X.K tb)) (hm : behindInMarks op b = false) : PT X (.Compare a [op] [b] pos) (liftT X.K (dTest (dOp o ta tb))) := by
  refine (pt_cmpR ho ha hb hm).weak fun σ H Q q => ?_
  obtain ⟨F, G, δ, C, R, A, S, t, k⟩ := lift_test σ H Q q
  exact lift_op h σ H _ ⟨F, G, δ, C, R, A, S, t, k⟩
/-- another expression whose value is a bool, as a test -/
theorem dt_val {e : Expr} {t : DE} (h : PE X e (liftE X.K t)) (he : ∀ whole, isTrue e X.env whole = (do let v ← whole; standAt e.pos; holding [v] (truthy v)) := by intro _; rfl) : PT X e (liftT X.K (dTest t)) :=
  (pt_val h he).weak fun σ H Q q => lift_test σ H Q q
variable {tA tB' : DT} {rest : List Expr} {c : Expr}
def dAnd (t u : DT) : DT := fun δ C R => t δ C fun b C1 => if b = true then u δ C1 R else R false C1
def dOr (t u : DT) : DT := fun δ C R => t δ C fun b C1 => if b = true then R true C1 else u δ C1 R
def dNot (t : DT) : DT := fun δ C R => t δ C fun b C1 => R (!b) C1
theorem lift_and {K : PySem.W.Frag} {t u : DT} : ∀ σ H Q, liftT K (dAnd t u) σ H Q → tAnd (liftT K t) (liftT K u) σ H Q := by
  rintro σ H Q ⟨F, G, δ, C, R, A, S, t, k⟩
  refine ⟨F, G, δ, C, _, A, S, t, fun b C1 q H1 G1 s1 A1 => ?_⟩
  cases b with
  | true => rw [if_pos rfl] at q ⊢; exact ⟨F, G1, δ, C1, R, A1, S.mono s1, q, k.mono s1⟩
  | false => rw [if_neg Bool.false_ne_true] at q ⊢; exact k _ _ q H1 G1 s1 A1
theorem lift_or {K : PySem.W.Frag} {t u : DT} : ∀ σ H Q, liftT K (dOr t u) σ H Q → tOr (liftT K t) (liftT K u) σ H Q := by
  rintro σ H Q ⟨F, G, δ, C, R, A, S, t, k⟩
  refine ⟨F, G, δ, C, _, A, S, t, fun b C1 q H1 G1 s1 A1 => ?_⟩
  cases b with
  | true => rw [if_pos rfl] at q ⊢; exact k _ _ q H1 G1 s1 A1
  | false => rw [if_neg Bool.false_ne_true] at q ⊢; exact ⟨F, G1, δ, C1, R, A1, S.mono s1, q, k.mono s1⟩
theorem lift_not {K : PySem.W.Frag} {t : DT} : ∀ σ H Q, liftT K (dNot t) σ H Q → tNot (liftT K t) σ H Q := by
  rintro σ H Q ⟨F, G, δ, C, R, A, S, t, k⟩
  exact ⟨F, G, δ, C, _, A, S, t, fun b C1 q H1 G1 s1 A1 => k _ _ q H1 G1 s1 A1⟩
theorem dw_and1 (ha : PT X a (liftT X.K tA)) : PW X (.BoolOp .And [a] pos) (liftT X.K tA) := pw_and1 ha
theorem dw_or1 (ha : PT X a (liftT X.K tA)) : PW X (.BoolOp .Or [a] pos) (liftT X.K tA) := pw_or1 ha
theorem dw_and (ha : PT X a (liftT X.K tA)) (hb : PW X (.BoolOp .And (b :: rest) pos) (liftT X.K tB')) : PW X (.BoolOp .And (a :: b :: rest) pos) (liftT X.K (dAnd tA tB')) := (pw_and ha hb).weak lift_and
theorem dw_or (ha : PT X a (liftT X.K tA)) (hb : PW X (.BoolOp .Or (b :: rest) pos) (liftT X.K tB')) : PW X (.BoolOp .Or (a :: b :: rest) pos) (liftT X.K (dOr tA tB')) := (pw_or ha hb).weak lift_or
theorem dt_not (ha : PT X a (liftT X.K tA)) : PT X (.UnaryOp .Not a pos) (liftT X.K (dNot tA)) := (pt_not ha).weak lift_not
/-- as values: the left ones are bools -/
def dAndV (ta tb : DE) : DE := fun δ C R => ta δ C fun d C1 => ∃ b, d = .bl b ∧ if b = true then tb δ C1 R else R (.bl false) C1
def dOrV (ta tb : DE) : DE := fun δ C R => ta δ C fun d C1 => ∃ b, d = .bl b ∧ if b = true then R (.bl true) C1 else tb δ C1 R
def dNotV (ta : DE) : DE := fun δ C R => ta δ C fun d C1 => ∃ b, d = .bl b ∧ R (.bl (!b)) C1
theorem de_one {op} {t : DE} (h : PE X a (liftE X.K t)) : PE X (.BoolOp op [a] pos) (liftE X.K t) := pe_one h
theorem de_and (ha : PE X a (liftE X.K ta)) (hb : PE X (.BoolOp .And (b :: rest) pos) (liftE X.K tb)) : PE X (.BoolOp .And (a :: b :: rest) pos) (liftE X.K (dAndV ta tb)) := by
  refine (pe_and ha hb).weak ?_
  rintro σ H Q ⟨F, G, δ, C, R, A, S, t, k⟩
  refine ⟨F, G, δ, C, _, A, S, t, ?_⟩
  rintro d C1 ⟨b, rfl, q⟩ v H1 G1 s1 A1 r1
  cases r1
  refine ⟨b, rfl, ?_⟩
  cases b with
  | true => rw [if_pos rfl] at q ⊢; exact ⟨F, G1, δ, C1, R, A1, S.mono s1, q, k.mono s1⟩
  | false => rw [if_neg Bool.false_ne_true] at q ⊢; exact k _ _ q _ H1 G1 s1 A1 (.bl false)
theorem de_or (ha : PE X a (liftE X.K ta)) (hb : PE X (.BoolOp .Or (b :: rest) pos) (liftE X.K tb)) : PE X (.BoolOp .Or (a :: b :: rest) pos) (liftE X.K (dOrV ta tb)) := by
  refine (pe_or ha hb).weak ?_
  rintro σ H Q ⟨F, G, δ, C, R, A, S, t, k⟩
  refine ⟨F, G, δ, C, _, A, S, t, ?_⟩
  rintro d C1 ⟨b, rfl, q⟩ v H1 G1 s1 A1 r1
  cases r1
  refine ⟨b, rfl, ?_⟩
  cases b with
  | true => rw [if_pos rfl] at q ⊢; exact k _ _ q _ H1 G1 s1 A1 (.bl true)
  | false => rw [if_neg Bool.false_ne_true] at q ⊢; exact ⟨F, G1, δ, C1, R, A1, S.mono s1, q, k.mono s1⟩
theorem de_not (ha : PE X a (liftE X.K ta)) : PE X (.UnaryOp .Not a pos) (liftE X.K (dNotV ta)) := by
  refine (pe_not ha).weak ?_
  rintro σ H Q ⟨F, G, δ, C, R, A, S, t, k⟩
  refine ⟨F, G, δ, C, _, A, S, t, ?_⟩
  rintro d C1 ⟨b, rfl, q⟩ v H1 G1 s1 A1 r1
  cases r1
  exact ⟨b, rfl, k _ _ q _ H1 G1 s1 A1 (.bl _)⟩
def dIf (t : DT) (ta tb : DE) : DE := fun δ C R => t δ C fun b C1 => if b = true then ta δ C1 R else tb δ C1 R
theorem de_ifExp (hc : PT X c (liftT X.K tA)) (ha : PE X a (liftE X.K ta)) (hb : PE X b (liftE X.K tb)) : PE X (.IfExp c a b pos) (liftE X.K (dIf tA ta tb)) := by
  refine (pe_ifExp hc ha hb).weak ?_
  rintro σ H Q ⟨F, G, δ, C, R, A, S, t, k⟩
  refine ⟨F, G, δ, C, _, A, S, t, fun b C1 q H1 G1 s1 A1 => ?_⟩
  cases b with
  | true => rw [if_pos rfl] at q ⊢; exact ⟨F, G1, δ, C1, R, A1, S.mono s1, q, k.mono s1⟩
  | false => rw [if_neg Bool.false_ne_true] at q ⊢; exact ⟨F, G1, δ, C1, R, A1, S.mono s1, q, k.mono s1⟩
/-- a <= b <= c, by values -/
def dChain (o o' : DO2) (ta tb tc : DE) : DE := fun δ C R => ta δ C fun x C1 => tb δ C1 fun y C2 => o x y C2 fun z C3 => ∃ b, z = .bl b ∧ if b = true then tc δ C3 fun x' C4 => o' y x' C4 R else R (.bl false) C3
theorem lift_chain {K : PySem.W.Frag} {r r' : R2} {o o' : DO2} {ta tb tc : DE} (h : LO2 K r o) (h' : LO2 K r' o') : ∀ σ H Q, liftE K (dChain o o' ta tb tc) σ H Q → tChain r r' (liftE K ta) (liftE K tb) (liftE K tc) σ H Q := by
  rintro σ H Q ⟨F, G, δ, C, R, A, S, t, k⟩
  refine ⟨F, G, δ, C, _, A, S, t, fun x C1 q1 v H1 G1 s1 A1 r1 => ⟨F, G1, δ, C1, _, A1, S.mono s1, q1, fun y C2 q2 u H2 G2 s2 A2 r2 => ?_⟩⟩
  refine h F G2 H2 C2 x y v u _ _ A2 (r1.mono s2) r2 q2 ?_
  rintro z C3 ⟨b, rfl, q3⟩ w H3 G3 s3 A3 r3
  cases r3
  refine ⟨b, rfl, ?_⟩
  cases b with
  | true =>
    rw [if_pos rfl] at q3 ⊢
    exact ⟨F, G3, δ, C3, _, A3, S.mono (s1.trans (s2.trans s3)), q3, fun x' C4 q4 v' H4 G4 s4 A4 r4 => h' F G4 H4 C4 y x' u v' R Q A4 (r2.mono (s3.trans s4)) r4 q4 (k.mono (s1.trans (s2.trans (s3.trans s4))))⟩
  | false =>
    rw [if_neg Bool.false_ne_true] at q3 ⊢
    exact k _ _ q3 _ H3 G3 (s1.trans (s2.trans s3)) A3 (.bl false)
variable {tc : DE}
theorem de_chain {op op' : CmpOp} {r r' : R2} {o o' : DO2} (ho : OpR X (compareOp op) r) (h : LO2 X.K r o) (ho' : OpR X (compareOp op') r') (h' : LO2 X.K r' o') (ha : PE X a (liftE X.K ta)) (hb : PE X b (liftE X.K tb)) (hc : PE X c (liftE X.K tc))
    (hm : lastMarks [op, op'] [b, c] = false := by with_unfolding_all rfl) : PE X (.Compare a [op, op'] [b, c] pos) (liftE X.K (dChain o o' ta tb tc)) := (pe_chain ho ho' ha hb hc hm).weak (lift_chain h h')
theorem dt_chain {op op' : CmpOp} {r r' : R2} {o o' : DO2} (ho : OpR X (compareOp op) r) (h : LO2 X.K r o) (ho' : OpR X (compareOp op') r') (h' : LO2 X.K r' o') (ha : PE X a (liftE X.K ta)) (hb : PE X b (liftE X.K tb)) (hc : PE X c (liftE X.K tc))
    (hm : lastMarks [op, op'] [b, c] = false := by with_unfolding_all rfl) : PT X (.Compare a [op, op'] [b, c] pos) (liftT X.K (dTest (dChain o o' ta tb tc))) := by
  refine (pt_chain ho ho' ha hb hc hm).weak fun σ H Q q => ?_
  obtain ⟨F, G, δ, C, R, A, S, t, k⟩ := lift_test σ H Q q
  exact lift_chain h h' σ H _ ⟨F, G, δ, C, R, A, S, t, k⟩
end
end DL
namespace DL
open PySem PySem.Spec L2
open PyProof.Rows hiding St
mutual
def D.same : D → D → Bool
  | .non, .non => true
  | .bl a, .bl b => a == b
  | .int a, .int b => a == b
  | .str a, .str b => a == b
  | .tup xs, .tup ys => D.sameL xs ys
  | .lst xs, .lst ys => D.sameL xs ys
  | .dct xs, .dct ys => D.sameK xs ys
  | .ref a, .ref b => decide (a = b)
  | .ty a, .ty b => a == b
  | _, _ => false
def D.sameL : List D → List D → Bool
  | [], [] => true
  | x :: xs, y :: ys => D.same x y && D.sameL xs ys
  | _, _ => false
def D.sameK : List (Key × D) → List (Key × D) → Bool
  | [], [] => true
  | (k, x) :: xs, (l, y) :: ys => decide (k = l) && D.same x y && D.sameK xs ys
  | _, _ => false
end
mutual
theorem D.same_iff : ∀ x y : D, D.same x y = true ↔ x = y
  | x, y => by
    cases x <;> cases y <;> simp [D.same]
    · exact D.sameL_iff _ _
    · exact D.sameL_iff _ _
    · exact D.sameK_iff _ _
theorem D.sameL_iff : ∀ x y : List D, D.sameL x y = true ↔ x = y
  | [], [] => by simp [D.sameL]
  | [], _ :: _ => by simp [D.sameL]
  | _ :: _, [] => by simp [D.sameL]
  | x :: xs, y :: ys => by simp [D.sameL, D.same_iff x y, D.sameL_iff xs ys]
theorem D.sameK_iff : ∀ x y : List (Key × D), D.sameK x y = true ↔ x = y
  | [], [] => by simp [D.sameK]
  | [], _ :: _ => by simp [D.sameK]
  | _ :: _, [] => by simp [D.sameK]
  | (k, x) :: xs, (l, y) :: ys => by simp [D.sameK, D.same_iff x y, D.sameK_iff xs ys, and_assoc]
end
instance : DecidableEq D := fun x y => decidable_of_iff _ (D.same_iff x y)
mutual
def D.eqv : D → D → Bool
  | .non, .non => true
  | .bl a, .bl b => a == b
  | .bl a, .int j => (if a then 1 else 0) == j
  | .int i, .bl b => i == (if b then 1 else 0)
  | .int a, .int b => a == b
  | .str a, .str b => a == b
  | .tup xs, .tup ys => D.eqvL xs ys
  | .lst xs, .lst ys => D.eqvL xs ys
  | _, _ => false
def D.eqvL : List D → List D → Bool
  | [], [] => true
  | x :: xs, y :: ys => D.eqv x y && D.eqvL xs ys
  | _, _ => false
end
/-- ints, texts, None, bools, tuples and lists of such, at most n deep -/
def okD : Nat → D → Bool
  | _, .non => true
  | _, .bl _ => true
  | _, .int _ => true
  | _, .str x => PyData.strOk x
  | n + 1, .tup ds => ds.all (okD n)
  | n + 1, .lst ds => ds.all (okD n)
  | _, _ => false
mutual
def toPy : D → PyData
  | .bl b => .bool b
  | .int i => .int i
  | .str x => .str x
  | .tup ds => .tuple (toPyL ds)
  | .lst ds => .list (toPyL ds)
  | _ => .none
def toPyL : List D → List PyData
  | [] => []
  | d :: ds => toPy d :: toPyL ds
end
theorem depthAll_le {n : Nat} : ∀ {ds : List D}, (∀ d ∈ ds, (toPy d).depth ≤ n) → PyData.depthAll (toPyL ds) ≤ n
  | [], _ => by simp [toPyL, PyData.depthAll]
  | d :: ds, h => by
    have h1 := h d (by simp)
    have h2 := depthAll_le (ds := ds) fun e he => h e (by simp [he])
    simp only [toPyL, PyData.depthAll]
    omega
theorem layAll_of : ∀ {ds : List D}, (∀ d ∈ ds, (toPy d).canLay0 = true) → PyData.canLayAll0 (toPyL ds) = true
  | [], _ => by simp [toPyL, PyData.canLayAll0]
  | d :: ds, h => by
    simp only [toPyL, PyData.canLayAll0, Bool.and_eq_true]
    exact ⟨h d (by simp), layAll_of fun e he => h e (by simp [he])⟩
theorem okD_lay : ∀ (n : Nat) (d : D), okD n d = true → (toPy d).canLay0 = true ∧ (toPy d).depth ≤ n
  | n, .non, _ => by simp [toPy, PyData.canLay0, PyData.depth]
  | n, .bl _, _ => by simp [toPy, PyData.canLay0, PyData.depth]
  | n, .int _, _ => by simp [toPy, PyData.canLay0, PyData.depth]
  | n, .str x, h => by
    have h : PyData.strOk x = true := by cases n <;> exact h
    simp [toPy, PyData.canLay0, PyData.depth]
    exact h
  | 0, .tup _, h => by cases h
  | 0, .lst _, h => by cases h
  | n + 1, .tup ds, h => by
    have h' : ∀ d ∈ ds, okD n d = true := List.all_eq_true.mp h
    have h1 := layAll_of (ds := ds) fun d hd => (okD_lay n d (h' d hd)).1
    have h2 := depthAll_le (ds := ds) fun d hd => (okD_lay n d (h' d hd)).2
    simp only [toPy, PyData.canLay0, PyData.depth]
    exact ⟨h1, by omega⟩
  | n + 1, .lst ds, h => by
    have h' : ∀ d ∈ ds, okD n d = true := List.all_eq_true.mp h
    have h1 := layAll_of (ds := ds) fun d hd => (okD_lay n d (h' d hd)).1
    have h2 := depthAll_le (ds := ds) fun d hd => (okD_lay n d (h' d hd)).2
    simp only [toPy, PyData.canLay0, PyData.depth]
    exact ⟨h1, by omega⟩
  | 0, .dct _, h => by cases h
  | n + 1, .dct _, h => by cases h
  | 0, .ref _, h => by cases h
  | n + 1, .ref _, h => by cases h
  | 0, .ty _, h => by cases h
  | n + 1, .ty _, h => by cases h
theorem okD_shaped {n : Nat} {d : D} (h : okD n d = true) (hn : n ≤ 64) : SeqAt.shaped (toPy d) = true := by
  obtain ⟨h1, h2⟩ := okD_lay n d h
  simp only [SeqAt.shaped, Bool.and_eq_true, decide_eq_true_eq]
  exact ⟨h1, by omega⟩
theorem eqvL_py {n : Nat} (ih : ∀ x y : D, okD n x = true → okD n y = true → PyData.eqv (toPy x) (toPy y) = D.eqv x y) : ∀ (x y : List D), (∀ d ∈ x, okD n d = true) → (∀ d ∈ y, okD n d = true) → PyData.eqvAll (toPyL x) (toPyL y) = D.eqvL x y
  | [], [], _, _ => by simp [toPyL, PyData.eqvAll, D.eqvL]
  | [], _ :: _, _, _ => by simp [toPyL, PyData.eqvAll, D.eqvL]
  | _ :: _, [], _, _ => by simp [toPyL, PyData.eqvAll, D.eqvL]
  | x :: xs, y :: ys, hx, hy => by
    simp only [toPyL, PyData.eqvAll, D.eqvL]
    rw [ih x y (hx x (by simp)) (hy y (by simp)), eqvL_py ih xs ys (fun d hd => hx d (by simp [hd])) (fun d hd => hy d (by simp [hd]))]
theorem eqv_py : ∀ (n : Nat) (x y : D), okD n x = true → okD n y = true → PyData.eqv (toPy x) (toPy y) = D.eqv x y
  | 0, x, y, hx, hy => by
    cases x <;> cases y <;> first
      | (simp [toPy, PyData.eqv, D.eqv]; done)
      | (exfalso; revert hx hy; simp [okD]; done)
  | n + 1, x, y, hx, hy => by
    cases x <;> cases y <;> first
      | (simp [toPy, PyData.eqv, D.eqv]; done)
      | (exfalso; revert hx hy; simp [okD]; done)
      | (simp only [toPy, PyData.eqv, D.eqv]
         exact eqvL_py (eqv_py n) _ _ (fun d hd => List.all_eq_true.mp hx d hd) (fun d hd => List.all_eq_true.mp hy d hd))
end DL
namespace DL
open PySem PySem.Spec L2
open PyProof.Rows hiding St
theorem dpAll_of {K : PySem.W.Frag} {G H : Hp} {n : Nat} (ih : ∀ (d : D) (v : V), okD n d = true → Rp K G d v → Dp K H v (toPy d)) : ∀ {ds : List D} {vs : List V}, (∀ d ∈ ds, okD n d = true) → RpL K G ds vs → DpAll K H vs (toPyL ds)
  | _, _, _, .nil => .nil
  | _, _, h, .cons r t => .cons (ih _ _ (h _ (by simp)) r) (dpAll_of ih (fun d hd => h d (by simp [hd])) t)
theorem Rp.dp {K : PySem.W.Frag} {G H : Hp} (s : Same G H) : ∀ (n : Nat) (d : D) (v : V), okD n d = true → Rp K G d v → Dp K H v (toPy d)
  | n, _, _, _, .non => .non
  | n, _, _, _, .bl b => .bl b
  | n, _, _, _, .int i => .int i
  | n, _, _, _, .str x => .str x
  | 0, _, _, h, .tup _ _ => by cases h
  | 0, _, _, h, .lst _ _ => by cases h
  | n + 1, _, _, h, .tup hs r => by
    simp only [toPy]
    exact .tup (sqT_mono s hs) (dpAll_of (Rp.dp s n) (List.all_eq_true.mp h) r)
  | n + 1, _, _, h, .lst hs r => by
    simp only [toPy]
    exact .lst (.inl (rd_mono s hs)) (dpAll_of (Rp.dp s n) (List.all_eq_true.mp h) r)
  | 0, _, _, h, .dct _ _ => by cases h
  | n + 1, _, _, h, .dct _ _ => by cases h
  | 0, _, _, h, .ref _ => by cases h
  | n + 1, _, _, h, .ref _ => by cases h
  | 0, _, _, h, .ty _ => by cases h
  | n + 1, _, _, h, .ty _ => by cases h
def cellLst : Cell → Option (List D)
  | .lst ds => some ds
  | .lck _ (.lst ds) => some ds
  | _ => none
def cellDct : Cell → Option (List (Key × D))
  | .dct kvs => some kvs
  | .lck _ (.dct kvs) => some kvs
  | _ => none
def lstOf (C : Cells) : D → Option (List D)
  | .lst ds => some ds
  | .ref p => (C p).bind cellLst
  | _ => none
def tupOf : D → Option (List D)
  | .tup ds => some ds
  | _ => none
def dctOf (C : Cells) : D → Option (List (Key × D))
  | .dct kvs => some kvs
  | .ref p => (C p).bind cellDct
  | _ => none
def strOf : D → Option Str
  | .str x => some x
  | _ => none
def intOf : D → Option Int
  | .int x => some x
  | _ => none
def keyOf : D → Option Key
  | .int i => some (.inl i)
  | .str x => some (.inr x)
  | _ => none
def getK (kvs : List (Key × D)) (k : Key) : Option D := (kvs.find? fun kv => decide (kv.1 = k)).map (·.2)
def putD (kvs : List (Key × D)) (k : Key) (v : D) : List (Key × D) := if (kvs.any fun kv => decide (kv.1 = k)) = true then kvs.map fun kv => if kv.1 = k then (kv.1, v) else kv else kvs ++ [(k, v)]
def delK (kvs : List (Key × D)) (k : Key) : List (Key × D) := kvs.filter fun kv => decide (kv.1 ≠ k)
def flatD : D → Bool
  | .non => true
  | .bl _ => true
  | .int _ => true
  | .str _ => true
  | _ => false
def cutL {α : Type} (xs : List α) (lo hi : Option Int) : List α := (xs.drop (HT.sIx xs.length 0 lo)).take (HT.sIx xs.length xs.length hi - HT.sIx xs.length 0 lo)
/-- x in y, of texts -/
def strIn (i j : Str) : Bool := !(Builtin.Str.occurrences j i 0 j.length 1).isEmpty
section
variable {K : PySem.W.Frag} {G H : Hp} {F C : Cells} {d : D} {v : V}
theorem Rp.key {k : Key} (r : Rp K G d v) (e : keyOf d = some k) : v = kV k := by
  cases r <;> cases e <;> rfl
theorem Rp.intV {i : Int} (r : Rp K G d v) (e : intOf d = some i) : v = .int i := by
  cases r <;> cases e <;> rfl
theorem Rp.strV {i : Str} (r : Rp K G d v) (e : strOf d = some i) : v = .str i := by
  cases r <;> cases e <;> rfl
theorem lst_at {ds : List D} (A : Ab K F G H C) (r : Rp K G d v) (e : lstOf C d = some ds) : ∃ a xs, v = .ref a ∧ Rd H a (.lst xs) ∧ RpL K G ds xs := by
  cases r <;> first | cases e | skip
  · rename_i a
    simp only [lstOf] at e
    obtain ⟨c, hc, e⟩ := Option.bind_eq_some_iff.mp e
    obtain ⟨_, u, hu, ok⟩ := A.cell _ _ hc
    cases ok <;> first | cases e | skip
    · rename_i xs r
      exact ⟨a, xs, rfl, .inl hu, r⟩
    · rename_i ok
      cases ok <;> first | cases e | skip
      rename_i xs r
      exact ⟨a, xs, rfl, .inr ⟨_, hu⟩, r⟩
  · rename_i a xs h r
    exact ⟨a, xs, rfl, rd_mono A.sub h, r⟩
theorem tup_at {ds : List D} (A : Ab K F G H C) (r : Rp K G d v) (e : tupOf d = some ds) : ∃ a xs, v = .ref a ∧ SqT K H a xs ∧ RpL K G ds xs := by
  cases r <;> first | cases e | skip
  rename_i a xs h r
  exact ⟨a, xs, rfl, sqT_mono A.sub h, r⟩
theorem dct_at {ds : List (Key × D)} (A : Ab K F G H C) (r : Rp K G d v) (e : dctOf C d = some ds) : ∃ a xs, v = .ref a ∧ Rd H a (.dK xs) ∧ RpK K G ds xs := by
  cases r <;> first | cases e | skip
  · rename_i a
    simp only [dctOf] at e
    obtain ⟨c, hc, e⟩ := Option.bind_eq_some_iff.mp e
    obtain ⟨_, u, hu, ok⟩ := A.cell _ _ hc
    cases ok <;> first | cases e | skip
    · rename_i xs r
      exact ⟨a, xs, rfl, .inl hu, r⟩
    · rename_i ok
      cases ok <;> first | cases e | skip
      rename_i xs r
      exact ⟨a, xs, rfl, .inr ⟨_, hu⟩, r⟩
  · rename_i a o ks h r
    exact ⟨a, ks, rfl, .inr ⟨o, A.sub _ _ h⟩, r⟩
theorem RpK.val {k : Key} : ∀ {kvs : List (Key × D)} {ks : List (Key × V)}, RpK K G kvs ks → (∀ d, getK kvs k = some d → ∃ v, valV ks k = some v ∧ Rp K G d v) ∧ (getK kvs k = none → valV ks k = none)
  | _, _, .nil => ⟨fun d e => by simp [getK] at e, fun _ => rfl⟩
  | _, _, .cons (k := l) (d := d0) (v := v0) r t => by
    obtain ⟨h1, h2⟩ := RpK.val (k := k) t
    by_cases hk : l = k
    · simp only [getK, valV, List.find?_cons, hk, decide_true, Option.map_some]
      exact ⟨fun d e => by cases e; exact ⟨_, rfl, r⟩, fun e => by cases e⟩
    · simp only [getK, valV, List.find?_cons, hk, decide_false] at h1 h2 ⊢
      exact ⟨h1, h2⟩
theorem RpK.any {k : Key} : ∀ {kvs : List (Key × D)} {ks : List (Key × V)}, RpK K G kvs ks → (kvs.any fun kv => decide (kv.1 = k)) = ks.any fun kv => decide (kv.1 = k)
  | _, _, .nil => rfl
  | _, _, .cons r t => by simp only [List.any_cons]; rw [RpK.any t]
theorem RpK.snoc {k : Key} (r : Rp K G d v) : ∀ {kvs : List (Key × D)} {ks : List (Key × V)}, RpK K G kvs ks → RpK K G (kvs ++ [(k, d)]) (ks ++ [(k, v)])
  | _, _, .nil => .cons r .nil
  | _, _, .cons r0 t => .cons r0 (RpK.snoc r t)
theorem RpK.repl {k : Key} (r : Rp K G d v) : ∀ {kvs : List (Key × D)} {ks : List (Key × V)}, RpK K G kvs ks → RpK K G (kvs.map fun kv => if kv.1 = k then (kv.1, d) else kv) (ks.map fun kv => if kv.1 = k then (kv.1, v) else kv)
  | _, _, .nil => .nil
  | _, _, .cons (k := l) r0 t => by
    simp only [List.map_cons]
    by_cases hk : l = k
    · rw [if_pos hk, if_pos hk]; exact .cons r (RpK.repl r t)
    · rw [if_neg hk, if_neg hk]; exact .cons r0 (RpK.repl r t)
theorem RpK.put {k : Key} (r : Rp K G d v) {kvs : List (Key × D)} {ks : List (Key × V)} (h : RpK K G kvs ks) : RpK K G (putD kvs k d) (putK ks k v) := by
  unfold putD putK
  rw [h.any]
  split
  · exact h.repl r
  · exact h.snoc r
theorem RpK.del {k : Key} : ∀ {kvs : List (Key × D)} {ks : List (Key × V)}, RpK K G kvs ks → RpK K G (delK kvs k) (dropK ks k)
  | _, _, .nil => .nil
  | _, _, .cons (k := l) r0 t => by
    have ih := RpK.del (k := k) t
    unfold delK dropK at ih ⊢
    simp only [List.filter_cons]
    by_cases hk : l = k
    · simp only [hk, ne_eq, not_true_eq_false, decide_false, Bool.false_eq_true, if_false]; exact ih
    · simp only [hk, ne_eq, not_false_eq_true, decide_true, if_true]; exact .cons r0 ih
theorem RpL.cut {ds : List D} {vs : List V} (r : RpL K G ds vs) (lo hi : Option Int) : RpL K G (cutL ds lo hi) (cutV vs lo hi) := by
  unfold cutL cutV
  rw [r.length]
  exact (r.drop _).take _
theorem RpL.at {ds : List D} {vs : List V} {i : Int} {d : D} (r : RpL K G ds vs) (e : atI ds i = some d) : ∃ v, atI vs i = some v ∧ Rp K G d v := by
  unfold atI at e ⊢
  rw [r.length] at e
  obtain ⟨j, h1, h2⟩ := Option.bind_eq_some_iff.mp e
  obtain ⟨v, h3, h4⟩ := r.getD h2
  exact ⟨v, by rw [h1]; exact h3, h4⟩
theorem Rp.flat (r : Rp K G d v) (h : flatD d = true) : flatV v = true := by
  cases r <;> first | rfl | cases h
theorem RpL.flat : ∀ {ds : List D} {vs : List V}, RpL K G ds vs → ds.all flatD = true → vs.all flatV = true
  | _, _, .nil, _ => rfl
  | _, _, .cons r t, h => by
    simp only [List.all_cons, Bool.and_eq_true] at h ⊢
    exact ⟨r.flat h.1, RpL.flat t h.2⟩
theorem Rp.eqv {e : D} {u : V} (r : Rp K G d v) (q : Rp K G e u) (h : flatD d = true) (h' : flatD e = true) : eqV v u = D.eqv d e := by
  cases r <;> cases q <;> first | (simp [eqV, D.eqv]; done) | (exfalso; revert h h'; simp [flatD]; done)
theorem RpL.inV {e : D} {u : V} (q : Rp K G e u) (h' : flatD e = true) : ∀ {ds : List D} {vs : List V}, RpL K G ds vs → ds.all flatD = true → inV u vs = ds.any fun z => D.eqv z e
  | _, _, .nil, _ => rfl
  | _, _, .cons r t, h => by
    simp only [List.all_cons, Bool.and_eq_true] at h
    have ih := RpL.inV q h' t h.2
    unfold L2.inV at ih ⊢
    simp only [List.any_cons]
    rw [ih, r.eqv q h.1 h']
theorem any_py {n : Nat} {d : D} (hd : okD n d = true) : ∀ {ds : List D}, ds.all (okD n) = true → ((toPyL ds).any fun z => PyData.eqv z (toPy d)) = ds.any fun z => D.eqv z d
  | [], _ => rfl
  | e :: ds, h => by
    simp only [List.all_cons, Bool.and_eq_true] at h
    simp only [toPyL, List.any_cons]
    rw [any_py hd h.2, eqv_py n e d h.1 hd]
end
end DL
namespace DL
open PySem PySem.Spec L2
open PyProof.Rows hiding St
section
variable {X : Cx}
theorem lstRd {pins : List (Addr × Obj)} {σ : St} {H : Hp} {s : Shared} {l : Addr} {xs : List V} (I : Inv X pins σ H s) (h : Rd H l (.lst xs)) :
    xs.length ≤ sizeLine ∧ ∃ (its : List Value) (n : Nat), Vals xs its ∧ xs.length = its.length ∧ s.heap.get? l = some { cls := .type "list", data := .seq its.toArray n } := by
  obtain ⟨z, its, n, r, e⟩ := h.ok I.hok
  exact ⟨z, its, n, r, r.length, e⟩
def rCatF : R2 := fun x y H Q => ∃ l b xs zs, x = .ref l ∧ y = .ref b ∧ Rd H l (.lst xs) ∧ Rd H b (.lst zs) ∧ xs.length + zs.length ≤ sizeLine ∧ ∀ p, H p = none → Q (.ref p) (upd H p (.lst (xs ++ zs)))
theorem op_catF : OpR X (binaryOp .Add) rCatF := by
  intro pins s σ H x y v u Q I rx ry h
  obtain ⟨l, b, xs, zs, rfl, rfl, hH, hB, hz, q⟩ := h
  cases rx
  cases ry
  obtain ⟨z, its, n, r, hl, e⟩ := lstRd I hH
  obtain ⟨z2, its2, n2, r2, hl2, e2⟩ := lstRd I hB
  refine PySem.P.add_list e e2 ?_ (by rw [List.size_toArray, List.size_toArray]; omega)
  have ea : its.toArray ++ its2.toArray = (its ++ its2).toArray := by simp
  rw [ea]
  exact ⟨.ref _, _, I.lnew (t' := s.toks) (r.append r2) (by rw [List.length_append]; omega), rfl, q _ I.fresh⟩
/-- lists of different lengths -/
def rEqLen (b : Bool) : R2 := fun x y H Q => ∃ l m xs zs, x = .ref l ∧ y = .ref m ∧ Rd H l (.lst xs) ∧ Rd H m (.lst zs) ∧ xs.length ≠ zs.length ∧ Q (.bl b) H
theorem op_eqLen (hu : X.A.units + 64 < cLine) : OpR X (compareOp .Eq) (rEqLen false) := by
  intro pins s σ H x y v u Q I rx ry h
  obtain ⟨l, b, xs, zs, rfl, rfl, hH, hB, hz, q⟩ := h
  cases rx
  cases ry
  obtain ⟨_, its, n, r, hl, e⟩ := lstRd I hH
  obtain ⟨_, its2, n2, r2, hl2, e2⟩ := lstRd I hB
  exact SeqAt.RcAt.lists_lengths (A := X.A) (s := s) (items := its.toArray) (items2 := its2.toArray) ⟨_, e, rfl, n, rfl⟩ ⟨_, e2, rfl, n2, rfl⟩ (by simp; omega) (by omega) X.prog X.w X.xe _ ⟨.bl false, H, I, rfl, q⟩
theorem op_neLen (hu : X.A.units + 64 < cLine) : OpR X (compareOp .NotEq) (rEqLen true) := by
  intro pins s σ H x y v u Q I rx ry h
  obtain ⟨l, b, xs, zs, rfl, rfl, hH, hB, hz, q⟩ := h
  cases rx
  cases ry
  obtain ⟨_, its, n, r, hl, e⟩ := lstRd I hH
  obtain ⟨_, its2, n2, r2, hl2, e2⟩ := lstRd I hB
  exact SeqAt.RcNeAt.lists_lengths (A := X.A) (s := s) (items := its.toArray) (items2 := its2.toArray) ⟨_, e, rfl, n, rfl⟩ ⟨_, e2, rfl, n2, rfl⟩ (by simp; omega) (by omega) X.prog X.w X.xe _ ⟨.bl true, H, I, rfl, q⟩
/-- list * int, the list only read -/
def rRepF : R2 := fun x y H Q => ∃ l k xs, x = .ref l ∧ y = .int k ∧ Rd H l (.lst xs) ∧ 0 ≤ k ∧ k ≤ 1000 ∧ xs.length ≤ 1000 ∧ ∀ p, H p = none → Q (.ref p) (upd H p (.lst (List.replicate k.toNat xs).flatten))
theorem op_repF : OpR X (binaryOp .Mult) rRepF := by
  intro pins s σ H x y v u Q I rx ry h
  obtain ⟨l, k, xs, rfl, rfl, hH, h1, h2, hz, q⟩ := h
  cases rx
  obtain ⟨t, rfl⟩ := ry
  obtain ⟨z, its, n, r, hl, e⟩ := lstRd I hH
  have hzz : xs.length * k.toNat ≤ sizeLine := by
    have : xs.length * k.toNat ≤ 1000 * 1000 := Nat.mul_le_mul hz (by omega)
    rw [sizeLine_eq]; omega
  have hlen : its.toArray.size * k.toNat ≤ sizeLine := by rw [List.size_toArray, ← hl]; exact hzz
  have hcap : ¬ its.toArray.size * k.toNat > (2 ^ 63 - 1) / 8 := by
    have : (sizeLine : Nat) ≤ (2 ^ 63 - 1) / 8 := by decide
    omega
  have hfit : ¬ (!Builtin.List.listFitsIndex k) = true := by
    rw [fitsIndex_both (by omega) (by omega)]
    exact Bool.false_ne_true
  have hlong : ¬ Builtin.List.listTooLong (its.toArray.size * k.toNat) = true := by
    rw [notLongL hlen]
    exact Bool.false_ne_true
  have hnew : List.foldl (fun x1 x2 => x1 ++ x2) #[] (List.replicate (if its.toArray.isEmpty = true then 0 else k.toNat) its.toArray) = (List.replicate k.toNat its).flatten.toArray := by
    have f0 : ∀ m : Nat, List.foldl (fun x1 x2 => x1 ++ x2) #[] (List.replicate m its.toArray) = (List.replicate m its).flatten.toArray := fun m => by
      have := foldl_rep its m []
      rw [List.nil_append] at this
      exact this
    rw [f0]
    cases its with
    | nil => simp
    | cons a r' => rw [if_neg (by simp)]
  refine wpAny_binaryOp_repeat_ref (T := "list") (U := "int") (by decide) ⟨_, e, rfl⟩ (fun s' => typeIs_int s' k t) noFill_list_mul F.fills_int_mul F.slot_int_rmul repeat_list F.slot_int_index.lookup
    (call_meets F.slot_int_rmul (typeIs_int s k t) F.entry_int_rmul (F.args_int_rmul_2 _ _) (int___rmul___int_list k t l its.toArray n)
      ⟨e, rfl, ⟨_, e, rfl⟩, call_meets F.slot_list_mul ⟨_, e, rfl⟩ F.entry_list_mul (F.args_list_mul_2 _ _) (AutoListH.list___mul___list_int_3 l its.toArray n k t hfit hcap hlong) ⟨e, ?_⟩⟩)
  rw [hnew]
  exact ⟨.ref _, _, I.lnew (t' := s.toks) (r.rep k.toNat) (by rw [PyProof.Rows.lm_len_rep_flat, Nat.mul_comm]; exact hzz), rfl, q _ I.fresh⟩
/-- y in a dict -/
def rInK (neg : Bool) : R2 := fun y x H Q => ∃ a kvs k, x = .ref a ∧ Rd H a (.dK kvs) ∧ y = kV k ∧ Q (.bl (if neg then !(valV kvs k).isSome else (valV kvs k).isSome)) H
theorem op_inK (hu : X.A.units + 64 < cLine) : OpR X (compareOp .In) (rInK false) := by
  intro pins s σ H y x u v Q I ry rx h
  obtain ⟨a, kvs, k, rfl, hd, rfl, q⟩ := h
  obtain rfl : v = Value.ref a := rx
  exact d_in (by omega) I (.inl ⟨kvs, k, hd, rfl, rfl⟩) ry fun s3 I3 => ⟨.bl _, H, I3, rfl, q⟩
theorem op_notinK (hu : X.A.units + 64 < cLine) : OpR X (compareOp .NotIn) (rInK true) := by
  intro pins s σ H y x u v Q I ry rx h
  obtain ⟨a, kvs, k, rfl, hd, rfl, q⟩ := h
  obtain rfl : v = Value.ref a := rx
  exact d_notIn (by omega) I (.inl ⟨kvs, k, hd, rfl, rfl⟩) ry fun s3 I3 => ⟨.bl _, H, I3, rfl, q⟩
/-- d[k], there -/
def rGetK : R2 := fun x y H Q => ∃ a kvs k v, x = .ref a ∧ Rd H a (.dK kvs) ∧ y = kV k ∧ valV kvs k = some v ∧ Q v H
end
def oAdd : DO2 := fun x y C R => match x, y with
  | .int i, .int j => R (.int (i + j)) C
  | .str i, .str j => i.length + j.length ≤ sizeLine ∧ R (.str (i ++ j)) C
  | .tup xs, .tup ys => xs.length + ys.length ≤ sizeLine ∧ R (.tup (xs ++ ys)) C
  | x, y => ∃ xs ys, lstOf C x = some xs ∧ lstOf C y = some ys ∧ xs.length + ys.length ≤ sizeLine ∧ R (.lst (xs ++ ys)) C
def oSub : DO2 := fun x y C R => match x, y with
  | .int i, .int j => R (.int (i - j)) C
  | _, _ => False
def oMul : DO2 := fun x y C R => match x, y with
  | .int i, .int j => CMul i j ∧ R (.int (i * j)) C
  | x, .int k => ∃ xs, lstOf C x = some xs ∧ 0 ≤ k ∧ k ≤ 1000 ∧ xs.length ≤ 1000 ∧ R (.lst (List.replicate k.toNat xs).flatten) C
  | _, _ => False
def oDiv : DO2 := fun x y C R => match x, y with
  | .int i, .int j => CDiv i j ∧ R (.int (i / j)) C
  | _, _ => False
def oMod : DO2 := fun x y C R => match x, y with
  | .int i, .int j => 0 < j ∧ R (.int (i % j)) C
  | _, _ => False
def oPow : DO2 := fun x y C R => match x, y with
  | .int i, .int j => CPow i j ∧ R (.int (i ^ j.toNat)) C
  | _, _ => False
def oNeg : DO1 := fun x C R => match x with
  | .int i => R (.int (-i)) C
  | _ => False
def oLt : DO2 := fun x y C R => match x, y with
  | .int i, .int j => R (.bl (decide (i < j))) C
  | .str i, .str j => R (.bl (decide (i.cps.toList < j.cps.toList))) C
  | _, _ => False
def oLe : DO2 := fun x y C R => match x, y with
  | .int i, .int j => R (.bl (decide (i ≤ j))) C
  | .str i, .str j => R (.bl (!decide (j.cps.toList < i.cps.toList))) C
  | _, _ => False
def oGt : DO2 := fun x y C R => match x, y with
  | .int i, .int j => R (.bl (decide (j < i))) C
  | _, _ => False
def oGe : DO2 := fun x y C R => match x, y with
  | .int i, .int j => R (.bl (decide (j ≤ i))) C
  | _, _ => False
/-- what x == y gives -/
def eqO (C : Cells) (x y : D) : Option Bool :=
  if okD 60 x = true ∧ okD 60 y = true then some (D.eqv x y) else
  match lstOf C x, lstOf C y with
  | some xs, some ys => if xs.length ≠ ys.length then some false else if xs.all (okD 59) = true ∧ ys.all (okD 59) = true then some (D.eqvL xs ys) else none
  | _, _ => none
def oEq : DO2 := fun x y C R => ∃ b, eqO C x y = some b ∧ R (.bl b) C
def oNe : DO2 := fun x y C R => ∃ b, eqO C x y = some b ∧ R (.bl (!b)) C
/-- what x in y gives -/
def inO (C : Cells) (x y : D) : Option Bool :=
  match strOf y with
  | some j => (strOf x).map fun i => strIn i j
  | none => match dctOf C y with
    | some kvs => (keyOf x).map fun k => (getK kvs k).isSome
    | none => match tupOf y with
      | some ds => if flatD x = true ∧ ds.all flatD = true then some (ds.any fun z => D.eqv z x) else none
      | none => match lstOf C y with
        | some ds => if okD 60 x = true ∧ ds.all (okD 60) = true then some (ds.any fun z => D.eqv z x) else none
        | none => none
def oIn : DO2 := fun x y C R => ∃ b, inO C x y = some b ∧ R (.bl b) C
def oNotIn : DO2 := fun x y C R => ∃ b, inO C x y = some b ∧ R (.bl (!b)) C
def isNon : D → Bool
  | .non => true
  | _ => false
def oIs : DO2 := fun x y C R => match x, y with
  | x, .non => R (.bl (isNon x)) C
  | .bl a, .bl b => R (.bl (decide (a = b))) C
  | _, _ => False
def oIsNot : DO2 := fun x y C R => match x, y with
  | x, .non => R (.bl (!isNon x)) C
  | .bl a, .bl b => R (.bl (!decide (a = b))) C
  | _, _ => False
section
variable {K : PySem.W.Frag}
theorem Rp.intI {G : Hp} {i : Int} {v : V} (r : Rp K G (.int i) v) : v = .int i := by cases r; rfl
theorem Rp.strI {G : Hp} {i : Str} {v : V} (r : Rp K G (.str i) v) : v = .str i := by cases r; rfl
theorem Rp.blI {G : Hp} {i : Bool} {v : V} (r : Rp K G (.bl i) v) : v = .bl i := by cases r; rfl
theorem lo_lst {G H : Hp} {F C : Cells} {x y : D} {v u : V} {R : D → Cells → Prop} {Q : VK} (A : Ab K F G H C) (rx : Rp K G x v) (ry : Rp K G y u) (k : ToE K F G R Q)
    (h : ∃ xs ys, lstOf C x = some xs ∧ lstOf C y = some ys ∧ xs.length + ys.length ≤ sizeLine ∧ R (.lst (xs ++ ys)) C) : rCatF v u H Q := by
  obtain ⟨xs, ys, e1, e2, hl, q⟩ := h
  obtain ⟨a, as, rfl, ha, ra⟩ := lst_at A rx e1
  obtain ⟨b, bs, rfl, hb, rb⟩ := lst_at A ry e2
  refine ⟨a, b, as, bs, rfl, rfl, ha, hb, by rw [← ra.length, ← rb.length]; exact hl, fun p hp => k.new A hp q ?_⟩
  have s := (A.grow (u := .lst (as ++ bs)) hp).2
  exact .lst (.inl upd_same) ((ra.append rb).mono s)
theorem lo_add : LO2 K (fun x y H Q => rI0 (fun i j => .int (i + j)) x y H Q ∨ (∃ i j, x = .str i ∧ y = .str j ∧ i.length + j.length ≤ sizeLine ∧ Q (.str (i ++ j)) H) ∨ rCatA K x y H Q ∨ rCatF x y H Q) oAdd := by
  intro F G H C x y v u R Q A rx ry h k
  have L := fun hh => lo_lst A rx ry k hh
  cases x <;> cases y <;> first | exact .inr (.inr (.inr (L h))) | skip
  · cases rx.intI; cases ry.intI
    exact .inl ⟨_, _, rfl, rfl, k.now A h (.int _)⟩
  · cases rx.strI; cases ry.strI
    exact .inr (.inl ⟨_, _, rfl, rfl, h.1, k.now A h.2 (.str _)⟩)
  · cases rx with
    | tup hx qx => cases ry with
      | tup hy qy =>
        rename_i a as b bs
        obtain ⟨hl, q⟩ := h
        refine .inr (.inr (.inl ⟨a, b, as, bs, rfl, rfl, sqT_mono A.sub hx, sqT_mono A.sub hy, by rw [← qx.length, ← qy.length]; exact hl, fun e => ?_, fun _ e => ?_, fun _ _ p hp => ?_⟩))
        · subst e
          cases qx
          exact k.now A q (.tup hy qy)
        · subst e
          cases qy
          rw [List.append_nil] at q
          exact k.now A q (.tup hx qx)
        · have s := (A.grow (u := .tup (as ++ bs)) hp).2
          exact k.new A hp q (.tup (.inl (.inl upd_same)) ((qx.append qy).mono s))
theorem lo_sub : LO2 K (rI0 fun i j => .int (i - j)) oSub := by
  intro F G H C x y v u R Q A rx ry h k
  cases x <;> cases y <;> first | exact h.elim | skip
  cases rx.intI; cases ry.intI
  exact ⟨_, _, rfl, rfl, k.now A h (.int _)⟩
theorem lo_mul : LO2 K (fun x y H Q => rI CMul (fun i j => .int (i * j)) x y H Q ∨ rRepF x y H Q) oMul := by
  intro F G H C x y v u R Q A rx ry h k
  cases y <;> first | (exfalso; revert h; cases x <;> exact fun z => z) | skip
  cases x
  case int =>
    cases rx.intI; cases ry.intI
    exact .inl ⟨_, _, rfl, rfl, h.1, k.now A h.2 (.int _)⟩
  all_goals
    cases ry.intI
    obtain ⟨xs, e1, h0, h1, hl, q⟩ := h
    obtain ⟨a, as, rfl, ha, ra⟩ := lst_at A rx e1
    refine .inr ⟨a, _, as, rfl, rfl, ha, h0, h1, by rw [← ra.length]; exact hl, fun p hp => k.new A hp q ?_⟩
    refine .lst (.inl upd_same) (RpL.mono (A.grow hp).2 ?_)
    generalize Int.toNat _ = n
    induction n with
    | zero => exact .nil
    | succ n ih => rw [List.replicate_succ, List.replicate_succ, List.flatten_cons, List.flatten_cons]; exact ra.append ih
theorem lo_int {Cnd : Int → Int → Prop} {g : Int → Int → Int} {o : DO2} (h1 : ∀ i j C R, o (.int i) (.int j) C R → Cnd i j ∧ R (.int (g i j)) C) (h2 : ∀ x y C R, o x y C R → ∃ i j, x = .int i ∧ y = .int j) : LO2 K (rI Cnd fun i j => .int (g i j)) o := by
  intro F G H C x y v u R Q A rx ry h k
  obtain ⟨i, j, rfl, rfl⟩ := h2 _ _ _ _ h
  cases rx.intI; cases ry.intI
  obtain ⟨c, q⟩ := h1 _ _ _ _ h
  exact ⟨_, _, rfl, rfl, c, k.now A q (.int _)⟩
theorem lo_div : LO2 K (rI CDiv fun i j => .int (i / j)) oDiv := lo_int (g := fun i j => i / j) (fun _ _ _ _ h => h) fun x y _ _ h => by cases x <;> cases y <;> first | exact h.elim | exact ⟨_, _, rfl, rfl⟩
theorem lo_mod : LO2 K (rI (fun _ j => 0 < j) fun i j => .int (i % j)) oMod := lo_int (g := fun i j => i % j) (fun _ _ _ _ h => h) fun x y _ _ h => by cases x <;> cases y <;> first | exact h.elim | exact ⟨_, _, rfl, rfl⟩
theorem lo_pow : LO2 K (rI CPow fun i j => .int (i ^ j.toNat)) oPow := lo_int (g := fun i j => i ^ j.toNat) (fun _ _ _ _ h => h) fun x y _ _ h => by cases x <;> cases y <;> first | exact h.elim | exact ⟨_, _, rfl, rfl⟩
theorem lo_neg : LO1 K (rU fun i => .int (-i)) oNeg := by
  intro F G H C x v R Q A rx h k
  cases x <;> first | exact h.elim | skip
  cases rx.intI
  exact ⟨_, rfl, k.now A h (.int _)⟩
theorem lo_lt : LO2 K (fun x y H Q => rI0 (fun i j => .bl (decide (i < j))) x y H Q ∨ ∃ i j, x = .str i ∧ y = .str j ∧ Q (.bl (decide (i.cps.toList < j.cps.toList))) H) oLt := by
  intro F G H C x y v u R Q A rx ry h k
  cases x <;> cases y <;> first | exact h.elim | skip
  · cases rx.intI; cases ry.intI
    exact .inl ⟨_, _, rfl, rfl, k.now A h (.bl _)⟩
  · cases rx.strI; cases ry.strI
    exact .inr ⟨_, _, rfl, rfl, k.now A h (.bl _)⟩
theorem lo_le : LO2 K (fun x y H Q => rI0 (fun i j => .bl (decide (i ≤ j))) x y H Q ∨ ∃ i j, x = .str i ∧ y = .str j ∧ Q (.bl (!decide (j.cps.toList < i.cps.toList))) H) oLe := by
  intro F G H C x y v u R Q A rx ry h k
  cases x <;> cases y <;> first | exact h.elim | skip
  · cases rx.intI; cases ry.intI
    exact .inl ⟨_, _, rfl, rfl, k.now A h (.bl _)⟩
  · cases rx.strI; cases ry.strI
    exact .inr ⟨_, _, rfl, rfl, k.now A h (.bl _)⟩
theorem lo_gt : LO2 K (rI0 fun i j => .bl (decide (j < i))) oGt := by
  intro F G H C x y v u R Q A rx ry h k
  cases x <;> cases y <;> first | exact h.elim | skip
  cases rx.intI; cases ry.intI
  exact ⟨_, _, rfl, rfl, k.now A h (.bl _)⟩
theorem lo_ge : LO2 K (rI0 fun i j => .bl (decide (j ≤ i))) oGe := by
  intro F G H C x y v u R Q A rx ry h k
  cases x <;> cases y <;> first | exact h.elim | skip
  cases rx.intI; cases ry.intI
  exact ⟨_, _, rfl, rfl, k.now A h (.bl _)⟩
theorem RpL.dpl {G H : Hp} {ds : List D} {vs : List V} {n : Nat} (s : Same G H) (r : RpL K G ds vs) (h : ds.all (okD n) = true) : DpAll K H vs (toPyL ds) := dpAll_of (fun d v hd rd => Rp.dp s n d v hd rd) (List.all_eq_true.mp h) r
theorem lo_eqg {neg : Bool} {o : DO2} {rD : R2} (hoD : ∀ x y H Q, (∃ d e, Dp K H x d ∧ Dp K H y e ∧ SeqAt.shaped d = true ∧ SeqAt.shaped e = true ∧ Q (.bl (if neg then !PyData.eqv d e else PyData.eqv d e)) H) → rD x y H Q)
    (ho : ∀ x y C R, o x y C R → ∃ b, eqO C x y = some b ∧ R (.bl (if neg then !b else b)) C) : LO2 K (fun x y H Q => rD x y H Q ∨ rEqLen neg x y H Q) o := by
  intro F G H C x y v u R Q A rx ry h k
  obtain ⟨b, e, q⟩ := ho _ _ _ _ h
  unfold eqO at e
  split at e
  · rename_i c
    cases e
    refine .inl (hoD _ _ _ _ ⟨toPy x, toPy y, Rp.dp A.sub 60 x v c.1 rx, Rp.dp A.sub 60 y u c.2 ry, okD_shaped c.1 (by omega), okD_shaped c.2 (by omega), ?_⟩)
    rw [eqv_py 60 x y c.1 c.2]
    exact k.now A q (.bl _)
  · split at e
    · rename_i xs ys e1 e2
      obtain ⟨a, as, rfl, ha, ra⟩ := lst_at A rx e1
      obtain ⟨b', bs, rfl, hb, rb⟩ := lst_at A ry e2
      split at e
      · rename_i hl
        cases e
        refine .inr ⟨a, b', as, bs, rfl, rfl, ha, hb, by rw [← ra.length, ← rb.length]; exact hl, ?_⟩
        have : (if neg then !false else false) = neg := by cases neg <;> rfl
        rw [this] at q
        exact k.now A q (.bl _)
      · split at e
        · rename_i c
          cases e
          refine .inl (hoD _ _ _ _ ⟨toPy (.lst xs), toPy (.lst ys), ?_, ?_, okD_shaped (n := 60) (d := .lst xs) c.1 (by omega), okD_shaped (n := 60) (d := .lst ys) c.2 (by omega), ?_⟩)
          · simp only [toPy]; exact .lst (.inl ha) (ra.dpl A.sub c.1)
          · simp only [toPy]; exact .lst (.inl hb) (rb.dpl A.sub c.2)
          · rw [eqv_py 60 (.lst xs) (.lst ys) c.1 c.2]
            simp only [D.eqv]
            exact k.now A q (.bl _)
        · cases e
    · cases e
theorem lo_eq : LO2 K (fun x y H Q => rEqD K x y H Q ∨ rEqLen false x y H Q) oEq := lo_eqg (neg := false) (fun _ _ _ _ ⟨d, e, h1, h2, h3, h4, q⟩ => ⟨d, e, h1, h2, h3, h4, q⟩) fun _ _ _ _ h => h
theorem lo_ne : LO2 K (fun x y H Q => rNeD K x y H Q ∨ rEqLen true x y H Q) oNe := lo_eqg (neg := true) (fun _ _ _ _ ⟨d, e, h1, h2, h3, h4, q⟩ => ⟨d, e, h1, h2, h3, h4, q⟩) fun _ _ _ _ h => h
end
end DL
namespace DL
open PySem PySem.Spec L2
open PyProof.Rows hiding St
section
variable {K : PySem.W.Frag}
theorem lo_ing {neg : Bool} {o : DO2} {rS rD : R2} (hoS : ∀ x y H Q, (∃ i j, x = .str i ∧ y = .str j ∧ Q (.bl (if neg then !strIn i j else strIn i j)) H) → rS x y H Q)
    (hoD : ∀ x y H Q, (∃ d ds, Dp K H x d ∧ Dp K H y (.list ds) ∧ SeqAt.shaped d = true ∧ SeqAt.shaped (.list ds) = true ∧ Q (.bl (if neg then !(ds.any fun z => PyData.eqv z d) else ds.any fun z => PyData.eqv z d)) H) → rD x y H Q)
    (ho : ∀ x y C R, o x y C R → ∃ b, inO C x y = some b ∧ R (.bl (if neg then !b else b)) C) : LO2 K (fun x y H Q => rS x y H Q ∨ rInK neg x y H Q ∨ rIn K neg x y H Q ∨ rD x y H Q) o := by
  intro F G H C x y v u R Q A rx ry h k
  obtain ⟨b, e, q⟩ := ho _ _ _ _ h
  unfold inO at e
  split at e
  · rename_i j ej
    cases ei : strOf x with
    | none => rw [ei] at e; cases e
    | some i =>
      rw [ei] at e; cases e
      refine .inl (hoS _ _ _ _ ⟨i, j, rx.strV ei, ry.strV ej, k.now A q (.bl _)⟩)
  · split at e
    · rename_i kvs ek
      cases ei : keyOf x with
      | none => rw [ei] at e; cases e
      | some i =>
        rw [ei] at e; cases e
        obtain ⟨a, ks, rfl, ha, ra⟩ := dct_at A ry ek
        refine .inr (.inl ⟨a, ks, i, rfl, ha, rx.key ei, ?_⟩)
        have hb : (valV ks i).isSome = (getK kvs i).isSome := by
          obtain ⟨h1, h2⟩ := ra.val (k := i)
          cases eg : getK kvs i with
          | none => rw [h2 eg]; rfl
          | some d => obtain ⟨v, e1, _⟩ := h1 d eg; rw [e1]; rfl
        rw [hb]
        exact k.now A q (.bl _)
    · split at e
      · rename_i ds et
        split at e
        · rename_i c
          cases e
          obtain ⟨a, as, rfl, ha, ra⟩ := tup_at A ry et
          refine .inr (.inr (.inl ⟨a, as, rfl, .inr ha, rx.flat c.1, ra.flat c.2, ?_⟩))
          rw [RpL.inV rx c.1 ra c.2]
          exact k.now A q (.bl _)
        · cases e
      · split at e
        · rename_i ds el
          split at e
          · rename_i c
            cases e
            obtain ⟨a, as, rfl, ha, ra⟩ := lst_at A ry el
            refine .inr (.inr (.inr (hoD _ _ _ _ ⟨toPy x, toPyL ds, Rp.dp A.sub 60 x v c.1 rx, .lst (.inl ha) (ra.dpl A.sub c.2), okD_shaped c.1 (by omega), ?_, ?_⟩)))
            · have := okD_shaped (n := 61) (d := .lst ds) c.2 (by omega)
              simpa only [toPy] using this
            · rw [any_py c.1 c.2]
              exact k.now A q (.bl _)
          · cases e
        · cases e
theorem lo_in : LO2 K (fun x y H Q => (∃ i j, x = .str i ∧ y = .str j ∧ Q (.bl (!(Builtin.Str.occurrences j i 0 j.length 1).isEmpty)) H) ∨ rInK false x y H Q ∨ rIn K false x y H Q ∨ rInD K x y H Q) oIn :=
  lo_ing (neg := false) (fun _ _ _ _ h => h) (fun _ _ _ _ h => h) fun _ _ _ _ h => h
theorem lo_notin : LO2 K (fun x y H Q => (∃ i j, x = .str i ∧ y = .str j ∧ Q (.bl (!(!(Builtin.Str.occurrences j i 0 j.length 1).isEmpty))) H) ∨ rInK true x y H Q ∨ rIn K true x y H Q ∨ rNotInD K x y H Q) oNotIn :=
  lo_ing (neg := true) (fun _ _ _ _ h => h) (fun _ _ _ _ h => h) fun _ _ _ _ h => h
theorem Rp.isNon {G : Hp} {x : D} {v : V} (r : Rp K G x v) : decide (v = .non) = isNon x := by cases r <;> simp [DL.isNon]
theorem lo_is : LO2 K (fun x y H Q => (y = .non ∧ Q (.bl (decide (x = .non))) H) ∨ rIsB x y H Q) oIs := by
  intro F G H C x y v u R Q A rx ry h k
  cases y
  case non =>
    cases ry
    refine .inl ⟨rfl, ?_⟩
    rw [rx.isNon]
    have h' : R (.bl (isNon x)) C := by cases x <;> exact h
    exact k.now A h' (.bl _)
  case bl =>
    cases x <;> first | exact h.elim | skip
    cases rx.blI; cases ry.blI
    exact .inr ⟨_, _, rfl, rfl, k.now A h (.bl _)⟩
  all_goals (exfalso; revert h; cases x <;> exact fun z => z)
theorem lo_isnot : LO2 K (fun x y H Q => (y = .non ∧ Q (.bl (!decide (x = .non))) H) ∨ rNotB x y H Q) oIsNot := by
  intro F G H C x y v u R Q A rx ry h k
  cases y
  case non =>
    cases ry
    refine .inl ⟨rfl, ?_⟩
    rw [rx.isNon]
    have h' : R (.bl (!isNon x)) C := by cases x <;> exact h
    exact k.now A h' (.bl _)
  case bl =>
    cases x <;> first | exact h.elim | skip
    cases rx.blI; cases ry.blI
    exact .inr ⟨_, _, rfl, rfl, k.now A h (.bl _)⟩
  all_goals (exfalso; revert h; cases x <;> exact fun z => z)
end
section
variable {X : Cx} {a b c : Expr} {ta tb tc : DE} {pos : Pos}
theorem de_add (ha : PE X a (liftE X.K ta)) (hb : PE X b (liftE X.K tb)) : PE X (.BinOp a .Add b pos) (liftE X.K (dOp oAdd ta tb)) := de_op (op_add.or (op_add_str.or (op_catA.or op_catF))) lo_add ha hb
theorem de_sub (ha : PE X a (liftE X.K ta)) (hb : PE X b (liftE X.K tb)) : PE X (.BinOp a .Sub b pos) (liftE X.K (dOp oSub ta tb)) := de_op op_sub lo_sub ha hb
theorem de_mul (ha : PE X a (liftE X.K ta)) (hb : PE X b (liftE X.K tb)) : PE X (.BinOp a .Mult b pos) (liftE X.K (dOp oMul ta tb)) := de_op (op_mul.or op_repF) lo_mul ha hb
theorem de_div (ha : PE X a (liftE X.K ta)) (hb : PE X b (liftE X.K tb)) : PE X (.BinOp a .FloorDiv b pos) (liftE X.K (dOp oDiv ta tb)) := de_op op_fdiv lo_div ha hb
theorem de_mod (ha : PE X a (liftE X.K ta)) (hb : PE X b (liftE X.K tb)) : PE X (.BinOp a .Mod b pos) (liftE X.K (dOp oMod ta tb)) := de_op op_mod lo_mod ha hb
theorem de_pow (ha : PE X a (liftE X.K ta)) (hb : PE X b (liftE X.K tb)) : PE X (.BinOp a .Pow b pos) (liftE X.K (dOp oPow ta tb)) := de_op op_pow lo_pow ha hb
theorem de_neg (ha : PE X a (liftE X.K ta)) : PE X (.UnaryOp .USub a pos) (liftE X.K (dUn oNeg ta)) := de_un un_neg lo_neg ha
/-- a comparison by its operator: how it stands in HandS, over data -/
structure CmpD (X : Cx) (op : CmpOp) (o : DO2) : Prop where
  ex : ∃ r, OpR X (compareOp op) r ∧ LO2 X.K r o
theorem cd_eq (hu : X.A.units + 64 < cLine) : CmpD X .Eq oEq := ⟨_, (op_eqD hu).or (op_eqLen hu), lo_eq⟩
theorem cd_ne (hu : X.A.units + 64 < cLine) : CmpD X .NotEq oNe := ⟨_, (op_neD hu).or (op_neLen hu), lo_ne⟩
theorem cd_lt : CmpD X .Lt oLt := ⟨_, op_lt.or op_lt_str, lo_lt⟩
theorem cd_le : CmpD X .LtE oLe := ⟨_, op_le.or op_le_str, lo_le⟩
theorem cd_gt : CmpD X .Gt oGt := ⟨_, op_gt, lo_gt⟩
theorem cd_ge : CmpD X .GtE oGe := ⟨_, op_ge, lo_ge⟩
theorem cd_in (hu : X.A.units + 65 < cLine) : CmpD X .In oIn := ⟨_, op_in_str.or ((op_inK (by omega)).or (op_in_seq.or (op_inD hu))), lo_in⟩
theorem cd_notin (hu : X.A.units + 65 < cLine) : CmpD X .NotIn oNotIn := ⟨_, op_notIn_str.or ((op_notinK (by omega)).or (op_notIn_seq.or (op_notInD hu))), lo_notin⟩
theorem cd_is : CmpD X .Is oIs := ⟨_, op_isN.or op_isBl, lo_is⟩
theorem cd_isnot : CmpD X .IsNot oIsNot := ⟨_, op_notN.or op_notBl, lo_isnot⟩
theorem de_cm {op : CmpOp} {o : DO2} (h : CmpD X op o) (ha : PE X a (liftE X.K ta)) (hb : PE X b (liftE X.K tb)) (hm : behindInMarks op b = false := by first | exact nobehind _ (by decide) (by decide) | rfl) : PE X (.Compare a [op] [b] pos) (liftE X.K (dOp o ta tb)) := by
  obtain ⟨r, h1, h2⟩ := h.ex
  exact de_cmp h1 h2 ha hb hm
theorem dt_cm {op : CmpOp} {o : DO2} (h : CmpD X op o) (ha : PE X a (liftE X.K ta)) (hb : PE X b (liftE X.K tb)) (hm : behindInMarks op b = false := by first | exact nobehind _ (by decide) (by decide) | rfl) : PT X (.Compare a [op] [b] pos) (liftT X.K (dTest (dOp o ta tb))) := by
  obtain ⟨r, h1, h2⟩ := h.ex
  exact dt_cmp h1 h2 ha hb hm
theorem de_ch {op op' : CmpOp} {o o' : DO2} (h : CmpD X op o) (h' : CmpD X op' o') (ha : PE X a (liftE X.K ta)) (hb : PE X b (liftE X.K tb)) (hc : PE X c (liftE X.K tc)) (hm : lastMarks [op, op'] [b, c] = false := by with_unfolding_all rfl) :
    PE X (.Compare a [op, op'] [b, c] pos) (liftE X.K (dChain o o' ta tb tc)) := by
  obtain ⟨r, h1, h2⟩ := h.ex
  obtain ⟨r', h3, h4⟩ := h'.ex
  exact de_chain h1 h2 h3 h4 ha hb hc hm
theorem dt_ch {op op' : CmpOp} {o o' : DO2} (h : CmpD X op o) (h' : CmpD X op' o') (ha : PE X a (liftE X.K ta)) (hb : PE X b (liftE X.K tb)) (hc : PE X c (liftE X.K tc)) (hm : lastMarks [op, op'] [b, c] = false := by with_unfolding_all rfl) :
    PT X (.Compare a [op, op'] [b, c] pos) (liftT X.K (dTest (dChain o o' ta tb tc))) := by
  obtain ⟨r, h1, h2⟩ := h.ex
  obtain ⟨r', h3, h4⟩ := h'.ex
  exact dt_chain h1 h2 h3 h4 ha hb hc hm
end
def dNil : DA := fun _ C R => R [] C
def dCons (ta : DE) (tr : DA) : DA := fun δ C R => ta δ C fun x C1 => tr δ C1 fun xs C2 => R (x :: xs) C2
section
variable {X : Cx} {e : Expr} {es : List Expr} {te : DE} {t : DA} {pos : Pos}
theorem da_nil : PA X [] (liftA X.K dNil) := pa_nil.weak fun σ H Q ⟨F, G, δ, C, R, A, S, q, k⟩ => k [] C q [] H G (Same.refl G) A .nil
theorem da_cons (ha : PE X e (liftE X.K te)) (hr : PA X es (liftA X.K t)) (hs : starEach (e :: es) X.env = (false, eval e X.env) :: starEach es X.env := by rfl) : PA X (e :: es) (liftA X.K (dCons te t)) := by
  refine (pa_cons ha hr hs).weak ?_
  rintro σ H Q ⟨F, G, δ, C, R, A, S, q, k⟩
  refine ⟨F, G, δ, C, _, A, S, q, fun x C1 q1 v H1 G1 s1 A1 r1 => ⟨F, G1, δ, C1, _, A1, S.mono s1, q1, fun xs C2 q2 vs H2 G2 s2 A2 r2 => ?_⟩⟩
  exact k _ _ q2 (v :: vs) H2 G2 (s1.trans s2) A2 (.cons (r1.mono s2) r2)
def dTup (t : DA) : DE := fun δ C R => t δ C fun xs C1 => xs.length ≤ sizeLine ∧ R (.tup xs) C1
/-- a list display: a list that is never written -/
def dLst (t : DA) : DE := fun δ C R => t δ C fun xs C1 => xs.length ≤ sizeLine ∧ R (.lst xs) C1
/-- a list display: a list that may be written -/
def dLstC (t : DA) : DE := fun δ C R => t δ C fun xs C1 => xs.length ≤ sizeLine ∧ ∀ p, C1 p = none → R (.ref p) (updC C1 p (.lst xs))
theorem de_tup {x1} (h : PA X es (liftA X.K t)) : PE X (.Tuple es x1 pos) (liftE X.K (dTup t)) := by
  refine (pe_tup h).weak ?_
  rintro σ H Q ⟨F, G, δ, C, R, A, S, q, k⟩
  refine ⟨F, G, δ, C, _, A, S, q, ?_⟩
  rintro xs C1 ⟨hl, q1⟩ vs H1 G1 s1 A1 r1
  exact ⟨by rw [← r1.length]; exact hl, fun p hp => (k.mono s1).new A1 hp q1 (.tup (.inl (.inl upd_same)) (r1.mono (A1.grow hp).2))⟩
theorem de_lst (h : PA X es (liftA X.K t)) : PE X (.List es pos) (liftE X.K (dLst t)) := by
  refine (pe_lst h).weak ?_
  rintro σ H Q ⟨F, G, δ, C, R, A, S, q, k⟩
  refine ⟨F, G, δ, C, _, A, S, q, ?_⟩
  rintro xs C1 ⟨hl, q1⟩ vs H1 G1 s1 A1 r1
  exact ⟨by rw [← r1.length]; exact hl, fun p hp => (k.mono s1).new A1 hp q1 (.lst (.inl upd_same) (r1.mono (A1.grow hp).2))⟩
theorem de_lstC (h : PA X es (liftA X.K t)) : PE X (.List es pos) (liftE X.K (dLstC t)) := by
  refine (pe_lst h).weak ?_
  rintro σ H Q ⟨F, G, δ, C, R, A, S, q, k⟩
  refine ⟨F, G, δ, C, _, A, S, q, ?_⟩
  rintro xs C1 ⟨hl, q1⟩ vs H1 G1 s1 A1 r1
  exact ⟨by rw [← r1.length]; exact hl, fun p hp => (k.mono s1).cell A1 hp (q1 p (A1.free hp)) (.lst r1)⟩
/-- {} -/
def dDct0 : DE := fun _ C R => R (.dct []) C
def dDct0C : DE := fun _ C R => ∀ p, C p = none → R (.ref p) (updC C p (.dct []))
end
/-- what x[y] gives -/
def ixO (C : Cells) (x y : D) : Option D :=
  match dctOf C x with
  | some kvs => (keyOf y).bind fun k => getK kvs k
  | none => match intOf y with
    | none => none
    | some i => match strOf x with
      | some z => if z.length ≤ sizeLine then (atI z.cps.toList i).map fun c => .str ⟨#[c]⟩ else none
      | none => match tupOf x with
        | some ds => atI ds i
        | none => (lstOf C x).bind fun ds => atI ds i
def oIx : DO2 := fun x y C R => ∃ d, ixO C x y = some d ∧ R d C
section
variable {X : Cx} {a b : Expr} {ta tb : DE} {pos : Pos}
theorem ix_getK (hu : X.A.units + 64 < cLine) : IxR X rGetK := by
  intro value slice pins s σ H x y v u Q I rx ry h hs
  obtain ⟨d, kvs, k, z, rfl, hd, rfl, e, q⟩ := h
  cases rx
  have g : DGet H d (kV k) (some z) := .inl ⟨kvs, k, hd, rfl, e.symm⟩
  exact tail_any (dict_typeIs I g) (PySem.F.slot_dict_getitem.lookup) (d_getItem (by omega) I g ry fun w' s' I' r' => ⟨z, H, I', r', q⟩) hs
theorem lo_ix : LO2 X.K (fun x y H Q => rGetK x y H Q ∨ rIx X.K x y H Q) oIx := by
  intro F G H C x y v u R Q A rx ry h k
  obtain ⟨d, e, q⟩ := h
  unfold ixO at e
  split at e
  · rename_i kvs ek
    obtain ⟨i, ei, e⟩ := Option.bind_eq_some_iff.mp e
    obtain ⟨a, ks, rfl, ha, ra⟩ := dct_at A rx ek
    obtain ⟨z, e1, rz⟩ := (ra.val (k := i)).1 d e
    exact .inl ⟨a, ks, i, z, rfl, ha, ry.key ei, e1, k.now A q rz⟩
  · split at e
    · cases e
    · rename_i i ei
      cases ry.intV ei
      split at e
      · rename_i z ez
        split at e
        · rename_i hl
          obtain ⟨c, ec, e⟩ := Option.map_eq_some_iff.mp e
          subst e
          exact .inr (.inr (.inr ⟨z, i, c, rx.strV ez, rfl, hl, ec, k.now A q (.str _)⟩))
        · cases e
      · split at e
        · rename_i ds et
          obtain ⟨a, as, rfl, ha, ra⟩ := tup_at A rx et
          obtain ⟨z, e1, rz⟩ := ra.at e
          exact .inr (.inr (.inl ⟨a, as, i, z, rfl, rfl, ha, e1, k.now A q rz⟩))
        · obtain ⟨ds, el, e⟩ := Option.bind_eq_some_iff.mp e
          obtain ⟨a, as, rfl, ha, ra⟩ := lst_at A rx el
          obtain ⟨z, e1, rz⟩ := ra.at e
          exact .inr (.inl ⟨a, as, i, z, rfl, rfl, .inl ha, e1, k.now A q rz⟩)
theorem de_ix (hu : X.A.units + 64 < cLine) (ha : PE X a (liftE X.K ta)) (hb : PE X b (liftE X.K tb)) (hs : PlainIx b := by exact fun _ _ => rfl) : PE X (.Subscript a b pos) (liftE X.K (dOp oIx ta tb)) :=
  (pe_ix ((ix_getK hu).or ix_seq) ha hb hs).weak (lift_op lo_ix)
end
def dPart (t : DE) : DSt → Cells → (Option Int → Cells → Prop) → Prop := fun δ C R => t δ C fun d C1 => ∃ i, d = .int i ∧ R (some i) C1
def dNoPart : DSt → Cells → (Option Int → Cells → Prop) → Prop := fun _ C R => R none C
abbrev DOp := DSt → Cells → (Option Int → Cells → Prop) → Prop
def ToP (K : PySem.W.Frag) (F : Cells) (G : Hp) (R : Option Int → Cells → Prop) (Q : Option Int → Hp → Prop) : Prop := ∀ b C, R b C → ∀ H' G', Same G G' → Ab K F G' H' C → Q b H'
def liftP (K : PySem.W.Frag) (t : DOp) : TO := fun σ H Q => ∃ F G δ C R, Ab K F G H C ∧ RpS K G δ σ ∧ t δ C R ∧ ToP K F G R Q
section
variable {X : Cx} {a b : Expr} {te : DE} {pos : Pos}
theorem dp_none : PO X none (liftP X.K dNoPart) := ⟨fun pins s σ H Q I ⟨F, G, δ, C, R, A, S, q, k⟩ => po_none.run pins s σ H Q I (k none C q H G (Same.refl G) A)⟩
theorem dp_some (h : PE X a (liftE X.K te)) : PO X (some a) (liftP X.K (dPart te)) := by
  refine ⟨fun pins s σ H Q I ⟨F, G, δ, C, R, A, S, q, k⟩ => (po_some h).run pins s σ H Q I ⟨F, G, δ, C, _, A, S, q, ?_⟩⟩
  rintro d C1 ⟨i, rfl, q1⟩ v H1 G1 s1 A1 r1
  cases r1.intI
  exact ⟨i, rfl, k _ _ q1 H1 G1 s1 A1⟩
end
end DL
namespace DL
open PySem PySem.Spec L2
open PyProof.Rows hiding St
def slOk (C : Cells) (x : D) (lo hi : Option Int) : Option D :=
  match x with
  | .tup ds => some (.tup (cutL ds lo hi))
  | .str z => if z.length ≤ sizeLine then some (.str (cutS z lo hi)) else none
  | x => (lstOf C x).map fun ds => .lst (cutL ds lo hi)
def dSlice (te : DE) (tl th : DOp) : DE := fun δ C R => te δ C fun x C1 => tl δ C1 fun l C2 => th δ C2 fun u C3 => ∃ d, slOk C3 x l u = some d ∧ R d C3
section
variable {X : Cx} {e : Expr} {lo hi : Option Expr} {te : DE} {tl th : DOp} {pos p2 : Pos}
theorem cutL_whole {α : Type} {xs : List α} {lo hi : Option Int} (h : HT.sIx xs.length 0 lo = 0 ∧ HT.sIx xs.length xs.length hi = xs.length) : cutL xs lo hi = xs := by
  unfold cutL
  rw [h.1, h.2, Nat.sub_zero, List.drop_zero, List.take_length]
theorem de_slice (he : PE X e (liftE X.K te)) (hl : PO X lo (liftP X.K tl)) (hh : PO X hi (liftP X.K th)) : PE X (.Subscript e (.Slice lo hi none p2) pos) (liftE X.K (dSlice te tl th)) := by
  refine (pe_slice (sl_tupA.or (sl_list.or sl_str)) he hl hh).weak ?_
  rintro σ H Q ⟨F, G, δ, C, R, A, S, q, k⟩
  refine ⟨F, G, δ, C, _, A, S, q, fun x C1 q1 v H1 G1 s1 A1 r1 => ⟨F, G1, δ, C1, _, A1, S.mono s1, q1, fun l C2 q2 H2 G2 s2 A2 => ⟨F, G2, δ, C2, _, A2, S.mono (s1.trans s2), q2, ?_⟩⟩⟩
  rintro u C3 ⟨d, e, q3⟩ H3 G3 s3 A3
  have r3 := r1.mono (s2.trans s3)
  have k3 := k.mono (s1.trans (s2.trans s3))
  have L : ∀ ds, lstOf C3 x = some ds → d = .lst (cutL ds l u) → rSlA X.K v l u H3 Q ∨ rSlL X.K v l u H3 Q ∨ rSlS v l u H3 Q := fun ds el ed => by
    subst ed
    obtain ⟨a, as, rfl, ha, ra⟩ := lst_at A3 r3 el
    exact .inr (.inl ⟨a, as, rfl, .inl ha, fun p hp => k3.new A3 hp q3 (.lst (.inl upd_same) ((ra.cut l u).mono (A3.grow hp).2))⟩)
  cases x
  case tup ds =>
    cases e
    cases r3 with
    | tup hx rx =>
      rename_i a as
      refine .inl ⟨a, as, rfl, sqT_mono A3.sub hx, fun hw => ?_, fun _ p hp => k3.new A3 hp q3 (.tup (.inl (.inl upd_same)) ((rx.cut l u).mono (A3.grow hp).2))⟩
      rw [← rx.length] at hw
      rw [cutL_whole hw] at q3
      exact k3.now A3 q3 (.tup hx rx)
  case str z =>
    simp only [slOk] at e
    split at e
    · rename_i hz
      cases e
      exact .inr (.inr ⟨z, r3.strI, hz, k3.now A3 q3 (.str _)⟩)
    · cases e
  all_goals
    simp only [slOk, Option.map_eq_some_iff] at e
    obtain ⟨ds, el, ed⟩ := e
    exact L ds el ed.symm
/-- xs[::-1] -/
def dRev (te : DE) : DE := fun δ C R => te δ C fun x C1 => ∃ ds, lstOf C1 x = some ds ∧ R (.lst ds.reverse) C1
end
structure CalD (X : Cx) (f : Value) (o : DOs) : Prop where
  ex : ∃ r, CallR X f r ∧ LOs X.K r o
section
variable {X : Cx} {x : Str} {p pos : Pos} {e : Expr} {es : List Expr} {t : DA} {id T : String} {o : DOs}
theorem de_cb (hc : CalD X (.builtin id) o) (hg : Gl X x) (hm : X.mg x = none) (hv : bootBuiltins x = some (.builtin id)) (ha : PA X (e :: es) (liftA X.K t)) (hn : x ≠ "__name__" := by decide) (hdb : (x == ("__debug__" : Str)) = false := by decide)
    (he : starEach (e :: es) X.env = (false, eval e X.env) :: starEach es X.env := by rfl) (hpl : (backTo pos (starEach es X.env)).any (·.1) = false := by rfl) : PE X (.Call (.Name x p) (e :: es) [] pos) (liftE X.K (dFn o t)) := by
  obtain ⟨r, h1, h2⟩ := hc.ex
  exact (pe_callB h1 hg hm hv ha hn hdb he hpl).weak (lift_fn h2)
theorem de_ct (hc : CalD X (.type T) o) (hg : Gl X x) (hm : X.mg x = none) (hv : bootBuiltins x = some (.type T)) (ha : PA X (e :: es) (liftA X.K t)) (hn : x ≠ "__name__" := by decide) (hdb : (x == ("__debug__" : Str)) = false := by decide)
    (he : starEach (e :: es) X.env = (false, eval e X.env) :: starEach es X.env := by rfl) (hpl : (backTo pos (starEach es X.env)).any (·.1) = false := by rfl) : PE X (.Call (.Name x p) (e :: es) [] pos) (liftE X.K (dFn o t)) := by
  obtain ⟨r, h1, h2⟩ := hc.ex
  exact (pe_callTy h1 hg hm hv ha hn hdb he hpl).weak (lift_fn h2)
end
theorem RpL.one {K : PySem.W.Frag} {G : Hp} {d : D} {vs : List V} (r : RpL K G [d] vs) : ∃ v, vs = [v] ∧ Rp K G d v := by
  cases r with
  | cons a b => cases b; exact ⟨_, rfl, a⟩
theorem RpL.two {K : PySem.W.Frag} {G : Hp} {d e : D} {vs : List V} (r : RpL K G [d, e] vs) : ∃ v u, vs = [v, u] ∧ Rp K G d v ∧ Rp K G e u := by
  cases r with
  | cons a b => cases b with
    | cons c d => cases d; exact ⟨_, _, rfl, a, c⟩
/-- len(x) -/
def lenO (C : Cells) (x : D) : Option Nat :=
  match strOf x with
  | some z => if z.length ≤ sizeLine then some z.length else none
  | none => match tupOf x with
    | some ds => some ds.length
    | none => match lstOf C x with
      | some ds => some ds.length
      | none => (dctOf C x).map fun kvs => kvs.length
def oLen : DOs := fun xs C R => ∃ x n, xs = [x] ∧ lenO C x = some n ∧ R (.int (n : Nat)) C
section
variable {X : Cx}
theorem call_lenK : CallR X (.builtin "len") (fun xs H Q => ∃ a kvs, xs = [.ref a] ∧ Rd H a (.dK kvs) ∧ Q (.int kvs.length) H) := by
  intro pins s σ H xs us Q I r h
  obtain ⟨a, kvs, rfl, hd, q⟩ := h
  obtain ⟨u, rfl, rx⟩ := vals1 r
  cases rx
  exact d_len I hd fun t s' I' => ⟨.int kvs.length, H, I', ⟨t, rfl⟩, q⟩
theorem cl_len : CalD X (.builtin "len") oLen := by
  refine ⟨_, call_len.or call_lenK, ?_⟩
  intro F G H C xs vs R Q A rx h k
  obtain ⟨x, n, rfl, e, q⟩ := h
  obtain ⟨v, rfl, r⟩ := rx.one
  unfold lenO at e
  split at e
  · rename_i z ez
    split at e
    · rename_i hz
      cases e
      exact .inl ⟨v, _, rfl, by rw [r.strV ez]; exact ⟨hz, rfl⟩, k.now A q (.int _)⟩
    · cases e
  · split at e
    · rename_i ds et
      cases e
      obtain ⟨a, as, rfl, ha, ra⟩ := tup_at A r et
      exact .inl ⟨.ref a, _, rfl, .inr ⟨as, ha, by rw [ra.length]⟩, k.now A q (.int _)⟩
    · split at e
      · rename_i ds et
        cases e
        obtain ⟨a, as, rfl, ha, ra⟩ := lst_at A r et
        exact .inl ⟨.ref a, _, rfl, .inl ⟨as, .inl ha, by rw [ra.length]⟩, k.now A q (.int _)⟩
      · obtain ⟨kvs, ek, en⟩ := Option.map_eq_some_iff.mp e
        subst en
        obtain ⟨a, ks, rfl, ha, ra⟩ := dct_at A r ek
        refine .inr ⟨a, ks, rfl, ha, ?_⟩
        rw [← ra.length]
        exact k.now A q (.int _)
end
def kindOf (C : Cells) : D → Option String
  | .non => some "NoneType"
  | .bl _ => some "bool"
  | .int _ => some "int"
  | .str _ => some "str"
  | .tup _ => some "tuple"
  | .lst _ => some "list"
  | .dct _ => some "dict"
  | .ref p => (C p).bind fun c => match c with
    | .lst _ => some "list"
    | .dct _ => some "dict"
    | _ => none
  | .ty _ => none
/-- is a thing of built-in type k one of T? -/
def isiT (k T : String) : Bool := k == T || (k == "bool" && T == "int")
def types : List String := ["int", "bool", "str", "tuple", "list"]
def isiO (C : Cells) (x : D) (t : D) : Option Bool :=
  match t with
  | .ty T => if types.contains T then (kindOf C x).map fun k => isiT k T else none
  | .tup [.ty T, .ty U] => if types.contains T && types.contains U then (kindOf C x).map fun k => isiT k T || isiT k U else none
  | _ => none
def oIsi : DOs := fun xs C R => ∃ x t b, xs = [x, t] ∧ isiO C x t = some b ∧ R (.bl b) C
def kinds : List String := ["NoneType", "bool", "int", "str", "tuple", "list", "dict"]
theorem kit_all : ∀ k ∈ kinds, ∀ T ∈ types, kitB k T = some (isiT k T) := by decide +kernel
theorem kind_in {C : Cells} {x : D} {k : String} (h : kindOf C x = some k) : k ∈ kinds := by
  unfold kindOf at h
  split at h <;> first | (cases h; done) | (cases h; decide) | skip
  · obtain ⟨c, _, e⟩ := Option.bind_eq_some_iff.mp h
    split at e <;> first | (cases e; done) | (cases e; decide)
section
variable {K : PySem.W.Frag} {G H : Hp} {F C : Cells} {d : D} {v : V}
theorem tyX_of {k : String} (A : Ab K F G H C) (r : Rp K G d v) (h : kindOf C d = some k) : TyX K H v (.type k) := by
  cases r <;> first | cases h | skip
  · exact .base .non
  · exact .base (.bl _)
  · exact .base (.int _)
  · exact .base (.str _)
  · obtain ⟨c, hc, e⟩ := Option.bind_eq_some_iff.mp h
    obtain ⟨_, u, hu, ok⟩ := A.cell _ _ hc
    split at e
    · cases e; cases ok; exact .base (.lst hu)
    · cases e; cases ok; exact .base (.dK hu)
    · cases e
  · rename_i ds a xs hx rx
    rcases sqT_mono A.sub hx with (hx | ⟨o, hx⟩) | ⟨o, its, n, h1, h2, _⟩
    · exact .base (.tup hx)
    · exact .fTuple hx
    · exact .kTuple h1 h2
  · rename_i ds a xs hx rx
    rcases rd_mono A.sub hx with hx | ⟨o, hx⟩
    · exact .base (.lst hx)
    · exact .base (.frz hx)
  · rename_i hx _
    exact .fDict (A.sub _ _ hx)
end
/-- isinstance(x, (T, U)) by a tuple that is read -/
def rIsiS (K : PySem.W.Frag) : List V → Hp → VK → Prop := fun xs H Q => ∃ (x : V) (tp : Addr) (cs : List V) (t : Value) (us : List Value) (b : Bool), xs = [x, .ref tp] ∧ SqT K H tp cs ∧ Paired ClsV cs us ∧ TyX K H x t ∧ PySem.W.kitAny K t us = some b ∧ Q (.bl b) H
section
variable {X : Cx}
theorem call_isiS : CallR X (.builtin "isinstance") (rIsiS X.K) := by
  intro pins s σ H xs us Q I r h
  obtain ⟨x, tp, cs, t, ws, b, rfl, hT, k, ty, e, q⟩ := h
  obtain ⟨u1, u2, rfl, r1, r2⟩ := vals2 r
  cases (show u2 = Value.ref tp from r2)
  obtain ⟨P, Z, p, hx⟩ := kit_of I r1 ty
  obtain ⟨its, rv, ⟨o, h1, h2, n, h3⟩, _⟩ := I.tuple hT
  have e3 := ClsV.all k rv
  subst e3
  obtain ⟨oc, od, dt, sl⟩ := o
  simp only at h2 h3
  subst h2 h3
  exact PySem.W.kia_tup Z I.kIn p h1 e hx fun tk => ⟨.bl b, H, I.tok tk, rfl, q⟩
theorem cl_isi : CalD X (.builtin "isinstance") oIsi := by
  refine ⟨_, call_isi.or call_isiS, ?_⟩
  intro F G H C xs vs R Q A rx h k
  obtain ⟨x, t, b, rfl, e, q⟩ := h
  obtain ⟨v, u, rfl, r, rt⟩ := rx.two
  unfold isiO at e
  split at e
  · rename_i T
    split at e
    · rename_i hT
      obtain ⟨kk, ek, eb⟩ := Option.map_eq_some_iff.mp e
      subst eb
      cases rt
      exact .inl ⟨v, .ty T, .type kk, .type T, _, rfl, .ty T, tyX_of A r ek, kit_ty (kit_all kk (kind_in ek) T (List.contains_iff_mem.mp hT)), k.now A q (.bl _)⟩
    · cases e
  · rename_i T U
    split at e
    · rename_i hT
      obtain ⟨kk, ek, eb⟩ := Option.map_eq_some_iff.mp e
      subst eb
      rw [Bool.and_eq_true] at hT
      obtain ⟨a, as, rfl, ha, ra⟩ := tup_at A rt rfl
      obtain ⟨c1, c2, rfl, rc1, rc2⟩ := ra.two
      cases rc1; cases rc2
      refine .inr ⟨v, a, _, .type kk, [.type T, .type U], _, rfl, ha, .cons (.ty T) (.cons (.ty U) .nil), tyX_of A r ek, ?_, k.now A q (.bl _)⟩
      refine kitAny_cons (kit_ty (kit_all kk (kind_in ek) T (List.contains_iff_mem.mp hT.1))) (fun h => ?_) (fun h => by rw [h]; rfl)
      rw [h, Bool.false_or]
      refine kitAny_cons (kit_ty (kit_all kk (kind_in ek) U (List.contains_iff_mem.mp hT.2))) (fun h => by rw [h]; exact kitAny_nil) (fun h => h)
    · cases e
  · cases e
end
def bools : List D → Option (List Bool)
  | [] => some []
  | .bl b :: ds => (bools ds).map (b :: ·)
  | _ => none
def oAll : DOs := fun xs C R => ∃ x ds bs, xs = [x] ∧ lstOf C x = some ds ∧ bools ds = some bs ∧ R (.bl (bs.all id)) C
theorem RpL.bools {K : PySem.W.Frag} {G : Hp} : ∀ {ds : List D} {vs : List V} {bs : List Bool}, RpL K G ds vs → DL.bools ds = some bs → vs = bs.map V.bl
  | _, _, _, .nil, e => by cases e; rfl
  | _, _, bs, .cons (d := d) r t, e => by
    cases d <;> first | cases e | skip
    simp only [DL.bools, Option.map_eq_some_iff] at e
    obtain ⟨bs', e1, rfl⟩ := e
    cases r
    rw [RpL.bools t e1]
    rfl
section
variable {X : Cx}
theorem cl_all (hc : X.calm = true) : CalD X (.builtin "all") oAll := by
  refine ⟨_, cr_all hc, ?_⟩
  intro F G H C xs vs R Q A rx h k
  obtain ⟨x, ds, bs, rfl, e, eb, q⟩ := h
  obtain ⟨v, rfl, r⟩ := rx.one
  obtain ⟨a, as, rfl, ha, ra⟩ := lst_at A r e
  have := ra.bools eb
  subst this
  exact ⟨a, bs, rfl, .inl ha, k.now A q (.bl _)⟩
/-- tuple(x) of a list or a tuple -/
def oTuple : DOs := fun xs C R => ∃ x, xs = [x] ∧ match tupOf x with
  | some ds => R (.tup ds) C
  | none => ∃ ds, lstOf C x = some ds ∧ R (.tup ds) C
theorem cl_tuple : CalD X (.type "tuple") oTuple := by
  refine ⟨_, call_tuple_of, ?_⟩
  intro F G H C xs vs R Q A rx h k
  obtain ⟨x, rfl, h⟩ := h
  obtain ⟨v, rfl, r⟩ := rx.one
  split at h
  · rename_i ds et
    cases r <;> first | cases et | skip
    rename_i a as hx rx'
    exact ⟨a, as, rfl, .inr ⟨sqT_mono A.sub hx, k.now A h (.tup hx rx')⟩⟩
  · obtain ⟨ds, el, q⟩ := h
    obtain ⟨a, as, rfl, ha, ra⟩ := lst_at A r el
    exact ⟨a, as, rfl, .inl ⟨.inl ha, fun p hp => k.new A hp q (.tup (.inl (.inl upd_same)) (ra.mono (A.grow hp).2))⟩⟩
/-- list(x) of a list or a tuple: a list that is never written; one that may be -/
def seqOf (C : Cells) (x : D) : Option (List D) := match tupOf x with
  | some ds => some ds
  | none => lstOf C x
def oList : DOs := fun xs C R => ∃ x ds, xs = [x] ∧ seqOf C x = some ds ∧ R (.lst ds) C
theorem seq_at {K : PySem.W.Frag} {G H : Hp} {F C : Cells} {d : D} {v : V} {ds : List D} (A : Ab K F G H C) (r : Rp K G d v) (e : seqOf C d = some ds) : ∃ a xs, v = .ref a ∧ (SqL K H a xs ∨ SqT K H a xs) ∧ RpL K G ds xs := by
  unfold seqOf at e
  split at e
  · rename_i et
    cases e
    obtain ⟨a, as, h1, h2, h3⟩ := tup_at A r et
    exact ⟨a, as, h1, .inr h2, h3⟩
  · obtain ⟨a, as, h1, h2, h3⟩ := lst_at A r e
    exact ⟨a, as, h1, .inl (.inl h2), h3⟩
theorem cl_list : CalD X (.type "list") oList := by
  refine ⟨_, call_list_of, ?_⟩
  intro F G H C xs vs R Q A rx h k
  obtain ⟨x, ds, rfl, e, q⟩ := h
  obtain ⟨v, rfl, r⟩ := rx.one
  obtain ⟨a, as, rfl, ha, ra⟩ := seq_at A r e
  exact ⟨a, as, rfl, ha, fun p hp => k.new A hp q (.lst (.inl upd_same) (ra.mono (A.grow hp).2))⟩
end
end DL
namespace DL
open PySem PySem.Spec L2
open PyProof.Rows hiding St
def dNext : DS := fun D δ C => D.nx δ C
def dSeq (t u : DS) : DS := fun D δ C => t { D with nx := u D } δ C
def dRet (te : DE) : DS := fun D δ C => te δ C D.rt
def dRetN : DS := fun D _ C => D.rt .non C
def dDrop (te : DE) : DS := fun D δ C => te δ C fun _ C1 => D.nx δ C1
def dIfS (c : DT) (t u : DS) : DS := fun D δ C => c δ C fun b C1 => if b = true then t D δ C1 else u D δ C1
def dNever : DS := fun _ _ _ => False
abbrev DG := D → DSt → Cells → (DSt → Cells → Prop) → Prop
abbrev DGs := List D → DSt → Cells → (DSt → Cells → Prop) → Prop
def dAsg (te : DE) (g : DG) : DS := fun D δ C => te δ C fun x C1 => g x δ C1 D.nx
section
variable (K : PySem.W.Frag)
def liftG (t : DG) : TG := fun v σ H Q => ∃ F G δ C d R, Ab K F G H C ∧ RpS K G δ σ ∧ Rp K G d v ∧ t d δ C R ∧ ToN K F G R Q
def liftGs (t : DGs) : TGs := fun vs σ H Q => ∃ F G δ C ds R, Ab K F G H C ∧ RpS K G δ σ ∧ RpL K G ds vs ∧ t ds δ C R ∧ ToN K F G R Q
end
section
variable {X : Cx} {st : Stmt} {rest : List Stmt} {t u : DS} {e : Expr} {te : DE} {pos : Pos}
theorem dss_nil : PSs X [] (liftS X.K dNext) := pss_nil.weak fun D σ H ⟨F, G, δ, C, R, A, S, q, k⟩ => k.nx _ _ q σ H G (Same.refl G) A S
theorem lift_seq {K : PySem.W.Frag} : ∀ D σ H, liftS K (dSeq t u) D σ H → tSeq (liftS K t) (liftS K u) D σ H := fun D σ H ⟨F, G, δ, C, R, A, S, q, k⟩ =>
  ⟨F, G, δ, C, { R with nx := u R }, A, S, q, ⟨fun δ' C' q' σ' H' G' s' A' S' => ⟨F, G', δ', C', R, A', S', q', k.mono s'⟩, k.rt, k.bk, k.ct⟩⟩
theorem dss_cons (h1 : PS X st (liftS X.K t)) (h2 : PSs X rest (liftS X.K u)) : PSs X (st :: rest) (liftS X.K (dSeq t u)) := (pss_cons h1 h2).weak lift_seq
theorem dss_one (h1 : PS X st (liftS X.K t)) : PSs X [st] (liftS X.K t) := pss_one h1
theorem ds_never : PS X st (liftS X.K dNever) := ps_never.weak fun D σ H ⟨F, G, δ, C, R, A, S, q, k⟩ => q
theorem ds_expr (he : PE X e (liftE X.K te)) (hs : swapsWith e none pos.line X.env = pure false := by rfl) : PS X (.Expr e pos) (liftS X.K (dDrop te)) :=
  (ps_expr he hs).weak fun D σ H ⟨F, G, δ, C, R, A, S, q, k⟩ => ⟨F, G, δ, C, _, A, S, q, fun d C1 q1 v H1 G1 s1 A1 r1 => k.nx _ _ q1 σ H1 G1 s1 A1 (S.mono s1)⟩
theorem ds_ret (he : PE X e (liftE X.K te)) : PS X (.Return (some e) pos) (liftS X.K (dRet te)) :=
  (ps_ret he).weak fun D σ H ⟨F, G, δ, C, R, A, S, q, k⟩ => ⟨F, G, δ, C, _, A, S, q, k.rt⟩
theorem ds_if {c : Expr} {a b : List Stmt} {tc : DT} (hc : PT X c (liftT X.K tc)) (ha : PSs X a (liftS X.K t)) (hb : PSs X b (liftS X.K u)) : PS X (.If c a b pos) (liftS X.K (dIfS tc t u)) := by
  refine (ps_if hc ha hb).weak ?_
  rintro D σ H ⟨F, G, δ, C, R, A, S, q, k⟩
  refine ⟨F, G, δ, C, _, A, S, q, fun b C1 q1 H1 G1 s1 A1 => ?_⟩
  cases b with
  | true => rw [if_pos rfl] at q1 ⊢; exact ⟨F, G1, δ, C1, R, A1, S.mono s1, q1, k.mono s1⟩
  | false => rw [if_neg Bool.false_ne_true] at q1 ⊢; exact ⟨F, G1, δ, C1, R, A1, S.mono s1, q1, k.mono s1⟩
def gdName (i : Nat) : DG := fun d δ C R => R (δ.set i (some d)) C
theorem lift_name {K : PySem.W.Frag} {i : Nat} : ∀ v σ H Q, liftG K (gdName i) v σ H Q → gName i v σ H Q := fun v σ H Q ⟨F, G, δ, C, d, R, A, S, r, q, k⟩ => k _ _ q _ H G (Same.refl G) A (RpS.set r i S)
theorem _root_.L2.PG.weak {tg : Expr} {t t' : TG} (h : PG X tg t) (w : ∀ v σ H Q, t' v σ H Q → t v σ H Q) : PG X tg t' := ⟨fun pins s σ H v u Q I r q => h.run pins s σ H v u Q I r (w v σ H Q q)⟩
theorem _root_.L2.PGs.weak {tg : List Expr} {t t' : TGs} (h : PGs X tg t) (w : ∀ v σ H Q, t' v σ H Q → t v σ H Q) : PGs X tg t' := ⟨fun pins s σ H v u Q I r q => h.run pins s σ H v u Q I r (w v σ H Q q)⟩
theorem dg_name {i : Nat} {x : Str} (hN : X.N.Nodup) (hi : X.N[i]? = some x) (hx : Loc X.env.scope x) (hf : X.fn x = true ∨ X.env.scope.names.lookup x = some .local := by first | exact .inl rfl | exact .inr rfl | assumption) : PG X (.Name x pos) (liftG X.K (gdName i)) :=
  (pg_name hN hi hx hf).weak lift_name
def gdNil : DGs := fun ds δ C R => ds = [] ∧ R δ C
def gdCons (t : DG) (u : DGs) : DGs := fun ds δ C R => ∃ d r, ds = d :: r ∧ t d δ C fun δ' C' => u r δ' C' R
theorem dgs_nil : PGs X [] (liftGs X.K gdNil) := pgs_nil.weak fun vs σ H Q ⟨F, G, δ, C, ds, R, A, S, r, ⟨e, q⟩, k⟩ => by
  subst e
  cases r
  exact ⟨rfl, k _ _ q _ H G (Same.refl G) A S⟩
theorem dgs_cons {e : Expr} {es : List Expr} {t : DG} {u : DGs} (h1 : PG X e (liftG X.K t)) (h2 : PGs X es (liftGs X.K u)) (hs : (assignEach (e :: es) X.env).map (·.2) = assign e X.env :: (assignEach es X.env).map (·.2) := by rfl) :
    PGs X (e :: es) (liftGs X.K (gdCons t u)) := (pgs_cons h1 h2 hs).weak fun vs σ H Q ⟨F, G, δ, C, ds, R, A, S, r, ⟨d, dr, e, q⟩, k⟩ => by
  subst e
  cases r with
  | cons r1 r2 =>
    exact ⟨_, _, rfl, F, G, δ, C, d, _, A, S, r1, q, fun δ' C' q' σ' H' G' s' A' S' => ⟨F, G', δ', C', dr, R, A', S', r2.mono s', q', k.mono s'⟩⟩
/-- (a, b, ..) = a tuple of that length -/
def gdTup (n : Nat) (t : DGs) : DG := fun d δ C R => ∃ ds, tupOf d = some ds ∧ ds.length = n ∧ t ds δ C R
theorem dg_tup {es : List Expr} {k : Nat} {t : DGs} {n : Nat} (hc : X.calm = true) (h : PGs X es (liftGs X.K t))
    (hn : (assignEach es X.env).length = n := by rfl) (hst : (assignEach es X.env).findIdx? (·.1) = none := by rfl) : PG X (.Tuple es k pos) (liftG X.K (gdTup n t)) :=
  (pg_tup hc h hn hst).weak fun v σ H Q ⟨F, G, δ, C, d, R, A, S, r, ⟨ds, e, hl, q⟩, k⟩ => by
  obtain ⟨a, as, rfl, ha, ra⟩ := tup_at A r e
  exact ⟨a, as, rfl, ha, by rw [← ra.length]; exact hl, F, G, δ, C, ds, R, A, S, ra, q, k⟩
theorem lift_asg {K : PySem.W.Frag} {g : DG} : ∀ D σ H, liftS K (dAsg te g) D σ H → tAsg (liftE K te) (liftG K g) D σ H := fun D σ H ⟨F, G, δ, C, R, A, S, q, k⟩ =>
  ⟨F, G, δ, C, _, A, S, q, fun d C1 q1 v H1 G1 s1 A1 r1 => ⟨F, G1, δ, C1, d, R.nx, A1, S.mono s1, r1, q1, k.nx.mono s1⟩⟩
theorem ds_asg {tg e : Expr} {g : DG} (he : PE X e (liftE X.K te)) (hg : PG X tg (liftG X.K g)) (hs : swapsWithSole [tg] e pos.line X.env = pure false := by rfl) (hw : swappedStores [tg] e X.env = pure none := by rfl)
    (h1 : (assignEach [tg] X.env).map (·.2) = [assign tg X.env] := by rfl) : PS X (.Assign [tg] e pos) (liftS X.K (dAsg te g)) := (ps_asg he hg hs hw h1).weak lift_asg
/-- name = value -/
theorem ds_set {i : Nat} {x : Str} {pos' : Pos} (hN : X.N.Nodup) (hi : X.N[i]? = some x) (hx : Loc X.env.scope x) (he : PE X e (liftE X.K te)) (hs : swapsWith e (some (.Name x pos')) pos.line X.env = pure false := by rfl) (hf : X.fn x = true ∨ X.env.scope.names.lookup x = some .local := by first | exact .inl rfl | exact .inr rfl | assumption) :
    PS X (.Assign [.Name x pos'] e pos) (liftS X.K (dAsg te (gdName i))) := (ps_set hN hi hx he hs hf).weak fun D σ H q => by
  obtain ⟨F, G, δ, C, R, A, S, q, k⟩ := q
  exact ⟨F, G, δ, C, _, A, S, q, fun d C1 q1 v H1 G1 s1 A1 r1 => k.nx _ _ q1 _ H1 G1 s1 A1 (RpS.set r1 i (S.mono s1))⟩
end
structure DIt where
  go : Nat → Cells → Prop
  yld : Nat → Cells → D → Prop
  stop : Nat → Cells → Prop
abbrev DI := DSt → Cells → (DIt → Cells → Prop) → Prop
section
variable (K : PySem.W.Frag)
def ItOk (G : Hp) (J : DIt) (J' : It) : Prop := ∀ F i G2 H2 C2, Same G G2 → Ab K F G2 H2 C2 →
  (J.go i C2 → J'.go i H2 ∧ ∀ x H3, J'.yld i H2 x H3 → ∃ G3 d, Same G2 G3 ∧ Ab K F G3 H3 C2 ∧ J.yld i C2 d ∧ Rp K G3 d x) ∧ (J.stop i C2 → J'.stop i H2)
def liftI (t : DI) : TI := fun σ H Q => ∃ F G δ C R, Ab K F G H C ∧ RpS K G δ σ ∧ t δ C R ∧ ∀ J C', R J C' → ∀ J' H' G', Same G G' → Ab K F G' H' C' → ItOk K G' J J' → Q J' H'
end
theorem _root_.L2.PI.weak {X : Cx} {tg e : Expr} {t t' : TI} (h : PI X tg e t) (w : ∀ σ H Q, t' σ H Q → t σ H Q) : PI X tg e t' := ⟨fun pins s σ H Q I q => h.run pins s σ H Q I (w σ H Q q)⟩
def keyD : Key → D
  | .inl i => .int i
  | .inr x => .str x
/-- what stays is walked; a list that may change; a locked dict's keys -/
def itFix (ds : List D) : DIt := ⟨fun i _ => i < ds.length, fun i _ d => ds[i]? = some d, fun i _ => ds.length ≤ i⟩
def itLive (p : Addr) : DIt := ⟨fun i C => ∃ ds d, C p = some (.lst ds) ∧ ds[i]? = some d, fun i C d => ∃ ds, C p = some (.lst ds) ∧ ds[i]? = some d, fun i C => ∃ ds, C p = some (.lst ds) ∧ ds.length ≤ i⟩
def chars (z : Str) : List D := z.cps.toList.map fun c => .str ⟨#[c]⟩
def itOf (C : Cells) (x : D) : Option DIt := match x with
  | .str z => some (itFix (chars z))
  | .tup ds => some (itFix ds)
  | .lst ds => some (itFix ds)
  | .dct kvs => some (itFix (kvs.map fun kv => keyD kv.1))
  | .ref p => match C p with
    | some (.lst _) => some (itLive p)
    | _ => none
  | _ => none
def diSeq (te : DE) : DI := fun δ C R => te δ C fun x C1 => ∃ J, itOf C1 x = some J ∧ R J C1
/-- a list, a tuple or a text is walked -/
def iAny (K : PySem.W.Frag) (tl : TE) : TI := fun σ H R => tl σ H fun x H1 => (∃ a, x = .ref a ∧ (∃ xs, SqL K H1 a xs) ∧ R (Itl K a) H1) ∨ (∃ a, x = .ref a ∧ (∃ xs, SqT K H1 a xs) ∧ R (Itt K a) H1) ∨ (∃ d o kvs, x = .ref d ∧ H1 d = some (.frz o (.dK kvs)) ∧ R (Itk d o kvs) H1) ∨ ∃ z, x = .str z ∧ R (Its z) H1
section
variable {X : Cx} {tg e : Expr} {te : DE}
theorem pi_any {tl : TE} (hl : PE X e tl) : PI X tg e (iAny X.K tl) := by
  refine ⟨fun pins s σ H R I h => ?_⟩
  refine thn (hl.run pins s σ H _ I h) fun v s1 ⟨x, H1, I1, r1, q1⟩ => ?_
  rcases q1 with ⟨a, rfl, hq, q⟩ | ⟨a, rfl, hq, q⟩ | ⟨d, o, kvs, rfl, hd, q⟩ | ⟨z, rfl, q⟩
  · cases r1
    obtain ⟨xs, hq⟩ := hq
    obtain ⟨its, rv, p, hz⟩ := I1.list hq
    refine wpAny_pyIter_list p.isList ?_
    refine ⟨s1.heap.objs.size, [s1.heap.objs.size], _, _, H1, rfl, I1.kept (t' := s1.toks) fun b o e => Heap.get?_push_of_some _ e, turn_list a _, ⟨_, Heap.get?_push_size _ rfl, rfl, rfl⟩, fun b hb => ?_, q⟩
    have e : b = s1.heap.objs.size := by simpa using hb
    subst e
    exact I1.fpOk (Nat.le_refl _) (I1.hok.fresh (Nat.le_refl _))
  · cases r1
    obtain ⟨xs, hq⟩ := hq
    obtain ⟨its, rv, p, hz⟩ := I1.tuple hq
    refine wpAny_pyIter_tuple (show s1.heap.IsTuple a its.toArray from p) ?_
    refine ⟨s1.heap.objs.size, [s1.heap.objs.size], _, _, H1, rfl, I1.kept (t' := s1.toks) fun b o e => Heap.get?_push_of_some _ e, turn_tuple a _, ⟨_, Heap.get?_push_size _ rfl, rfl, rfl⟩, fun b hb => ?_, q⟩
    have e : b = s1.heap.objs.size := by simpa using hb
    subst e
    exact I1.fpOk (Nat.le_refl _) (I1.hok.fresh (Nat.le_refl _))
  · obtain rfl : v = Value.ref d := r1
    obtain ⟨hs, hgd, hx, es, ep, vs, hdt, hsz, kv, hm⟩ := I1.frzK hd
    refine iter_keys hs hgd hx hdt (pi_one (tk := s1.toks) I1 _ (turn_keys _ hdt) ⟨_, Heap.get?_push_size _ rfl, rfl, ?_⟩ q)
    rw [hsz] <;> rfl
  · obtain ⟨t, rfl⟩ := r1
    cases ha : z.cps.all (· < 128)
    · exact wpAny_pyIter_wide ha (pi_one (tk := s1.toks) I1 _ (turn_str _ z t "str_iterator" (.inr rfl)) ⟨_, Heap.get?_push_size _ rfl, rfl, rfl⟩ q)
    · exact wpAny_pyIter_ascii ha (pi_one (tk := s1.toks) I1 _ (turn_str _ z t "str_ascii_iterator" (.inl rfl)) ⟨_, Heap.get?_push_size _ rfl, rfl, rfl⟩ q)
theorem itok_live {K : PySem.W.Frag} {G : Hp} {a : Addr} : ItOk K G (itLive a) (Itl K a) := by
  intro F i G2 H2 C2 s2 A2
  refine ⟨?_, ?_⟩
  · rintro ⟨ds, d, e, ed⟩
    obtain ⟨b, as, eb, hb, rb⟩ := lst_at (d := .ref a) (v := .ref a) A2 (.ref a) (show (C2 a).bind cellLst = some ds by rw [e]; rfl)
    cases eb
    obtain ⟨v, hv, rv⟩ := rb.getD ed
    refine ⟨⟨as, v, .inl hb, hv⟩, ?_⟩
    rintro y H3 ⟨rfl, hy⟩
    have := hy as (.inl hb)
    rw [hv] at this
    cases this
    exact ⟨G2, d, Same.refl _, A2, ⟨ds, e, ed⟩, rv⟩
  · rintro ⟨ds, e, hl⟩
    obtain ⟨b, as, eb, hb, rb⟩ := lst_at (d := .ref a) (v := .ref a) A2 (.ref a) (show (C2 a).bind cellLst = some ds by rw [e]; rfl)
    cases eb
    exact ⟨as, .inl hb, by rw [← rb.length]; exact hl⟩
theorem itok_lst {K : PySem.W.Frag} {G : Hp} {ds : List D} {a : Addr} (r : Rp K G (.lst ds) (.ref a)) : ItOk K G (itFix ds) (Itl K a) := by
  intro F i G2 H2 C2 s2 A2
  cases r.mono s2 with
  | lst hx rx =>
    have hx := rd_mono A2.sub hx
    refine ⟨fun hi => ?_, fun hl => ⟨_, .inl hx, by rw [← rx.length]; exact hl⟩⟩
    obtain ⟨v, hv, rv⟩ := rx.getD (List.getElem?_eq_getElem hi)
    refine ⟨⟨_, v, .inl hx, hv⟩, ?_⟩
    rintro y H3 ⟨rfl, hy⟩
    have := hy _ (.inl hx)
    rw [hv] at this
    cases this
    exact ⟨G2, _, Same.refl _, A2, List.getElem?_eq_getElem hi, rv⟩
theorem itok_tup {K : PySem.W.Frag} {G : Hp} {ds : List D} {a : Addr} (r : Rp K G (.tup ds) (.ref a)) : ItOk K G (itFix ds) (Itt K a) := by
  intro F i G2 H2 C2 s2 A2
  cases r.mono s2 with
  | tup hx rx =>
    have hx := sqT_mono A2.sub hx
    refine ⟨fun hi => ?_, fun hl => ⟨_, hx, by rw [← rx.length]; exact hl⟩⟩
    obtain ⟨v, hv, rv⟩ := rx.getD (List.getElem?_eq_getElem hi)
    refine ⟨⟨_, v, hx, hv⟩, ?_⟩
    rintro y H3 ⟨rfl, hy⟩
    have := hy _ hx
    rw [hv] at this
    cases this
    exact ⟨G2, _, Same.refl _, A2, List.getElem?_eq_getElem hi, rv⟩
theorem itok_str {K : PySem.W.Frag} {G : Hp} {z : Str} : ItOk K G (itFix (chars z)) (Its z) := by
  intro F i G2 H2 C2 s2 A2
  have hlen : (chars z).length = z.cps.size := by unfold chars; simp
  refine ⟨fun hi => ?_, fun hl => ?_⟩
  · have hi : i < (chars z).length := hi
    refine ⟨show i < z.cps.size by omega, ?_⟩
    rintro y H3 ⟨rfl, c', hc', rfl⟩
    refine ⟨G2, .str ⟨#[c']⟩, Same.refl _, A2, ?_, .str _⟩
    show (chars z)[i]? = _
    unfold chars
    rw [List.getElem?_map]
    have : z.cps.toList[i]? = some c' := by simpa using hc'
    rw [this]; rfl
  · have hl : (chars z).length ≤ i := hl
    show z.cps.size ≤ i
    omega
theorem RpK.getD {K : PySem.W.Frag} {G : Hp} : ∀ {ds : List (Key × D)} {vs : List (Key × V)} {i : Nat} {k : Key} {v : V}, RpK K G ds vs → vs[i]? = some (k, v) → ∃ d, ds[i]? = some (k, d) ∧ Rp K G d v
  | _, _, i, _, _, .nil, e => by simp at e
  | _, _, 0, _, _, .cons r _, e => by simp at e; obtain ⟨rfl, rfl⟩ := e; exact ⟨_, rfl, r⟩
  | _, _, i + 1, _, _, .cons _ t, e => by
    obtain ⟨d, h1, h2⟩ := RpK.getD (i := i) t (by simpa using e)
    exact ⟨d, by simpa using h1, h2⟩
theorem rp_key {K : PySem.W.Frag} {G : Hp} (k : Key) : Rp K G (keyD k) (kV k) := by cases k <;> constructor
theorem itok_dct {K : PySem.W.Frag} {G : Hp} {kvs : List (Key × D)} {ks : List (Key × V)} {a : Addr} {o : Obj} (hx : G a = some (.frz o (.dK ks))) (rx : RpK K G kvs ks) : ItOk K G (itFix (kvs.map fun kv => keyD kv.1)) (Itk a o ks) := by
  intro F i G2 H2 C2 s2 A2
  have hx := A2.sub _ _ (s2 _ _ hx)
  refine ⟨fun hi => ?_, fun hl => ?_⟩
  · have hi : i < (kvs.map fun kv => keyD kv.1).length := hi
    rw [List.length_map, rx.length] at hi
    refine ⟨⟨hx, hi⟩, ?_⟩
    rintro y H3 ⟨rfl, k, v, hk, rfl⟩
    obtain ⟨d, h1, h2⟩ := rx.getD hk
    refine ⟨G2, keyD k, Same.refl _, A2, ?_, rp_key k⟩
    show (kvs.map fun kv => keyD kv.1)[i]? = _
    rw [List.getElem?_map, h1]; rfl
  · have hl : (kvs.map fun kv => keyD kv.1).length ≤ i := hl
    rw [List.length_map, rx.length] at hl
    exact ⟨hx, hl⟩
theorem di_seq (he : PE X e (liftE X.K te)) : PI X tg e (liftI X.K (diSeq te)) := by
  refine (pi_any he).weak ?_
  rintro σ H Q ⟨F, G, δ, C, R, A, S, q, k⟩
  refine ⟨F, G, δ, C, _, A, S, q, ?_⟩
  rintro x C1 ⟨J, hx, q1⟩ v H1 G1 s1 A1 r1
  unfold itOf at hx
  split at hx
  · cases hx
    exact .inr (.inr (.inr ⟨_, r1.strI, k _ _ q1 _ H1 G1 s1 A1 itok_str⟩))
  · cases hx
    cases r1 with
    | tup h1 h2 => exact .inr (.inl ⟨_, rfl, ⟨_, sqT_mono A1.sub h1⟩, k _ _ q1 _ H1 G1 s1 A1 (itok_tup (.tup h1 h2))⟩)
  · cases hx
    cases r1 with
    | lst h1 h2 => exact .inl ⟨_, rfl, ⟨_, .inl (rd_mono A1.sub h1)⟩, k _ _ q1 _ H1 G1 s1 A1 (itok_lst (.lst h1 h2))⟩
  · cases hx
    cases r1 with
    | dct h1 h2 => exact .inr (.inr (.inl ⟨_, _, _, rfl, A1.sub _ _ h1, k _ _ q1 _ H1 G1 s1 A1 (itok_dct h1 h2)⟩))
  · rename_i p
    split at hx
    · rename_i ds hc
      cases hx
      cases r1
      obtain ⟨b, as, eb, hb, rb⟩ := lst_at (d := .ref p) (v := .ref p) A1 (.ref p) (show (C1 p).bind cellLst = some ds by rw [hc]; rfl)
      cases eb
      exact .inl ⟨_, rfl, ⟨as, .inl hb⟩, k _ _ q1 _ H1 G1 s1 A1 itok_live⟩
    · cases hx
  · cases hx
/-- range(n), range(a, b) -/
def itRng (lo : Int) (n : Nat) : DIt := ⟨fun i _ => i < n, fun i _ d => d = .int (lo + i), fun i _ => n ≤ i⟩
def diRng1 (ta : DA) : DI := fun δ C R => ta δ C fun xs C1 => ∃ j : Int, xs = [.int j] ∧ -(2 ^ 62) ≤ j ∧ j < 2 ^ 62 ∧ R (itRng 0 j.toNat) C1
def diRng2 (ta : DA) : DI := fun δ C R => ta δ C fun xs C1 => ∃ i j : Int, xs = [.int i, .int j] ∧ (-(2 ^ 62) ≤ i ∧ i < 2 ^ 62 ∧ -(2 ^ 62) ≤ j ∧ j < 2 ^ 62) ∧ R (itRng i (j - i).toNat) C1
theorem itok_rng {K : PySem.W.Frag} {G : Hp} {lo : Int} {n : Nat} : ItOk K G (itRng lo n) (Itr lo n) := by
  intro F i G2 H2 C2 s2 A2
  refine ⟨fun h => ⟨h, ?_⟩, fun h => h⟩
  rintro y H3 ⟨rfl, rfl⟩
  exact ⟨G2, _, Same.refl _, A2, rfl, .int _⟩
theorem di_range1 {a : Expr} {ta : DA} {p pos : Pos} (hg : Gl X "range") (hm : X.mg "range" = none) (ha : PA X [a] (liftA X.K ta)) (hs : starEach [a] X.env = [(false, eval a X.env)] := by rfl) : PI X tg (.Call (.Name "range" p) [a] [] pos) (liftI X.K (diRng1 ta)) :=
  (pi_range1 hg hm ha hs).weak fun σ H Q ⟨F, G, δ, C, R, A, S, q, k⟩ => ⟨F, G, δ, C, _, A, S, q, by
    rintro xs C1 ⟨j, rfl, h1, h2, q1⟩ vs H1 G1 s1 A1 r1
    obtain ⟨v, rfl, r⟩ := r1.one
    cases r
    exact ⟨j, rfl, h1, h2, k _ _ q1 _ H1 G1 s1 A1 itok_rng⟩⟩
end
def dFor (wi : DI) (g : DG) (tb : DS) : DS := fun D δ C => wi δ C fun J C1 => ∃ W : Nat → Nat → DSt → Cells → Prop, (∃ m, W 0 m δ C1) ∧ ∀ i m δ C, W i m δ C →
  (J.stop i C ∧ D.nx δ C) ∨ (J.go i C ∧ ∃ N : DSt → Cells → Prop, (∀ δ' C', N δ' C' → ∃ m', m' < m ∧ W (i + 1) m' δ' C') ∧ ∀ d, J.yld i C d → g d δ C fun δ2 C2 => tb { D with nx := N, ct := N, bk := D.nx } δ2 C2)
section
variable {X : Cx}
theorem ds_for {tg iter : Expr} {body : List Stmt} {wi : DI} {g : DG} {tb : DS} {pos : Pos} (hp : PassesOwn (model X.prog X.w) X.A X.env X.xe) (hc : X.calm = true) (hi : PI X tg iter (liftI X.K wi)) (hg : PG X tg (liftG X.K g)) (hb : PSs X body (liftS X.K tb))
    (hs : ∀ x, foldedSetIterable iter X.env x = pure x := by intro _; rfl) : PS X (.For tg iter body [] pos) (liftS X.K (dFor wi g tb)) := by
  refine (ps_for hp hc hi hg hb hs).weak ?_
  rintro D σ H ⟨F, G, δ, C, R, A, S, q, k⟩
  refine ⟨F, G, δ, C, _, A, S, q, ?_⟩
  rintro J C1 ⟨W, ⟨m0, w0⟩, step⟩ J' H1 G1 s1 A1 ok
  refine ⟨fun i m σ H => ∃ G2 δ C, Same G1 G2 ∧ Ab X.K F G2 H C ∧ RpS X.K G2 δ σ ∧ W i m δ C, ⟨m0, G1, δ, C1, Same.refl _, A1, S.mono s1, w0⟩, ?_⟩
  rintro i m σ2 H2 ⟨G2, δ2, C2, s2, A2, S2, w2⟩
  obtain ⟨o1, o2⟩ := ok F i G2 H2 C2 s2 A2
  rcases step i m δ2 C2 w2 with ⟨st, qn⟩ | ⟨go, N, hN, body⟩
  · exact .inl ⟨o2 st, k.nx _ _ qn σ2 H2 G2 (s1.trans s2) A2 S2⟩
  · obtain ⟨go', yl⟩ := o1 go
    refine .inr ⟨go', fun σ H => ∃ G3 δ C, Same G1 G3 ∧ Ab X.K F G3 H C ∧ RpS X.K G3 δ σ ∧ N δ C, ?_, ?_⟩
    · rintro σ' H' ⟨G3, δ', C', s3, A3, S3, n3⟩
      obtain ⟨m', hm, w3⟩ := hN δ' C' n3
      exact ⟨m', hm, G3, δ', C', s3, A3, S3, w3⟩
    · intro x H' y
      obtain ⟨G3, d, s3, A3, yd, rd⟩ := yl x H' y
      refine ⟨F, G3, δ2, C2, d, _, A3, S2.mono s3, rd, body d yd, ?_⟩
      intro δ4 C4 q4 σ4 H4 G4 s4 A4 S4
      refine ⟨F, G4, δ4, C4, _, A4, S4, q4, ⟨?_, k.rt.mono (s1.trans (s2.trans (s3.trans s4))), k.nx.mono (s1.trans (s2.trans (s3.trans s4))), ?_⟩⟩
      · intro δ5 C5 q5 σ5 H5 G5 s5 A5 S5
        exact ⟨G5, δ5, C5, s2.trans (s3.trans (s4.trans s5)), A5, S5, q5⟩
      · intro δ5 C5 q5 σ5 H5 G5 s5 A5 S5
        exact ⟨G5, δ5, C5, s2.trans (s3.trans (s4.trans s5)), A5, S5, q5⟩
def wipeD (δ : DSt) : List Nat → DSt
  | [] => δ
  | v :: vs => (wipeD δ vs).set v none
theorem RpS.setN {K : PySem.W.Frag} {G : Hp} : ∀ {δ : DSt} {σ : St} (i : Nat), RpS K G δ σ → ∀ o, RpS K G (δ.set i Option.none) (σ.set i o)
  | _, _, _, .nil, _ => .nil
  | _, _, 0, .some _ t, _ => .none t
  | _, _, 0, .none t, _ => .none t
  | _, _, i + 1, .some r t, o => .some r (RpS.setN i t o)
  | _, _, i + 1, .none t, o => .none (RpS.setN i t o)
theorem RpS.wipe {K : PySem.W.Frag} {G : Hp} {δ : DSt} {σ : St} (r : RpS K G δ σ) : ∀ vs, RpS K G (wipeD δ vs) (L2.wipe σ vs)
  | [] => r
  | v :: vs => RpS.setN v (RpS.wipe r vs) Option.none
end
end DL
namespace DL
open PySem PySem.Spec L2
open PyProof.Rows hiding St
theorem wipe_at (σ : St) : ∀ (vs : List Nat) (k : Nat), (L2.wipe σ vs)[k]? = if k ∈ vs ∧ k < σ.length then some none else σ[k]?
  | [], k => by simp [L2.wipe]
  | v :: vs, k => by
    unfold L2.wipe
    rw [List.getElem?_set, wipe_at σ vs k, L2.wipe_length]
    by_cases hk : v = k
    · subst hk
      simp only [List.mem_cons, true_or, true_and, if_true]
      by_cases hl : v < σ.length
      · rw [if_pos hl, if_pos hl]
      · rw [if_neg hl, if_neg hl, List.getElem?_eq_none_iff.mpr (by omega)]
    · rw [if_neg hk]
      simp only [List.mem_cons, Ne.symm hk, false_or]
theorem wipe_back {σ σ' : St} {vs : List Nat} (hl : σ'.length = (L2.wipe σ vs).length) (h : ∀ k, k ∉ vs → σ'[k]? = (L2.wipe σ vs)[k]?) : L2.wipe σ' vs = L2.wipe σ vs := by
  apply List.ext_getElem?
  intro k
  rw [wipe_at σ' vs k, hl, L2.wipe_length]
  by_cases hk : k ∈ vs
  · rw [wipe_at]
    by_cases hlt : k < σ.length
    · rw [if_pos ⟨hk, hlt⟩, if_pos ⟨hk, hlt⟩]
    · rw [if_neg (fun z => hlt z.2), if_neg (fun z => hlt z.2), List.getElem?_eq_none_iff.mpr (by rw [hl, L2.wipe_length]; omega), List.getElem?_eq_none_iff.mpr (by omega)]
  · rw [if_neg (fun z => hk z.1)]
    exact h k hk
/-- a target over HandS and over data: which slots it sets -/
def TgOk (K : PySem.W.Frag) (vs : List Nat) (g : TG) (gd : DG) : Prop := ∀ F G H C d v δ σ R Q, Ab K F G H C → RpS K G δ σ → Rp K G d v → gd d δ C R →
  (∀ δ' σ', σ'.length = σ.length → (∀ k, k ∉ vs → σ'[k]? = σ[k]?) → RpS K G δ' σ' → R δ' C → Q σ' H) → g v σ H Q
def TgsOk (K : PySem.W.Frag) (vs : List Nat) (g : TGs) (gd : DGs) : Prop := ∀ F G H C ds us δ σ R Q, Ab K F G H C → RpS K G δ σ → RpL K G ds us → gd ds δ C R →
  (∀ δ' σ', σ'.length = σ.length → (∀ k, k ∉ vs → σ'[k]? = σ[k]?) → RpS K G δ' σ' → R δ' C → Q σ' H) → g us σ H Q
section
variable {K : PySem.W.Frag} {vs : List Nat}
theorem tg_name {i : Nat} (hi : i ∈ vs := by decide) : TgOk K vs (gName i) (gdName i) := by
  intro F G H C d v δ σ R Q A S r q k
  exact k _ _ (List.length_set ..) (fun j hj => by rw [List.getElem?_set_ne (by rintro rfl; exact hj hi)]) (RpS.set r i S) q
theorem tgs_nil : TgsOk K vs gNil gdNil := by
  intro F G H C ds us δ σ R Q A S r q k
  obtain ⟨rfl, q⟩ := q
  cases r
  exact ⟨rfl, k _ _ rfl (fun _ _ => rfl) S q⟩
theorem tgs_cons {g : TG} {gd : DG} {gs : TGs} {gds : DGs} (h : TgOk K vs g gd) (hs : TgsOk K vs gs gds) : TgsOk K vs (gCons g gs) (gdCons gd gds) := by
  intro F G H C ds us δ σ R Q A S r q k
  obtain ⟨d, dr, rfl, q⟩ := q
  cases r with
  | cons r1 r2 =>
    refine ⟨_, _, rfl, h F G H C d _ δ σ _ _ A S r1 q fun δ' σ' l1 k1 S1 q1 => ?_⟩
    exact hs F G H C dr _ δ' σ' R Q A S1 r2 q1 fun δ2 σ2 l2 k2 S2 q2 => k δ2 σ2 (l2.trans l1) (fun j hj => (k2 j hj).trans (k1 j hj)) S2 q2
end
section
variable {K : PySem.W.Frag} {G H : Hp} {F C : Cells} {p : Addr} {c c' : Cell} {u : HO}
/-- a new cell of the frame -/
theorem Ab.frNew (A : Ab K F G H C) (h : H p = none) (ok : HoOk K G p c u) : Ab K (updC F p c) G (upd H p u) C := by
  have h1 := (A.cellNew h ok).hide (p := p) (c := c) updC_same
  rw [delC_upd (A.free h)] at h1
  exact h1
/-- a cell of the frame is written -/
theorem Ab.frWrite (A : Ab K (updC F p c) G H C) (h : F p = none) (ok : HoOk K G p c' u) : Ab K (updC F p c') G (upd H p u) C := by
  obtain ⟨A1, hc⟩ := A.show h
  have h1 := (A1.write (c0 := c) updC_same ok).hide (p := p) (c := c') updC_same
  rw [updC_upd, delC_upd hc] at h1
  exact h1
/-- a cell of the frame is let go -/
theorem Ab.frFreeze (A : Ab K (updC F p c) G H C) (h : F p = none) : ∃ u, H p = some u ∧ HoOk K G p c u ∧ Same G (upd G p u) ∧ Ab K F (upd G p u) H C := by
  obtain ⟨A1, hc⟩ := A.show h
  obtain ⟨u, h1, h2, h3, h4⟩ := A1.freeze (p := p) (c := c) updC_same
  rw [delC_upd hc] at h4
  exact ⟨u, h1, h2, h3, h4⟩
end
def dLcW (fin : List D → Cells → Prop) (J : DIt) (C1 : Cells) (gd : DG) (tt : DT) (te : DE) (δ : DSt) : Prop :=
  ∃ W : Nat → Nat → List D → Cells → Prop, (∃ m, W 0 m [] C1) ∧ ∀ i m acc C, W i m acc C → (J.stop i C ∧ fin acc C) ∨ (J.go i C ∧ ∃ N : List D → Cells → Prop, (∀ acc' C', N acc' C' → ∃ m', m' < m ∧ W (i + 1) m' acc' C') ∧
    ∀ d, J.yld i C d → gd d δ C fun δ2 C2 => tt δ2 C2 fun b C3 => if b = true then te δ2 C3 fun y C4 => acc.length < sizeLine ∧ N (acc ++ [y]) C4 else N acc C3)
/-- a list that is never written -/
def dLc (wi : DI) (gd : DG) (tt : DT) (te : DE) (vs : List Nat) : DE := fun δ C R => wi δ C fun J C1 => dLcW (fun acc C => R (.lst acc) C) J C1 gd tt te (wipeD δ vs)
/-- one that may be -/
def dLcC (wi : DI) (gd : DG) (tt : DT) (te : DE) (vs : List Nat) : DE := fun δ C R => wi δ C fun J C1 => dLcW (fun acc C => ∀ p, C p = none → R (.ref p) (updC C p (.lst acc))) J C1 gd tt te (wipeD δ vs)
def dYes : DT := fun _ C R => R true C
theorem _root_.L2.PTs.weak {X : Cx} {e : List Expr} {t t' : TT} (h : PTs X e t) (w : ∀ σ H Q, t' σ H Q → t σ H Q) : PTs X e t' := ⟨fun pins s σ H Q I q => h.run pins s σ H Q I (w σ H Q q)⟩
theorem dts_nil {X : Cx} : PTs X [] (liftT X.K dYes) := pts_nil.weak fun σ H Q ⟨F, G, δ, C, R, A, S, q, k⟩ => k _ _ q H G (Same.refl G) A
theorem dts_one {X : Cx} {c : Expr} {t : DT} (h : PT X c (liftT X.K t)) : PTs X [c] (liftT X.K t) := pts_one h
theorem lift_lcg {K : PySem.W.Frag} {wi : DI} {g : TG} {gd : DG} {tt : DT} {te : DE} {vs : List Nat} (tg : TgOk K vs g gd) {fin : (D → Cells → Prop) → List D → Cells → Prop}
    (hf : ∀ {F : Cells} {G G1 H : Hp} {C : Cells} {R : D → Cells → Prop} {Q : VK} {acc : List D} {p : Addr}, ToE K F G R Q → Same G G1 → Ab K (updC F p (.lst acc)) G1 H C → F p = none → fin R acc C → Q (.ref p) H) :
    ∀ σ H Q, liftE K (fun δ C R => wi δ C fun J C1 => dLcW (fin R) J C1 gd tt te (wipeD δ vs)) σ H Q → tLc (liftI K wi) g (liftT K tt) (liftE K te) vs σ H Q := by
  rintro σ H Q ⟨F, G, δ, C, R, A, S, q, k⟩
  refine ⟨F, G, δ, C, _, A, S, q, ?_⟩
  rintro J C1 ⟨W, ⟨m0, w0⟩, step⟩ J' H1 G1 s1 A1 ok Dd hD
  have hF : F Dd = none := A1.freeF hD
  refine ⟨fun i m H => ∃ G2 acc C, Same G1 G2 ∧ Ab K (updC F Dd (.lst acc)) G2 H C ∧ W i m acc C, ⟨m0, G1, [], C1, Same.refl _, A1.frNew hD (.lst .nil), w0⟩, ?_⟩
  rintro i m H2 ⟨G2, acc, C2, s2, A2, w2⟩
  obtain ⟨o1, o2⟩ := ok _ i G2 H2 C2 s2 A2
  rcases step i m acc C2 w2 with ⟨st, qn⟩ | ⟨go, N, hN, body⟩
  · exact .inl ⟨o2 st, hf k (s1.trans s2) A2 hF qn⟩
  · obtain ⟨go', yl⟩ := o1 go
    refine .inr ⟨go', fun H => ∃ G3 acc C, Same G1 G3 ∧ Ab K (updC F Dd (.lst acc)) G3 H C ∧ N acc C, ?_, ?_⟩
    · rintro H' ⟨G3, acc', C', s3, A3, n3⟩
      obtain ⟨m', hm, w3⟩ := hN acc' C' n3
      exact ⟨m', hm, G3, acc', C', s3, A3, w3⟩
    · intro x H' y
      obtain ⟨G3, d, s3, A3, yd, rd⟩ := yl x H' y
      refine tg _ G3 H' C2 d x (wipeD δ vs) (L2.wipe σ vs) _ _ A3 ((S.wipe vs).mono (s1.trans (s2.trans s3))) rd (body d yd) fun δ4 σ4 l4 k4 S4 q4 => ⟨wipe_back l4 k4, ?_⟩
      refine ⟨_, G3, δ4, C2, _, A3, S4, q4, fun b C5 q5 H5 G5 s5 A5 => ?_⟩
      cases b with
      | false =>
        rw [if_neg Bool.false_ne_true] at q5 ⊢
        exact ⟨G5, acc, C5, s2.trans (s3.trans s5), A5, q5⟩
      | true =>
        rw [if_pos rfl] at q5 ⊢
        refine ⟨_, G5, δ4, C5, _, A5, S4.mono s5, q5, ?_⟩
        rintro y' C6 ⟨hl, n6⟩ v6 H6 G6 s6 A6 r6
        obtain ⟨_, _, u, hu, hk⟩ := A6.fr Dd _ updC_same
        cases hk
        rename_i xs rxs
        refine ⟨xs, hu, by rw [← rxs.length]; exact hl, G6, acc ++ [y'], C6, s2.trans (s3.trans (s5.trans s6)), A6.frWrite hF (.lst (rxs.append (.cons r6 .nil))), n6⟩
section
variable {X : Cx} {elt tg iter : Expr} {ifs : List Expr} {scope : Scope} {own : List (Str × Nat)} {pos : Pos} {wi : DI} {g : TG} {gd : DG} {tt : DT} {te : DE}
theorem fin_lst {K : PySem.W.Frag} {F : Cells} {G G1 H : Hp} {C : Cells} {R : D → Cells → Prop} {Q : VK} {acc : List D} {p : Addr} (k : ToE K F G R Q) (s : Same G G1) (A : Ab K (updC F p (.lst acc)) G1 H C) (h : F p = none) (q : R (.lst acc) C) : Q (.ref p) H := by
  obtain ⟨u, h1, h2, h3, h4⟩ := A.frFreeze h
  cases h2
  rename_i xs r
  exact k _ _ q _ H _ (s.trans h3) h4 (.lst (.inl upd_same) (r.mono h3))
theorem de_lc (hc : X.calm = true) (hN : X.N.Nodup) (tgo : TgOk X.K (own.map (·.2)) g gd) (hi : PI X tg iter (liftI X.K wi)) (ok : BlkOk X.N X.env.scope scope own)
    (hg : ∀ (s : Shared) (H : Hp) (C : Addr) (cl : List (Str × Addr)) (fp : List Addr), PG (X.blk s H scope (compEnvC scope cl C X.env) fp) tg g) (ht : ∀ (s : Shared) (H : Hp) (C : Addr) (cl : List (Str × Addr)) (fp : List Addr), PTs (X.blk s H scope (compEnvC scope cl C X.env) fp) ifs (liftT X.K tt))
    (he : ∀ (s : Shared) (H : Hp) (C : Addr) (cl : List (Str × Addr)) (fp : List Addr), PE (X.blk s H scope (compEnvC scope cl C X.env) fp) elt (liftE X.K te)) (hs : ∀ x, foldedSetIterable iter X.env x = pure x := by intro _; rfl) :
    PE X (.ListComp elt [⟨tg, iter, ifs, 0⟩] scope pos) (liftE X.K (dLc wi gd tt te (own.map (·.2)))) :=
  (pe_lc hc hN hi ok hg ht he hs).weak (lift_lcg (fin := fun R acc C => R (.lst acc) C) tgo fin_lst)
/-- name = [..] on one line -/
theorem ds_setLcg {i : Nat} {y : Str} {py spos : Pos} {fin : (D → Cells → Prop) → List D → Cells → Prop}
    (hf : ∀ {F : Cells} {G G1 H : Hp} {C : Cells} {R : D → Cells → Prop} {Q : VK} {acc : List D} {p : Addr}, ToE X.K F G R Q → Same G G1 → Ab X.K (updC F p (.lst acc)) G1 H C → F p = none → fin R acc C → Q (.ref p) H)
    (hc : X.calm = true) (hN : X.N.Nodup) (hy : X.N[i]? = some y) (hyl : X.env.scope.names.lookup y = some .local)
    (hsw : swapsWith (.ListComp elt [⟨tg, iter, ifs, 0⟩] scope pos) (some (.Name y py)) spos.line X.env = pure true) (tgo : TgOk X.K (own.map (·.2)) g gd) (hi : PI X tg iter (liftI X.K wi)) (ok : BlkOk X.N X.env.scope scope own)
    (hg : ∀ (s : Shared) (H : Hp) (C : Addr) (cl : List (Str × Addr)) (fp : List Addr), PG (X.blk s H scope (compEnvC scope cl C X.env) fp) tg g) (ht : ∀ (s : Shared) (H : Hp) (C : Addr) (cl : List (Str × Addr)) (fp : List Addr), PTs (X.blk s H scope (compEnvC scope cl C X.env) fp) ifs (liftT X.K tt))
    (he : ∀ (s : Shared) (H : Hp) (C : Addr) (cl : List (Str × Addr)) (fp : List Addr), PE (X.blk s H scope (compEnvC scope cl C X.env) fp) elt (liftE X.K te)) (hs : ∀ x, foldedSetIterable iter X.env x = pure x := by intro _; rfl) :
    PS X (.Assign [.Name y py] (.ListComp elt [⟨tg, iter, ifs, 0⟩] scope pos) spos) (liftS X.K (dAsg (fun δ C R => wi δ C fun J C1 => dLcW (fin R) J C1 gd tt te (wipeD δ (own.map (·.2)))) (gdName i))) := by
  refine (ps_setLc hc hN hy hyl hsw hi ok hg ht he hs).weak ?_
  rintro D σ H ⟨F, G, δ, C, R, A, S, q, k⟩
  exact lift_lcg tgo hf σ H _ ⟨F, G, δ, C, _, A, S, q, fun d C1 q1 v H1 G1 s1 A1 r1 => k.nx _ _ q1 _ H1 G1 s1 A1 (RpS.set r1 i (S.mono s1))⟩
theorem ds_setLc {i : Nat} {y : Str} {py spos : Pos}
    (hc : X.calm = true) (hN : X.N.Nodup) (hy : X.N[i]? = some y) (hyl : X.env.scope.names.lookup y = some .local)
    (hsw : swapsWith (.ListComp elt [⟨tg, iter, ifs, 0⟩] scope pos) (some (.Name y py)) spos.line X.env = pure true) (tgo : TgOk X.K (own.map (·.2)) g gd) (hi : PI X tg iter (liftI X.K wi)) (ok : BlkOk X.N X.env.scope scope own)
    (hg : ∀ (s : Shared) (H : Hp) (C : Addr) (cl : List (Str × Addr)) (fp : List Addr), PG (X.blk s H scope (compEnvC scope cl C X.env) fp) tg g) (ht : ∀ (s : Shared) (H : Hp) (C : Addr) (cl : List (Str × Addr)) (fp : List Addr), PTs (X.blk s H scope (compEnvC scope cl C X.env) fp) ifs (liftT X.K tt))
    (he : ∀ (s : Shared) (H : Hp) (C : Addr) (cl : List (Str × Addr)) (fp : List Addr), PE (X.blk s H scope (compEnvC scope cl C X.env) fp) elt (liftE X.K te)) (hs : ∀ x, foldedSetIterable iter X.env x = pure x := by intro _; rfl) :
    PS X (.Assign [.Name y py] (.ListComp elt [⟨tg, iter, ifs, 0⟩] scope pos) spos) (liftS X.K (dAsg (dLc wi gd tt te (own.map (·.2))) (gdName i))) :=
  ds_setLcg (fin := fun R acc C => R (.lst acc) C) fin_lst hc hN hy hyl hsw tgo hi ok hg ht he hs
end
end DL
namespace DL
open PySem PySem.Spec L2
open PyProof.Rows hiding St
/-- what a def promises over data -/
abbrev ASp := List D → Cells → (D → Cells → Prop) → Prop
def liftF (K : PySem.W.Frag) (a : ASp) : Sp := fun vs H Q _ => ∃ F G ds C R, Ab K F G H C ∧ RpL K G ds vs ∧ a ds C R ∧ ToE K F G R Q
def dstart (N : List Str) (ds : List D) : DSt := ds.map some ++ List.replicate (N.length - ds.length) none
section
variable {P : Program} {w : World} {K : PySem.W.Frag} {mg : Str → Option Value} {base : Heap}
/-- THE RULE for a def over data -/
theorem fnD {x qual : Str} {st : Stmt} {f : Addr} {fd : FuncData} {N ps : List Str} {k : Nat} {a : ASp} (F : Fun K x qual st f fd) (S : FnScope N ps (defScope st)) (len : ∀ ds C R, a ds C R → ds.length = ps.length)
    (hbody : ∀ (cdv : Value) (A : Around) (outer : List Env) (s : Shared) (H : Hp) (E : XK), Room k (A.deeper (envOfC qual (defScope st) s.heap.objs.size f cdv)) →
      ∃ t : DS, PSs (cxOf CX0 P w K mg base N qual (defScope st) f cdv A outer s H E).nox (defBody st) (liftS K t) ∧ ∀ ds C R, a ds C R → t { nx := fun _ C' => R .non C', rt := R } (dstart N ds) C) :
    FnOk P w K mg base CX0 (k + 1) f fd ps (liftF K a) := by
  refine F.ok S (fun vs H Q E h => ?_) (fun cdv A outer s H vs Q E hr h => ?_)
  · obtain ⟨F, G, ds, C, R, Ab0, r, h, k⟩ := h
    rw [← r.length]
    exact len ds C R h
  · obtain ⟨F, G, ds, C, R, A0, r, h, k⟩ := h
    obtain ⟨t, ht, hq⟩ := hbody cdv A outer s H E hr
    refine ⟨_, ht, F, G, dstart N ds, C, _, A0, ?_, hq ds C R h, ⟨?_, ?_, ?_, ?_⟩⟩
    · unfold dstart L2.start
      rw [← r.length]
      exact RpS.start r _
    · intro δ C' q σ H' G' s' A' S'
      exact k _ _ q _ H' G' s' A' .non
    · exact k
    · intro δ C' q
      exact q.elim
    · intro δ C' q
      exact q.elim
end
/-- .. where cells that the def made are forgotten behind it -/
def lss (R : D → Cells → Prop) : D → Cells → Prop := fun d C => ∃ C', (∀ a c, C' a = some c → C a = some c) ∧ R d C'
theorem lss_of {R : D → Cells → Prop} {d : D} {C : Cells} (h : R d C) : lss R d C := ⟨C, fun _ _ e => e, h⟩
theorem lss_upd {R : D → Cells → Prop} {d : D} {C : Cells} {p : Addr} {c : Cell} (hp : C p = none) (h : R d C) : lss R d (updC C p c) := ⟨C, fun a x e => by
  by_cases ha : a = p
  · subst ha; rw [hp] at e; cases e
  · rw [updC_ne ha]; exact e, h⟩
section
variable {P : Program} {w : World} {K : PySem.W.Frag} {mg : Str → Option Value} {base : Heap}
theorem fnDL {x qual : Str} {st : Stmt} {f : Addr} {fd : FuncData} {N ps : List Str} {k : Nat} {a : ASp} (F : Fun K x qual st f fd) (S : FnScope N ps (defScope st)) (len : ∀ ds C R, a ds C R → ds.length = ps.length)
    (hbody : ∀ (cdv : Value) (A : Around) (outer : List Env) (s : Shared) (H : Hp) (E : XK), Room k (A.deeper (envOfC qual (defScope st) s.heap.objs.size f cdv)) →
      ∃ t : DS, PSs (cxOf CX0 P w K mg base N qual (defScope st) f cdv A outer s H E).nox (defBody st) (liftS K t) ∧ ∀ ds C R, a ds C R → t { nx := fun _ C' => lss R .non C', rt := lss R } (dstart N ds) C) :
    FnOk P w K mg base CX0 (k + 1) f fd ps (liftF K a) := by
  have h : FnOk P w K mg base CX0 (k + 1) f fd ps (liftF K fun ds C R => ∃ R', R = lss R' ∧ a ds C R') := by
    refine fnD F S (fun ds C R ⟨R', _, q⟩ => len ds C R' q) fun cdv A outer s H E hr => ?_
    obtain ⟨t, h1, h2⟩ := hbody cdv A outer s H E hr
    exact ⟨t, h1, fun ds C R ⟨R', e, q⟩ => by subst e; exact h2 ds C R' q⟩
  refine h.imp ?_
  rintro vs H Q E ⟨F, G, ds, C, R, A, r, q, k⟩
  refine ⟨F, G, ds, C, lss R, A, r, ⟨R, rfl, q⟩, ?_⟩
  rintro d C1 ⟨C2, hs, q2⟩ v H' G' s' A' r'
  exact k d C2 q2 v H' G' s' (A'.less hs) r'
end
def dCall (a : ASp) (dvs : List D) (t : DA) : DE := fun δ C R => t δ C fun ds C1 => a (ds ++ dvs) C1 R
section
variable {X : Cx} {CX : CXT} {k : Nat} {f : Addr} {fd : FuncData} {ps : List Str} {a : ASp} {ds : List Value} {E : XK} {x : Str} {p pos : Pos} {e : Expr} {es : List Expr} {t : DA}
theorem de_call (Fk : FnOk X.prog X.w X.K X.mg X.base CX0 k f fd ps (liftF X.K a)) (hr : Room k X.A) (hg : Gl X x) (hm : X.mg x = some (.ref f)) (hk : PySem.W.keepIn X.K (.ref f) = true) (hb : Binds X.K fd ps [])
    (ha : PA X (e :: es) (liftA X.K t)) (hdb : (x == ("__debug__" : Str)) = false := by decide) (he : starEach (e :: es) X.env = (false, eval e X.env) :: starEach es X.env := by rfl) (hpl : (backTo pos (starEach es X.env)).any (·.1) = false := by rfl) :
    PE X (.Call (.Name x p) (e :: es) [] pos) (liftE X.K (dCall a [] t)) :=
  (pe_call Fk hr hg hm hk hb .nil pass0 ha hdb he hpl).weak fun σ H Q ⟨F, G, δ, C, R, A, S, q, k⟩ => ⟨F, G, δ, C, _, A, S, q, fun ds C1 q1 vs H1 G1 s1 A1 r1 => by
    rw [List.append_nil] at q1 ⊢
    exact ⟨F, G1, ds, C1, R, A1, r1, q1, k.mono s1⟩⟩
end
/-- what a class's def is, by a whole program's facts: the def stands at f, its name is bound to it -/
structure Df (K : PySem.W.Frag) (mg : Str → Option Value) (x : Str) (f : Addr) (fd : FuncData) (ps : List Str) : Prop where
  mg : mg x = some (.ref f)
  kp : PySem.W.keepIn K (.ref f) = true
  bd : Binds K fd ps []
section
variable {X : Cx} {k : Nat} {f : Addr} {fd : FuncData} {ps : List Str} {a : ASp} {x : Str} {p pos : Pos} {e : Expr} {es : List Expr} {t : DA}
theorem de_cf (d : Df X.K X.mg x f fd ps) (Fk : FnOk X.prog X.w X.K X.mg X.base CX0 k f fd ps (liftF X.K a)) (hr : Room k X.A) (hg : Gl X x)
    (ha : PA X (e :: es) (liftA X.K t)) (hdb : (x == ("__debug__" : Str)) = false := by decide) (he : starEach (e :: es) X.env = (false, eval e X.env) :: starEach es X.env := by rfl) (hpl : (backTo pos (starEach es X.env)).any (·.1) = false := by rfl) :
    PE X (.Call (.Name x p) (e :: es) [] pos) (liftE X.K (dCall a [] t)) := de_call Fk hr hg d.mg d.kp d.bd ha hdb he hpl
end
end DL
namespace DL
open PySem PySem.Spec L2
open PyProof.Rows hiding St
/-- o.m(args): the receiver a cell (or what stays) -/
abbrev DOm := D → List D → Cells → (D → Cells → Prop) → Prop
def isLst (C : Cells) (x : D) : Prop := (lstOf C x).isSome = true
def dMtL (o : DOm) (to : DE) (t : DA) : DE := fun δ C R => to δ C fun x C1 => isLst C1 x ∧ t δ C1 fun xs C2 => o x xs C2 R
def LOm (K : PySem.W.Frag) (r : V → List V → Hp → VK → Prop) (o : DOm) : Prop := ∀ F G H C x v xs vs R Q, Ab K F G H C → Rp K G x v → RpL K G xs vs → o x xs C R → ToE K F G R Q → r v vs H Q
theorem lift_mtL {K : PySem.W.Frag} {r : V → List V → Hp → VK → Prop} {o : DOm} {to : DE} {t : DA} (h : LOm K r o) : ∀ σ H Q, liftE K (dMtL o to t) σ H Q → tBM K "list" r (liftE K to) (liftA K t) σ H Q := by
  rintro σ H Q ⟨F, G, δ, C, R, A, S, q, k⟩
  refine ⟨F, G, δ, C, _, A, S, q, ?_⟩
  rintro x C1 ⟨hx, q1⟩ v H1 G1 s1 A1 r1
  obtain ⟨ds, hx⟩ := Option.isSome_iff_exists.mp hx
  obtain ⟨a, as, rfl, ha, ra⟩ := lst_at A1 r1 hx
  refine ⟨.inl ⟨rfl, as, .inl ha⟩, F, G1, δ, C1, _, A1, S.mono s1, q1, fun xs C2 q2 vs H2 G2 s2 A2 r2 => ?_⟩
  exact h F G2 H2 C2 x _ xs vs R Q A2 (r1.mono s2) r2 q2 (k.mono (s1.trans s2))
structure MtD (X : Cx) (id : String) (o : DOm) : Prop where
  ex : ∃ r, MtR X id r ∧ LOm X.K r o
section
variable {X : Cx} {o e : Expr} {es : List Expr} {to : DE} {t : DA} {name : Str} {apos cpos : Pos} {id : String} {om : DOm}
theorem de_mtL (slot : Slot "list" name id) (hty : typeOf (.builtin id) = pure (.type "method_descriptor")) (hm : MtD X id om) (ho : PE X o (liftE X.K to)) (ha : PA X (e :: es) (liftA X.K t))
    (hbase : attributeBase o name X.env (eval o X.env) = eval o X.env := by rfl)
    (hfew : ((backTo cpos (starEach (e :: es) X.env)).all (fun x => !x.1) && (backToKw cpos (keywordEach [] X.env)).all (fun x => x.1.isSome)
      && decide ((e :: es).length + ([] : List Keyword).length + (if ([] : List Keyword).isEmpty then 0 else 1) < 30)) = true := by rfl)
    (hline : (apos.endLine == cpos.line) = true := by rfl) (hs : starEach (e :: es) X.env = (false, eval e X.env) :: starEach es X.env := by rfl) (hplain : (backTo cpos (starEach es X.env)).any (·.1) = false := by rfl) :
    PE X (.Call (.Attribute o name apos) (e :: es) [] cpos) (liftE X.K (dMtL om to t)) := by
  obtain ⟨r, h1, h2⟩ := hm.ex
  exact (pe_bm PySem.F.plainAttrs_list slot hty h1 ho ha hbase hfew hline hs hplain).weak (lift_mtL h2)
end
def omAppend : DOm := fun x xs C R => ∃ p ds d, x = .ref p ∧ xs = [d] ∧ C p = some (.lst ds) ∧ ds.length < sizeLine ∧ R .non (updC C p (.lst (ds ++ [d])))
def omExtend : DOm := fun x xs C R => ∃ p ds d es, x = .ref p ∧ xs = [d] ∧ C p = some (.lst ds) ∧ lstOf C d = some es ∧ ds.length + es.length ≤ sizeLine ∧ R .non (updC C p (.lst (ds ++ es)))
theorem Ab.lstCell {K : PySem.W.Frag} {F : Cells} {G H : Hp} {C : Cells} {p : Addr} {ds : List D} (A : Ab K F G H C) (h : C p = some (.lst ds)) : ∃ xs, H p = some (.lst xs) ∧ RpL K G ds xs := by
  obtain ⟨_, u, hu, ok⟩ := A.cell _ _ h
  cases ok
  exact ⟨_, hu, by assumption⟩
section
variable {X : Cx}
theorem md_append : MtD X "list.append" omAppend := by
  refine ⟨_, mt_append, ?_⟩
  intro F G H C x v xs vs R Q A rx rxs h k
  obtain ⟨p, ds, d, rfl, rfl, hc, hl, q⟩ := h
  cases rx
  obtain ⟨u, rfl, ru⟩ := rxs.one
  obtain ⟨as, ha, ra⟩ := A.lstCell hc
  exact ⟨p, as, u, rfl, rfl, ha, by rw [← ra.length]; exact hl, k _ _ q _ _ G (Same.refl G) (A.write hc (.lst (ra.append (.cons ru .nil)))) .non⟩
def rExtendF : V → List V → Hp → VK → Prop := fun x vs H Q => ∃ l b xs zs, x = .ref l ∧ vs = [.ref b] ∧ H l = some (.lst xs) ∧ Rd H b (.lst zs) ∧ xs.length + zs.length ≤ sizeLine ∧ Q .non (upd H l (.lst (xs ++ zs)))
theorem mt_extendF : MtR X "list.extend" rExtendF := by
  intro pins s σ H x xs v us Q I rx rs h
  obtain ⟨l, b, xs, zs, rfl, rfl, hH, hB, hz, q⟩ := h
  cases rx
  obtain ⟨u, rfl, ru⟩ := rs.one
  cases ru
  obtain ⟨z, its, n, r, hl, e⟩ := I.lstM hH
  obtain ⟨z2, its2, n2, r2, hl2, e2⟩ := lstRd I hB
  have hsz : its.toArray.size + its2.toArray.size ≤ sizeLine := by rw [List.size_toArray, List.size_toArray]; omega
  have hlong : ¬ (!its.toArray.isEmpty && Builtin.List.listTooLong (its.toArray.size + its2.toArray.size)) = true := by
    rw [notLongL hsz, Bool.and_false]
    exact Bool.false_ne_true
  refine call_meets F.slot_list_extend ⟨_, e, rfl⟩ F.entry_list_extend (F.args_list_extend_2 _ _)
    (AutoSeq1.list_extend_list_list_0 l its.toArray n b its2.toArray n2 hlong (by rw [List.size_toArray]; omega) (by omega)) ⟨e, e2, ?_⟩
  refine ⟨.non, _, I.lset (its' := its ++ its2) hH e (by simp) (r.append r2) ?_, rfl, q⟩
  rw [List.length_append]
  omega
theorem md_extend : MtD X "list.extend" omExtend := by
  refine ⟨_, mt_extendF, ?_⟩
  intro F G H C x v xs vs R Q A rx rxs h k
  obtain ⟨p, ds, d, es, rfl, rfl, hc, he, hl, q⟩ := h
  cases rx
  obtain ⟨u, rfl, ru⟩ := rxs.one
  obtain ⟨as, ha, ra⟩ := A.lstCell hc
  obtain ⟨b, bs, rfl, hb, rb⟩ := lst_at A ru he
  exact ⟨p, b, as, bs, rfl, rfl, ha, hb, by rw [← ra.length, ← rb.length]; exact hl, k _ _ q _ _ G (Same.refl G) (A.write hc (.lst (ra.append rb))) .non⟩
end
section
variable {X : Cx} {o e : Expr} {es : List Expr} {to : DE} {t : DA} {apos cpos : Pos}
theorem de_append (ho : PE X o (liftE X.K to)) (ha : PA X (e :: es) (liftA X.K t))
    (hbase : attributeBase o "append" X.env (eval o X.env) = eval o X.env := by rfl)
    (hfew : ((backTo cpos (starEach (e :: es) X.env)).all (fun x => !x.1) && (backToKw cpos (keywordEach [] X.env)).all (fun x => x.1.isSome)
      && decide ((e :: es).length + ([] : List Keyword).length + (if ([] : List Keyword).isEmpty then 0 else 1) < 30)) = true := by rfl)
    (hline : (apos.endLine == cpos.line) = true := by rfl) (hs : starEach (e :: es) X.env = (false, eval e X.env) :: starEach es X.env := by rfl) (hplain : (backTo cpos (starEach es X.env)).any (·.1) = false := by rfl) :
    PE X (.Call (.Attribute o "append" apos) (e :: es) [] cpos) (liftE X.K (dMtL omAppend to t)) := de_mtL PySem.F.slot_list_append PySem.F.type_list_append md_append ho ha hbase hfew hline hs hplain
theorem de_extend (ho : PE X o (liftE X.K to)) (ha : PA X (e :: es) (liftA X.K t))
    (hbase : attributeBase o "extend" X.env (eval o X.env) = eval o X.env := by rfl)
    (hfew : ((backTo cpos (starEach (e :: es) X.env)).all (fun x => !x.1) && (backToKw cpos (keywordEach [] X.env)).all (fun x => x.1.isSome)
      && decide ((e :: es).length + ([] : List Keyword).length + (if ([] : List Keyword).isEmpty then 0 else 1) < 30)) = true := by rfl)
    (hline : (apos.endLine == cpos.line) = true := by rfl) (hs : starEach (e :: es) X.env = (false, eval e X.env) :: starEach es X.env := by rfl) (hplain : (backTo cpos (starEach es X.env)).any (·.1) = false := by rfl) :
    PE X (.Call (.Attribute o "extend" apos) (e :: es) [] cpos) (liftE X.K (dMtL omExtend to t)) := de_mtL PySem.F.slot_list_extend PySem.F.type_list_extend md_extend ho ha hbase hfew hline hs hplain
end
/-- d.setdefault(k, x) of a cell -/
def dSetd (td ty tx : DE) : DE := fun δ C R => td δ C fun x C1 => (dctOf C1 x).isSome = true ∧ ty δ C1 fun y C2 => tx δ C2 fun z C3 => ∃ p kvs k, x = .ref p ∧ C3 p = some (.dct kvs) ∧ keyOf y = some k ∧ kvs.length < sizeLine ∧
  match getK kvs k with
  | some v => R v C3
  | none => R z (updC C3 p (.dct (putD kvs k z)))
/-- xs[i] = v, xs a cell -/
def gdSubL (to ti : DE) : DG := fun d δ C R => to δ C fun o C1 => ti δ C1 fun i C2 => ∃ p ds n j, o = .ref p ∧ i = .int n ∧ C2 p = some (.lst ds) ∧ ixN ds.length n = some j ∧ R δ (updC C2 p (.lst (ds.set j d)))
/-- d[k] = v, d a cell -/
def dPut (td ty tv : DE) : DS := fun D δ C => tv δ C fun v C1 => td δ C1 fun x C2 => ty δ C2 fun y C3 => ∃ p kvs k, x = .ref p ∧ C3 p = some (.dct kvs) ∧ keyOf y = some k ∧ kvs.length < sizeLine ∧ D.nx δ (updC C3 p (.dct (putD kvs k v)))
section
variable {X : Cx} {o i value : Expr} {to ti td ty tv : DE} {pos pos' : Pos}
theorem dg_subL (ho : PE X o (liftE X.K to)) (hi : PE X i (liftE X.K ti))
    (ha : ∀ v, assign (.Subscript o i pos) X.env v = (do
      let ov ← holding [v] (eval o X.env)
      let iv ← holding [v, ov] (eval i X.env)
      standAt pos
      holding [v, ov, iv] (setItem ov iv v)
      release [v, ov, iv] []) := by intro _; rfl) : PG X (.Subscript o i pos) (liftG X.K (gdSubL to ti)) := by
  refine (pg_sub ho hi set_list ha).weak ?_
  rintro v σ H Q ⟨F, G, δ, C, d, R, A, S, r, q, k⟩
  refine ⟨F, G, δ, C, _, A, S, q, fun x C1 q1 ov H1 G1 s1 A1 r1 => ⟨F, G1, δ, C1, _, A1, S.mono s1, q1, ?_⟩⟩
  rintro y C2 ⟨p, ds, n, j, rfl, rfl, hc, hj, q2⟩ iv H2 G2 s2 A2 r2
  cases r1
  cases r2
  obtain ⟨as, has, ra⟩ := A2.lstCell hc
  refine ⟨p, as, n, j, rfl, rfl, has, by rw [← ra.length]; exact hj, ?_⟩
  exact k _ _ q2 _ _ G2 (s1.trans s2) (A2.write hc (.lst (RpL.set (r.mono (s1.trans s2)) j ra))) (S.mono (s1.trans s2))
end
def frzO (C : Cells) (x : D) : Option (D × Cells) := match x with
  | .ref p => match C p with
    | some (.lst ds) => some (.lst ds, delC C p)
    | some (.dct kvs) => some (.dct kvs, delC C p)
    | _ => none
  | _ => none
def dFrz (t : DE) : DE := fun δ C R => t δ C fun x C1 => ∃ y C2, frzO C1 x = some (y, C2) ∧ R y C2
end DL
namespace DL
open PySem PySem.Spec L2
open PyProof.Rows hiding St
section
open AutoSeq1 (wpAny_loadPart')
set_option maxHeartbeats 4000000 in
theorem meets_enumerate_newB1 {v : Value} {o : Obj} {H : Heap → Prop} (B : Begins v o H) :
    Meets (Builtin.«enumerate.__new__» ⟨[.type "enumerate", v], []⟩) (fun _ R s => H s.heap ∧
      R (.ok (.ret (.ref (s.heap.push o).objs.size))) { s with heap := (s.heap.push o).push { cls := .type "enumerate", data := .fields #[.none, .bool false, .ref s.heap.objs.size, rawInt 0, .none, .none] } }) :=
  .of_wp fun prog w A R s h => by
    obtain ⟨hp, g, d, tk, os⟩ := s; obtain ⟨h1, h⟩ := h
    have hsub := sub_enumerate
    have q1 : ∀ {A' : Around} {E : Value → Shared → Prop} {Q : Value → Shared → Prop}, Q (.ref hp.objs.size) ⟨hp.push o, g, d, tk, os⟩ → wpAny (model prog w) A' (pyIter v) Q E ⟨hp, g, d, tk, os⟩ :=
      fun q => B.iter prog w _ _ ⟨hp, g, d, tk, os⟩ _ h1 q
    wp_walk using q1
    refine wpAny_stack_any fun st => wpAny_pure ?_
    split
    · rename_i c _ _ _ _ _
      cases (c == Value.type "enumerate")
      · wp_walk using q1
        exact ⟨_, rfl, h⟩
      · wp_walk using q1
        exact ⟨_, rfl, h⟩
    · wp_walk using q1
      exact ⟨_, rfl, h⟩
theorem enum_begins1 {prog : Program} {w : World} {A : Around} {E : Value → Shared → Prop} {s : Shared} {v : Value} {o : Obj} {H : Heap → Prop} {Q : Value → Shared → Prop} (B : Begins v o H) (h1 : H s.heap)
    (h : ∀ h', IsEnum h' (s.heap.objs.size + 1) s.heap.objs.size 0 .none → h'.get? s.heap.objs.size = some o → h'.objs.size = s.heap.objs.size + 2 →
      (∀ b o, s.heap.get? b = some o → h'.get? b = some o) → Q (.ref (s.heap.objs.size + 1)) { s with heap := h' }) :
    wpAny (model prog w) A (call (.type "enumerate") [v]) Q E s := by
  refine callType_new F.called_enumerate (by decide) (F.typeCall_enumerate_1 _) (F.newCall_enumerate_1 _) (fun obj => F.args_object_init_2 obj _) F.entry_enumerate_new
    (meets_enumerate_newB1 B) ⟨h1, ?_⟩
  have hz : (s.heap.push o).objs.size = s.heap.objs.size + 1 := Heap.size_push ..
  show _ ∧ _
  rw [hz]
  have he : IsEnum ((s.heap.push o).push { cls := .type "enumerate", data := .fields #[.none, .bool false, .ref s.heap.objs.size, rawInt 0, .none, .none] }) (s.heap.objs.size + 1) s.heap.objs.size 0 .none := by
    have := Heap.get?_push_size (s.heap.push o) (o := { cls := .type "enumerate", data := .fields #[.none, .bool false, .ref s.heap.objs.size, rawInt 0, .none, .none] }) rfl
    rw [hz] at this; exact this
  refine ⟨⟨_, he, rfl⟩, h _ he (Heap.get?_push_of_some _ (Heap.get?_push_size _ B.free)) (by rw [Heap.size_push, hz]) fun b o x => Heap.get?_push_of_some _ (Heap.get?_push_of_some _ x)⟩
end
theorem enumT_end {prog : Program} {w : World} {A : Around} {E : Value → Shared → Prop} {s : Shared} {e it l : Addr} {i : Nat} {items : Array Value} {j : Int} {old : Value} {Q : Option Value → Shared → Prop} (hh : A.handled = none)
    (he : IsEnum s.heap e it j old) (hit : s.heap.IsTupleIter it l i) (hl : s.heap.IsTuple l items) (hx : items[i]? = none)
    (hQ : ∀ h', Heap.ExtBut it s.heap h' → Q none { s with heap := h' }) : wpAny (model prog w) A (pyNext (.ref e)) Q E s := by
  have hT : s.TypeIs (.ref e) "enumerate" := ⟨_, he, rfl⟩
  unfold pyNext
  refine wpAny_bind (wpAny_attempt (wpAny_callSpecial?_slot (name := Str.ofString "__next__") hT F.slot_enumerate_next
    (wpAny_call_entry F.slot_enumerate_next hT F.entry_enumerate_next ?_ (F.args_enumerate_next_1 _))))
  show wpAny _ _ (field (.ref e) 2 >>= _) _ _ _
  refine wpAny_bind (wpAny_field he rfl (x := .ref it) rfl ?_)
  refine wpAny_bind (wpAny_nextOf_tuple_end hh hit hl hx fun h' x he' hx' => ?_)
  obtain ⟨o, ho, hc⟩ := hx'
  refine wpAny_bind (wpAny_isInstance (T := "StopIteration") (b := true) ⟨o, ho, hc⟩ isSubtype_stop ?_)
  exact wpAny_pure (hQ _ he')
/-- the tuple at a, each item in a new pair -/
def IteT (K : PySem.W.Frag) (a : Addr) : It :=
  ⟨fun i H => ∃ (xs : List V) (x : V), SqT K H a xs ∧ xs[i]? = some x, fun i H v H' => ∃ T x, v = .ref T ∧ H T = none ∧ H' = upd H T (.tup [.int (i : Nat), x]) ∧ ∀ xs, SqT K H a xs → xs[i]? = some x, fun i H => ∃ xs : List V, SqT K H a xs ∧ xs.length ≤ i⟩
theorem turn_enumT {P : Program} {w : World} {K : PySem.W.Frag} {elts : List Expr} {kk : Nat} {tpos : Pos} (a e it : Addr) (hae : a ≠ it) :
    Turn P w K (.Tuple elts kk tpos) (IteT K a) [e, it] e (fun i h => (∃ old, IsEnum h e it ((i : Nat) : Int) old) ∧ h.IsTupleIter it a i ∧ e ≠ it) where
  mem := by simp
  obj := fun i h st b hb => by
    obtain ⟨⟨old, he⟩, ⟨o, ho, hc, hd⟩, _⟩ := st
    have e' : b = e ∨ b = it := by simpa using hb
    rcases e' with z | z
    · rw [z]; exact ⟨_, he, fun v q => nomatch q⟩
    · rw [z]; exact ⟨o, ho, fun v q => by rw [hd] at q; cases q⟩
  keep := fun i h h' st k => let ⟨⟨old, he⟩, hi, hne⟩ := st; ⟨⟨old, k e (by simp) _ he⟩, hi.at fun o q => k it (by simp) o q, hne⟩
  item := by
    intro X hP hw hK hc i pins s σ H E I hf st hg
    subst hP hw hK
    obtain ⟨⟨old, he⟩, hit, hne⟩ := st
    obtain ⟨xs, x, hq, hx⟩ := hg
    obtain ⟨its, rv, p, hz⟩ := I.tuple hq
    obtain ⟨u, hu, ru⟩ := rv.get hx
    have hel : e < s.heap.objs.size := Heap.lt_size he
    have hil : it < s.heap.objs.size := by obtain ⟨_, q, _⟩ := hit; exact Heap.lt_size q
    have hea : e ≠ a := by
      intro z
      obtain ⟨o, ho, hcls, _⟩ := p
      rw [← z, he] at ho
      cases ho
      have hcls' : Value.type "enumerate" = Value.type "tuple" := hcls
      exact absurd hcls' (by decide)
    have hlt : i < its.toArray.size := by
      have := (List.getElem?_eq_some_iff.mp hu).1
      simpa using this
    refine wpAny_pyNext_enum_itemD (Draws.tuple (A := X.A.in1) (I.ok.hd hc) it a hae its.toArray) he ⟨hit, show s.heap.IsTuple a its.toArray from p⟩ hlt hne (by simp [hne, hea]) fun y h' tk hy ho st' hT hsz hk => ?_
    have : y = u := by
      have h1 : its[i]? = some y := by simpa using hy
      rw [hu] at h1
      exact (Option.some.inj h1).symm
    subst this
    refine ⟨_, rfl, wpAny_letOwnedTupleGo_enum (s := { s with heap := h', toks := tk + 1 }) ho fun h'' he' sb => ?_⟩
    have hT2 : h''.get? s.heap.objs.size = some { cls := .type "tuple", data := .seq #[.int i tk, y] } := (sb.2 _ (Nat.ne_of_gt hel)).trans hT
    have new : ObjOk X.prog X.w (upd H s.heap.objs.size (.tup [.int (i : Nat), x])) h'' s.heap.objs.size (.tup [.int (i : Nat), x]) :=
      ⟨by show 2 ≤ sizeLine; decide, [.int i tk, y], .cons ⟨_, rfl⟩ (.cons ru .nil), ⟨_, hT2, rfl, _, rfl⟩⟩
    have I1 : Inv X pins σ (upd H s.heap.objs.size (.tup [.int (i : Nat), x])) { s with heap := h'', toks := tk + 1 } :=
      I.turnedNew (ch := [e, it]) (fun b ob hb q => (sb.2 b (fun z => hb (by simp [z]))).trans (hk b ob (fun z => hb (by simp [z])) (fun z => hb (by simp [z])) q)) hf (Nat.le_refl _) new
    refine ⟨.ref s.heap.objs.size, _, I1, rfl, ⟨_, x, rfl, I.hok.fresh (Nat.le_refl _), rfl, fun ys hy => by rw [I.tuple_inj hy hq]; exact hx⟩, ⟨⟨y, ?_⟩, st'.1.at fun o q => (sb.2 it (Ne.symm hne)).trans q, hne⟩, fun b hb => ?_⟩
    · have e1 : ((i + 1 : Nat) : Int) = (i : Int) + 1 := by omega
      rw [e1]; exact he'
    · have hb' : b < s.heap.objs.size := by
        have e' : b = e ∨ b = it := by simpa using hb
        rcases e' with z | z
        · rw [z]; exact hel
        · rw [z]; exact hil
      rw [upd_ne (Nat.ne_of_lt hb')]
      exact (hf b hb).1
  done := by
    intro X hP hw hK hc i pins s σ H E I hf st hg
    subst hP hw hK
    obtain ⟨⟨old, he⟩, hit, hne⟩ := st
    obtain ⟨xs, hq, hx⟩ := hg
    obtain ⟨its, rv, p, hz⟩ := I.tuple hq
    obtain ⟨f0, f1, f2, f3, f4, f5⟩ := hf it (by simp)
    have hl := rv.length
    exact enumT_end (I.ok.hd hc) he hit (show s.heap.IsTuple a its.toArray from p) (by simp; omega) fun h' eb => ⟨rfl, I.turned (t' := s.toks) (fun b o hb q => eb b o hb q) f0 f1 f3 f4 f5⟩
  self := fun A i s Q E st h => let ⟨⟨_, he⟩, _⟩ := st; wpAny_pyIter_enum he h
def iEnumA (K : PySem.W.Frag) (ta : TA) : TI := fun σ H R => ta σ H fun vs H1 => ∃ a xs, vs = [.ref a] ∧ ((SqL K H1 a xs ∧ R (Ite K a) H1) ∨ (SqT K H1 a xs ∧ R (IteT K a) H1))
theorem pi_enumA {X : Cx} {e : Expr} {ta : TA} {p pos tpos : Pos} {elts : List Expr} {kk : Nat} (hg : Gl X "enumerate") (hm : X.mg "enumerate" = none) (ha : PA X [e] ta) (hs : starEach [e] X.env = [(false, eval e X.env)] := by rfl) :
    PI X (.Tuple elts kk tpos) (.Call (.Name "enumerate" p) [e] [] pos) (iEnumA X.K ta) := by
  refine ⟨fun pins s σ H R I h => ?_⟩
  refine Call_ (ld_blt I hg hm PyProof.Rows.boot_enumerate (PyProof.Rows.callWith_type1 (thn (ha.run pos pins s σ H _ I h) fun us s1 ⟨vs, H1, I1, r1, q1⟩ => ?_) hs rfl))
  obtain ⟨a, xs, ex, q⟩ := q1
  subst ex
  cases r1 with
  | cons r rr =>
    cases rr
    cases r
    have fresh2 : ∀ b ∈ [s1.heap.objs.size + 1, s1.heap.objs.size], FpOk X pins H1 b := fun b hb => by
      have e' : b = s1.heap.objs.size + 1 ∨ b = s1.heap.objs.size := by simpa using hb
      have hle : s1.heap.objs.size ≤ b := by
        rcases e' with z | z
        · rw [z]; exact Nat.le_add_right _ _
        · rw [z]; exact Nat.le_refl _
      exact I1.fpOk hle (I1.hok.fresh hle)
    rcases q with ⟨hq, q⟩ | ⟨hq, q⟩
    · obtain ⟨its, rv, p', hz⟩ := I1.list hq
      refine call_enumerate_list p'.isList fun h' he hit hsz hk => wpAny_pyIter_enum he ?_
      have I2 : Inv X pins σ H1 { s1 with heap := h' } := I1.kept (t' := s1.toks) hk
      exact ⟨s1.heap.objs.size + 1, [s1.heap.objs.size + 1, s1.heap.objs.size], _, _, H1, rfl, I2, turn_enum a (s1.heap.objs.size + 1) s1.heap.objs.size, ⟨⟨.none, he⟩, hit, Nat.succ_ne_self _⟩, fresh2, q⟩
    · obtain ⟨its, rv, p', hz⟩ := I1.tuple hq
      have hal : a < s1.heap.objs.size := p'.lt
      refine enum_begins1 (begins_tuple a its.toArray) (show s1.heap.IsTuple a its.toArray from p') fun h' he hit hsz hk => wpAny_pyIter_enum he ?_
      have I2 : Inv X pins σ H1 { s1 with heap := h' } := I1.kept (t' := s1.toks) hk
      exact ⟨s1.heap.objs.size + 1, [s1.heap.objs.size + 1, s1.heap.objs.size], _, _, H1, rfl, I2, turn_enumT a (s1.heap.objs.size + 1) s1.heap.objs.size (Nat.ne_of_lt hal), ⟨⟨.none, he⟩, ⟨_, hit, rfl, rfl⟩, Nat.succ_ne_self _⟩, fresh2, q⟩
theorem itok_pair {K : PySem.W.Frag} {G : Hp} {J : DIt} {J' : It} (h : ∀ F i G2 H2 C2, Same G G2 → Ab K F G2 H2 C2 →
    (J.go i C2 → J'.go i H2 ∧ ∀ x H3, J'.yld i H2 x H3 → ∃ T y z dy dz, x = .ref T ∧ H2 T = none ∧ H3 = upd H2 T (.tup [y, z]) ∧ J.yld i C2 (.tup [dy, dz]) ∧ Rp K G2 dy y ∧ Rp K G2 dz z) ∧ (J.stop i C2 → J'.stop i H2)) : ItOk K G J J' := by
  intro F i G2 H2 C2 s2 A2
  obtain ⟨h1, h2⟩ := h F i G2 H2 C2 s2 A2
  refine ⟨fun g => ?_, h2⟩
  obtain ⟨h3, h4⟩ := h1 g
  refine ⟨h3, fun x H3 yy => ?_⟩
  obtain ⟨T, y, z, dy, dz, rfl, hT, rfl, yd, ry, rz⟩ := h4 x H3 yy
  obtain ⟨A3, s3⟩ := A2.grow (u := .tup [y, z]) hT
  exact ⟨_, _, s3, A3, yd, .tup (.inl (.inl upd_same)) (.cons (ry.mono s3) (.cons (rz.mono s3) .nil))⟩
/-- enumerate(x) of a list or a tuple -/
def itEnum (x : D) : DIt := ⟨fun i C => ∃ ds d, seqOf C x = some ds ∧ ds[i]? = some d, fun i C e => ∃ ds d, seqOf C x = some ds ∧ ds[i]? = some d ∧ e = .tup [.int (i : Nat), d], fun i C => ∃ ds, seqOf C x = some ds ∧ ds.length ≤ i⟩
def diEnum (ta : DA) : DI := fun δ C R => ta δ C fun xs C1 => ∃ x, xs = [x] ∧ (seqOf C1 x).isSome = true ∧ R (itEnum x) C1
/-- zip(x, y) of two lists or two tuples -/
def itZip (x y : D) : DIt := ⟨fun i C => ∃ ds es d e, seqOf C x = some ds ∧ seqOf C y = some es ∧ ds[i]? = some d ∧ es[i]? = some e, fun i C z => ∃ ds es d e, seqOf C x = some ds ∧ seqOf C y = some es ∧ ds[i]? = some d ∧ es[i]? = some e ∧ z = .tup [d, e],
  fun i C => ∃ ds es, seqOf C x = some ds ∧ seqOf C y = some es ∧ (ds.length ≤ i ∨ es.length ≤ i)⟩
def diZip (ta : DA) : DI := fun δ C R => ta δ C fun xs C1 => ∃ x y, xs = [x, y] ∧ (((tupOf x).isSome = true ∧ (tupOf y).isSome = true) ∨ (tupOf x = none ∧ tupOf y = none ∧ (lstOf C1 x).isSome = true ∧ (lstOf C1 y).isSome = true)) ∧ R (itZip x y) C1
theorem seqOf_lst {C : Cells} {x : D} (h : tupOf x = none) : seqOf C x = lstOf C x := by unfold seqOf; rw [h]
theorem seqOf_tup {C : Cells} {x : D} {ds : List D} (h : tupOf x = some ds) : seqOf C x = some ds := by unfold seqOf; rw [h]
section
variable {X : Cx}
theorem di_enum {e : Expr} {ta : DA} {p pos tpos : Pos} {elts : List Expr} {kk : Nat} (hg : Gl X "enumerate") (hm : X.mg "enumerate" = none) (ha : PA X [e] (liftA X.K ta)) (hs : starEach [e] X.env = [(false, eval e X.env)] := by rfl) :
    PI X (.Tuple elts kk tpos) (.Call (.Name "enumerate" p) [e] [] pos) (liftI X.K (diEnum ta)) := by
  refine (pi_enumA hg hm ha hs).weak ?_
  rintro σ H Q ⟨F, G, δ, C, R, A, S, q, k⟩
  refine ⟨F, G, δ, C, _, A, S, q, ?_⟩
  rintro xs C1 ⟨x, rfl, hx, q1⟩ vs H1 G1 s1 A1 r1
  obtain ⟨v, rfl, r⟩ := r1.one
  obtain ⟨ds, hx⟩ := Option.isSome_iff_exists.mp hx
  cases et : tupOf x with
  | some ds' =>
    obtain ⟨a, as, rfl, ha, ra⟩ := tup_at A1 r et
    refine ⟨a, as, rfl, .inr ⟨ha, k _ _ q1 _ H1 G1 s1 A1 (itok_pair fun F' i G2 H2 C2 s2 A2 => ⟨?_, ?_⟩)⟩⟩
    · rintro ⟨ds2, d, e2, ed⟩
      rw [seqOf_tup et] at e2; cases e2
      obtain ⟨b, bs, eb, hb, rb⟩ := tup_at A2 (r.mono s2) et
      cases eb
      obtain ⟨y, hy, ry⟩ := rb.getD ed
      refine ⟨⟨bs, y, hb, hy⟩, ?_⟩
      rintro x3 H3 ⟨T, z, rfl, hT, rfl, hz⟩
      have := hz bs hb
      rw [hy] at this; cases this
      exact ⟨T, _, _, _, d, rfl, hT, rfl, ⟨_, d, seqOf_tup et, ed, rfl⟩, .int _, ry⟩
    · rintro ⟨ds2, e2, hl⟩
      rw [seqOf_tup et] at e2; cases e2
      obtain ⟨b, bs, eb, hb, rb⟩ := tup_at A2 (r.mono s2) et
      cases eb
      exact ⟨bs, hb, by rw [← rb.length]; exact hl⟩
  | none =>
    rw [seqOf_lst et] at hx
    obtain ⟨a, as, rfl, ha, ra⟩ := lst_at A1 r hx
    refine ⟨a, as, rfl, .inl ⟨.inl ha, k _ _ q1 _ H1 G1 s1 A1 (itok_pair fun F' i G2 H2 C2 s2 A2 => ⟨?_, ?_⟩)⟩⟩
    · rintro ⟨ds2, d, e2, ed⟩
      rw [seqOf_lst et] at e2
      obtain ⟨b, bs, eb, hb, rb⟩ := lst_at A2 (r.mono s2) e2
      cases eb
      obtain ⟨y, hy, ry⟩ := rb.getD ed
      refine ⟨⟨bs, y, .inl hb, hy⟩, ?_⟩
      rintro x3 H3 ⟨T, z, rfl, hT, rfl, hz⟩
      have := hz bs (.inl hb)
      rw [hy] at this; cases this
      exact ⟨T, _, _, _, d, rfl, hT, rfl, ⟨_, d, by rw [seqOf_lst et]; exact e2, ed, rfl⟩, .int _, ry⟩
    · rintro ⟨ds2, e2, hl⟩
      rw [seqOf_lst et] at e2
      obtain ⟨b, bs, eb, hb, rb⟩ := lst_at A2 (r.mono s2) e2
      cases eb
      exact ⟨bs, .inl hb, by rw [← rb.length]; exact hl⟩
/-- a, b = x, y of plain local names -/
def dPar (i j : Nat) (ta : DA) : DS := fun N δ C => ta δ C fun ds C1 => ∃ v w, ds = [v, w] ∧ N.nx ((δ.set i (some v)).set j (some w)) C1
theorem ds_par {i j : Nat} {x y : Str} {a b : Expr} {ta : DA} {px py pt pos : Pos} {kt k2 pt2} (hc : X.calm = true) (hN : X.N.Nodup) (hi : X.N[i]? = some x) (hj : X.N[j]? = some y) (hij : i ≠ j)
    (hx : X.env.scope.names.lookup x = some .local) (hy : X.env.scope.names.lookup y = some .local) (ha : PA X [a, b] (liftA X.K ta))
    (hw : swappedStores [.Tuple [.Name x px, .Name y py] kt pt] (.Tuple [a, b] k2 pt2) X.env = pure (some [x, y]))
    (hs : swapsWithSole [.Tuple [.Name x px, .Name y py] kt pt] (.Tuple [a, b] k2 pt2) pos.line X.env = pure false := by rfl) :
    PS X (.Assign [.Tuple [.Name x px, .Name y py] kt pt] (.Tuple [a, b] k2 pt2) pos) (liftS X.K (dPar i j ta)) :=
  (ps_par hc hN hi hj hij hx hy ha hw hs).weak fun D σ H ⟨F, G, δ, C, R, A, S, q, k⟩ => ⟨F, G, δ, C, _, A, S, q, by
    rintro ds C1 ⟨v, w, rfl, q1⟩ vs H1 G1 s1 A1 r1
    obtain ⟨v', w', rfl, rv, rw'⟩ := r1.two
    exact ⟨v', w', rfl, k.nx _ _ q1 _ H1 G1 s1 A1 (RpS.set rw' j (RpS.set rv i (S.mono s1)))⟩⟩
/-- (a, b) = a list of that length -/
def gdUnl (n : Nat) (t : DGs) : DG := fun d δ C R => ∃ ds, tupOf d = none ∧ lstOf C d = some ds ∧ ds.length = n ∧ t ds δ C R
theorem dg_unl {es : List Expr} {k : Nat} {t : DGs} {n : Nat} {pos : Pos} (hc : X.calm = true) (h : PGs X es (liftGs X.K t))
    (hn : (assignEach es X.env).length = n := by rfl) (hst : (assignEach es X.env).findIdx? (·.1) = none := by rfl) : PG X (.Tuple es k pos) (liftG X.K (gdUnl n t)) :=
  (pg_unl hc h hn hst).weak fun v σ H Q ⟨F, G, δ, C, d, R, A, S, r, ⟨ds, _, e, hl, q⟩, k⟩ => by
  obtain ⟨a, as, rfl, ha, ra⟩ := lst_at A r e
  exact ⟨a, as, rfl, .inl ha, by rw [← ra.length]; exact hl, F, G, δ, C, ds, R, A, S, ra, q, k⟩
end
end DL
namespace DL
open PySem PySem.Spec L2
open PyProof.Rows hiding St
def sortDR (ds : List D) : List D := ds.mergeSort (PySem.W.dataLe true toPy)
/-- a value of the machine stands for d -/
def Rv (K : PySem.W.Frag) (G : Hp) (u : Value) (d : D) : Prop := ∃ v, Rp K G d v ∧ RelV v u
section
variable {X : Cx}
def mergeD (kvs more : List (Key × D)) : List (Key × D) := more.foldl (fun acc kv => putD acc kv.1 kv.2) kvs
end
end DL
namespace DL
open PySem PySem.Spec L2
open PyProof.Rows hiding St kindOf
/-- no reference, no type -/
def dat : D → Bool
  | .ref _ => false
  | .ty _ => false
  | _ => true
def isIntD : D → Bool
  | .int _ => true
  | .bl _ => true
  | _ => false
def isBlD : D → Bool
  | .bl _ => true
  | _ => false
def isStrD : D → Bool
  | .str _ => true
  | _ => false
def isTupD : D → Bool
  | .tup _ => true
  | _ => false
section
variable {C : Cells} {R : D → Cells → Prop} {x y : D}
theorem ex_some {α : Type} {a : α} {P : α → Prop} : (∃ b, some a = some b ∧ P b) = P a := by simp
theorem oIsi_def {t : D} : oIsi [x, t] C R = ∃ b, isiO C x t = some b ∧ R (.bl b) C := propext ⟨by rintro ⟨x', t', b, e, h⟩; cases e; exact ⟨b, h⟩, fun ⟨b, h⟩ => ⟨x, t, b, rfl, h⟩⟩
theorem oLen_def : oLen [x] C R = ∃ n, lenO C x = some n ∧ R (.int (n : Nat)) C := propext ⟨by rintro ⟨x', n, e, h⟩; cases e; exact ⟨n, h⟩, fun ⟨b, h⟩ => ⟨x, b, rfl, h⟩⟩
theorem oAll_def : oAll [x] C R = ∃ ds bs, lstOf C x = some ds ∧ bools ds = some bs ∧ R (.bl (bs.all id)) C := propext ⟨by rintro ⟨x', n, m, e, h⟩; cases e; exact ⟨n, m, h⟩, fun ⟨b, c, h⟩ => ⟨x, b, c, rfl, h⟩⟩
theorem oTuple_def : oTuple [x] C R = match tupOf x with
  | some ds => R (.tup ds) C
  | none => ∃ ds, lstOf C x = some ds ∧ R (.tup ds) C := propext ⟨by rintro ⟨x', e, h⟩; cases e; exact h, fun h => ⟨x, rfl, h⟩⟩
theorem oList_def : oList [x] C R = ∃ ds, seqOf C x = some ds ∧ R (.lst ds) C := propext ⟨by rintro ⟨x', n, e, h⟩; cases e; exact ⟨n, h⟩, fun ⟨b, h⟩ => ⟨x, b, rfl, h⟩⟩
theorem oIsi_int (h : dat x = true) : oIsi [x, .ty "int"] C R = R (.bl (isIntD x)) C := by
  cases x <;> first | (simp [oIsi_def, isiO, DL.kindOf, types, isiT, isIntD]; done) | cases h
theorem oIsi_bool (h : dat x = true) : oIsi [x, .ty "bool"] C R = R (.bl (isBlD x)) C := by
  cases x <;> first | (simp [oIsi_def, isiO, DL.kindOf, types, isiT, isBlD]; done) | cases h
theorem oIsi_str (h : dat x = true) : oIsi [x, .ty "str"] C R = R (.bl (isStrD x)) C := by
  cases x <;> first | (simp [oIsi_def, isiO, DL.kindOf, types, isiT, isStrD]; done) | cases h
theorem oIsi_tuple (h : dat x = true) : oIsi [x, .ty "tuple"] C R = R (.bl (isTupD x)) C := by
  cases x <;> first | (simp [oIsi_def, isiO, DL.kindOf, types, isiT, isTupD]; done) | cases h
theorem oLen_tup {ds : List D} : oLen [.tup ds] C R = R (.int (ds.length : Nat)) C := by simp [oLen_def, lenO, strOf, tupOf]
theorem oLen_lst {ds : List D} : oLen [.lst ds] C R = R (.int (ds.length : Nat)) C := by simp [oLen_def, lenO, strOf, tupOf, lstOf]
theorem oLen_str {z : Str} (h : z.length ≤ sizeLine) : oLen [.str z] C R = R (.int (z.length : Nat)) C := by simp [oLen_def, lenO, strOf, h]
theorem oLen_ref {p : Addr} {ds : List D} (h : C p = some (.lst ds)) : oLen [.ref p] C R = R (.int (ds.length : Nat)) C := by simp [oLen_def, lenO, strOf, tupOf, lstOf, h, cellLst]
theorem oIx_tup {ds : List D} {i : Int} : oIx (.tup ds) (.int i) C R = ∃ d, atI ds i = some d ∧ R d C := by simp [oIx, ixO, dctOf, intOf, strOf, tupOf]
theorem oIx_lst {ds : List D} {i : Int} : oIx (.lst ds) (.int i) C R = ∃ d, atI ds i = some d ∧ R d C := by simp [oIx, ixO, dctOf, intOf, strOf, tupOf, lstOf]
theorem oIx_ref {p : Addr} {ds : List D} {i : Int} (h : C p = some (.lst ds)) : oIx (.ref p) (.int i) C R = ∃ d, atI ds i = some d ∧ R d C := by simp [oIx, ixO, dctOf, intOf, strOf, tupOf, lstOf, h, cellLst, cellDct]
theorem oIx_str {z : Str} {i : Int} (h : z.length ≤ sizeLine) : oIx (.str z) (.int i) C R = ∃ d, (atI z.cps.toList i).map (fun c => D.str ⟨#[c]⟩) = some d ∧ R d C := by simp [oIx, ixO, dctOf, intOf, strOf, h]
theorem oEq_ok (h1 : okD 60 x = true) (h2 : okD 60 y = true) : oEq x y C R = R (.bl (D.eqv x y)) C := by simp [oEq, eqO, h1, h2]
theorem oNe_ok (h1 : okD 60 x = true) (h2 : okD 60 y = true) : oNe x y C R = R (.bl (!D.eqv x y)) C := by simp [oNe, eqO, h1, h2]
theorem oIn_str {i j : Str} : oIn (.str i) (.str j) C R = R (.bl (strIn i j)) C := by simp [oIn, inO, strOf]
theorem oIn_of {b : Bool} (h : inO C x y = some b) : oIn x y C R = R (.bl b) C := by unfold oIn; rw [h]; simp only [Option.some.injEq, exists_eq_left']
theorem oIn_tup {ds : List D} (h1 : flatD x = true) (h2 : ds.all flatD = true) : oIn x (.tup ds) C R = R (.bl (ds.any fun z => D.eqv z x)) C :=
  oIn_of (show (if flatD x = true ∧ ds.all flatD = true then some (ds.any fun z => D.eqv z x) else none) = _ from if_pos ⟨h1, h2⟩)
theorem oIn_lst {ds : List D} (h1 : okD 60 x = true) (h2 : ds.all (okD 60) = true) : oIn x (.lst ds) C R = R (.bl (ds.any fun z => D.eqv z x)) C :=
  oIn_of (show (if okD 60 x = true ∧ ds.all (okD 60) = true then some (ds.any fun z => D.eqv z x) else none) = _ from if_pos ⟨h1, h2⟩)
theorem oNotIn_eq : oNotIn x y C R = oIn x y C (fun d C => ∃ b, d = .bl b ∧ R (.bl (!b)) C) := by simp [oNotIn, oIn]
theorem oIs_non : oIs x .non C R = R (.bl (isNon x)) C := by cases x <;> rfl
theorem oIsNot_non : oIsNot x .non C R = R (.bl (!isNon x)) C := by cases x <;> rfl
theorem oLe_int {i j : Int} : oLe (.int i) (.int j) C R = R (.bl (decide (i ≤ j))) C := rfl
theorem oLt_int {i j : Int} : oLt (.int i) (.int j) C R = R (.bl (decide (i < j))) C := rfl
theorem oGt_int {i j : Int} : oGt (.int i) (.int j) C R = R (.bl (decide (j < i))) C := rfl
theorem oGe_int {i j : Int} : oGe (.int i) (.int j) C R = R (.bl (decide (j ≤ i))) C := rfl
theorem oLe_str {i j : Str} : oLe (.str i) (.str j) C R = R (.bl (!decide (j.cps.toList < i.cps.toList))) C := rfl
theorem oAdd_int {i j : Int} : oAdd (.int i) (.int j) C R = R (.int (i + j)) C := rfl
theorem oSub_int {i j : Int} : oSub (.int i) (.int j) C R = R (.int (i - j)) C := rfl
theorem oAdd_tup {xs ys : List D} (h : xs.length + ys.length ≤ sizeLine) : oAdd (.tup xs) (.tup ys) C R = R (.tup (xs ++ ys)) C := by simp [oAdd, h]
theorem oAdd_lst {xs ys : List D} (h : xs.length + ys.length ≤ sizeLine) : oAdd (.lst xs) (.lst ys) C R = R (.lst (xs ++ ys)) C := by simp [oAdd, lstOf, h]
theorem oAll_lst {ds : List D} {bs : List Bool} (h : bools ds = some bs) : oAll [.lst ds] C R = R (.bl (bs.all id)) C := by simp [oAll_def, lstOf, h]
theorem bools_map {α : Type} {f : α → Bool} : ∀ xs : List α, bools (xs.map fun x => D.bl (f x)) = some (xs.map f)
  | [] => rfl
  | x :: xs => by simp [bools, bools_map xs]
theorem bl_and {b c : Bool} : (if b = true then R (.bl c) C else R (.bl false) C) = R (.bl (b && c)) C := by cases b <;> simp
theorem bl_or {b c : Bool} : (if b = true then R (.bl true) C else R (.bl c) C) = R (.bl (b || c)) C := by cases b <;> simp
theorem bl_andT {b c : Bool} {R : Bool → Cells → Prop} : (if b = true then R c C else R false C) = R (b && c) C := by cases b <;> simp
theorem bl_orT {b c : Bool} {R : Bool → Cells → Prop} : (if b = true then R true C else R c C) = R (b || c) C := by cases b <;> simp
end
theorem atI_cast {α : Type} (xs : List α) (n : Nat) : atI xs ((n : Nat) : Int) = xs[n]? := by
  unfold atI ixN
  by_cases h : n < xs.length
  · simp [h]
  · simp [h]
theorem atI_0 {α : Type} (xs : List α) : atI xs (0 : Int) = xs[0]? := atI_cast xs 0
theorem atI_1 {α : Type} (xs : List α) : atI xs (1 : Int) = xs[1]? := atI_cast xs 1
theorem atI_2 {α : Type} (xs : List α) : atI xs (2 : Int) = xs[2]? := atI_cast xs 2
theorem atI_3 {α : Type} (xs : List α) : atI xs (3 : Int) = xs[3]? := atI_cast xs 3
theorem atI_m1 {α : Type} (xs : List α) : atI xs (-1 : Int) = xs.getLast? := by
  unfold atI ixN
  cases xs with
  | nil => simp
  | cons x xs =>
    rw [List.getLast?_eq_getElem?]
    have h1 : ¬ (0 : Int) ≤ -1 := by decide
    have h2 : -(((x :: xs).length : Nat) : Int) ≤ -1 := by simp; omega
    rw [if_neg h1, if_pos h2]
    have h3 : (-1 + (((x :: xs).length : Nat) : Int)).toNat = (x :: xs).length - 1 := by omega
    rw [h3]
    rfl
/-- a loop over items that stay: Pv by how many are gone through -/
theorem for_fix {ds : List D} {g : DG} {tb : DS} {N : DEnds} {δ : DSt} {C : Cells} (Pv : Nat → DSt → Cells → Prop) (h0 : Pv 0 δ C)
    (hs : ∀ i d δ C, ds[i]? = some d → Pv i δ C → g d δ C fun δ2 C2 => tb { N with nx := Pv (i + 1), ct := Pv (i + 1), bk := N.nx } δ2 C2) (hd : ∀ δ C, Pv ds.length δ C → N.nx δ C) :
    ∃ W : Nat → Nat → DSt → Cells → Prop, (∃ m, W 0 m δ C) ∧ ∀ i m δ C, W i m δ C →
      ((itFix ds).stop i C ∧ N.nx δ C) ∨ ((itFix ds).go i C ∧ ∃ Nx : DSt → Cells → Prop, (∀ δ' C', Nx δ' C' → ∃ m', m' < m ∧ W (i + 1) m' δ' C') ∧ ∀ d, (itFix ds).yld i C d → g d δ C fun δ2 C2 => tb { N with nx := Nx, ct := Nx, bk := N.nx } δ2 C2) := by
  refine ⟨fun i m δ C => m = ds.length - i ∧ i ≤ ds.length ∧ Pv i δ C, ⟨ds.length, by simp, Nat.zero_le _, h0⟩, ?_⟩
  rintro i m δ C ⟨rfl, hi, p⟩
  by_cases hlt : i < ds.length
  · exact .inr ⟨hlt, Pv (i + 1), fun δ' C' p' => ⟨ds.length - (i + 1), by omega, rfl, hlt, p'⟩, fun d y => hs i d δ C y p⟩
  · have e : i = ds.length := by omega
    subst e
    exact .inl ⟨Nat.le_refl _, hd δ C p⟩
/-- .. over a range -/
theorem for_rng {lo : Int} {n : Nat} {g : DG} {tb : DS} {N : DEnds} {δ : DSt} {C : Cells} (Pv : Nat → DSt → Cells → Prop) (h0 : Pv 0 δ C)
    (hs : ∀ i δ C, i < n → Pv i δ C → g (.int (lo + i)) δ C fun δ2 C2 => tb { N with nx := Pv (i + 1), ct := Pv (i + 1), bk := N.nx } δ2 C2) (hd : ∀ δ C, Pv n δ C → N.nx δ C) :
    ∃ W : Nat → Nat → DSt → Cells → Prop, (∃ m, W 0 m δ C) ∧ ∀ i m δ C, W i m δ C →
      ((itRng lo n).stop i C ∧ N.nx δ C) ∨ ((itRng lo n).go i C ∧ ∃ Nx : DSt → Cells → Prop, (∀ δ' C', Nx δ' C' → ∃ m', m' < m ∧ W (i + 1) m' δ' C') ∧ ∀ d, (itRng lo n).yld i C d → g d δ C fun δ2 C2 => tb { N with nx := Nx, ct := Nx, bk := N.nx } δ2 C2) := by
  refine ⟨fun i m δ C => m = n - i ∧ i ≤ n ∧ Pv i δ C, ⟨n, by simp, Nat.zero_le _, h0⟩, ?_⟩
  rintro i m δ C ⟨rfl, hi, p⟩
  by_cases hlt : i < n
  · refine .inr ⟨hlt, Pv (i + 1), fun δ' C' p' => ⟨n - (i + 1), by omega, rfl, hlt, p'⟩, fun d y => ?_⟩
    have y : d = .int (lo + i) := y
    subst y
    exact hs i δ C hlt p
  · have e : i = n := by omega
    subst e
    exact .inl ⟨Nat.le_refl _, hd δ C p⟩
/-- enumerate of what stays -/
theorem for_enum {x : D} {ds : List D} (hx : ∀ C, seqOf C x = some ds) {g : DG} {tb : DS} {N : DEnds} {δ : DSt} {C : Cells} (Pv : Nat → DSt → Cells → Prop) (h0 : Pv 0 δ C)
    (hs : ∀ i d δ C, ds[i]? = some d → Pv i δ C → g (.tup [.int (i : Nat), d]) δ C fun δ2 C2 => tb { N with nx := Pv (i + 1), ct := Pv (i + 1), bk := N.nx } δ2 C2) (hd : ∀ δ C, Pv ds.length δ C → N.nx δ C) :
    ∃ W : Nat → Nat → DSt → Cells → Prop, (∃ m, W 0 m δ C) ∧ ∀ i m δ C, W i m δ C →
      ((itEnum x).stop i C ∧ N.nx δ C) ∨ ((itEnum x).go i C ∧ ∃ Nx : DSt → Cells → Prop, (∀ δ' C', Nx δ' C' → ∃ m', m' < m ∧ W (i + 1) m' δ' C') ∧ ∀ d, (itEnum x).yld i C d → g d δ C fun δ2 C2 => tb { N with nx := Nx, ct := Nx, bk := N.nx } δ2 C2) := by
  refine ⟨fun i m δ C => m = ds.length - i ∧ i ≤ ds.length ∧ Pv i δ C, ⟨ds.length, by simp, Nat.zero_le _, h0⟩, ?_⟩
  rintro i m δ C ⟨rfl, hi, p⟩
  by_cases hlt : i < ds.length
  · refine .inr ⟨⟨ds, ds[i], hx C, List.getElem?_eq_getElem hlt⟩, Pv (i + 1), fun δ' C' p' => ⟨ds.length - (i + 1), by omega, rfl, hlt, p'⟩, fun d y => ?_⟩
    obtain ⟨es, e, h1, h2, rfl⟩ := y
    rw [hx C] at h1; cases h1
    exact hs i e δ C h2 p
  · have e : i = ds.length := by omega
    subst e
    exact .inl ⟨⟨ds, hx C, Nat.le_refl _⟩, hd δ C p⟩
theorem fm_step {f : D → Option D} {ds : List D} {i : Nat} {d : D} (h : ds[i]? = some d) : (ds.take (i + 1)).filterMap f = (ds.take i).filterMap f ++ (f d).toList := by
  rw [List.take_succ, h, List.filterMap_append]
  cases e : f d <;> simp [e]
/-- a comprehension by an invariant of the list so far -/
theorem lc_inv {J : DIt} {n : Nat} {fin : List D → Cells → Prop} {gd : DG} {tt : DT} {te : DE} {δ : DSt} {C : Cells} (Pv : Nat → List D → Cells → Prop) (hgo : ∀ i C, i < n → J.go i C) (hst : ∀ C, J.stop n C) (h0 : Pv 0 [] C)
    (hs : ∀ (i : Nat) (d : D) acc C, i < n → J.yld i C d → Pv i acc C → gd d δ C fun δ2 C2 => tt δ2 C2 fun b C3 => if b = true then te δ2 C3 fun y C4 => acc.length < sizeLine ∧ Pv (i + 1) (acc ++ [y]) C4 else Pv (i + 1) acc C3)
    (hd : ∀ acc C, Pv n acc C → fin acc C) : dLcW fin J C gd tt te δ := by
  refine ⟨fun i m acc C => m = n - i ∧ i ≤ n ∧ Pv i acc C, ⟨n, by simp, Nat.zero_le _, h0⟩, ?_⟩
  rintro i m acc C ⟨rfl, hi, p⟩
  by_cases hlt : i < n
  · exact .inr ⟨hgo i C hlt, Pv (i + 1), fun acc' C' p' => ⟨n - (i + 1), by omega, rfl, hlt, p'⟩, fun d y => hs i d acc C hlt y p⟩
  · have e : i = n := by omega
    subst e
    exact .inl ⟨hst C, hd acc C p⟩
/-- a comprehension over what stays, its test and element without a trace: f says what comes of each item -/
theorem lc_fix {ds : List D} {fin : List D → Cells → Prop} {gd : DG} {tt : DT} {te : DE} {δ : DSt} {C : Cells} (f : D → Option D) (hl : ds.length ≤ sizeLine)
    (hs : ∀ (i : Nat) (d : D), ds[i]? = some d → ∀ K : Option D → Cells → Prop, K (f d) C → gd d δ C fun δ2 C2 => tt δ2 C2 fun b C3 => if b = true then te δ2 C3 fun y C4 => K (some y) C4 else K none C3) (hd : fin (ds.filterMap f) C) :
    dLcW fin (itFix ds) C gd tt te δ := by
  refine lc_inv (n := ds.length) (fun i acc C' => C' = C ∧ acc = (ds.take i).filterMap f) (fun i _ h => h) (fun _ => Nat.le_refl _) ⟨rfl, by simp⟩ (fun i d acc C' hi y => ?_) (fun acc C' => ?_)
  · rintro ⟨rfl, rfl⟩
    have y : ds[i]? = some d := y
    have hlen : ((ds.take i).filterMap f).length < sizeLine := by
      refine Nat.lt_of_le_of_lt (List.length_filterMap_le _ _) ?_
      rw [List.length_take]
      omega
    refine hs i d y (fun o c => match o with
      | some y => ((ds.take i).filterMap f).length < sizeLine ∧ c = C' ∧ (ds.take i).filterMap f ++ [y] = (ds.take (i + 1)).filterMap f
      | none => c = C' ∧ (ds.take i).filterMap f = (ds.take (i + 1)).filterMap f) ?_
    cases e : f d with
    | some z => exact ⟨hlen, rfl, by rw [fm_step y, e]; rfl⟩
    | none => exact ⟨rfl, by rw [fm_step y, e]; simp⟩
  · rintro ⟨rfl, rfl⟩
    rw [List.take_length]
    exact hd
theorem fm_map {f : D → D} (ds : List D) : ds.filterMap (fun d => some (f d)) = ds.map f := by simp
theorem fm_filter {p : D → Bool} {f : D → D} (ds : List D) : ds.filterMap (fun d => if p d = true then some (f d) else none) = (ds.filter p).map f := by
  induction ds with
  | nil => rfl
  | cons d ds ih => cases e : p d <;> simp [e, ih]
theorem lc_map {ds : List D} {fin : List D → Cells → Prop} {gd : DG} {te : DE} {δ : DSt} {C : Cells} (f : D → D) (hl : ds.length ≤ sizeLine)
    (hs : ∀ d, d ∈ ds → ∀ K : D → Cells → Prop, K (f d) C → gd d δ C fun δ2 C2 => te δ2 C2 K) (hd : fin (ds.map f) C) : dLcW fin (itFix ds) C gd dYes te δ := by
  refine lc_fix (fun d => some (f d)) hl (fun i d hi K hK => ?_) (by rw [fm_map]; exact hd)
  simp only [dYes, if_true]
  exact hs d (List.mem_of_getElem? hi) (fun y c => K (some y) c) hK
theorem lc_all {ds : List D} {gd : DG} {te : DE} {δ : DSt} {C : Cells} {R : D → Cells → Prop} (p : D → Bool) (hl : ds.length ≤ sizeLine)
    (hs : ∀ d, d ∈ ds → ∀ K : D → Cells → Prop, K (.bl (p d)) C → gd d δ C fun δ2 C2 => te δ2 C2 K) (hd : R (.bl (ds.all p)) C) : dLcW (fun acc C => oAll [.lst acc] C R) (itFix ds) C gd dYes te δ := by
  refine lc_map (fun d => .bl (p d)) hl hs ?_
  rw [oAll_lst (bools_map ds)]
  have : (ds.map p).all id = ds.all p := by rw [List.all_map]; rfl
  rw [this]
  exact hd
theorem lc_filter {ds : List D} {fin : List D → Cells → Prop} {gd : DG} {tt : DT} {te : DE} {δ : DSt} {C : Cells} (p : D → Bool) (f : D → D) (hl : ds.length ≤ sizeLine)
    (hs : ∀ d, d ∈ ds → ∀ K : Option D → Cells → Prop, K (if p d = true then some (f d) else none) C → gd d δ C fun δ2 C2 => tt δ2 C2 fun b C3 => if b = true then te δ2 C3 fun y C4 => K (some y) C4 else K none C3)
    (hd : fin ((ds.filter p).map f) C) : dLcW fin (itFix ds) C gd tt te δ :=
  lc_fix (fun d => if p d = true then some (f d) else none) hl (fun i d hi K hK => hs d (List.mem_of_getElem? hi) K hK) (by rw [fm_filter]; exact hd)
theorem cutL_drop {α : Type} (xs : List α) (k : Nat) : cutL xs (some (k : Int)) none = xs.drop k := by
  unfold cutL
  rw [HT.sIx_nat, HT.sIx_none]
  by_cases h : k ≤ xs.length
  · rw [Nat.min_eq_left h, List.take_of_length_le (by rw [List.length_drop]; omega)]
  · rw [Nat.min_eq_right (by omega), List.drop_eq_nil_of_le (Nat.le_refl _), List.drop_eq_nil_of_le (by omega), List.take_nil]
theorem cutL_take {α : Type} (xs : List α) (k : Nat) : cutL xs none (some (k : Int)) = xs.take k := by
  unfold cutL
  rw [HT.sIx_nat, HT.sIx_none, Nat.sub_zero, List.drop_zero]
  by_cases h : k ≤ xs.length
  · rw [Nat.min_eq_left h]
  · rw [Nat.min_eq_right (by omega), List.take_of_length_le (Nat.le_refl _), List.take_of_length_le (by omega)]
theorem cutL_1 {α : Type} (xs : List α) : cutL xs (some (1 : Int)) none = xs.drop 1 := cutL_drop xs 1
theorem slOk_tup {C : Cells} {ds : List D} {lo hi : Option Int} : slOk C (.tup ds) lo hi = some (.tup (cutL ds lo hi)) := rfl
theorem itOf_tup {C : Cells} {ds : List D} : itOf C (.tup ds) = some (itFix ds) := rfl
theorem itOf_lst {C : Cells} {ds : List D} : itOf C (.lst ds) = some (itFix ds) := rfl
theorem itOf_str {C : Cells} {z : Str} : itOf C (.str z) = some (itFix (chars z)) := rfl
theorem itOf_dct {C : Cells} {kvs : List (Key × D)} : itOf C (.dct kvs) = some (itFix (kvs.map fun kv => keyD kv.1)) := rfl
end DL
namespace DL
open PySem PySem.Spec L2
open PyProof.Rows hiding St kindOf
/-- a loop over what is walked, its body still folded -/
def LoopG (J : DIt) (g : DG) (tb : DS) (N : DEnds) (δ : DSt) (C : Cells) : Prop := ∃ W : Nat → Nat → DSt → Cells → Prop, (∃ m, W 0 m δ C) ∧ ∀ i m δ C, W i m δ C →
  (J.stop i C ∧ N.nx δ C) ∨ (J.go i C ∧ ∃ Nx : DSt → Cells → Prop, (∀ δ' C', Nx δ' C' → ∃ m', m' < m ∧ W (i + 1) m' δ' C') ∧ ∀ d, J.yld i C d → g d δ C fun δ2 C2 => tb { N with nx := Nx, ct := Nx, bk := N.nx } δ2 C2)
theorem dFor_eq {wi : DI} {g : DG} {tb : DS} {N : DEnds} {δ : DSt} {C : Cells} : dFor wi g tb N δ C = wi δ C fun J C1 => LoopG J g tb N δ C1 := rfl
section
variable {C : Cells} {p q : Addr} {c c' : Cell} {ds : List D} {kvs : List (Key × D)} {R : D → Cells → Prop} {x y : D}
theorem updC_at : updC C p c p = some c := by simp [updC]
theorem updC_comm (h : q ≠ p) : updC (updC C p c) q c' = updC (updC C q c') p c := by
  funext a; unfold updC; split <;> split <;> simp_all
theorem lstOf_upd : lstOf (updC C p (.lst ds)) (.ref p) = some ds := by simp [lstOf, updC_at, cellLst]
theorem dctOf_upd : dctOf (updC C p (.dct kvs)) (.ref p) = some kvs := by simp [dctOf, updC_at, cellDct]
theorem lstOf_at (h : C p = some (.lst ds)) : lstOf C (.ref p) = some ds := by simp [lstOf, h, cellLst]
theorem dctOf_dct : dctOf C (.dct kvs) = some kvs := rfl
theorem lstOf_lst : lstOf C (.lst ds) = some ds := rfl
theorem isLst_upd : isLst (updC C p (.lst ds)) (.ref p) = True := by unfold isLst; rw [lstOf_upd]; simp
theorem app_upd {d : D} : omAppend (.ref p) [d] (updC C p (.lst ds)) R = (ds.length < sizeLine ∧ R .non (updC C p (.lst (ds ++ [d])))) := propext ⟨by
  rintro ⟨p', ds', d', e1, e2, e3, h1, h2⟩
  cases e1; cases e2
  rw [updC_at] at e3
  cases e3
  rw [updC_upd] at h2
  exact ⟨h1, h2⟩, fun ⟨h1, h2⟩ => ⟨p, ds, d, rfl, rfl, updC_at, h1, by rw [updC_upd]; exact h2⟩⟩
theorem app_at {d : D} (h : C p = some (.lst ds)) (hl : ds.length < sizeLine) (k : R .non (updC C p (.lst (ds ++ [d])))) : omAppend (.ref p) [d] C R := ⟨p, ds, d, rfl, rfl, h, hl, k⟩
theorem ext_upd {d : D} {es : List D} (h : lstOf (updC C p (.lst ds)) d = some es) (hl : ds.length + es.length ≤ sizeLine) (k : R .non (updC C p (.lst (ds ++ es)))) : omExtend (.ref p) [d] (updC C p (.lst ds)) R :=
  ⟨p, ds, d, es, rfl, rfl, updC_at, h, hl, by rw [updC_upd]; exact k⟩
theorem gdCons_cons {t : DG} {u : DGs} {d : D} {r : List D} {δ : DSt} {R : DSt → Cells → Prop} : gdCons t u (d :: r) δ C R = t d δ C fun δ' C' => u r δ' C' R := propext ⟨by
  rintro ⟨d', r', e, h⟩
  cases e
  exact h, fun h => ⟨d, r, rfl, h⟩⟩
theorem gdNil_nil {δ : DSt} {R : DSt → Cells → Prop} : gdNil [] δ C R = R δ C := by simp [gdNil]
theorem gdTup_tup {n : Nat} {t : DGs} {δ : DSt} {R : DSt → Cells → Prop} : gdTup n t (.tup ds) δ C R = (ds.length = n ∧ t ds δ C R) := by simp [gdTup, tupOf]
theorem gdUnl_lst {n : Nat} {t : DGs} {δ : DSt} {R : DSt → Cells → Prop} : gdUnl n t (.lst ds) δ C R = (ds.length = n ∧ t ds δ C R) := by simp [gdUnl, tupOf, lstOf]
end
theorem oEq_int {i j : Int} {C : Cells} {R : D → Cells → Prop} : oEq (.int i) (.int j) C R = R (.bl (decide (i = j))) C := by
  rw [oEq_ok rfl rfl]
  have : D.eqv (.int i) (.int j) = decide (i = j) := by show (i == j) = _; rw [Bool.eq_iff_iff, beq_iff_eq, decide_eq_true_eq]
  rw [this]
theorem oNe_int {i j : Int} {C : Cells} {R : D → Cells → Prop} : oNe (.int i) (.int j) C R = R (.bl (!decide (i = j))) C := by
  rw [oNe_ok rfl rfl]
  have : D.eqv (.int i) (.int j) = decide (i = j) := by show (i == j) = _; rw [Bool.eq_iff_iff, beq_iff_eq, decide_eq_true_eq]
  rw [this]
theorem oEq_bl {i j : Bool} {C : Cells} {R : D → Cells → Prop} : oEq (.bl i) (.bl j) C R = R (.bl (i == j)) C := by
  rw [oEq_ok rfl rfl]
  rfl
theorem ex_two {a b : D} {P : D → D → Prop} : (∃ v w, [a, b] = [v, w] ∧ P v w) = P a b := propext ⟨by
  rintro ⟨v, w, e, h⟩
  cases e
  exact h, fun h => ⟨a, b, rfl, h⟩⟩
theorem ex_three {a b c : D} {P : D → D → D → Prop} : (∃ u v w, [a, b, c] = [u, v, w] ∧ P u v w) = P a b c := propext ⟨by
  rintro ⟨u, v, w, e, h⟩
  cases e
  exact h, fun h => ⟨a, b, c, rfl, h⟩⟩
theorem sz_0 : (0 ≤ sizeLine) = True := by rw [sizeLine_eq]; simp
theorem sl_0 : (0 < sizeLine) = True := by rw [sizeLine_eq]; simp
theorem sz_1 : (1 ≤ sizeLine) = True := by rw [sizeLine_eq]; simp
theorem sl_1 : (1 < sizeLine) = True := by rw [sizeLine_eq]; simp
theorem sz_2 : (2 ≤ sizeLine) = True := by rw [sizeLine_eq]; simp
theorem sl_2 : (2 < sizeLine) = True := by rw [sizeLine_eq]; simp
theorem sz_3 : (3 ≤ sizeLine) = True := by rw [sizeLine_eq]; simp
theorem sl_3 : (3 < sizeLine) = True := by rw [sizeLine_eq]; simp
theorem sz_4 : (4 ≤ sizeLine) = True := by rw [sizeLine_eq]; simp
theorem sl_4 : (4 < sizeLine) = True := by rw [sizeLine_eq]; simp
theorem sz_5 : (5 ≤ sizeLine) = True := by rw [sizeLine_eq]; simp
theorem sl_5 : (5 < sizeLine) = True := by rw [sizeLine_eq]; simp
theorem sz_6 : (6 ≤ sizeLine) = True := by rw [sizeLine_eq]; simp
theorem sl_6 : (6 < sizeLine) = True := by rw [sizeLine_eq]; simp
theorem sz_7 : (7 ≤ sizeLine) = True := by rw [sizeLine_eq]; simp
theorem sl_7 : (7 < sizeLine) = True := by rw [sizeLine_eq]; simp
theorem sz_8 : (8 ≤ sizeLine) = True := by rw [sizeLine_eq]; simp
theorem sl_8 : (8 < sizeLine) = True := by rw [sizeLine_eq]; simp
theorem sz_9 : (9 ≤ sizeLine) = True := by rw [sizeLine_eq]; simp
theorem sl_9 : (9 < sizeLine) = True := by rw [sizeLine_eq]; simp
theorem sz_10 : (10 ≤ sizeLine) = True := by rw [sizeLine_eq]; simp
theorem sl_10 : (10 < sizeLine) = True := by rw [sizeLine_eq]; simp
theorem sz_11 : (11 ≤ sizeLine) = True := by rw [sizeLine_eq]; simp
theorem sl_11 : (11 < sizeLine) = True := by rw [sizeLine_eq]; simp
theorem sz_12 : (12 ≤ sizeLine) = True := by rw [sizeLine_eq]; simp
theorem sl_12 : (12 < sizeLine) = True := by rw [sizeLine_eq]; simp
theorem sz_13 : (13 ≤ sizeLine) = True := by rw [sizeLine_eq]; simp
theorem sl_13 : (13 < sizeLine) = True := by rw [sizeLine_eq]; simp
theorem sz_14 : (14 ≤ sizeLine) = True := by rw [sizeLine_eq]; simp
theorem sl_14 : (14 < sizeLine) = True := by rw [sizeLine_eq]; simp
end DL
namespace DL
open PySem PySem.Spec L2
open PyProof.Rows hiding St kindOf
/-- the fields with one written -/
def putFD (f : Str) (d : D) : List (Str × D) → List (Str × D)
  | [] => [(f, d)]
  | (g, x) :: r => if g = f then (g, d) :: r else (g, x) :: putFD f d r
section
variable {K : PySem.W.Frag} {G : Hp} {f : Str}
theorem RpF.look : ∀ {ds : List (Str × D)} {vs : List (Str × V)} {d : D}, RpF K G ds vs → ds.lookup f = some d → ∃ v, vs.lookup f = some v ∧ Rp K G d v
  | _, _, _, .nil, e => by cases e
  | _, _, _, .cons (f := g) r t, e => by
    rw [List.lookup_cons] at e ⊢
    cases h : f == g with
    | true => rw [h] at e; cases e; exact ⟨_, rfl, r⟩
    | false => rw [h] at e; exact RpF.look t e
theorem RpF.lookN : ∀ {ds : List (Str × D)} {vs : List (Str × V)}, RpF K G ds vs → ds.lookup f = none → vs.lookup f = none
  | _, _, .nil, e => rfl
  | _, _, .cons (f := g) r t, e => by
    rw [List.lookup_cons] at e ⊢
    cases h : f == g with
    | true => rw [h] at e; cases e
    | false => rw [h] at e; exact RpF.lookN t e
theorem RpF.length : ∀ {ds : List (Str × D)} {vs : List (Str × V)}, RpF K G ds vs → ds.length = vs.length
  | _, _, .nil => rfl
  | _, _, .cons _ t => by rw [List.length_cons, List.length_cons, RpF.length t]
theorem RpF.put {d : D} {v : V} (r : Rp K G d v) : ∀ {ds : List (Str × D)} {vs : List (Str × V)}, RpF K G ds vs → RpF K G (putFD f d ds) (putF f v vs)
  | _, _, .nil => .cons r .nil
  | _, _, .cons (f := g) r1 t => by
    show RpF K G (if g = f then (g, d) :: _ else (g, _) :: putFD f d _) (if g = f then (g, v) :: _ else (g, _) :: putF f v _)
    split
    · exact .cons r t
    · exact .cons r1 (RpF.put r t)
theorem Ab.insCell {F C : Cells} {H : Hp} {p cls : Addr} {fs : List (Str × D)} (A : Ab K F G H C) (h : C p = some (.ins cls fs)) : ∃ dx gs, H p = some (.ins cls dx gs) ∧ RpF K G fs gs := by
  obtain ⟨_, u, hu, ok⟩ := A.cell _ _ h
  cases ok with
  | ins r => exact ⟨_, _, hu, r⟩
end
/-- e.f, e an instance of the class at cls -/
def dFld (cls : Addr) (te : DE) (f : Str) : DE := fun δ C R => te δ C fun x C1 => ∃ p fs d, x = .ref p ∧ C1 p = some (.ins cls fs) ∧ fs.lookup f = some d ∧ R d C1
/-- e.f = value -/
def dSetFld (cls : Addr) (to tv : DE) (f : Str) : DS := fun N δ C => tv δ C fun v C1 => to δ C1 fun x C2 => ∃ p fs, x = .ref p ∧ C2 p = some (.ins cls fs) ∧ fs.length < 1000 ∧ N.nx δ (updC C2 p (.ins cls (putFD f v fs)))
/-- e.f += value, -= value, of whole numbers -/
def dAugFld (cls : Addr) (to tv : DE) (g : Int → Int → Int) (f : Str) : DS := fun N δ C => to δ C fun x C1 => ∃ p fs d, x = .ref p ∧ C1 p = some (.ins cls fs) ∧ fs.lookup f = some d ∧ tv δ C1 fun y C2 => ∃ i j fs2, d = .int i ∧ y = .int j ∧ C2 p = some (.ins cls fs2) ∧ (putFD f (.int (g i j)) fs2).length < 1000 ∧ fs2.length < 1000 ∧
  N.nx δ (updC C2 p (.ins cls (putFD f (.int (g i j)) fs2)))
/-- e.m(..), e an instance of the class at cls -/
def dMeth (cls : Addr) (m : Str) (a : ASp) (te : DE) (t : DA) : DE := fun δ C R => te δ C fun x C1 => ∃ p fs, x = .ref p ∧ C1 p = some (.ins cls fs) ∧ fs.lookup m = none ∧ t δ C1 fun ds C2 => a (x :: ds) C2 R
/-- C(..) -/
def dMake (cls : Addr) (a : ASp) (t : DA) : DE := fun δ C R => t δ C fun ds C1 => ∀ p, C1 p = none → a (.ref p :: ds) (updC C1 p (.ins cls [])) fun v C2 => v = .non ∧ R (.ref p) C2
section
variable {X : Cx} {o e value : Expr} {es : List Expr} {f m : Str} {pos pos' tpos apos : Pos} {te to tv : DE} {t : DA} {cls : Addr}
theorem de_fld (c : Cls X.K cls) (n : NoAttr X.K cls f) (he : PE X e (liftE X.K te)) (hb : attributeBase e f X.env (eval e X.env) = eval e X.env := by rfl) : PE X (.Attribute e f pos) (liftE X.K (dFld cls te f)) :=
  (pe_fld he hb).weak fun σ H Q ⟨F, G, δ, C, R, A, S, q, k⟩ => ⟨F, G, δ, C, _, A, S, q, by
    rintro x C1 ⟨p, fs, d, rfl, hp, hl, q1⟩ v H1 G1 s1 A1 r1
    cases r1
    obtain ⟨dx, gs, hH, rf⟩ := A1.insCell hp
    obtain ⟨v, hv, rv⟩ := rf.look hl
    exact ⟨p, cls, dx, gs, v, rfl, hH, c, n, hv, k _ _ q1 _ H1 G1 s1 A1 rv⟩⟩
theorem ds_fld (c : Cls X.K cls) (n : NoAttr X.K cls f) (ho : PE X o (liftE X.K to)) (hv : PE X value (liftE X.K tv)) (hs : swapsWith value (some (.Attribute o f pos')) pos.line X.env = pure false := by rfl) :
    PS X (.Assign [.Attribute o f pos'] value pos) (liftS X.K (dSetFld cls to tv f)) :=
  (ps_fld ho hv hs).weak fun D σ H ⟨F, G, δ, C, R, A, S, q, k⟩ => ⟨F, G, δ, C, _, A, S, q, by
    rintro y C1 q1 v H1 G1 s1 A1 r1
    refine ⟨F, G1, δ, C1, _, A1, S.mono s1, q1, ?_⟩
    rintro x C2 ⟨p, fs, rfl, hp, hl, q2⟩ u H2 G2 s2 A2 r2
    cases r2
    obtain ⟨dx, gs, hH, rf⟩ := A2.insCell hp
    exact ⟨p, cls, dx, gs, rfl, hH, c, n, by rw [← rf.length]; exact hl, k.nx _ _ q2 _ _ G2 (s1.trans s2) (A2.write hp (.ins (rf.put (r1.mono s2)))) (S.mono (s1.trans s2))⟩⟩
section
variable {k : Nat} {g : Addr} {fd : FuncData} {ps : List Str} {a : ASp} {x : Str} {p : Pos}
theorem de_meth {pl : Sem Bool} (ho : PE X o (liftE X.K te)) (c : Cls X.K cls) (hm : Meth X.K cls m g) (Fk : FnOk X.prog X.w X.K X.mg X.base CX0 k g fd ps (liftF X.K a)) (hr : Room k X.A) (hb : Binds X.K fd ps []) (ha : PA X (e :: es) (liftA X.K t))
    (hst : starEach (e :: es) X.env = (false, eval e X.env) :: starEach es X.env := by rfl) (hpl : (backTo pos (starEach es X.env)).any (·.1) = false := by rfl)
    (ht : eval (.Call (.Attribute o m apos) (e :: es) [] pos) X.env = (do
      let ov ← eval o X.env
      standAt apos.atName
      let (f, first) ← holding [ov] (getMethod ov m pl)
      callWith pos f first (backTo pos (starEach (e :: es) X.env)) (backToKw pos (keywordEach [] X.env))) := by rfl) :
    PE X (.Call (.Attribute o m apos) (e :: es) [] pos) (liftE X.K (dMeth cls m a te t)) :=
  (pe_meth ho c hm Fk hr hb .nil pass0 ha hst hpl ht).weak fun σ H Q ⟨F, G, δ, C, R, A, S, q, k⟩ => ⟨F, G, δ, C, _, A, S, q, by
    rintro x C1 ⟨p, fs, rfl, hp, hl, q1⟩ v H1 G1 s1 A1 r1
    cases r1
    obtain ⟨dx, gs, hH, rf⟩ := A1.insCell hp
    refine ⟨p, dx, gs, rfl, hH, rf.lookN hl, F, G1, δ, C1, _, A1, S.mono s1, q1, ?_⟩
    rintro ds C2 q2 vs H2 G2 s2 A2 r2
    rw [List.append_nil]
    exact ⟨F, G2, _, C2, R, A2, .cons (.ref p) r2, q2, k.mono (s1.trans s2)⟩⟩
theorem Ab.extra {K : PySem.W.Frag} {F C : Cells} {G H : Hp} {dx : Addr} {u : HO} (A : Ab K F G H C) (hd : H dx = none) : Ab K F G (upd H dx u) C := by
  refine ⟨fun b o e => ?_, fun b d e => ?_, fun b d e => ?_⟩
  · rw [upd_ne (ne_of_none e (A.freeG hd))]; exact A.sub b o e
  · obtain ⟨h1, v, h2, h3⟩ := A.cell b d e
    exact ⟨h1, v, by rw [upd_ne (ne_of_none h2 hd)]; exact h2, h3⟩
  · obtain ⟨h0, h1, v, h2, h3⟩ := A.fr b d e
    exact ⟨h0, h1, v, by rw [upd_ne (ne_of_none h2 hd)]; exact h2, h3⟩
theorem Ab.make {K : PySem.W.Frag} {F C : Cells} {G H : Hp} {x dx : Addr} {cls : Addr} (A : Ab K F G H C) (hx : H x = none) (hd : H dx = none) (hne : dx ≠ x) : Ab K F G (upd (upd H dx (.own x)) x (.ins cls dx [])) (updC C x (.ins cls [])) :=
  (A.extra hd).cellNew (by rw [upd_ne hne.symm]; exact hx) (.ins .nil)
theorem make_k {K : PySem.W.Frag} {F : Cells} {G G1 H1 : Hp} {x dx cls : Addr} {a : ASp} {ds : List D} {vs : List V} {C1 : Cells} {R : D → Cells → Prop} {Q : VK} {E : XK} (s1 : Same G G1) (A1 : Ab K F G1 H1 C1) (r1 : RpL K G1 ds vs) (hx : H1 x = none) (hd : H1 dx = none) (hne : dx ≠ x)
    (q1 : a (.ref x :: ds) (updC C1 x (.ins cls [])) fun v C2 => v = .non ∧ R (.ref x) C2) (k : ToE K F G R Q) : liftF K a (.ref x :: vs) (upd (upd H1 dx (.own x)) x (.ins cls dx [])) (fun v H2 => v = .non ∧ Q (.ref x) H2) E := by
  refine ⟨F, G1, _, _, _, A1.make hx hd hne, .cons (.ref x) r1, q1, ?_⟩
  rintro d C2 ⟨rfl, q2⟩ v H2 G2 s2 A2 r2
  cases r2
  exact ⟨rfl, k _ _ q2 _ H2 G2 (s1.trans s2) A2 (.ref x)⟩
theorem de_make0 (M : Mk X.K cls g) (Fk : FnOk X.prog X.w X.K X.mg X.base CX0 k g fd ps (liftF X.K a)) (hr : Room (k + 1) X.A) (hg : Gl X x) (hm : X.mg x = some (.ref cls)) (hb : Binds X.K fd ps [])
    (hdb : (x == ("__debug__" : Str)) = false := by decide) :
    PE X (.Call (.Name x p) [] [] pos) (liftE X.K (dMake cls a dNil)) :=
  (pe_make0 M Fk hr hg hm hb .nil pass0 hdb).weak fun σ H Q ⟨F, G, δ, C, R, A, S, q, k⟩ => by
    intro y dy hy hdy hne
    exact make_k (Same.refl G) A .nil hy hdy hne (q y (A.free hy)) k
end
end
end DL
namespace DL
open PySem PySem.Spec L2
open PyProof.Rows hiding St kindOf
def dMtS (o : DOm) (to : DE) (t : DA) : DE := fun δ C R => to δ C fun x C1 => (∃ z, x = .str z) ∧ t δ C1 fun xs C2 => o x xs C2 R
theorem lift_mtS {K : PySem.W.Frag} {r : V → List V → Hp → VK → Prop} {o : DOm} {to : DE} {t : DA} (h : LOm K r o) : ∀ σ H Q, liftE K (dMtS o to t) σ H Q → tBM K "str" r (liftE K to) (liftA K t) σ H Q := by
  rintro σ H Q ⟨F, G, δ, C, R, A, S, q, k⟩
  refine ⟨F, G, δ, C, _, A, S, q, ?_⟩
  rintro x C1 ⟨⟨z, rfl⟩, q1⟩ v H1 G1 s1 A1 r1
  cases r1
  refine ⟨rfl, F, G1, δ, C1, _, A1, S.mono s1, q1, fun xs C2 q2 vs H2 G2 s2 A2 r2 => ?_⟩
  exact h F G2 H2 C2 (.str z) _ xs vs R Q A2 (.str z) r2 q2 (k.mono (s1.trans s2))
section
variable {X : Cx} {o e : Expr} {es : List Expr} {to : DE} {t : DA} {name : Str} {apos cpos : Pos} {id : String} {om : DOm}
theorem de_mtS (slot : Slot "str" name id) (hty : typeOf (.builtin id) = pure (.type "method_descriptor")) (hm : MtD X id om) (ho : PE X o (liftE X.K to)) (ha : PA X (e :: es) (liftA X.K t))
    (hbase : attributeBase o name X.env (eval o X.env) = eval o X.env := by rfl)
    (hfew : ((backTo cpos (starEach (e :: es) X.env)).all (fun x => !x.1) && (backToKw cpos (keywordEach [] X.env)).all (fun x => x.1.isSome)
      && decide ((e :: es).length + ([] : List Keyword).length + (if ([] : List Keyword).isEmpty then 0 else 1) < 30)) = true := by rfl)
    (hline : (apos.endLine == cpos.line) = true := by rfl) (hs : starEach (e :: es) X.env = (false, eval e X.env) :: starEach es X.env := by rfl) (hplain : (backTo cpos (starEach es X.env)).any (·.1) = false := by rfl) :
    PE X (.Call (.Attribute o name apos) (e :: es) [] cpos) (liftE X.K (dMtS om to t)) := by
  obtain ⟨r, h1, h2⟩ := hm.ex
  exact (pe_bm PySem.F.plainAttrs_str slot hty h1 ho ha hbase hfew hline hs hplain).weak (lift_mtS h2)
def omSplit : DOm := fun x xs C R => ∃ a b, x = .str a ∧ xs = [.str b] ∧ (b.length == 0) = false ∧ a.length + 2 ≤ sizeLine ∧ R (.lst ((Txt.split a b).map .str)) C
def omJoin : DOm := fun x xs C R => ∃ a d, ∃ ys : List Str, x = .str a ∧ xs = [d] ∧ seqOf C d = some (ys.map .str) ∧ (ys.map (·.length)).sum + ys.length * a.length ≤ 16777216 ∧ R (.str (Txt.join a ys)) C
def omStarts : DOm := fun x xs C R => ∃ a b, x = .str a ∧ xs = [.str b] ∧ R (.bl (Txt.startswith a b)) C
theorem rpl_strs {K : PySem.W.Frag} {G : Hp} : ∀ ys : List Str, RpL K G (ys.map D.str) (ys.map V.str)
  | [] => .nil
  | y :: ys => .cons (.str y) (rpl_strs ys)
theorem strs_rpl {K : PySem.W.Frag} {G : Hp} : ∀ {ys : List Str} {vs : List V}, RpL K G (ys.map D.str) vs → vs = ys.map V.str
  | [], _, .nil => rfl
  | y :: ys, _, .cons r t => by
    cases r
    rw [strs_rpl t]
    rfl
theorem md_split : MtD X "str.split" omSplit := by
  refine ⟨_, mt_split, ?_⟩
  intro F G H C x v xs vs R Q A rx rxs h k
  obtain ⟨a, b, rfl, rfl, hb, hl, q⟩ := h
  cases rx
  obtain ⟨u, rfl, ru⟩ := rxs.one
  cases ru
  exact ⟨a, b, rfl, rfl, hb, hl, fun p hp => k.new A hp q (.lst (.inl upd_same) ((rpl_strs _).mono (A.grow hp).2))⟩
theorem md_join : MtD X "str.join" omJoin := by
  refine ⟨_, mt_join, ?_⟩
  intro F G H C x v xs vs R Q A rx rxs h k
  obtain ⟨a, d, ys, rfl, rfl, hd, hl, q⟩ := h
  cases rx
  obtain ⟨u, rfl, ru⟩ := rxs.one
  obtain ⟨p, as, rfl, hp, ra⟩ := seq_at A ru hd
  have e := strs_rpl ra
  subst e
  exact ⟨a, p, ys, rfl, rfl, hp, hl, k.now A q (.str _)⟩
theorem md_starts : MtD X "str.startswith" omStarts := by
  refine ⟨_, mt_startswith, ?_⟩
  intro F G H C x v xs vs R Q A rx rxs h k
  obtain ⟨a, b, rfl, rfl, q⟩ := h
  cases rx
  obtain ⟨u, rfl, ru⟩ := rxs.one
  cases ru
  exact ⟨a, b, rfl, rfl, k.now A q (.bl _)⟩
/-- str(x) of a small whole number or a text -/
def oStr : DOs := fun xs C R => match xs with
  | [.int i] => i.natAbs.log2 < 1920 ∧ R (.str (toString i)) C
  | [.str z] => R (.str z) C
  | _ => False
theorem callR_or {f : Value} {r r' : List V → Hp → VK → Prop} (h : CallR X f r) (h' : CallR X f r') : CallR X f fun xs H Q => r xs H Q ∨ r' xs H Q := by
  intro pins s σ H vs us Q I rr hh
  rcases hh with hh | hh
  · exact h pins s σ H vs us Q I rr hh
  · exact h' pins s σ H vs us Q I rr hh
theorem cl_str : CalD X (.type "str") oStr := by
  refine ⟨_, callR_or call_str_int SkE.call_str_str, ?_⟩
  intro F G H C xs vs R Q A rx h k
  unfold oStr at h
  split at h
  · obtain ⟨v, rfl, r⟩ := rx.one
    cases r
    exact .inl ⟨_, rfl, h.1, k.now A h.2 (.str _)⟩
  · obtain ⟨v, rfl, r⟩ := rx.one
    cases r
    exact .inr ⟨_, rfl, k.now A h (.str _)⟩
  · exact h.elim
/-- int(text) of a text that writes a number -/
def oIntS : DOs := fun xs C R => ∃ a n, xs = [.str a] ∧ PySem.intText? a = some n ∧ a.length ≤ 640 ∧ R (.int n) C
theorem cl_intS : CalD X (.type "int") oIntS := by
  refine ⟨_, call_int_str, ?_⟩
  intro F G H C xs vs R Q A rx h k
  obtain ⟨a, n, rfl, hn, hl, q⟩ := h
  obtain ⟨v, rfl, r⟩ := rx.one
  cases r
  exact ⟨a, n, rfl, hn, hl, k.now A q (.int _)⟩
end
end DL
namespace DL
open PySem PySem.Spec L2
open PyProof.Rows hiding St kindOf
/-- a list is taken apart, what the starred name gets is a new list -/
def gStarL (K : PySem.W.Frag) (n i : Nat) (t : TGs) : TG := fun v σ H Q => ∃ a xs, v = .ref a ∧ SqL K H a xs ∧ n ≤ xs.length + 1 ∧ xs.length ≤ 16384 ∧
  ∀ p, H p = none → t (xs.take i ++ [.ref p] ++ (xs.drop i).drop (xs.length + 1 - n)) σ (upd H p (.lst ((xs.drop i).take (xs.length + 1 - n)))) Q
section
variable {X : Cx}
theorem vals_take {xs : List V} {us : List Value} (r : Vals xs us) : ∀ i, Vals (xs.take i) (us.take i) := by
  induction r with
  | nil => intro i; simp; exact .nil
  | cons h t ih =>
    intro i
    cases i with
    | zero => exact .nil
    | succ i => exact .cons h (ih i)
theorem vals_drop {xs : List V} {us : List Value} (r : Vals xs us) : ∀ i, Vals (xs.drop i) (us.drop i) := by
  induction r with
  | nil => intro i; simp; exact .nil
  | cons h t ih =>
    intro i
    cases i with
    | zero => exact .cons h t
    | succ i => exact ih i
theorem pg_starL {es : List Expr} {k : Nat} {t : TGs} {n i : Nat} {pos : Pos} (hc : X.calm = true) (h : PGs X es t) (hi : i < n)
    (hn : (assignEach es X.env).length = n := by rfl) (hst : (assignEach es X.env).findIdx? (·.1) = some i := by rfl) : PG X (.Tuple es k pos) (gStarL X.K n i t) := by
  refine ⟨fun pins s σ H v u Q I r hw => ?_⟩
  obtain ⟨a, xs, e1, hq, hl, hz0, hw⟩ := hw
  subst e1
  cases r
  obtain ⟨its, rv, pl, hz⟩ := I.list hq
  have hlist : s.heap.IsList a its.toArray := by
    obtain ⟨o, m, e, c, d, q⟩ := pl
    exact ⟨o, e, c, m, q⟩
  have hxl : xs.length = its.length := rv.length
  have hlt : a ≠ s.heap.objs.size := by obtain ⟨o, ho, _⟩ := hlist; exact Nat.ne_of_lt (Heap.lt_size ho)
  have hsz : its.toArray.size = its.length := by simp
  rw [PyProof.Rows.assign_Tuple]
  refine wpAny_bind (wpAny_standAt ?_)
  unfold unpack
  rw [hn, hst]
  refine wpAny_bind (wpAny_holding ?_)
  unfold unpackItems
  refine wpAny_bind ?_
  unfold notIterableAtAll
  refine wpAny_bind (wpAny_specialOf hlist.typeIs PySem.F.slot_list_iter.lookup ?_)
  refine wpAny_pure ?_
  simp only [Bool.false_eq_true, if_false]
  refine wpAny_bind (wpAny_holding (wpAny_pyIter_list hlist ?_))
  refine wpAny_bind (wpAny_holding (PySem.W.kun_draw hlt i 0 _ _ ⟨_, Heap.get?_push_size _ rfl, rfl, rfl⟩ (hlist.push _) (by omega) fun h₁ hit₁ hs₁ => ?_))
  have hl₁ : h₁.IsList a its.toArray := (hlist.push _).extBut hs₁.extBut hlt
  rw [Nat.zero_add] at hit₁
  have hit₁' := hit₁
  obtain ⟨oi, hoi, _⟩ := hit₁'
  have hl₁' := hl₁
  obtain ⟨ol, hol, _⟩ := hl₁'
  rw [List.drop_zero]
  have hfl : (its.take i).length = i := by rw [List.length_take]; omega
  show wpAny _ _ (if (its.take i).length < i then _ else _) _ _ _
  rw [if_neg (show ¬ ((its.take i).length < i) by rw [hfl]; omega)]
  refine wpAny_bind (wpAny_holding (PySem.W.kun_collect (s := { s with heap := h₁ }) (T := "list_iterator") (.inr (.inr (.inl rfl))) (Walks.list (A := X.A.in1) (I.ok.hd hc) s.heap.objs.size a hlt its.toArray) (fun j u st => st.1.typeIs) (k := i) (by omega) ⟨hit₁, hl₁⟩ (Heap.lt_size hoi) (Heap.lt_size hol) (fun h₂ tk hk => ?_) (by rw [hsz, ← hxl]; exact hz)))
  show wpAny _ _ (if (its.drop i).length < n - 1 - i then _ else _) _ _ _
  have hrl : (its.drop i).length = its.length - i := by rw [List.length_drop]
  rw [if_neg (by rw [hrl]; omega)]
  have hmid : (its.drop i).length - (n - 1 - i) = xs.length + 1 - n := by rw [hrl]; omega
  show wpAny _ _ (newList ((its.drop i).take ((its.drop i).length - (n - 1 - i))) >>= fun d => pure (its.take i ++ [d] ++ (its.drop i).drop ((its.drop i).length - (n - 1 - i)))) _ _ _
  rw [hmid]
  have he : ∀ b o, s.heap.get? b = some o → h₂.get? b = some o := fun b o e => by
    have hb : b ≠ s.heap.objs.size := Nat.ne_of_lt (Heap.lt_size e)
    exact hk b o hb (hs₁.extBut b o hb (Heap.get?_push_of_some _ e))
  have I1 : Inv X pins σ H { s with heap := h₂, toks := tk } := I.kept (t' := tk) he
  refine wpAny_bind (wpAny_newList (wpAny_pure ?_))
  have I2 := I1.lnew (t' := tk) (vals_take (vals_drop rv i) (xs.length + 1 - n)) (by rw [List.length_take, List.length_drop]; omega)
  refine h.run pins _ σ _ _ _ Q I2 ?_ (hw _ I1.fresh)
  have hone : Vals [V.ref h₂.objs.size] [Value.ref h₂.objs.size] := .cons (show L2.RelV (V.ref h₂.objs.size) (Value.ref h₂.objs.size) from rfl) .nil
  exact ((vals_take rv i).append hone).append (vals_drop (vals_drop rv i) _)
theorem pgs_star {e : Expr} {es : List Expr} {t : TG} {u : TGs} {p : Pos} (h1 : PG X e t) (h2 : PGs X es u)
    (hs : (assignEach (.Starred e p :: es) X.env).map (·.2) = assign e X.env :: (assignEach es X.env).map (·.2) := by rfl) : PGs X (.Starred e p :: es) (gCons t u) := by
  refine ⟨fun pins s σ H vs us Q I r h => ?_⟩
  obtain ⟨v, vr, e1, h⟩ := h
  subst e1
  cases r with
  | cons r rr =>
    rw [hs]
    refine assignInOrder_cons (thn (h1.run pins s σ H _ _ _ I r h) fun _ s1 ⟨σ1, H1, I1, q1⟩ => ?_)
    exact h2.run pins s1 σ1 H1 _ _ Q I1 rr q1
theorem dgs_star {e : Expr} {es : List Expr} {t : DG} {u : DGs} {p : Pos} (h1 : PG X e (liftG X.K t)) (h2 : PGs X es (liftGs X.K u))
    (hs : (assignEach (.Starred e p :: es) X.env).map (·.2) = assign e X.env :: (assignEach es X.env).map (·.2) := by rfl) : PGs X (.Starred e p :: es) (liftGs X.K (gdCons t u)) :=
  (pgs_star h1 h2 hs).weak fun vs σ H Q ⟨F, G, δ, C, ds, R, A, S, r, ⟨d, dr, e, q⟩, k⟩ => by
    subst e
    cases r with
    | cons r rr =>
      exact ⟨_, _, rfl, F, G, δ, C, d, _, A, S, r, q, fun δ1 C1 q1 σ1 H1 G1 s1 A1 S1 => ⟨F, G1, δ1, C1, dr, R, A1, S1, rr.mono s1, q1, fun δ2 C2 q2 σ2 H2 G2 s2 A2 S2 => k δ2 C2 q2 σ2 H2 G2 (s1.trans s2) A2 S2⟩⟩
/-- (a, .., *rest, ..) = a list; the rest is never written -/
def gdStar (n i : Nat) (t : DGs) : DG := fun d δ C R => ∃ ds, lstOf C d = some ds ∧ n ≤ ds.length + 1 ∧ ds.length ≤ 16384 ∧ t (ds.take i ++ [.lst ((ds.drop i).take (ds.length + 1 - n))] ++ (ds.drop i).drop (ds.length + 1 - n)) δ C R
theorem rpl_take {K : PySem.W.Frag} {G : Hp} : ∀ {ds : List D} {vs : List V} (i : Nat), RpL K G ds vs → RpL K G (ds.take i) (vs.take i)
  | _, _, 0, _ => .nil
  | _, _, _ + 1, .nil => .nil
  | _, _, i + 1, .cons r t => .cons r (rpl_take i t)
theorem rpl_drop {K : PySem.W.Frag} {G : Hp} : ∀ {ds : List D} {vs : List V} (i : Nat), RpL K G ds vs → RpL K G (ds.drop i) (vs.drop i)
  | _, _, 0, h => h
  | _, _, _ + 1, .nil => .nil
  | _, _, i + 1, .cons r t => rpl_drop i t
theorem dg_star {es : List Expr} {k : Nat} {t : DGs} {n i : Nat} {pos : Pos} (hc : X.calm = true) (h : PGs X es (liftGs X.K t)) (hi : i < n)
    (hn : (assignEach es X.env).length = n := by rfl) (hst : (assignEach es X.env).findIdx? (·.1) = some i := by rfl) : PG X (.Tuple es k pos) (liftG X.K (gdStar n i t)) :=
  (pg_starL hc h hi hn hst).weak fun v σ H Q ⟨F, G, δ, C, d, R, A, S, r, ⟨ds, e, h1, h2, q⟩, k⟩ => by
  obtain ⟨a, as, rfl, ha, ra⟩ := lst_at A r e
  have hl := ra.length
  refine ⟨a, as, rfl, .inl ha, by omega, by omega, fun p hp => ?_⟩
  obtain ⟨A1, s1⟩ := A.grow (u := .lst ((as.drop i).take (as.length + 1 - n))) hp
  refine ⟨F, _, δ, C, _, R, A1, S.mono s1, ?_, q, fun δ2 C2 q2 σ2 H2 G2 s2 A2 S2 => k δ2 C2 q2 σ2 H2 G2 (s1.trans s2) A2 S2⟩
  rw [← hl]
  have r1 : RpL X.K (upd G p (.lst ((as.drop i).take (ds.length + 1 - n)))) [.lst ((ds.drop i).take (ds.length + 1 - n))] [.ref p] := .cons (.lst (.inl upd_same) ((rpl_take _ (rpl_drop i ra)).mono (by rw [← hl] at s1; exact s1))) .nil
  rw [← hl] at s1
  exact (((rpl_take i ra).mono s1).append r1).append ((rpl_drop _ (rpl_drop i ra)).mono s1)
end
end DL
namespace DL
open PySem PySem.Spec L2
open PyProof.Rows hiding St kindOf
/-- whole numbers and tuples of such, at most n deep -/
def okN : Nat → NestedKey → Bool
  | _, .num _ => true
  | n + 1, .tup ks => ks.all (okN n)
  | _, _ => false
theorem hIs_map : ∀ ks : List NestedKey, hIs ks = ks.map hI
  | [] => rfl
  | k :: ks => by rw [hIs, hIs_map ks]; rfl
theorem hashes_map (w : World) : ∀ ks : List NestedKey, NestedKey.hashes w ks = ks.map (NestedKey.hash w)
  | [] => rfl
  | k :: ks => by rw [NestedKey.hashes, hashes_map w ks]; rfl
theorem hash_ok (w : World) : ∀ (n : Nat) (k : NestedKey), okN n k = true → k.hash w = hI k
  | n, .num i, _ => by simp [NestedKey.hash, hI]
  | n, .none, h => by cases n <;> cases h
  | n, .text x, h => by cases n <;> cases h
  | 0, .tup ks, h => by cases h
  | n + 1, .tup ks, h => by
    have h : ks.all (okN n) = true := h
    rw [NestedKey.hash, hI, hIs_map, hashes_map]
    have e : ks.map (NestedKey.hash w) = ks.map hI := List.map_congr_left fun k hk => hash_ok w n k (List.all_eq_true.mp h k hk)
    rw [e]
theorem depthAll_leN {n : Nat} : ∀ {ks : List NestedKey}, (∀ k ∈ ks, k.depth ≤ n) → NestedKey.depthAll ks ≤ n
  | [], _ => by simp [NestedKey.depthAll]
  | k :: ks, h => by
    have h1 := h k (by simp)
    have h2 := depthAll_leN (ks := ks) fun e he => h e (by simp [he])
    simp only [NestedKey.depthAll]
    omega
theorem depth_ok : ∀ (n : Nat) (k : NestedKey), okN n k = true → k.depth ≤ n
  | n, .num i, _ => by simp [NestedKey.depth]
  | n, .none, h => by cases n <;> cases h
  | n, .text x, h => by cases n <;> cases h
  | 0, .tup ks, h => by cases h
  | n + 1, .tup ks, h => by
    have h : ks.all (okN n) = true := h
    have := depthAll_leN (ks := ks) fun k hk => depth_ok n k (List.all_eq_true.mp h k hk)
    rw [NestedKey.depth]
    omega
theorem nkL_map : ∀ ds : List D, nkL ds = ds.map nkD
  | [] => rfl
  | d :: ds => by rw [nkL, nkL_map ds]; rfl
theorem okN_nk : ∀ (n : Nat) (d : D), isNk n d = true → okN n (nkD d) = true
  | n, .int i, _ => by cases n <;> simp [nkD, okN]
  | 0, .tup ds, h => by cases h
  | n + 1, .tup ds, h => by
    have h : ds.all (isNk n) = true := h
    rw [nkD, nkL_map]
    show (ds.map nkD).all (okN n) = true
    rw [List.all_map]
    exact List.all_eq_true.mpr fun d hd => okN_nk n d (List.all_eq_true.mp h d hd)
  | n, .non, h => by cases n <;> cases h
  | n, .bl _, h => by cases n <;> cases h
  | n, .str _, h => by cases n <;> cases h
  | n, .lst _, h => by cases n <;> cases h
  | n, .dct _, h => by cases n <;> cases h
  | n, .ref _, h => by cases n <;> cases h
  | n, .ty _, h => by cases n <;> cases h
theorem nk_inj : ∀ (n : Nat) (x y : D), isNk n x = true → isNk n y = true → nkD x = nkD y → x = y
  | n, .int i, .int j, _, _, e => by simp [nkD] at e; rw [e]
  | n, .int i, .tup ds, _, _, e => by simp [nkD] at e
  | n, .tup ds, .int i, _, _, e => by simp [nkD] at e
  | 0, .tup ds, .tup es, h, _, _ => by cases h
  | n + 1, .tup ds, .tup es, h, h', e => by
    have h : ds.all (isNk n) = true := h
    have h' : es.all (isNk n) = true := h'
    rw [nkD, nkD, nkL_map, nkL_map] at e
    injection e with e
    have key : ∀ (ds es : List D), ds.all (isNk n) = true → es.all (isNk n) = true → ds.map nkD = es.map nkD → ds = es := by
      intro ds
      induction ds with
      | nil => intro es _ _ e; cases es with
        | nil => rfl
        | cons a b => cases e
      | cons d ds ih => intro es h h' e; cases es with
        | nil => cases e
        | cons a b =>
          simp only [List.all_cons, Bool.and_eq_true] at h h'
          simp only [List.map_cons, List.cons.injEq] at e
          rw [nk_inj n d a h.1 h'.1 e.1, ih b h.2 h'.2 e.2]
    rw [key ds es h h' e]
  | n, .non, _, h, _, _ => by cases n <;> cases h
  | n, .bl _, _, h, _, _ => by cases n <;> cases h
  | n, .str _, _, h, _, _ => by cases n <;> cases h
  | n, .lst _, _, h, _, _ => by cases n <;> cases h
  | n, .dct _, _, h, _, _ => by cases n <;> cases h
  | n, .ref _, _, h, _, _ => by cases n <;> cases h
  | n, .ty _, _, h, _, _ => by cases n <;> cases h
  | n, _, .non, _, h, _ => by cases n <;> cases h
  | n, _, .bl _, _, h, _ => by cases n <;> cases h
  | n, _, .str _, _, h, _ => by cases n <;> cases h
  | n, _, .lst _, _, h, _ => by cases n <;> cases h
  | n, _, .dct _, _, h, _ => by cases n <;> cases h
  | n, _, .ref _, _, h, _ => by cases n <;> cases h
  | n, _, .ty _, _, h, _ => by cases n <;> cases h
theorem tk_nk {d : D} (h : isTk d = true) : isNk 8 d = true := by
  cases d <;> first | exact h | cases h
theorem tk_inj {x y : D} (h : isTk x = true) (h' : isTk y = true) (e : nkD x = nkD y) : x = y := nk_inj 8 x y (tk_nk h) (tk_nk h') e
mutual
inductive NkV (K : PySem.W.Frag) (H : Hp) : NestedKey → V → Prop
  | int (i : Int) : NkV K H (.num i) (.int i)
  | tup {a : Addr} {xs : List V} {ks : List NestedKey} : SqT K H a xs → NkVs K H ks xs → NkV K H (.tup ks) (.ref a)
inductive NkVs (K : PySem.W.Frag) (H : Hp) : List NestedKey → List V → Prop
  | nil : NkVs K H [] []
  | cons {k : NestedKey} {v : V} {ks : List NestedKey} {vs : List V} : NkV K H k v → NkVs K H ks vs → NkVs K H (k :: ks) (v :: vs)
end
section
variable {X : Cx} {pins : List (Addr × Obj)} {σ : St} {H : Hp} {s : Shared}
mutual
theorem NkV.at (I : Inv X pins σ H s) : ∀ {k : NestedKey} {v : V} {u : Value}, NkV X.K H k v → RelV v u → NestedIs s.heap k u
  | _, _, _, .int i, r => by
    obtain ⟨t, rfl⟩ := r
    exact .int i t
  | _, _, _, .tup h hs, r => by
    obtain rfl := r
    obtain ⟨its, rv, p, _⟩ := I.tuple h
    obtain ⟨o, ho, hc, n, hd⟩ := p
    exact .tup ho hc hd (by simpa using NkVs.at I hs rv)
theorem NkVs.at (I : Inv X pins σ H s) : ∀ {ks : List NestedKey} {vs : List V} {us : List Value}, NkVs X.K H ks vs → Vals vs us → NestedAll s.heap ks us
  | _, _, _, .nil, .nil => .nil
  | _, _, _, .cons h t, .cons r rs => .cons (NkV.at I h r) (NkVs.at I t rs)
end
end
theorem nkvs_of {K : PySem.W.Frag} {G H : Hp} {n : Nat} (ih : ∀ (d : D) (v : V), isNk n d = true → Rp K G d v → NkV K H (nkD d) v) : ∀ {ds : List D} {vs : List V}, ds.all (isNk n) = true → RpL K G ds vs → NkVs K H (nkL ds) vs
  | _, _, _, .nil => .nil
  | _, _, h, .cons r t => by
    simp only [List.all_cons, Bool.and_eq_true] at h
    exact .cons (ih _ _ h.1 r) (nkvs_of ih h.2 t)
theorem Rp.nk {K : PySem.W.Frag} {G H : Hp} (sm : Same G H) : ∀ (n : Nat) (d : D) (v : V), isNk n d = true → Rp K G d v → NkV K H (nkD d) v
  | n, _, _, _, .int i => .int i
  | 0, _, _, h, .tup _ _ => by cases h
  | n + 1, _, _, h, .tup hs r => by
    rw [nkD]
    exact .tup (sqT_mono sm hs) (nkvs_of (Rp.nk sm n) h r)
  | n, _, _, h, .non => by cases n <;> cases h
  | n, _, _, h, .bl _ => by cases n <;> cases h
  | n, _, _, h, .str _ => by cases n <;> cases h
  | n, _, _, h, .ref _ => by cases n <;> cases h
  | n, _, _, h, .ty _ => by cases n <;> cases h
  | n, _, _, h, .lst _ _ => by cases n <;> cases h
  | n, _, _, h, .dct _ _ => by cases n <;> cases h
/-- a dict with tuple keys is read -/
def XD (K : PySem.W.Frag) (H : Hp) (a : Addr) (xs : List (NestedKey × Addr × Value)) : Prop := Rd H a (.ext (isKeyed a xs)) ∧ ∀ x ∈ xs, NkV K H x.1 (.ref x.2.1) ∧ okN 8 x.1 = true
theorem RpN.keys {K : PySem.W.Frag} {G H : Hp} (sm : Same G H) : ∀ {kvs : List (D × D)} {xs : List (NestedKey × Addr × Value)}, RpN K G kvs xs → ∀ x ∈ xs, NkV K H x.1 (.ref x.2.1) ∧ okN 8 x.1 = true
  | _, _, .nil, x, hx => by cases hx
  | _, _, .cons h r _ _ t, x, hx => by
    rcases List.mem_cons.mp hx with rfl | hx
    · exact ⟨Rp.nk sm 8 _ _ (tk_nk h) r, okN_nk 8 _ (tk_nk h)⟩
    · exact RpN.keys sm t x hx
theorem ent_of {P : Program} {w : World} {xs : List (NestedKey × Addr × Value)} (h : ∀ x ∈ xs, okN 8 x.1 = true) : xs.map entK = xs.map (entryOfKey (nestedKind P w)) :=
  List.map_congr_left fun x hx => by
    show (⟨hI x.1, _, _⟩ : DictEntry) = ⟨x.1.hash w, _, _⟩
    rw [hash_ok w 8 x.1 (h x hx)]
section
variable {X : Cx} {pins : List (Addr × Obj)} {σ : St} {H : Hp} {s : Shared} {a : Addr} {xs : List (NestedKey × Addr × Value)}
theorem XD.at (I : Inv X pins σ H s) (x : XD X.K H a xs) : (a == sysModules) = false ∧ xs.length ≤ sizeLine ∧ s.heap.DictOfH (nestedKind X.prog X.w) a xs := by
  obtain ⟨rd, hk⟩ := x
  obtain ⟨⟨o, es, ep, ho, hx, hd, he, hn, hs, hl⟩, _, _⟩ := rd.ok I.hok
  refine ⟨hs, hl, o, es, ep, ho, hx, hd, ?_, fun y hy => ⟨NkV.at I (hk y hy).1 rfl, depth_ok 8 _ (hk y hy).2⟩, hn⟩
  rw [he]
  exact ent_of fun y hy => (hk y hy).2
end
end DL
namespace DL
open PySem PySem.Spec L2
open PyProof.Rows hiding St kindOf
def getN (kvs : List (D × D)) (k : D) : Option D := (kvs.find? fun kv => decide (kv.1 = k)).map (·.2)
def putN (kvs : List (D × D)) (k d : D) : List (D × D) := if (getN kvs k).isSome = true then kvs.map fun kv => if kv.1 = k then (kv.1, d) else kv else kvs ++ [(k, d)]
def cellDcn : Cell → Option (List (D × D))
  | .dcn kvs => some kvs
  | .lck _ (.dcn kvs) => some kvs
  | _ => none
def dcnOf (C : Cells) : D → Option (List (D × D))
  | .ref p => (C p).bind cellDcn
  | _ => none
section
variable {K : PySem.W.Frag} {G H : Hp} {F C : Cells} {d : D} {v : V}
theorem RpN.get {k : D} (hk : isTk k = true) : ∀ {kvs : List (D × D)} {xs : List (NestedKey × Addr × Value)}, RpN K G kvs xs →
    (∀ d, getN kvs k = some d → ∃ p v, atKey xs (nkD k) = some p ∧ RelV v p.2 ∧ Rp K G d v) ∧ (getN kvs k = none → atKey xs (nkD k) = none)
  | _, _, .nil => ⟨fun d e => by simp [getN] at e, fun _ => rfl⟩
  | _, _, .cons (k := l) (d := d0) (v := v0) h r1 r2 r3 t => by
    obtain ⟨h1, h2⟩ := RpN.get hk t
    by_cases he : l = k
    · subst he
      simp only [getN, atKey, List.find?_cons, decide_true, Option.map_some]
      exact ⟨fun d e => by cases e; exact ⟨_, _, rfl, r3, r2⟩, fun e => by cases e⟩
    · have hne : ¬ nkD l = nkD k := fun e => he (tk_inj h hk e)
      simp only [getN, atKey, List.find?_cons, he, hne, decide_false] at h1 h2 ⊢
      exact ⟨h1, h2⟩
theorem RpN.some {k : D} (hk : isTk k = true) {kvs : List (D × D)} {xs : List (NestedKey × Addr × Value)} (r : RpN K G kvs xs) : (atKey xs (nkD k)).isSome = (getN kvs k).isSome := by
  obtain ⟨h1, h2⟩ := r.get hk
  cases e : getN kvs k with
  | none => rw [h2 e]; rfl
  | some d => obtain ⟨p, v, e1, _⟩ := h1 d e; rw [e1]; rfl
theorem RpN.repl {k : D} {u : Value} (hk : isTk k = true) (r : Rp K G d v) (rv : RelV v u) : ∀ {kvs : List (D × D)} {xs : List (NestedKey × Addr × Value)}, RpN K G kvs xs → RpN K G (kvs.map fun kv => if kv.1 = k then (kv.1, d) else kv) (xs.map (putAt (nkD k) u))
  | _, _, .nil => .nil
  | _, _, .cons (k := l) h0 r1 r2 r3 t => by
    simp only [List.map_cons]
    by_cases he : l = k
    · subst he
      rw [if_pos rfl]
      unfold putAt
      rw [if_pos rfl]
      exact .cons h0 r1 r rv (RpN.repl hk r rv t)
    · rw [if_neg he]
      unfold putAt
      rw [if_neg (fun e => he (tk_inj h0 hk e))]
      exact .cons h0 r1 r2 r3 (RpN.repl hk r rv t)
theorem RpN.append : ∀ {kvs ls : List (D × D)} {xs ys : List (NestedKey × Addr × Value)}, RpN K G kvs xs → RpN K G ls ys → RpN K G (kvs ++ ls) (xs ++ ys)
  | _, _, _, _, .nil, h => h
  | _, _, _, _, .cons a b c e t, h => .cons a b c e (RpN.append t h)
theorem RpN.put {k : D} {b : Addr} {u : Value} (hk : isTk k = true) (rk : Rp K G k (.ref b)) (r : Rp K G d v) (rv : RelV v u) {kvs : List (D × D)} {xs : List (NestedKey × Addr × Value)} (h : RpN K G kvs xs) : RpN K G (putN kvs k d) (storedH xs (nkD k) b u) := by
  unfold putN storedH
  rw [h.some hk]
  split
  · exact h.repl hk r rv
  · exact h.append (.cons hk rk r rv .nil)
end
/-- d[k] = v -/
def dPutN (td ty tv : DE) : DS := fun D δ C => tv δ C fun v C1 => td δ C1 fun x C2 => ty δ C2 fun y C3 => ∃ p kvs, x = .ref p ∧ C3 p = some (.dcn kvs) ∧ isTk y = true ∧ kvs.length < sizeLine ∧ D.nx δ (updC C3 p (.dcn (putN kvs y v)))
/-- d.get(k, x) -/
def dGetN2 (td ty tx : DE) : DE := fun δ C R => td δ C fun x C1 => (dcnOf C1 x).isSome = true ∧ ty δ C1 fun y C2 => tx δ C2 fun z C3 => ∃ kvs, dcnOf C3 x = some kvs ∧ isTk y = true ∧ R ((getN kvs y).getD z) C3
def dDctN : DE := fun _ C R => ∀ p, C p = none → R (.ref p) (updC C p (.dcn []))
end DL
namespace DL
open PySem PySem.Spec L2
open PyProof.Rows hiding St kindOf
/-- a dict's cell -/
def isDc : Cell → Bool
  | .dct _ => true
  | .dcn _ => true
  | _ => false
/-- back from the lock -/
def unl (p : Addr) (o : Obj) {α : Type} (R : α → Cells → Prop) : α → Cells → Prop := fun x C => ∃ c, C p = some (.lck o c) ∧ R x (updC C p c)
def dLockS (t : DS) : DS := fun N δ C => ∃ p c, C p = some c ∧ isDc c = true ∧ ∀ o, t ⟨unl p o N.nx, unl p o N.rt, unl p o N.bk, unl p o N.ct⟩ δ (updC C p (.lck o c))
def dLockE (t : DE) : DE := fun δ C R => ∃ p c, C p = some c ∧ isDc c = true ∧ ∀ o, t δ (updC C p (.lck o c)) (unl p o R)
/-- a dict's entries, keys as data -/
def entsOf : Cell → Option (List (D × D))
  | .dct kvs => some (kvs.map fun kv => (keyD kv.1, kv.2))
  | .dcn kvs => some kvs
  | _ => none
/-- the locked dict at p: f of each entry -/
def itLk (p : Addr) (o : Obj) (f : D × D → D) : DIt := ⟨fun i C => ∃ c es, C p = some (.lck o c) ∧ entsOf c = some es ∧ i < es.length, fun i C d => ∃ c es e, C p = some (.lck o c) ∧ entsOf c = some es ∧ es[i]? = some e ∧ d = f e, fun i C => ∃ c es, C p = some (.lck o c) ∧ entsOf c = some es ∧ es.length ≤ i⟩
def diLk (f : D × D → D) (td : DE) : DI := fun δ C R => td δ C fun x C1 => ∃ p o c, x = .ref p ∧ C1 p = some (.lck o c) ∧ isDc c = true ∧ R (itLk p o f) C1
end DL
namespace DL
open PySem PySem.Spec L2
open PyProof.Rows hiding St kindOf
/-- the walk of a dict comprehension: acc so far, st stores an entry -/
def dDcG {α : Type} (nil : α) (st : α → D → D → (α → Prop) → Prop) (fin : α → Cells → Prop) (J : DIt) (C1 : Cells) (gd : DG) (tt : DT) (tk te : DE) (δ : DSt) : Prop :=
  ∃ W : Nat → Nat → α → Cells → Prop, (∃ m, W 0 m nil C1) ∧ ∀ i m acc C, W i m acc C → (J.stop i C ∧ fin acc C) ∨ (J.go i C ∧ ∃ N : α → Cells → Prop, (∀ acc' C', N acc' C' → ∃ m', m' < m ∧ W (i + 1) m' acc' C') ∧
    ∀ d, J.yld i C d → gd d δ C fun δ2 C2 => tt δ2 C2 fun b C3 => if b = true then tk δ2 C3 fun x C4 => te δ2 C4 fun y C5 => st acc x y fun acc' => N acc' C5 else N acc C3)
def stK : List (Key × D) → D → D → (List (Key × D) → Prop) → Prop := fun acc x y P => ∃ k, keyOf x = some k ∧ acc.length < sizeLine ∧ P (putD acc k y)
def stN : List (D × D) → D → D → (List (D × D) → Prop) → Prop := fun acc x y P => isTk x = true ∧ acc.length < sizeLine ∧ P (putN acc x y)
/-- the dict may be written (a cell) -/
def dDcC (wi : DI) (gd : DG) (tt : DT) (tk te : DE) (vs : List Nat) : DE := fun δ C R => wi δ C fun J C1 => dDcG [] stK (fun acc C => ∀ p, C p = none → R (.ref p) (updC C p (.dct acc))) J C1 gd tt tk te (wipeD δ vs)
def dDcN (wi : DI) (gd : DG) (tt : DT) (tk te : DE) (vs : List Nat) : DE := fun δ C R => wi δ C fun J C1 => dDcG [] stN (fun acc C => ∀ p, C p = none → R (.ref p) (updC C p (.dcn acc))) J C1 gd tt tk te (wipeD δ vs)
end DL
namespace DL
open PySem PySem.Spec L2
open PyProof.Rows hiding St kindOf
end DL
namespace DL
open PySem PySem.Spec L2
open PyProof.Rows hiding St kindOf
open L2.DX (itemsO itemsO_ok takeT)
/-- list(e.values()) -/
def dListV (te : DE) : DE := fun δ C R => te δ C fun x C1 => ∃ p c es, x = .ref p ∧ C1 p = some c ∧ entsOf c = some es ∧ es.length ≤ sizeLine ∧ R (.lst (es.map (·.2))) C1
end DL
namespace DL
open PySem PySem.Spec L2
open PyProof.Rows hiding St kindOf
def dPop1 (td ty : DE) : DE := fun δ C R => td δ C fun x C1 => (∃ p kvs, x = .ref p ∧ C1 p = some (.dct kvs)) ∧ ty δ C1 fun y C2 => ∃ p kvs k d, x = .ref p ∧ C2 p = some (.dct kvs) ∧ keyOf y = some k ∧ getK kvs k = some d ∧ R d (updC C2 p (.dct (delK kvs k)))
def dPop2 (td ty tx : DE) : DE := fun δ C R => td δ C fun x C1 => (∃ p kvs, x = .ref p ∧ C1 p = some (.dct kvs)) ∧ ty δ C1 fun y C2 => tx δ C2 fun z C3 => ∃ p kvs k, x = .ref p ∧ C3 p = some (.dct kvs) ∧ keyOf y = some k ∧
  match getK kvs k with
  | some d => R d (updC C3 p (.dct (delK kvs k)))
  | none => R z C3
/-- d a cell, d2 another -/
def dUpd (td ty : DE) : DE := fun δ C R => td δ C fun x C1 => (∃ p kvs, x = .ref p ∧ C1 p = some (.dct kvs)) ∧ ty δ C1 fun y C2 => ∃ p q kvs ms, x = .ref p ∧ y = .ref q ∧ p ≠ q ∧ C2 p = some (.dct kvs) ∧ C2 q = some (.dct ms) ∧ kvs.length + ms.length ≤ sizeLine ∧ R .non (updC C2 p (.dct (mergeD kvs ms)))
theorem RpL.rev {K : PySem.W.Frag} {G : Hp} : ∀ {ds : List D} {vs : List V}, RpL K G ds vs → RpL K G ds.reverse vs.reverse
  | _, _, .nil => .nil
  | _, _, .cons r t => by rw [List.reverse_cons, List.reverse_cons]; exact (RpL.rev t).append (.cons r .nil)
section
variable {X : Cx}
theorem de_rev {e : Expr} {te : DE} {k : Nat} {p1 p2 p3 pos : Pos} (he : PE X e (liftE X.K te)) : PE X (.Subscript e (.Slice none none (some (.UnaryOp .USub (.Constant (.int 1) k p1) p2)) p3) pos) (liftE X.K (dRev te)) := by
  refine (pe_revL he).weak ?_
  rintro σ H Q ⟨F, G, δ, C, R, A, S, q, k⟩
  refine ⟨F, G, δ, C, _, A, S, q, ?_⟩
  rintro x C1 ⟨ds, e, q1⟩ v H1 G1 s1 A1 r1
  obtain ⟨a, as, rfl, ha, ra⟩ := lst_at A1 r1 e
  refine ⟨a, as, rfl, .inl ha, fun p hp => (k.mono s1).new A1 hp q1 (.lst (.inl upd_same) ?_)⟩
  exact RpL.mono (A1.grow hp).2 (RpL.rev ra)
/-- xs.pop() of a cell -/
def dPopL (to : DE) : DE := fun δ C R => to δ C fun x C1 => ∃ p ds d, x = .ref p ∧ C1 p = some (.lst ds) ∧ ds.getLast? = some d ∧ R d (updC C1 p (.lst ds.dropLast))
end
end DL
namespace DL
open PySem PySem.Spec L2
open PyProof.Rows hiding St kindOf
abbrev Asn := Cells → Prop
def subC (C D : Cells) : Prop := ∀ a c, C a = some c → D a = some c
theorem subC.refl (C : Cells) : subC C C := fun _ _ h => h
theorem subC.trans {A B C : Cells} (h : subC A B) (k : subC B C) : subC A C := fun a c e => k a c (h a c e)
def apart (C D : Cells) : Prop := ∀ a, C a = none ∨ D a = none
theorem apart.symm {C D : Cells} (h : apart C D) : apart D C := fun a => (h a).symm
theorem apart.sub {A B C D : Cells} (h : apart C D) (k : subC A C) (l : subC B D) : apart A B := fun a => by
  rcases h a with h | h
  · exact .inl (by cases e : A a with | none => rfl | some c => rw [k a c e] at h; cases h)
  · exact .inr (by cases e : B a with | none => rfl | some c => rw [l a c e] at h; cases h)
/-- P and Q hold of cells apart -/
def star (P Q : Asn) : Asn := fun C => ∃ A B, apart A B ∧ subC A C ∧ subC B C ∧ P A ∧ Q B
def unionC (A B : Cells) : Cells := fun a => match A a with
  | some c => some c
  | none => B a
theorem union_l {A B : Cells} : subC A (unionC A B) := fun a c h => by unfold unionC; rw [h]
theorem union_r {A B : Cells} (h : apart A B) : subC B (unionC A B) := fun a c e => by
  unfold unionC
  rcases h a with h | h
  · rw [h]; exact e
  · rw [h] at e; cases e
theorem union_sub {A B C : Cells} (h : subC A C) (k : subC B C) : subC (unionC A B) C := fun a c e => by
  unfold unionC at e
  split at e
  · rename_i d hd
    cases e
    exact h a _ hd
  · exact k a c e
theorem apart_union {A B C : Cells} (h : apart A C) (k : apart B C) : apart (unionC A B) C := fun a => by
  rcases h a with h | h
  · rcases k a with k | k
    · exact .inl (by unfold unionC; rw [h]; exact k)
    · exact .inr k
  · exact .inr h
theorem star_mono {P Q : Asn} {C D : Cells} (h : (star P Q) C) (s : subC C D) : (star P Q) D := by
  obtain ⟨A, B, h1, h2, h3, h4⟩ := h
  exact ⟨A, B, h1, h2.trans s, h3.trans s, h4⟩
theorem star_comm (P Q : Asn) : (star P Q) = (star Q P) := by
  have : ∀ (P Q : Asn) (C : Cells), (star P Q) C → (star Q P) C := fun P Q C ⟨A, B, h1, h2, h3, h4, h5⟩ => ⟨B, A, h1.symm, h3, h2, h5, h4⟩
  funext C
  exact propext ⟨this P Q C, this Q P C⟩
theorem star_assoc (P Q R : Asn) : (star (star P Q) R) = (star P (star Q R)) := by
  funext C
  refine propext ⟨?_, ?_⟩
  · rintro ⟨A, B, h1, h2, h3, ⟨A1, A2, k1, k2, k3, k4, k5⟩, h5⟩
    refine ⟨A1, unionC A2 B, ?_, k2.trans h2, union_sub (k3.trans h2) h3, k4, A2, B, h1.sub k3 (subC.refl _), union_l, union_r (h1.sub k3 (subC.refl _)), k5, h5⟩
    exact (apart_union k1.symm (h1.sub k2 (subC.refl _)).symm).symm
  · rintro ⟨A, B, h1, h2, h3, h4, ⟨B1, B2, k1, k2, k3, k4, k5⟩⟩
    refine ⟨unionC A B1, B2, apart_union (h1.sub (subC.refl _) k3) k1, union_sub h2 (k2.trans h3), k3.trans h3, ⟨A, B1, h1.sub (subC.refl _) k2, union_l, union_r (h1.sub (subC.refl _) k2), h4, k4⟩, k5⟩
instance : Std.Associative star := ⟨star_assoc⟩
instance : Std.Commutative star := ⟨star_comm⟩
theorem star_imp {P P' Q Q' : Asn} {C : Cells} (h : (star P Q) C) (hp : ∀ C, P C → P' C) (hq : ∀ C, Q C → Q' C) : (star P' Q') C := by
  obtain ⟨A, B, h1, h2, h3, h4, h5⟩ := h
  exact ⟨A, B, h1, h2, h3, hp _ h4, hq _ h5⟩
/-- a cell -/
def at_ (p : Addr) (c : Cell) : Asn := fun C => C p = some c
def emp : Asn := fun _ => True
theorem star_emp {P : Asn} {C : Cells} (h : P C) : (star P emp) C := ⟨C, fun _ => none, fun _ => .inr rfl, subC.refl _, (fun _ _ e => by cases e), h, trivial⟩
/-- what P says of the cell at p -/
def Has (P : Asn) (p : Addr) (c : Cell) : Prop := ∀ C, P C → C p = some c
theorem has_at {p : Addr} {c : Cell} : Has (at_ p c) p c := fun _ h => h
theorem has_l {P Q : Asn} {p : Addr} {c : Cell} (h : Has P p c) : Has (star P Q) p c := fun _ ⟨_, _, _, h2, _, h4, _⟩ => h2 _ _ (h _ h4)
theorem has_r {P Q : Asn} {p : Addr} {c : Cell} (h : Has Q p c) : Has (star P Q) p c := fun _ ⟨_, _, _, _, h3, _, h5⟩ => h3 _ _ (h _ h5)
/-- P owns p; with c' there it is P' -/
def Own (P P' : Asn) (p : Addr) (c' : Cell) : Prop := ∀ C, P C → (∃ c, C p = some c) ∧ P' (updC C p c')
theorem own_at {p : Addr} {c c' : Cell} : Own (at_ p c) (at_ p c') p c' := fun _ h => ⟨⟨_, h⟩, updC_same⟩
theorem sub_upd {A C : Cells} {p : Addr} {c : Cell} (h : subC A C) : subC (updC A p c) (updC C p c) := fun a d e => by
  by_cases ha : a = p
  · subst ha; rw [updC_same] at e ⊢; exact e
  · rw [updC_ne ha] at e ⊢; exact h a d e
theorem sub_upd_none {B C : Cells} {p : Addr} {c : Cell} (h : subC B C) (hp : B p = none) : subC B (updC C p c) := fun a d e => by
  have ha : a ≠ p := by rintro rfl; rw [hp] at e; cases e
  rw [updC_ne ha]; exact h a d e
theorem own_l {P P' Q : Asn} {p : Addr} {c' : Cell} (h : Own P P' p c') : Own (star P Q) (star P' Q) p c' := by
  rintro C ⟨A, B, h1, h2, h3, h4, h5⟩
  obtain ⟨⟨c, hc⟩, k⟩ := h A h4
  have hB : B p = none := (h1 p).resolve_left (by rw [hc]; simp)
  refine ⟨⟨c, h2 _ _ hc⟩, updC A p c', B, fun a => ?_, sub_upd h2, sub_upd_none h3 hB, k, h5⟩
  by_cases ha : a = p
  · subst ha; exact .inr hB
  · rw [updC_ne ha]; exact h1 a
theorem own_r {P Q Q' : Asn} {p : Addr} {c' : Cell} (h : Own Q Q' p c') : Own (star P Q) (star P Q') p c' := by
  rw [star_comm P Q, star_comm P Q']
  exact own_l h
theorem own_up {P P' : Asn} {p : Addr} {c' : Cell} {C : Cells} (h : P C) (o : Own P P' p c') : P' (updC C p c') := (o C h).2
/-- a new cell -/
theorem star_new {P : Asn} {C : Cells} {p : Addr} {c : Cell} (h : P C) (hp : C p = none) : (star (at_ p c) P) (updC C p c) := by
  refine ⟨fun a => if a = p then some c else none, C, fun a => ?_, fun a d e => ?_, sub_upd_none (subC.refl _) hp, if_pos rfl, h⟩
  · by_cases ha : a = p
    · subst ha; exact .inr hp
    · exact .inl (if_neg ha)
  · by_cases ha : a = p
    · subst ha; rw [updC_same]; exact (if_pos rfl).symm.trans e
    · have e : (if a = p then some c else none) = some d := e
      rw [if_neg ha] at e; cases e
theorem sub_new {C : Cells} {p : Addr} {c : Cell} (hp : C p = none) : subC C (updC C p c) := sub_upd_none (subC.refl _) hp
theorem star_grow {P Q : Asn} {C : Cells} {p : Addr} {c : Cell} (h : (star P Q) C) (hp : C p = none) : (star P Q) (updC C p c) := star_mono h (sub_new hp)
/-- what stands beside a frame of all that was -/
theorem star_frame {P : Asn} {p : Addr} {c : Cell} {C0 C : Cells} (hP : Has P p c) (h : (star P (subC C0)) C) : C0 p = none := by
  obtain ⟨A, B, h1, h2, h3, h4, h5⟩ := h
  cases e : C0 p with
  | none => rfl
  | some d =>
    rcases h1 p with k | k
    · rw [hP _ h4] at k; cases k
    · rw [h5 _ _ e] at k; cases k
def bigS : List Asn → Asn
  | [] => emp
  | P :: Ps => star P (bigS Ps)
theorem has_big {l : List Asn} {P : Asn} {p : Addr} {c : Cell} (h : P ∈ l) (k : Has P p c) : Has (bigS l) p c := by
  induction l with
  | nil => cases h
  | cons Q l ih =>
    rcases List.mem_cons.mp h with rfl | h
    · exact has_l k
    · exact has_r (ih h)
theorem tg_unl {K : PySem.W.Frag} {vs : List Nat} {n : Nat} {gs : TGs} {gds : DGs} (h : TgsOk K vs gs gds) : TgOk K vs (gUnl K n gs) (gdUnl n gds) := by
  intro F G H C d v δ σ R Q A S r q k
  obtain ⟨ds, _, e, hl, q⟩ := q
  obtain ⟨a, as, rfl, ha, ra⟩ := lst_at A r e
  exact ⟨a, as, rfl, .inl ha, by rw [← ra.length]; exact hl, h F G H C ds as δ σ R Q A S ra q k⟩
end DL
namespace DL
open PySem PySem.Spec L2
open PyProof.Rows hiding St kindOf
section
variable {X : Cx}
def omIndex : DOm := fun x xs C R => ∃ d ds j z, xs = [d] ∧ lstOf C x = some ds ∧ okD 60 d = true ∧ ds.all (okD 60) = true ∧ ds[j]? = some z ∧ D.eqv z d = true ∧ (∀ m z', m < j → ds[m]? = some z' → D.eqv z' d = false) ∧ R (.int (j : Nat)) C
theorem toPyL_at : ∀ {ds : List D} {i : Nat}, (toPyL ds)[i]? = ds[i]?.map toPy
  | [], i => by simp [toPyL]
  | d :: ds, 0 => by simp [toPyL]
  | d :: ds, i + 1 => by simp [toPyL, toPyL_at]
theorem md_index (hu : X.A.units + 65 < cLine) : MtD X "list.index" omIndex := by
  refine ⟨_, mt_indexD hu, ?_⟩
  intro F G H C x v xs vs R Q A rx rxs h k
  obtain ⟨d, ds, j, z, rfl, hl, hd, hds, hj, hz, hno, q⟩ := h
  obtain ⟨u, rfl, ru⟩ := rxs.one
  obtain ⟨a, as, rfl, ha, ra⟩ := lst_at A rx hl
  refine ⟨a, u, toPy d, toPyL ds, j, toPy z, rfl, rfl, .lst (.inl ha) (ra.dpl A.sub hds), Rp.dp A.sub 60 d u hd ru, ?_, okD_shaped hd (by omega), by rw [toPyL_at, hj]; rfl, ?_, fun m z' hm hz' => ?_, k.now A q (.int _)⟩
  · have := okD_shaped (n := 61) (d := .lst ds) hds (by omega)
    exact this
  · rw [eqv_py 60 z d (List.all_eq_true.mp hds z (List.mem_of_getElem? hj)) hd]
    exact hz
  · rw [toPyL_at] at hz'
    obtain ⟨y, hy, rfl⟩ := Option.map_eq_some_iff.mp hz'
    rw [eqv_py 60 y d (List.all_eq_true.mp hds y (List.mem_of_getElem? hy)) hd]
    exact hno m y hm hy
variable {o e : Expr} {es : List Expr} {to : DE} {t : DA} {apos cpos : Pos}
theorem de_index (hu : X.A.units + 65 < cLine) (ho : PE X o (liftE X.K to)) (ha : PA X (e :: es) (liftA X.K t))
    (hbase : attributeBase o "index" X.env (eval o X.env) = eval o X.env := by rfl)
    (hfew : ((backTo cpos (starEach (e :: es) X.env)).all (fun x => !x.1) && (backToKw cpos (keywordEach [] X.env)).all (fun x => x.1.isSome)
      && decide ((e :: es).length + ([] : List Keyword).length + (if ([] : List Keyword).isEmpty then 0 else 1) < 30)) = true := by rfl)
    (hline : (apos.endLine == cpos.line) = true := by rfl) (hs : starEach (e :: es) X.env = (false, eval e X.env) :: starEach es X.env := by rfl) (hplain : (backTo cpos (starEach es X.env)).any (·.1) = false := by rfl) :
    PE X (.Call (.Attribute o "index" apos) (e :: es) [] cpos) (liftE X.K (dMtL omIndex to t)) := de_mtL PySem.F.slot_list_index PySem.F.type_list_index (md_index hu) ho ha hbase hfew hline hs hplain
end
end DL
namespace DL
open PySem PySem.Spec L2
open PyProof.Rows hiding St kindOf
/-- what stands while max walks -/
structure Mx (X : Cx) (pins : List (Addr × Obj)) (σ : St) (F C : Cells) (G0 : Hp) (f : Addr) (fo : Obj) (H G : Hp) (s : Shared) : Prop where
  inv : Inv X pins σ H s
  ab : Ab X.K F G H C
  sm : Same G0 G
  fg : s.heap.get? f = some fo
  ff : H f = none
def gtD (a b : D) : Bool := PySem.W.dataLt (toPy b) (toPy a)
theorem Rv.mono {K : PySem.W.Frag} {G G' : Hp} {u : Value} {d : D} (s : Same G G') (r : Rv K G u d) : Rv K G' u d := by
  obtain ⟨v, r1, r2⟩ := r
  exact ⟨v, r1.mono s, r2⟩
section
variable {X : Cx} {pins : List (Addr × Obj)} {σ : St} {F C : Cells} {G0 : Hp} {f l it S : Addr} {fo : Obj} {ds : List D} {key : D → D} {x : D}
/-- one call of the function -/
def Turn (X : Cx) (pins : List (Addr × Obj)) (σ : St) (F C : Cells) (G0 : Hp) (f : Addr) (fo : Obj) (ds : List D) (key : D → D) : Prop :=
  ∀ (d : D) (u : Value) (s : Shared) (H G : Hp), d ∈ ds → Rv X.K G u d → Mx X pins σ F C G0 f fo H G s →
    wpAny (model X.prog X.w) X.A.in1 (call (.ref f) [u]) (fun ku s' => ∃ H' G', Un (frs X.stack) [] H H' s.heap s'.heap ∧ Mx X pins σ F C G0 f fo H' G' s' ∧ Same G G' ∧ Rv X.K G' ku (key d)) (fun _ _ => False) s
end
end DL
namespace DL
open PySem PySem.Spec L2 LamX
open PyProof.Rows hiding St kindOf
section
variable {X : Cx} {pins : List (Addr × Obj)} {σ : St} {H : Hp} {s : Shared}
/-- a lambda is made: its code object is new, or found in the table -/
theorem lam_mk {Kp : Addr → Prop} {c P : Addr} {ps : Array Value} {params : Arguments} {body : Expr} {scope : Scope} {pos : Pos} {E : Value → Shared → Prop} {Q : Value → Shared → Prop} (I : Inv X pins σ H s) (TB : TabB X.base X.mg c P) (hcode : X.env.code = .ref c)
    (hP : H P = some (.tbl ps)) (ht : TriplesOk ps.toList) (ha : ∀ (pos : Pos) (cv : Value), codeAmong pos ps.toList = some cv → ∃ c, cv = .ref c ∧ Kp c ∧ H c = some (CodeO c (X.env.qual ++ "<lambda>")))
    (hdef : defaultsOf params X.env = ([], [])) (hfree : ∀ y ∈ scope.names, y.2 = .free → ∃ c, X.env.cells.lookup y.1 = some c)
    (h : ∀ (f c' : Addr) (pm ctv : Value) (H1 : Hp) (s' : Shared), Inv X pins σ H1 s' →
      ((H1 = H ∧ Kp c') ∨ ∃ more : Array Value, H c' = none ∧ H1 = upd (upd H P (.tbl (ps ++ more))) c' (CodeO c' (X.env.qual ++ "<lambda>")) ∧ TriplesOk (ps ++ more).toList ∧ ∀ (p' : Pos) (cv : Value), codeAmong p' (ps ++ more).toList = some cv → codeAmong p' ps.toList = some cv ∨ cv = .ref c') →
      s'.heap.get? f = some (PySem.W.kla_obj "<lambda>" (X.env.qual ++ "<lambda>") params body scope (cloFrom X.env.cells scope.names []) pm c' ctv) → H1 f = none → f ∉ frs X.stack → H1 c' = some (CodeO c' (X.env.qual ++ "<lambda>")) → Q (.ref f) s') :
    wpAny (model X.prog X.w) X.A (eval (.Lambda params body scope pos) X.env) Q E s := by
  refine PySem.W.kla_eval hdef ?_
  have bP : s.heap.BuiltinsAt X.mg P := TB.bm.keeps I.bk
  have hP' : s.heap.get? P = some { cls := .none, data := .fields ps } := I.hok P _ hP
  have nofr : ∀ f, s.heap.objs.size ≤ f → f ∉ frs X.stack := fun f hf z => by
    rcases List.mem_cons.mp (I.stkSub _ z) with e | e
    · have h1 := I.lt
      rw [← e] at h1
      exact Nat.lt_irrefl _ (Nat.lt_of_lt_of_le h1 hf)
    · exact I.nofs hf e
  cases hc : codeAmong pos ps.toList with
  | none =>
    refine PySem.W.kla_makeFunction (mg := X.mg) (c := c) (P := P) (ps := ps) (closure_ok hfree) I.ok.glob (I.mod.glob.keeps I.bk) hcode (TB.code.keeps I.bk) hP' ht hc TB.gP bP fun c' ctv h' tk hx hge hlt hrec htb => ?_
    obtain ⟨c2, oc, vs, t, e2, hoc, hd, hv⟩ := hrec
    cases e2
    have hsz : s.heap.objs.size ≤ h'.objs.size := Nat.le_trans hge (Nat.le_of_lt hlt)
    have nC : H c' = none := I.hok.fresh hge
    have I1 := inv_table (t' := tk) (more := #[rawInt pos.line, rawInt pos.col, .ref c']) (h' := h'.push (PySem.W.kla_obj "<lambda>" (X.env.qual ++ "<lambda>") params body scope (cloFrom X.env.cells scope.names []) ((X.mg "__name__").getD .none) c' ctv)) I hP
      (fun b o hb e => Heap.get?_push_of_some _ (hx b o hb e)) (Heap.get?_push_of_some _ htb) hge ⟨oc, vs, t, Heap.get?_push_of_some _ hoc, hd, hv⟩
    have eL : (ps ++ #[rawInt pos.line, rawInt pos.col, .ref c']).toList = ps.toList ++ [rawInt pos.line, rawInt pos.col, .ref c'] := by simp
    refine h h'.objs.size c' ((X.mg "__name__").getD .none) ctv _ _ I1 (.inr ⟨_, nC, rfl, by rw [eL]; exact PySem.TriplesOk_snoc _ _ _ _ ht, fun p' cv hcv => ?_⟩) (Heap.get?_push_size _ rfl) ?_ (nofr _ hsz) upd_same
    · rw [eL] at hcv
      exact among_app _ ht hcv
    · have n1 : h'.objs.size ≠ c' := Nat.ne_of_gt hlt
      have n2 : h'.objs.size ≠ P := Nat.ne_of_gt (Nat.lt_of_lt_of_le (Heap.lt_size hP') hsz)
      rw [upd_ne n1, upd_ne n2]
      exact I.hok.fresh hsz
  | some cv =>
    obtain ⟨c', e, hkp, hco⟩ := ha pos cv hc
    subst e
    refine PySem.W.kla_makeFunctionHit (mg := X.mg) (c := c) (P := P) (ps := ps) (closure_ok hfree) I.ok.glob (I.mod.glob.keeps I.bk) hcode (TB.code.keeps I.bk) hP' ht hc bP fun ctv h' tk hx hsz => ?_
    have I1 : Inv X pins σ H { s with heap := h'.push (PySem.W.kla_obj "<lambda>" (X.env.qual ++ "<lambda>") params body scope (cloFrom X.env.cells scope.names []) ((X.mg "__name__").getD .none) c' ctv), toks := tk } := I.kept fun b o e => Heap.get?_push_of_some _ (hx b o e)
    exact h h'.objs.size c' ((X.mg "__name__").getD .none) ctv H _ I1 (.inl ⟨rfl, hkp⟩) (Heap.get?_push_size _ rfl) (I.hok.fresh hsz) (nofr _ hsz) hco
end
/-- the table cell, behind the making -/
theorem Ab.tab {K : PySem.W.Frag} {F C : Cells} {G H : Hp} {P : Addr} {q : Str} (A : Ab K F G H C) (h : C P = some (.tab q)) : ∃ ps : Array Value, H P = some (.tbl ps) ∧ TriplesOk ps.toList ∧ ∀ (pos : Pos) (cv : Value), codeAmong pos ps.toList = some cv → ∃ c, cv = .ref c ∧ G c = some (CodeO c q) := by
  obtain ⟨_, u, hu, ok⟩ := A.cell _ _ h
  cases ok
  exact ⟨_, hu, by assumption, by assumption⟩
theorem Ab.tabMore {K : PySem.W.Frag} {F C : Cells} {G H : Hp} {P c' : Addr} {q : Str} {ps more : Array Value} (A : Ab K F G H C) (h : C P = some (.tab q)) (hP : H P = some (.tbl ps)) (ho : ∀ (pos : Pos) (cv : Value), codeAmong pos ps.toList = some cv → ∃ c, cv = .ref c ∧ G c = some (CodeO c q)) (hc : H c' = none) (ht : TriplesOk (ps ++ more).toList)
    (hm : ∀ (p' : Pos) (cv : Value), codeAmong p' (ps ++ more).toList = some cv → codeAmong p' ps.toList = some cv ∨ cv = .ref c') : Ab K F (upd G c' (CodeO c' q)) (upd (upd H P (.tbl (ps ++ more))) c' (CodeO c' q)) C ∧ Same G (upd G c' (CodeO c' q)) := by
  obtain ⟨A1, sm⟩ := A.grow (u := CodeO c' q) hc
  have hne : P ≠ c' := fun e => by rw [← e, hP] at hc; cases hc
  have A2 := A1.write (c := .tab q) (u := .tbl (ps ++ more)) h (.tab ht fun pos cv hcv => by
    rcases hm pos cv hcv with z | z
    · obtain ⟨c0, e1, e2⟩ := ho pos cv z
      exact ⟨c0, e1, sm _ _ e2⟩
    · exact ⟨c', z, upd_same⟩)
  have e1 : updC C P (.tab q) = C := by
    funext a
    by_cases e : a = P
    · subst e; rw [updC_same]; exact h.symm
    · exact updC_ne e
  have e2 : upd (upd H c' (CodeO c' q)) P (.tbl (ps ++ more)) = upd (upd H P (.tbl (ps ++ more))) c' (CodeO c' q) := by
    funext a
    by_cases e : a = P
    · subst e; rw [upd_same, upd_ne hne, upd_same]
    · by_cases e3 : a = c'
      · subst e3; rw [upd_ne e, upd_same, upd_same]
      · rw [upd_ne e, upd_ne e3, upd_ne e3, upd_ne e]
  rw [e1, e2] at A2
  exact ⟨A2, sm⟩
/-- a def whose code object is known -/
structure FunC (K : PySem.W.Frag) (x qual : Str) (st : Stmt) (f : Addr) (fd : FuncData) (cdv : Value) : Prop where
  ex : ∃ (oc : Value) (od : Option Addr) (kV doc pm : Value) (an : Option Addr) (ct : Value) (osl : Array (Option Value)),
    fd = PySem.W.fnOf x qual (defArgs st) (defBody st) (defScope st) .none kV doc pm an cdv ct ∧ K.lookup f = some ⟨oc, od, .func fd, osl⟩ ∧ PySem.W.codeIn K cdv qual = true
theorem funC_mk {K : PySem.W.Frag} {x qual : Str} {st : Stmt} {f : Addr} {oc : Value} {od an : Option Addr} {osl : Array (Option Value)} {kV doc pm cdv ct : Value} (l : K.lookup f = some ⟨oc, od, .func (PySem.W.fnOf x qual (defArgs st) (defBody st) (defScope st) .none kV doc pm an cdv ct), osl⟩)
    (c : PySem.W.codeIn K cdv qual = true) : FunC K x qual st f (PySem.W.fnOf x qual (defArgs st) (defBody st) (defScope st) .none kV doc pm an cdv ct) cdv := ⟨⟨oc, od, kV, doc, pm, an, ct, osl, rfl, l, c⟩⟩
section
variable {P : Program} {w : World} {K : PySem.W.Frag} {mg : Str → Option Value} {base : Heap}
theorem fnDLc {x qual : Str} {st : Stmt} {f : Addr} {fd : FuncData} {N ps : List Str} {k : Nat} {a : ASp} {cdv : Value} (F : FunC K x qual st f fd cdv) (S : FnScope N ps (defScope st)) (len : ∀ ds C R, a ds C R → ds.length = ps.length)
    (hbody : ∀ (A : Around) (outer : List Env) (s : Shared) (H : Hp) (E : XK), Room k (A.deeper (envOfC qual (defScope st) s.heap.objs.size f cdv)) →
      ∃ t : DS, PSs (cxOf CX0 P w K mg base N qual (defScope st) f cdv A outer s H E).nox (defBody st) (liftS K t) ∧ ∀ ds C R, a ds C R → t { nx := fun _ C' => lss R .non C', rt := lss R } (dstart N ds) C) :
    FnOk P w K mg base CX0 (k + 1) f fd ps (liftF K a) := by
  have h : FnOk P w K mg base CX0 (k + 1) f fd ps (liftF K fun ds C R => ∃ R', R = lss R' ∧ a ds C R') := by
    obtain ⟨oc, od, kV, doc, pm, an, ct, osl, rfl, lk, hcd⟩ := F.ex
    refine fn_of lk hcd S (fun vs H Q E h => ?_) fun A outer s H vs Q E hr h => ?_
    · obtain ⟨F, G, ds, C, R, Ab0, r, ⟨R', _, q⟩, k⟩ := h
      rw [← r.length]
      exact len ds C R' q
    · obtain ⟨F, G, ds, C, R, A0, r, ⟨R', e, q⟩, k⟩ := h
      subst e
      obtain ⟨t, ht, hq⟩ := hbody A outer s H E hr
      refine ⟨_, ht.nox, F, G, dstart N ds, C, _, A0, ?_, hq ds C R' q, ⟨?_, ?_, ?_, ?_⟩⟩
      · unfold dstart L2.start
        rw [← r.length]
        exact RpS.start r _
      · intro δ C' q σ H' G' s' A' S'
        exact k _ _ q _ H' G' s' A' .non
      · exact k
      · intro δ C' q
        exact q.elim
      · intro δ C' q
        exact q.elim
  refine h.imp ?_
  rintro vs H Q E ⟨F, G, ds, C, R, A, r, q, k⟩
  refine ⟨F, G, ds, C, lss R, A, r, ⟨R, rfl, q⟩, ?_⟩
  rintro d C1 ⟨C2, hs, q2⟩ v H' G' s' A' r'
  exact k d C2 q2 v H' G' s' (A'.less hs) r'
end
end DL
namespace DL
open PySem PySem.Spec L2
open PyProof.Rows hiding St kindOf
end DL
namespace L2
open PySem PySem.Spec PyProof.Rows
end L2
namespace DL
open PySem PySem.Spec L2
open PyProof.Rows hiding St kindOf
end DL
namespace DL
open PySem PySem.Spec L2
open PyProof.Rows hiding St kindOf
end DL
namespace DL
open PySem PySem.Spec L2
open PyProof.Rows hiding St kindOf
end DL
namespace DL
open PySem PySem.Spec L2
open PyProof.Rows hiding St kindOf
end DL
namespace DL
open PySem PySem.Spec L2
open PyProof.Rows hiding St
end DL
namespace DL
open PySem PySem.Spec L2
open PyProof.Rows hiding St
end DL
namespace DL
open PySem PySem.Spec L2
open PyProof.Rows hiding St
end DL
namespace DL
open PySem PySem.Spec L2
open PyProof.Rows hiding St
/-- an exception: its class, its fields -/
abbrev XcD := Addr × List (Str × D)
/-- .. as the heap has it: the class, the dict -/
def XRp (K : PySem.W.Frag) (G : Hp) (xd : XcD) (cls : Value) (d : Option Addr) : Prop := cls = .ref xd.1 ∧ ((d = none ∧ xd.2 = []) ∨ ∃ dd fs, d = some dd ∧ G dd = some (.xd fs) ∧ ∀ f v, xd.2.lookup f = some v → ∃ u, fs.lookup f = some u ∧ Rp K G v u)
section
variable (K : PySem.W.Frag) (F0 : Cells) (G0 : Hp)
def liftE0 (t : DE) : TE := fun σ H Q => ∃ G δ C R, Same G0 G ∧ Ab K F0 G H C ∧ RpS K G δ σ ∧ t δ C R ∧ ToE K F0 G R Q
def liftT0 (t : DT) : TT := fun σ H Q => ∃ G δ C R, Same G0 G ∧ Ab K F0 G H C ∧ RpS K G δ σ ∧ t δ C R ∧ ToT K F0 G R Q
def liftS0 (t : DS) : TS := fun N σ H => ∃ G δ C R, Same G0 G ∧ Ab K F0 G H C ∧ RpS K G δ σ ∧ t R δ C ∧ ToS K F0 G R N
/-- what is wished of an exception -/
def WK0 (W : XcD → DSt → Cells → Prop) : WX := fun cls d σ H => ∃ G δ C xd, Same G0 G ∧ Ab K F0 G H C ∧ RpS K G δ σ ∧ XRp K G xd cls d ∧ W xd δ C
def ToX (F : Cells) (G : Hp) (RX : XcD → Cells → Prop) (E : XK) : Prop := ∀ xd C, RX xd C → ∀ cls d H' G', Same G G' → Ab K F G' H' C → XRp K G' xd cls d → E cls d H'
end
/-- what a def that may raise promises -/
abbrev ASpX := List D → Cells → (D → Cells → Prop) → (XcD → Cells → Prop) → Prop
def liftFX (K : PySem.W.Frag) (a : ASpX) : Sp := fun vs H Q E => ∃ F G ds C R RX, Ab K F G H C ∧ RpL K G ds vs ∧ a ds C R RX ∧ ToE K F G R Q ∧ ToX K F G RX E
theorem XRp.mono {K : PySem.W.Frag} {G G' : Hp} {xd : XcD} {cls : Value} {d : Option Addr} (h : XRp K G xd cls d) (s : Same G G') : XRp K G' xd cls d := by
  refine ⟨h.1, h.2.imp id ?_⟩
  rintro ⟨dd, fs, e, hg, hf⟩
  exact ⟨dd, fs, e, s _ _ hg, fun f v hv => by obtain ⟨u, h1, h2⟩ := hf f v hv; exact ⟨u, h1, h2.mono s⟩⟩
section
variable {X : Cx} {F0 : Cells} {G0 : Hp} {e : Expr} {te : DE} {tt : DT} {t u : DS} {st : Stmt} {rest : List Stmt} {pos : Pos}
theorem de_0 (h : PE X e (liftE X.K te)) : PE X e (liftE0 X.K F0 G0 te) := h.weak fun σ H Q ⟨G, δ, C, R, s, A, S, q, k⟩ => ⟨F0, G, δ, C, R, A, S, q, k⟩
theorem dt_0 (h : PT X e (liftT X.K tt)) : PT X e (liftT0 X.K F0 G0 tt) := h.weak fun σ H Q ⟨G, δ, C, R, s, A, S, q, k⟩ => ⟨F0, G, δ, C, R, A, S, q, k⟩
theorem ds_0 (h : PS X st (liftS X.K t)) : PS X st (liftS0 X.K F0 G0 t) := h.weak fun D σ H ⟨G, δ, C, R, s, A, S, q, k⟩ => ⟨F0, G, δ, C, R, A, S, q, k⟩
theorem dss_0 (h : PSs X rest (liftS X.K t)) : PSs X rest (liftS0 X.K F0 G0 t) := h.weak fun D σ H ⟨G, δ, C, R, s, A, S, q, k⟩ => ⟨F0, G, δ, C, R, A, S, q, k⟩
theorem dss_cons0 (h1 : PS X st (liftS0 X.K F0 G0 t)) (h2 : PSs X rest (liftS0 X.K F0 G0 u)) : PSs X (st :: rest) (liftS0 X.K F0 G0 (dSeq t u)) := (pss_cons h1 h2).weak fun D σ H ⟨G, δ, C, R, s, A, S, q, k⟩ =>
  ⟨G, δ, C, { R with nx := u R }, s, A, S, q, ⟨fun δ' C' q' σ' H' G' s' A' S' => ⟨G', δ', C', R, s.trans s', A', S', q', k.mono s'⟩, k.rt, k.bk, k.ct⟩⟩
theorem dss_one0 (h1 : PS X st (liftS0 X.K F0 G0 t)) : PSs X [st] (liftS0 X.K F0 G0 t) := pss_one h1
theorem dss_nil0 : PSs X [] (liftS0 X.K F0 G0 dNext) := dss_0 dss_nil
theorem ds_expr0 (he : PE X e (liftE0 X.K F0 G0 te)) (hs : swapsWith e none pos.line X.env = pure false := by rfl) : PS X (.Expr e pos) (liftS0 X.K F0 G0 (dDrop te)) :=
  (ps_expr he hs).weak fun D σ H ⟨G, δ, C, R, s, A, S, q, k⟩ => ⟨G, δ, C, _, s, A, S, q, fun d C1 q1 v H1 G1 s1 A1 r1 => k.nx _ _ q1 σ H1 G1 s1 A1 (S.mono s1)⟩
theorem ds_ret0 (he : PE X e (liftE0 X.K F0 G0 te)) : PS X (.Return (some e) pos) (liftS0 X.K F0 G0 (dRet te)) :=
  (ps_ret he).weak fun D σ H ⟨G, δ, C, R, s, A, S, q, k⟩ => ⟨G, δ, C, _, s, A, S, q, k.rt⟩
theorem ds_if0 {c : Expr} {a b : List Stmt} {tc : DT} (hc : PT X c (liftT0 X.K F0 G0 tc)) (ha : PSs X a (liftS0 X.K F0 G0 t)) (hb : PSs X b (liftS0 X.K F0 G0 u)) : PS X (.If c a b pos) (liftS0 X.K F0 G0 (dIfS tc t u)) := by
  refine (ps_if hc ha hb).weak ?_
  rintro D σ H ⟨G, δ, C, R, s, A, S, q, k⟩
  refine ⟨G, δ, C, _, s, A, S, q, fun b C1 q1 H1 G1 s1 A1 => ?_⟩
  cases b with
  | true => rw [if_pos rfl] at q1 ⊢; exact ⟨G1, δ, C1, R, s.trans s1, A1, S.mono s1, q1, k.mono s1⟩
  | false => rw [if_neg Bool.false_ne_true] at q1 ⊢; exact ⟨G1, δ, C1, R, s.trans s1, A1, S.mono s1, q1, k.mono s1⟩
theorem ds_set0 {i : Nat} {x : Str} {pos' : Pos} (hN : X.N.Nodup) (hi : X.N[i]? = some x) (hx : Loc X.env.scope x) (he : PE X e (liftE0 X.K F0 G0 te)) (hs : swapsWith e (some (.Name x pos')) pos.line X.env = pure false := by rfl) (hf : X.fn x = true ∨ X.env.scope.names.lookup x = some .local := by first | exact .inl rfl | exact .inr rfl | assumption) :
    PS X (.Assign [.Name x pos'] e pos) (liftS0 X.K F0 G0 (dAsg te (gdName i))) := (ps_set hN hi hx he hs hf).weak fun D σ H q => by
  obtain ⟨G, δ, C, R, s, A, S, q, k⟩ := q
  exact ⟨G, δ, C, _, s, A, S, q, fun d C1 q1 v H1 G1 s1 A1 r1 => k.nx _ _ q1 _ H1 G1 s1 A1 (RpS.set r1 i (S.mono s1))⟩
end
def dCallX (a : ASpX) (W : XcD → DSt → Cells → Prop) (t : DA) : DE := fun δ C R => t δ C fun ds C1 => a ds C1 R (fun xd C2 => W xd δ C2)
section
variable {X : Cx} {F0 : Cells} {G0 : Hp} {k : Nat} {f : Addr} {fd : FuncData} {ps : List Str} {a : ASpX} {x : Str} {p pos : Pos} {e : Expr} {es : List Expr} {t : DA} {W : XcD → DSt → Cells → Prop}
theorem de_cfX (d : Df X.K X.mg x f fd ps) (Fk : FnOk X.prog X.w X.K X.mg X.base (L2.CX X.prog X.w) k f fd ps (liftFX X.K a)) (hr : Room k X.A) (hg : Gl X x) (tk : Takes X (WK0 X.K F0 G0 W))
    (ha : PA X (e :: es) (liftA X.K t)) (hdb : (x == ("__debug__" : Str)) = false := by decide) (he : starEach (e :: es) X.env = (false, eval e X.env) :: starEach es X.env := by rfl) (hpl : (backTo pos (starEach es X.env)).any (·.1) = false := by rfl) :
    PE X (.Call (.Name x p) (e :: es) [] pos) (liftE0 X.K F0 G0 (dCallX a W t)) :=
  (pe_callS Fk hr hg d.mg d.kp d.bd (fun σ => passAt tk σ) ha hdb he hpl).weak fun σ H Q ⟨G, δ, C, R, s0, A, S, q, k⟩ => ⟨F0, G, δ, C, _, A, S, q, fun ds C1 q1 vs H1 G1 s1 A1 r1 =>
    ⟨F0, G1, ds, C1, R, _, A1, r1, q1, k.mono s1, fun xd C2 w cls d H2 G2 s2 A2 r2 => ⟨G2, δ, C2, xd, s0.trans (s1.trans s2), A2, S.mono (s1.trans s2), r2, w⟩⟩⟩
end
section
variable {P : Program} {w : World} {K : PySem.W.Frag} {mg : Str → Option Value} {base : Heap}
theorem fnDX {x qual : Str} {st : Stmt} {f : Addr} {fd : FuncData} {N ps : List Str} {k : Nat} {a : ASpX} {t : (XcD → DSt → Cells → Prop) → DS} (F : Fun K x qual st f fd) (S : FnScope N ps (defScope st)) (len : ∀ ds C R RX, a ds C R RX → ds.length = ps.length)
    (hbody : ∀ (cdv : Value) (A : Around) (outer : List Env) (s : Shared) (H : Hp) (E : XK), Room k (A.deeper (envOfC qual (defScope st) s.heap.objs.size f cdv)) → ∀ F0 G0 W, Takes (cxOf (L2.CX P w) P w K mg base N qual (defScope st) f cdv A outer s H E) (WK0 K F0 G0 W) →
      PSs (cxOf (L2.CX P w) P w K mg base N qual (defScope st) f cdv A outer s H E) (defBody st) (liftS0 K F0 G0 (t W)))
    (rd : ∀ ds C R RX, a ds C R RX → t (fun xd _ C' => RX xd C') { nx := fun _ C' => R .non C', rt := R } (dstart N ds) C) :
    FnOk P w K mg base (L2.CX P w) (k + 1) f fd ps (liftFX K a) := by
  refine F.okX S (fun vs H Q E h => ?_) (fun cdv A outer s H vs Q E hr h => ?_)
  · obtain ⟨F, G, ds, C, R, RX, Ab0, r, h, k, kx⟩ := h
    rw [← r.length]
    exact len ds C R RX h
  · obtain ⟨F, G, ds, C, R, RX, A0, r, h, k, kx⟩ := h
    have tk : Takes (cxOf (L2.CX P w) P w K mg base N qual (defScope st) f cdv A outer s H E) (WK0 K F G fun xd _ C' => RX xd C') := by
      refine Takes.imp (W := fun cls d _ H' => E cls d H') (takes_of rfl rfl rfl rfl) ?_
      rintro cls d σ H' ⟨G', δ, C', xd, s', A', S', r', q'⟩
      exact kx xd C' q' cls d H' G' s' A' r'
    refine ⟨_, hbody cdv A outer s H E hr F G _ tk, G, dstart N ds, C, _, Same.refl G, A0, ?_, rd ds C R RX h, ⟨?_, ?_, ?_, ?_⟩⟩
    · unfold dstart L2.start
      rw [← r.length]
      exact RpS.start r _
    · intro δ C' q σ H' G' s' A' S'
      exact k _ _ q _ H' G' s' A' .non
    · exact k
    · intro δ C' q
      exact q.elim
    · intro δ C' q
      exact q.elim
end
end DL
namespace DL
open PySem PySem.Spec L2
open PyProof.Rows hiding St
section
variable {X : Cx} {e : Expr} {es : List Expr} {ta : TA} {x : Str} {B : Addr} {mc : Value} {p1 p2 pos : Pos}
/-- B.__init__(self, ..), B a class of the program's own over ValueError that has no own __init__ -/
theorem pe_rinit {pl : Sem Bool} (hg : Gl X x) (hm : X.mg x = some (.ref B)) (r : ClX.CRead X.K B mc) (vV : PySem.W.findCls X.K (.ref B) mc "__init__" = some (.val (.builtin "ValueError.__init__"))) (ha : PA X (e :: es) ta)
    (hd : (x == ("__debug__" : Str)) = false := by decide)
    (hc : eval (.Call (.Attribute (.Name x p1) "__init__" p2) (e :: es) [] pos) X.env = (do
      let ov ← eval (.Name x p1) X.env
      standAt p2.atName
      let (f, first) ← holding [ov] (getMethod ov "__init__" pl)
      callWith pos f first (backTo pos (starEach (e :: es) X.env)) (backToKw pos (keywordEach [] X.env))) := by rfl)
    (he : starEach (e :: es) X.env = (false, eval e X.env) :: starEach es X.env := by rfl) (hpl : (backTo pos (starEach es X.env)).any (·.1) = false := by rfl) :
    PE X (.Call (.Attribute (.Name x p1) "__init__" p2) (e :: es) [] pos) (tVeI X.K ta) := by
  refine ⟨fun pins s σ H Q I h => ?_⟩
  refine PySem.W.methodCall_KW (ld_glob I hg hm ?_ hd) hc
  refine PySem.W.method_cls I.kIn r.ga (PySem.W.cls_value I.kIn r.rd vV (by decide +kernel) ?_)
  show wpAny _ _ (callWith pos (Value.builtin "ValueError.__init__") [] (backTo pos (starEach (e :: es) X.env)) []) _ _ _
  refine PyProof.Rows.callWith_method1 (thn (ha.run pos pins _ σ H _ (I.tok _) h) fun us s1 ⟨vs, H1, I1, r1, a, C, ws, ev, hl, T, ea, q⟩ => ?_) he hpl
  subst ev
  cases r1 with
  | @cons _ u0 _ ur ra rw' =>
    obtain rfl : u0 = Value.ref a := ra
    have hlen : ur.length ≤ sizeLine := by
      rw [← Paired.length rw', sizeLine_eq]
      omega
    exact oinit_ok T I1 ea hlen fun s' J => ⟨.non, H1, J, rfl, q⟩
end
/-- an __init__ that keeps one number -/
def spI1 (K : PySem.W.Frag) (C : Addr) (f : Str) : Sp := fun vs H Q _ => ∃ (a : Addr) (i : Int), vs = [.ref a, .int i] ∧ i.natAbs.log2 < 64 ∧ OexC K C ∧ PySem.W.findIn K (.ref C) f = some none ∧ H a = some (exo a C none) ∧ ∀ dx, H dx = none → dx ≠ a → Q .non (upd (upd H dx (exd dx [(f, .int i)])) a (exo a C (some dx)))
/-- .. two -/
def spI2 (K : PySem.W.Frag) (C : Addr) (f g : Str) : Sp := fun vs H Q _ => ∃ (a : Addr) (i j : Int), vs = [.ref a, .int i, .int j] ∧ i.natAbs.log2 < 64 ∧ OexC K C ∧ PySem.W.findIn K (.ref C) f = some none ∧ PySem.W.findIn K (.ref C) g = some none ∧ f ≠ g ∧ H a = some (exo a C none) ∧
  ∀ dx H2, H dx = none → dx ≠ a → (∀ b, H2 b = if b = dx then some (exd dx [(g, .int j), (f, .int i)]) else if b = a then some (exo a C (some dx)) else H b) → Q .non H2
def dRaise1 (C : Addr) (f : Str) (t : DA) (W : XcD → DSt → Cells → Prop) : DS := fun _ δ C0 => t δ C0 fun ds C1 => ∃ i : Int, ds = [.int i] ∧ i.natAbs.log2 < 64 ∧ W (C, [(f, .int i)]) δ C1
def dRaise2 (C : Addr) (f g : Str) (t : DA) (W : XcD → DSt → Cells → Prop) : DS := fun _ δ C0 => t δ C0 fun ds C1 => ∃ i j : Int, ds = [.int i, .int j] ∧ i.natAbs.log2 < 64 ∧ W (C, [(g, .int j), (f, .int i)]) δ C1
section
variable {X : Cx} {F0 : Cells} {G0 : Hp} {W : XcD → DSt → Cells → Prop} {x f g : Str} {C fI : Addr} {k : Nat} {fd : FuncData} {ps : List Str} {e : Expr} {es : List Expr} {t : DA} {p p2 pos : Pos}
theorem go_new {K : PySem.W.Frag} {G1 H1 : Hp} {C1 : Cells} {δ : DSt} {σ : St} {a dx : Addr} {H2 : Hp} {fs : List (Str × V)} {xd : XcD} {G : Hp} (s0 : Same G0 G) (s1 : Same G G1) (A1 : Ab K F0 G1 H1 C1) (S : RpS K G δ σ) (hd : H1 dx = none) (ha : H1 a = none)
    (e2 : ∀ b, b ≠ dx → b ≠ a → H2 b = H1 b) (hr : ∀ G2, G2 dx = some (.xd fs) → XRp K G2 xd (.ref C) (some dx)) (w : W xd δ C1) : WK0 K F0 G0 W (.ref C) (some dx) σ (upd (L2.del H2 a) dx (.xd fs)) := by
  have eH : upd (L2.del H2 a) dx (.xd fs) = upd H1 dx (.xd fs) := by
    funext b
    by_cases hb : b = dx
    · rw [hb, upd_same, upd_same]
    · rw [upd_ne hb, upd_ne hb]
      by_cases hba : b = a
      · rw [hba, ha]
        exact L2.del_same
      · rw [L2.del_ne hba, e2 b hb hba]
  rw [eH]
  have gr := A1.grow (u := .xd fs) hd
  exact ⟨_, δ, C1, xd, s0.trans (s1.trans gr.2), gr.1, S.mono (s1.trans gr.2), hr _ upd_same, w⟩
theorem ds_raise1 (hcm : X.calm = true) (tk : Takes X (WK0 X.K F0 G0 W)) (T : OexC X.K C) (iC : PySem.W.findIn X.K (.ref C) "__init__" = some (some (.ref fI))) (tI : PySem.W.typeIn X.K (.ref fI) = some (.type "function")) (hno : PySem.W.findIn X.K (.ref C) f = some none)
    (F1 : FnOk X.prog X.w X.K X.mg X.base CX0 k fI fd ps (spI1 X.K C f)) (hr : Room (k + 1) X.A) (hb : Binds X.K fd ps []) (hg : Gl X x) (hm : X.mg x = some (.ref C)) (ha : PA X (e :: es) (liftA X.K t))
    (hdb : (x == ("__debug__" : Str)) = false := by decide) (he : starEach (e :: es) X.env = (false, eval e X.env) :: starEach es X.env := by rfl) (hpl : (backTo p2 (starEach es X.env)).any (·.1) = false := by rfl) :
    PS X (.Raise (some (.Call (.Name x p) (e :: es) [] p2)) none pos) (liftS0 X.K F0 G0 (dRaise1 C f t W)) := by
  refine (ps_raise hcm tk (pmk_oex T iC tI F1 hr hb .nil (fun _ _ _ _ _ _ _ h => h.elim) hg hm ha hdb he hpl)).weak ?_
  rintro D σ H ⟨G, δ, C0, R, s0, A, S, q, kk⟩
  refine ⟨F0, G, δ, C0, _, A, S, q, ?_⟩
  rintro ds C1 ⟨i, rfl, hi, w⟩ vs H1 G1 s1 A1 r1
  cases r1 with
  | cons h1 h2 =>
    cases h2
    cases h1
    refine ⟨by simp, fun a hna => ⟨a, i, rfl, hi, T, hno, upd_same, fun dx hdx hne => ?_⟩⟩
    have hd1 : H1 dx = none := by rw [← hdx]; exact (upd_ne hne).symm
    refine ⟨rfl, dx, [(f, .int i)], upd_same, by rw [upd_ne hne, upd_same], hd1, ?_⟩
    refine go_new (xd := (C, [(f, .int i)])) s0 s1 A1 S hd1 hna (fun b hb hba => by rw [upd_ne hba, upd_ne hb, upd_ne hba]) (fun G2 hG => ⟨rfl, .inr ⟨dx, _, rfl, hG, fun f' v hv => ?_⟩⟩) w
    rw [List.lookup_cons] at hv ⊢
    cases hff : f' == f with
    | true => rw [hff] at hv; cases hv; exact ⟨.int i, rfl, .int i⟩
    | false => rw [hff] at hv; cases hv
theorem ds_raise2 (hcm : X.calm = true) (tk : Takes X (WK0 X.K F0 G0 W)) (T : OexC X.K C) (iC : PySem.W.findIn X.K (.ref C) "__init__" = some (some (.ref fI))) (tI : PySem.W.typeIn X.K (.ref fI) = some (.type "function")) (hnf : PySem.W.findIn X.K (.ref C) f = some none) (hng : PySem.W.findIn X.K (.ref C) g = some none) (hfg : f ≠ g)
    (F1 : FnOk X.prog X.w X.K X.mg X.base CX0 k fI fd ps (spI2 X.K C f g)) (hr : Room (k + 1) X.A) (hb : Binds X.K fd ps []) (hg : Gl X x) (hm : X.mg x = some (.ref C)) (ha : PA X (e :: es) (liftA X.K t))
    (hdb : (x == ("__debug__" : Str)) = false := by decide) (he : starEach (e :: es) X.env = (false, eval e X.env) :: starEach es X.env := by rfl) (hpl : (backTo p2 (starEach es X.env)).any (·.1) = false := by rfl) :
    PS X (.Raise (some (.Call (.Name x p) (e :: es) [] p2)) none pos) (liftS0 X.K F0 G0 (dRaise2 C f g t W)) := by
  refine (ps_raise hcm tk (pmk_oex T iC tI F1 hr hb .nil (fun _ _ _ _ _ _ _ h => h.elim) hg hm ha hdb he hpl)).weak ?_
  rintro D σ H ⟨G, δ, C0, R, s0, A, S, q, kk⟩
  refine ⟨F0, G, δ, C0, _, A, S, q, ?_⟩
  rintro ds C1 ⟨i, j, rfl, hi, w⟩ vs H1 G1 s1 A1 r1
  cases r1 with
  | cons h1 h2 =>
    cases h2 with
    | cons h3 h4 =>
      cases h4
      cases h1
      cases h3
      refine ⟨by simp, fun a hna => ⟨a, i, j, rfl, hi, T, hnf, hng, hfg, upd_same, fun dx H2 hdx hne eH => ?_⟩⟩
      have hd1 : H1 dx = none := by rw [← hdx]; exact (upd_ne hne).symm
      refine ⟨rfl, dx, [(g, .int j), (f, .int i)], by rw [eH, if_neg hne.symm, if_pos rfl], by rw [eH, if_pos rfl], hd1, ?_⟩
      refine go_new (xd := (C, [(g, .int j), (f, .int i)])) s0 s1 A1 S hd1 hna (fun b hb hba => by rw [eH, if_neg hb, if_neg hba]; exact upd_ne hba) (fun G2 hG => ⟨rfl, .inr ⟨dx, _, rfl, hG, fun f' v hv => ?_⟩⟩) w
      rw [List.lookup_cons] at hv ⊢
      cases hgg : f' == g with
      | true => rw [hgg] at hv; cases hv; exact ⟨.int j, rfl, .int j⟩
      | false =>
        rw [hgg] at hv
        rw [List.lookup_cons] at hv
        show ∃ u, List.lookup f' [(f, V.int i)] = some u ∧ _
        rw [List.lookup_cons]
        cases hff : f' == f with
        | true => rw [hff] at hv; cases hv; exact ⟨.int i, rfl, .int i⟩
        | false => rw [hff] at hv; cases hv
end
end DL
namespace DL
open PySem PySem.Spec L2
open PyProof.Rows hiding St
/-- ok: the exceptions that the body lets out; tb: the body, told what is wished of them; ts: the suite, told the exception -/
def dTry (ok : XcD → Prop) (i : Nat) (tb : (XcD → DSt → Cells → Prop) → DS) (ts : Addr → XcD → DS) : DS := fun N δ C => tb (fun xd δ' C' => ok xd ∧ ∀ a, C' a = none → ts a xd { nx := fun δ2 C2 => N.nx (δ2.set i none) C2, rt := N.rt, bk := fun δ2 C2 => N.bk (δ2.set i none) C2, ct := fun δ2 C2 => N.ct (δ2.set i none) C2 } (δ'.set i (some (.ref a))) C') N δ C
section
variable {X : Cx} {x n : Str} {c : Value} {i : Nat} {body suite : List Stmt} {b₀ : Stmt} {np pos pos' : Pos} {ok : XcD → Prop} {tb : (XcD → DSt → Cells → Prop) → DS} {ts : Addr → XcD → DS}
theorem slots_unset {K : PySem.W.Frag} {G : Hp} : ∀ {δ : DSt} {σ : L2.St} (i : Nat), RpS K G δ σ → RpS K G (δ.set i Option.none) (σ.set i Option.none)
  | _, _, _, .nil => .nil
  | _, _, 0, .some _ t => .none t
  | _, _, 0, .none t => .none t
  | _, _, i + 1, .some r t => .some r (slots_unset i t)
  | _, _, i + 1, .none t => .none (slots_unset i t)
end
end DL
namespace DL
open PySem PySem.Spec L2
open PyProof.Rows hiding St
/-- a class, as a value -/
def clsV : D → Option Value
  | .ref p => some (.ref p)
  | .ty T => some (.type T)
  | _ => none
def rIsExc (K : PySem.W.Frag) (D a : Addr) (d : Option Addr) : List V → Hp → VK → Prop := fun xs H Q => ∃ (c : V) (cv : Value) (b : Bool), (d = none ∨ ∃ dd fs, d = some dd ∧ H dd = some (.xd fs)) ∧ xs = [.ref a, c] ∧ (∀ u, RelV c u → u = cv) ∧ PySem.W.kitOne K (.ref D) cv = some b ∧ Q (.bl b) H
section
variable {X : Cx} {a D : Addr} {oe : Obj} {d : Option Addr} {cls : Value} {pn : List (Addr × Obj)} {F0 : Cells} {G0 : Hp} {xd : XcD} {t : DA} {i : Nat} {f : Str}
theorem call_isX (T : ExcC X.K D) (hz : Zc (.ref D) d oe) (hf : ∃ vs, oe.data = .fields vs) : CallR (X.suite a ((a, oe) :: pn)) (.builtin "isinstance") (rIsExc X.K D a d) := by
  intro pins s σ H xs us Q I r h
  obtain ⟨c, cv, b, hd, rfl, hcv, e, q⟩ := h
  cases r with
  | cons rx rr =>
    cases rr with
    | cons rt rr =>
      cases rr
      cases rx
      have ec := hcv _ rt
      subst ec
      obtain ⟨hget, _⟩ := I.pin (a, oe) (List.mem_append.mpr (.inl List.mem_cons_self))
      obtain ⟨vs, hv⟩ := hf
      obtain ⟨od, J⟩ : ∃ od, PySem.W.InstAt s.heap a oe D od := by
        rcases hd with rfl | ⟨dd, fs, rfl, hH⟩
        · refine ⟨none, ?_⟩
          obtain ⟨oc, od, oda, osl⟩ := oe
          obtain ⟨h1, h2⟩ := hz
          dsimp only at h1 h2 hv
          subst h1 h2 hv
          exact ⟨hget, rfl, rfl, trivial⟩
        · have hx : ObjOk X.prog X.w H s.heap dd (.xd fs) := I.hok dd _ hH
          obtain ⟨mA, hns, _⟩ := hx
          obtain ⟨od, ho, _⟩ := lookIn_ns hns
          exact ⟨some od, hget, hz.1, by unfold PySem.W.notCls; rw [hv] <;> rfl, by rw [hz.2]; exact ho⟩
      have hcl : (PySem.W.clsIn X.K D).isSome = true := by obtain ⟨cd, hc, _⟩ := PySem.W.any_some T.hd; rw [hc]; rfl
      exact PySem.W.kia_one (PySem.W.kitx_exc hcl T.hg T.hk T.hs T.ha T.hn T.ht T.hm) I.kIn J e (fun z => nomatch z) fun tk => ⟨.bl b, H, I.kept (t' := tk) fun _ _ z => z, rfl, q⟩
/-- isinstance(e, c) -/
def dIsX (K : PySem.W.Frag) (xd : XcD) (a : Addr) (t : DA) : DE := fun δ C R => t δ C fun ds C1 => ∃ c cv b, ds = [.ref a, c] ∧ clsV c = some cv ∧ PySem.W.kitOne K (.ref xd.1) cv = some b ∧ R (.bl b) C1
theorem de_isX {p pos : Pos} {e : Expr} {es : List Expr} (T : ExcC X.K xd.1) (hz : Zc cls d oe) (hf : ∃ vs, oe.data = .fields vs) (hr : XRp X.K G0 xd cls d) (hg : Gl (X.suite a ((a, oe) :: pn)) "isinstance") (hm : X.mg "isinstance" = none)
    (ha : PA (X.suite a ((a, oe) :: pn)) (e :: es) (liftA X.K t))
    (he : starEach (e :: es) X.env = (false, eval e X.env) :: starEach es X.env := by rfl) (hpl : (backTo pos (starEach es X.env)).any (·.1) = false := by rfl) :
    PE (X.suite a ((a, oe) :: pn)) (.Call (.Name "isinstance" p) (e :: es) [] pos) (liftE0 X.K F0 G0 (dIsX X.K xd a t)) := by
  obtain ⟨rfl, hr2⟩ := id hr
  refine (pe_callB (X := X.suite a ((a, oe) :: pn)) (call_isX (pn := pn) T hz hf) hg hm PyProof.Rows.boot_isinstance ha (by decide) (by decide) he hpl).weak ?_
  rintro σ H Q ⟨G, δ, C, R, s, A, S, q, k⟩
  refine ⟨F0, G, δ, C, _, A, S, q, ?_⟩
  rintro ds C1 ⟨c, cv, b, rfl, hcv, hb, q1⟩ vs H1 G1 s1 A1 r1
  cases r1 with
  | cons h1 h2 =>
    cases h2 with
    | cons h3 h4 =>
      cases h4
      cases h1
      rename_i vc
      refine ⟨vc, cv, b, ?_, rfl, fun u hu => ?_, hb, k _ _ q1 _ H1 G1 s1 A1 (.bl b)⟩
      · rcases hr2 with ⟨e1, _⟩ | ⟨dd, fs, e1, hG, _⟩
        · exact .inl e1
        · exact .inr ⟨dd, fs, e1, A1.sub _ _ (s1 _ _ (s _ _ hG))⟩
      · cases h3 <;> first | (simp [clsV] at hcv; done) | skip
        all_goals (simp only [clsV, Option.some.injEq] at hcv; subst hcv; cases hu; try rfl)
/-- e.f -/
def dXf (i : Nat) (a : Addr) (xd : XcD) (f : Str) : DE := fun δ C R => δ[i]? = some (some (.ref a)) ∧ ∃ v, xd.2.lookup f = some v ∧ R v C
theorem de_xf {n : Str} {p pos : Pos} (T : XfC X.K xd.1) (hno : PySem.W.findIn X.K (.ref xd.1) f = some none) (hz : Zc cls d oe) (hf : ∃ vs, oe.data = .fields vs) (hr : XRp X.K G0 xd cls d)
    (he : PE (X.suite a ((a, oe) :: pn)) (.Name n p) (liftE X.K (dVar i))) (hb : attributeBase (.Name n p) f X.env (eval (.Name n p) X.env) = eval (.Name n p) X.env := by rfl) :
    PE (X.suite a ((a, oe) :: pn)) (.Attribute (.Name n p) f pos) (liftE0 X.K F0 G0 (dXf i a xd f)) := by
  obtain ⟨rfl, hr2⟩ := id hr
  refine (pe_xf (X := X) (cls := .ref xd.1) (d := d) (C := xd.1) T hno hz hf he hb).weak ?_
  rintro σ H Q ⟨G, δ, C, R, s, A, S, ⟨hi, v, hv, q⟩, k⟩
  refine ⟨F0, G, δ, C, fun x C1 => x = .ref a ∧ R v C1, A, S, ?_, ?_⟩
  · show (match δ[i]? with | some (some d) => (d = .ref a ∧ R v C) | _ => False)
    rw [hi]
    exact ⟨rfl, q⟩
  rintro x C1 ⟨rfl, q1⟩ w H1 G1 s1 A1 r1
  cases r1
  refine ⟨rfl, rfl, ?_⟩
  rcases hr2 with ⟨_, e1⟩ | ⟨dd, fs, e1, hG, hl⟩
  · rw [e1] at hv; cases hv
  · obtain ⟨u, hu, ru⟩ := hl f v hv
    exact ⟨dd, fs, u, e1, A1.sub _ _ (s1 _ _ (s _ _ hG)), hu, k _ _ q1 _ H1 G1 s1 A1 (ru.mono (s.trans s1))⟩
end
end DL
namespace DL
open PySem PySem.Spec L2 LamX
open PyProof.Rows hiding St
/-- what a lambda without parameters promises -/
abbrev AL := Cells → (D → Cells → Prop) → (XcD → Cells → Prop) → Prop
def liftL (K : PySem.W.Frag) (G0 : Hp) (a : AL) (E : XK) (H : Hp) (Q : VK) : Prop := ∃ F G C R RX, Same G0 G ∧ Ab K F G H C ∧ a C R RX ∧ ToE K F G R Q ∧ ToX K F G RX E
def noE : XK := fun _ _ _ => False
/-- what the def that gets a lambda makes of its promise -/
def GivesL (X : Cx) (k : Nat) (Ng : List Str) (x : Str) (sg : Scope) (g : Addr) (cdg : Value) (bg : List Stmt) (a : Str) (q : Str) (aW : AL → Cells → (D → Cells → Prop) → Prop) : Prop :=
  ∀ (f c' : Addr) (s : Shared) (H : Hp) (Q : VK) (al : AL) (F : Cells) (G : Hp) (C : Cells) (R : D → Cells → Prop), Room k (X.A.deeper (envOfC x sg s.heap.objs.size g cdg)) →
    (∀ (W : WX) (pn : List (Addr × Obj)) (xe : Value → Shared → Prop) (E : XK) (p1 p2 : Pos), Takes ((cxOf CX0 X.prog X.w X.K X.mg X.base Ng x sg g cdg X.A X.stack s H noE).tr pn xe) W → (∀ cls d σ' H', E cls d H' → W cls d σ' H') →
      PE ((cxOf CX0 X.prog X.w X.K X.mg X.base Ng x sg g cdg X.A X.stack s H noE).tr pn xe) (.Call (.Name a p1) [] [] p2) (fun σZ HZ Q => σZ[0]? = some (some (.ref f)) ∧ HZ c' = some (CodeO c' q) ∧ liftL X.K G al E HZ Q)) →
    G c' = some (CodeO c' q) → Ab X.K F G H C → aW al C R → ToE X.K F G R Q →
    ∃ t, PSs (cxOf CX0 X.prog X.w X.K X.mg X.base Ng x sg g cdg X.A X.stack s H noE).nox bg t ∧ t { nx := fun _ H' => Q .non H', rt := Q } (L2.start Ng [.ref f]) H
/-- x(lambda: e): P, q: the def's table and what its code objects are called; aW: what x makes of it; tb: e, told what is wished of its exceptions -/
def dLamCall (P : Addr) (q : Str) (aW : AL → Cells → (D → Cells → Prop) → Prop) (tb : (XcD → DSt → Cells → Prop) → DE) : DE := fun δ C R => C P = some (.tab q) ∧ aW (fun C1 R1 RX => tb (fun xd _ C2 => RX xd C2) δ C1 R1) C R
section
variable {X : Cx}
theorem de_lamcall {aW : AL → Cells → (D → Cells → Prop) → Prop} {tb : (XcD → DSt → Cells → Prop) → DE} {x a : Str} {g c P : Addr} {k : Nat} {pg : Arguments} {bg : List Stmt} {sg : Scope} {dV kV doc pm cdv ct oc : Value} {an od : Option Addr} {osl : Array (Option Value)} {Ng : List Str}
    {params : Arguments} {body : Expr} {scope : Scope} {p lpos pos : Pos} (hg : Gl X x) (hm : X.mg x = some (.ref g)) (hk : PySem.W.keepIn X.K (.ref g) = true)
    (lk : X.K.lookup g = some ⟨oc, od, .func (PySem.W.fnOf x x pg bg sg dV kV doc pm an cdv ct), osl⟩) (hcg : PySem.W.codeIn X.K cdv x = true) (hb : L2.Binds X.K (PySem.W.fnOf x x pg bg sg dV kV doc pm an cdv ct) [a] []) (Sg : FnScope Ng [a] sg) (hNg : Ng[0]? = some a) (hva : Vis sg a)
    (hG : GivesL X (k + 1) Ng x sg g cdv bg a (X.env.qual ++ "<lambda>") aW)
    (TB : TabB X.base X.mg c P) (hcode : X.env.code = .ref c) (hr : Room (k + 2) X.A) (L : LamS X.env.scope scope) (hdef : defaultsOf params X.env = ([], []))
    (hbind : ∀ (q : Str) (cl : List (Str × Addr)) (pm cv ctv : Value), bindArgs (PySem.W.kla_fn "<lambda>" q params body scope cl pm cv ctv) ⟨[], []⟩ = pure [])
    (hbody : ∀ (A : Around) (outer : List Env) (s : Shared) (H : Hp) (E : XK) (f c' : Addr) (F0 : Cells) (G0 : Hp) (W : XcD → DSt → Cells → Prop), Room k (A.deeper (lamEnv X scope s.heap.objs.size f c')) → Takes (lamCx X A outer s H E scope f c') (WK0 X.K F0 G0 W) → PE (lamCx X A outer s H E scope f c') body (liftE0 X.K F0 G0 (tb W)))
    (hdb : (x == ("__debug__" : Str)) = false := by decide) (hd : (a == ("__debug__" : Str)) = false := by decide) (hcd : (a == ("__classdict__" : Str)) = false := by decide) :
    PE X (.Call (.Name x p) [.Lambda params body scope lpos] [] pos) (liftE X.K (dLamCall P (X.env.qual ++ "<lambda>") aW tb)) := by
  refine ⟨fun pins s σ H Q I h => ?_⟩
  obtain ⟨F, G, δ, C, R, A, Sl, ⟨htab, hW⟩, kk⟩ := h
  obtain ⟨ps, hP, ht, hps⟩ := A.tab htab
  refine wpAny_Call_Name_kw (ld_glob I hg hm ?_ hdb)
  refine PySem.W.callWith_K (h₀ := X.base) I.ok.mod.kin hk ?_ (by rfl) (by rfl)
  show wpAny _ _ (spliced ((false, eval (.Lambda params body scope lpos) X.env) :: backTo pos (starEach [] X.env))) _ _ s
  refine Calls.spliced_cons (lam_mk (Kp := fun c => G c = some (CodeO c (X.env.qual ++ "<lambda>"))) I TB hcode hP ht (fun pos cv hcv => by
    obtain ⟨c0, e1, e2⟩ := hps pos cv hcv
    exact ⟨c0, e1, e2, A.sub _ _ e2⟩) hdef (L.has I.ok) fun f c' pm' ctv H2 s2 I2 hH2 hf hfn hfr hco => ?_)
  obtain ⟨G2, A2, s12, hG2⟩ : ∃ G2, Ab X.K F G2 H2 C ∧ Same G G2 ∧ G2 c' = some (CodeO c' (X.env.qual ++ "<lambda>")) := by
    rcases hH2 with ⟨rfl, hk⟩ | ⟨more, h1, rfl, h3, h4⟩
    · exact ⟨G, A, Same.refl _, hk⟩
    · obtain ⟨a1, a2⟩ := A.tabMore htab hP hps h1 h3 h4
      exact ⟨_, a1, a2, upd_same⟩
  refine Calls.spliced_nil ⟨I2.kIn, ?_⟩
  have rc : codeAny (model X.prog X.w) X.A (.call (.ref g) ⟨[.ref f], []⟩) (CR CX0 X.stack X.prog X.w H2 s2 Q noE) s2 := by
    refine run_ofS (N := Ng) (ps := [a]) (us := [.ref f]) (vs := [.ref f]) lk hcg Sg hr I2.env0 (hb s2 [.ref f] I2.kIn rfl) (.cons rfl .nil) rfl fun hr' => ?_
    obtain ⟨t', ht', hq'⟩ := hG f c' s2 H2 Q (fun C1 R1 RX => tb (fun xd _ C2 => RX xd C2) δ C1 R1) F G2 C R hr' (fun W pn xe E p1 p2 tk hW => by
      have h0 := pe_act (tb := fun σ0 HZ Q0 => σ0 = σ ∧ liftL X.K G2 (fun C1 R1 RX => tb (fun xd _ C2 => RX xd C2) δ C1 R1) E HZ Q0) (p1 := p1) (p2 := p2) (i := 0) I2 L hf hfn hfr (hbind _ _ _ _ _) tk hW hr' (fun A outer s H hr2 => ⟨fun pins0 s0 σ0 H0 Q0 I0 ⟨e, F1, G1, C1, R1, RX1, sm, A1, hal, k1, kx1⟩ => by
        subst e
        refine (hbody A outer s H E f c' F1 G1 (fun xd _ C2 => RX1 xd C2) hr2 (Takes.imp (W := fun cls d _ H' => E cls d H') (takes_of rfl rfl rfl rfl) ?_)).run pins0 s0 σ0 H0 Q0 I0 ⟨G1, δ, C1, R1, Same.refl G1, A1, Sl.mono (s12.trans sm), hal, k1⟩
        rintro cls d σ1 H1 ⟨G', δ', C', xd, s', A', S', r', w⟩
        exact kx1 xd C' w cls d H1 G' s' A' r'⟩) hNg hva hd hcd
      exact h0.weak fun σZ HZ QZ ⟨z1, z2, z3⟩ => ⟨z1, z2, rfl, z3⟩) hG2 A2 hW (kk.mono s12)
    exact ⟨t', ht'.nox, hq'⟩
  refine wpAny_call (codeAny_mono rc fun r s3 hq => ?_)
  cases r with
  | error e => exact (show False from hq).elim
  | ok fl =>
    cases fl with
    | ret u => exact I2.after hq
    | next => exact False.elim hq
    | brk => exact False.elim hq
    | cont => exact False.elim hq
end
end DL
namespace DL
open PySem PySem.Spec L2 LamX
open PyProof.Rows hiding St
def liftA0 (K : PySem.W.Frag) (F0 : Cells) (G0 : Hp) (t : DA) : TA := fun σ H Q => ∃ G δ C R, Same G0 G ∧ Ab K F0 G H C ∧ RpS K G δ σ ∧ t δ C R ∧ ToA K F0 G R Q
section
variable {X : Cx} {F0 : Cells} {G0 : Hp} {e o : Expr} {es : List Expr} {te to : DE} {t : DA} {pos : Pos}
theorem da_0 (h : PA X es (liftA X.K t)) : PA X es (liftA0 X.K F0 G0 t) := h.weak fun σ H Q ⟨G, δ, C, R, s, A, S, q, k⟩ => ⟨F0, G, δ, C, R, A, S, q, k⟩
theorem da_cons0 (ha : PE X e (liftE0 X.K F0 G0 te)) (hr : PA X es (liftA0 X.K F0 G0 t)) (hs : starEach (e :: es) X.env = (false, eval e X.env) :: starEach es X.env := by rfl) : PA X (e :: es) (liftA0 X.K F0 G0 (dCons te t)) := by
  refine (pa_cons ha hr hs).weak ?_
  rintro σ H Q ⟨G, δ, C, R, s, A, S, q, k⟩
  exact ⟨G, δ, C, _, s, A, S, q, fun x C1 q1 v H1 G1 s1 A1 r1 => ⟨G1, δ, C1, _, s.trans s1, A1, S.mono s1, q1, fun xs C2 q2 vs H2 G2 s2 A2 r2 => k _ _ q2 (v :: vs) H2 G2 (s1.trans s2) A2 (.cons (r1.mono s2) r2)⟩⟩
theorem de_tup0 {x1} (h : PA X es (liftA0 X.K F0 G0 t)) : PE X (.Tuple es x1 pos) (liftE0 X.K F0 G0 (dTup t)) := by
  refine (pe_tup h).weak ?_
  rintro σ H Q ⟨G, δ, C, R, s, A, S, q, k⟩
  refine ⟨G, δ, C, _, s, A, S, q, ?_⟩
  rintro xs C1 ⟨hl, q1⟩ vs H1 G1 s1 A1 r1
  exact ⟨by rw [← r1.length]; exact hl, fun p hp => (k.mono s1).new A1 hp q1 (.tup (.inl (.inl upd_same)) (r1.mono (A1.grow hp).2))⟩
theorem de_lst0 (h : PA X es (liftA0 X.K F0 G0 t)) : PE X (.List es pos) (liftE0 X.K F0 G0 (dLst t)) := by
  refine (pe_lst h).weak ?_
  rintro σ H Q ⟨G, δ, C, R, s, A, S, q, k⟩
  refine ⟨G, δ, C, _, s, A, S, q, ?_⟩
  rintro xs C1 ⟨hl, q1⟩ vs H1 G1 s1 A1 r1
  exact ⟨by rw [← r1.length]; exact hl, fun p hp => (k.mono s1).new A1 hp q1 (.lst (.inl upd_same) (r1.mono (A1.grow hp).2))⟩
/-- a method of a list, an argument of which may raise -/
theorem de_mtL0 {name : Str} {apos cpos : Pos} {id : String} {om : DOm} (slot : Slot "list" name id) (hty : typeOf (.builtin id) = pure (.type "method_descriptor")) (hm : MtD X id om) (ho : PE X o (liftE0 X.K F0 G0 to)) (ha : PA X (e :: es) (liftA0 X.K F0 G0 t))
    (hbase : attributeBase o name X.env (eval o X.env) = eval o X.env := by rfl)
    (hfew : ((backTo cpos (starEach (e :: es) X.env)).all (fun x => !x.1) && (backToKw cpos (keywordEach [] X.env)).all (fun x => x.1.isSome)
      && decide ((e :: es).length + ([] : List Keyword).length + (if ([] : List Keyword).isEmpty then 0 else 1) < 30)) = true := by rfl)
    (hline : (apos.endLine == cpos.line) = true := by rfl) (hs : starEach (e :: es) X.env = (false, eval e X.env) :: starEach es X.env := by rfl) (hplain : (backTo cpos (starEach es X.env)).any (·.1) = false := by rfl) :
    PE X (.Call (.Attribute o name apos) (e :: es) [] cpos) (liftE0 X.K F0 G0 (dMtL om to t)) := by
  obtain ⟨r, h1, h2⟩ := hm.ex
  refine (pe_bm PySem.F.plainAttrs_list slot hty h1 ho ha hbase hfew hline hs hplain).weak ?_
  rintro σ H Q ⟨G, δ, C, R, s, A, S, q, k⟩
  refine ⟨G, δ, C, _, s, A, S, q, ?_⟩
  rintro x C1 ⟨hx, q1⟩ v H1 G1 s1 A1 r1
  obtain ⟨ds, hx⟩ := Option.isSome_iff_exists.mp hx
  obtain ⟨a, as, rfl, ha, ra⟩ := lst_at A1 r1 hx
  refine ⟨.inl ⟨rfl, as, .inl ha⟩, G1, δ, C1, _, s.trans s1, A1, S.mono s1, q1, fun xs C2 q2 vs H2 G2 s2 A2 r2 => ?_⟩
  exact h2 F0 G2 H2 C2 x _ xs vs R Q A2 (r1.mono s2) r2 q2 (k.mono (s1.trans s2))
/-- an operator with the ground fixed -/
theorem de_op0 {a b : Expr} {ta tb : DE} {op : Operator} {r : R2} {d : DO2} (ho : OpR X (binaryOp op) r) (h : LO2 X.K r d) (ha : PE X a (liftE0 X.K F0 G0 ta)) (hb : PE X b (liftE0 X.K F0 G0 tb)) : PE X (.BinOp a op b pos) (liftE0 X.K F0 G0 (dOp d ta tb)) :=
  (pe_op ho ha hb).weak fun σ H Q ⟨G, δ, C, R, s, A, S, q, k⟩ => ⟨G, δ, C, _, s, A, S, q, fun x C1 q1 v H1 G1 s1 A1 r1 => ⟨G1, δ, C1, _, s.trans s1, A1, S.mono s1, q1, fun y C2 q2 u H2 G2 s2 A2 r2 =>
    h F0 G2 H2 C2 x y v u R Q A2 (r1.mono s2) r2 q2 (k.mono (s1.trans s2))⟩⟩
end
theorem takes_len {X : Cx} {W : WX} (t : Takes X W) : Takes X fun cls d σ H => σ.length = X.N.length → W cls d σ H := fun u s' ⟨a, B, sI, pins, σ, H, cls, d, e, I, nb, up, sky, na, os, ag, w⟩ =>
  t u s' ⟨a, B, sI, pins, σ, H, cls, d, e, I, nb, up, sky, na, os, ag, w I.len⟩
theorem slots_none {K : PySem.W.Frag} {G : Hp} : ∀ σ : L2.St, RpS K G (List.replicate σ.length none) σ
  | [] => .nil
  | _ :: σ => .none (slots_none σ)
/-- the call of the lambda at f: behind an exception nothing is known of the slots, of which there are n -/
def dAct (f : Addr) (n : Nat) (al : AL) (W : XcD → DSt → Cells → Prop) : DE := fun δ C R => δ[0]? = some (some (.ref f)) ∧ al C R fun xd C' => W xd (List.replicate n none) C'
section
variable {X : Cx} {G : Hp} {al : AL} {f c' : Addr} {q a : Str}
theorem de_act (act : ∀ (W : WX) (pn : List (Addr × Obj)) (xe : Value → Shared → Prop) (E : XK) (p1 p2 : Pos), Takes (X.tr pn xe) W → (∀ cls d σ' H', E cls d H' → W cls d σ' H') →
      PE (X.tr pn xe) (.Call (.Name a p1) [] [] p2) (fun σZ HZ Q => σZ[0]? = some (some (.ref f)) ∧ HZ c' = some (CodeO c' q) ∧ liftL X.K G al E HZ Q))
    {pn : List (Addr × Obj)} {xe : Value → Shared → Prop} {F1 : Cells} {G1 : Hp} {W : XcD → DSt → Cells → Prop} {p1 p2 : Pos} (sG : Same G G1) (hc : G c' = some (CodeO c' q)) (tk : Takes (X.tr pn xe) (WK0 X.K F1 G1 W)) :
    PE (X.tr pn xe) (.Call (.Name a p1) [] [] p2) (liftE0 X.K F1 G1 (dAct f X.N.length al W)) := by
  refine (act _ pn xe (fun cls d H' => ∃ G' C xd, Same G1 G' ∧ Ab X.K F1 G' H' C ∧ XRp X.K G' xd cls d ∧ W xd (List.replicate X.N.length none) C) p1 p2 (takes_len tk) ?_).weak ?_
  · rintro cls d σ' H' ⟨G', C, xd, s, A, r, w⟩ hl
    have hl : σ'.length = X.N.length := hl
    exact ⟨G', _, C, xd, s, A, slots_none σ', r, by rw [hl]; exact w⟩
  · rintro σ H Q ⟨G', δ, C, R, s, A, S, ⟨hf, hal⟩, k⟩
    obtain ⟨v, hv, rv⟩ := S.get hf
    cases rv
    exact ⟨hv, A.sub _ _ (s _ _ (sG _ _ hc)), F1, G', C, R, _, sG.trans s, A, hal, k, fun xd C' w cls d H' G'' s' A' r' => ⟨G'', C', xd, s.trans s', A', r', w⟩⟩
end
end DL
namespace DL
open PySem PySem.Spec L2 LamX
open PyProof.Rows hiding St
section
variable {X : Cx} {F0 : Cells} {G0 : Hp} {x n : Str} {c : Value} {i : Nat} {body suite : List Stmt} {b₀ : Stmt} {np pos pos' : Pos} {ok : XcD → Prop} {tb : (XcD → DSt → Cells → Prop) → DS} {ts : Addr → XcD → DS}
theorem ds_try0 (hs : X.stack = X.env :: X.outer) (hf : X.env.frame = some X.env.locals) (hN : X.N.Nodup) (hi : X.N[i]? = some n) (hln : X.env.kindOf n = some .local) (hc : Names X x c) (hok : ∀ xd, ok xd → PySem.W.exmOne X.K (.ref xd.1) c = some true)
    (hb : ∀ (pn : List (Addr × Obj)) (xe : Value → Shared → Prop) (G1 : Hp) (W : XcD → DSt → Cells → Prop), Same G0 G1 → Takes (X.tr pn xe) (WK0 X.K F0 G1 W) → PassesOwn (model X.prog X.w) X.A X.env xe → PSs (X.tr pn xe) body (liftS0 X.K F0 G1 (tb W)))
    (hsu : ∀ (a : Addr) (oe : Obj) (cls : Value) (d : Option Addr) (pn : List (Addr × Obj)) (xd : XcD) (G1 : Hp), ok xd → Zc cls d oe → (∃ vs, oe.data = .fields vs) → XRp X.K G1 xd cls d → PSs (X.suite a ((a, oe) :: pn)) (b₀ :: suite) (liftS0 X.K F0 G1 (ts a xd))) :
    PS X (.Try body [.ExceptHandler (some (.Name x np)) (some n) (b₀ :: suite) pos'] [] [] pos) (liftS0 X.K F0 G0 (dTry ok i tb ts)) := by
  have h := ps_try_as (Wout := fun _ _ _ _ => False) (b₀ := b₀) (suite := suite) (body := body) (np := np) (pos := pos) (pos' := pos') (tb := fun W => fun D σ H => ∃ G1 Wd, Same G0 G1 ∧ (∀ cls d σ H, WK0 X.K F0 G1 Wd cls d σ H → W cls d σ H) ∧ liftS0 X.K F0 G1 (tb Wd) D σ H)
    (ts := fun a cls d => fun D σ H => ∃ xd G1, ok xd ∧ XRp X.K G1 xd cls d ∧ liftS0 X.K F0 G1 (ts a xd) D σ H) hs hf hN hi hln hc L2.takes0
    (fun W pn xe tk po => ⟨fun pins s σ H D I ⟨G1, Wd, sm, hw, q⟩ => (hb pn xe G1 Wd sm (tk.imp hw) po).run pins s σ H D I q⟩)
    (fun a oe cls d pn hz hd => ⟨fun pins s σ H D I ⟨xd, G1, ho, r, q⟩ => (hsu a oe cls d pn xd G1 ho hz hd r).run pins s σ H D I q⟩)
  refine h.weak ?_
  rintro D σ H ⟨G, δ, C, R, sm, A, S, q, k⟩
  refine ⟨G, _, sm, ?_, G, δ, C, R, Same.refl G, A, S, q, k⟩
  rintro cls d σ' H' ⟨G', δ', C', xd, s', A', S', r', hx, w⟩
  obtain ⟨rfl, _⟩ := id r'
  refine ⟨true, hok xd hx, fun _ a ha => ⟨xd, G', hx, r', G', δ'.set i (some (.ref a)), C', _, Same.refl G', A', RpS.set (.ref a) i S', w a (A'.free ha), ?_⟩, fun z => by cases z⟩
  exact ⟨fun δ2 C2 q2 σ2 H2 G2 s2 A2 S2 => k.nx _ _ q2 _ H2 G2 (s'.trans s2) A2 (slots_unset i S2), k.rt.mono s', fun δ2 C2 q2 σ2 H2 G2 s2 A2 S2 => k.bk _ _ q2 _ H2 G2 (s'.trans s2) A2 (slots_unset i S2), fun δ2 C2 q2 σ2 H2 G2 s2 A2 S2 => k.ct _ _ q2 _ H2 G2 (s'.trans s2) A2 (slots_unset i S2)⟩
/-- a def that calls the lambda it got: t, told the lambda's address and promise -/
theorem gives_of {k : Nat} {Ng : List Str} {x : Str} {sg : Scope} {g : Addr} {cdg : Value} {bg : List Stmt} {a q : Str} {t : Addr → AL → DS}
    (hbody : ∀ (f c' : Addr) (s : Shared) (H : Hp) (al : AL) (F : Cells) (G : Hp), Room k (X.A.deeper (envOfC x sg s.heap.objs.size g cdg)) →
      (∀ (W : WX) (pn : List (Addr × Obj)) (xe : Value → Shared → Prop) (E : XK) (p1 p2 : Pos), Takes ((cxOf CX0 X.prog X.w X.K X.mg X.base Ng x sg g cdg X.A X.stack s H noE).tr pn xe) W → (∀ cls d σ' H', E cls d H' → W cls d σ' H') →
        PE ((cxOf CX0 X.prog X.w X.K X.mg X.base Ng x sg g cdg X.A X.stack s H noE).tr pn xe) (.Call (.Name a p1) [] [] p2) (fun σZ HZ Q => σZ[0]? = some (some (.ref f)) ∧ HZ c' = some (CodeO c' q) ∧ liftL X.K G al E HZ Q)) →
      G c' = some (CodeO c' q) → PSs (cxOf CX0 X.prog X.w X.K X.mg X.base Ng x sg g cdg X.A X.stack s H noE).nox bg (liftS0 X.K F G (t f al))) :
    GivesL X k Ng x sg g cdg bg a q fun al C R => ∀ f, t f al { nx := fun _ C' => R .non C', rt := R } (dstart Ng [.ref f]) C := by
  intro f c' s H Q al F G C R hr act hc A hW k
  refine ⟨_, hbody f c' s H al F G hr act hc, G, dstart Ng [.ref f], C, _, Same.refl G, A, ?_, hW f, ⟨?_, k, ?_, ?_⟩⟩
  · unfold dstart L2.start
    exact RpS.start (ds := [.ref f]) (.cons (.ref f) .nil) _
  · intro δ C' q σ H' G' s' A' S'
    exact k _ _ q _ H' G' s' A' .non
  · intro δ C' q
    exact q.elim
  · intro δ C' q
    exact q.elim
end
end DL
namespace DL
open PySem PySem.Spec L2
open PyProof.Rows hiding St kindOf
def eqbB (c : Bool) : Value → Bool
  | .bool b => b == c
  | _ => false
def rCntB (K : PySem.W.Frag) : V → List V → Hp → VK → Prop := fun x xs H Q => ∃ (p : Addr) (bs : List Bool) (c : Bool), x = .ref p ∧ xs = [.bl c] ∧ SqL K H p (bs.map V.bl) ∧ Q (.int (bs.count c : Nat)) H
theorem bools_of : ∀ {bs : List Bool} {us : List Value}, Vals (bs.map V.bl) us → us = bs.map Value.bool
  | [], _, .nil => rfl
  | b :: bs, _, .cons r t => by
    rw [List.map_cons, ← bools_of t]
    cases r
    rfl
theorem count_bools (c : Bool) (bs : List Bool) : (bs.map Value.bool).countP (eqbB c) = bs.count c := by
  induction bs with
  | nil => rfl
  | cons b bs ih => rw [List.map_cons, List.countP_cons, List.count_cons, ih]; rfl
theorem mt_countB {X : Cx} : MtR X "list.count" (rCntB X.K) := by
  intro pins s σ H x xs v us Q I rx rxs h
  obtain ⟨p, bs, c, rfl, rfl, hs, q⟩ := h
  cases rx
  obtain ⟨u, rfl, ru⟩ := rxs.one
  obtain rfl : u = .bool c := ru
  obtain ⟨its, rv, ⟨⟨cls, dd, data, sl⟩, n, ho, hc, hdn, hd⟩, hlen⟩ := I.list hs
  simp only at hc hd
  subst hc hd
  have hi := bools_of rv
  refine call_meets PySem.F.slot_list_count ⟨_, ho, rfl⟩ PySem.F.entry_list_count (PySem.F.args_list_count_2 _ _)
    (SeqAt.list_countAt p its.toArray n dd sl (.bool c) (eqbB c)) ⟨ho, fun y hy => ?_, ?_⟩
  · have hy : y ∈ its := by simpa using hy
    rw [hi] at hy
    obtain ⟨b, _, rfl⟩ := List.mem_map.mp hy
    exact SeqAt.EqAt.bool_bool b c
  · refine ⟨.int (bs.count c : Nat), H, I.tok _, ⟨s.toks, ?_⟩, q⟩
    show Value.int ((its.toArray.toList.countP (eqbB c) : Nat) : Int) s.toks = Value.int ((bs.count c : Nat) : Int) s.toks
    have e : its.toArray.toList.countP (eqbB c) = bs.count c := by
      rw [hi]
      simpa using count_bools c bs
    rw [e]
def omCountB : DOm := fun x xs C R => ∃ (bs : List Bool) (c : Bool), xs = [.bl c] ∧ lstOf C x = some (bs.map D.bl) ∧ R (.int (bs.count c : Nat)) C
theorem rpl_bools {K : PySem.W.Frag} {G : Hp} : ∀ {bs : List Bool} {vs : List V}, RpL K G (bs.map D.bl) vs → vs = bs.map V.bl
  | [], _, .nil => rfl
  | b :: bs, _, .cons r t => by
    rw [List.map_cons, ← rpl_bools t]
    cases r
    rfl
theorem md_countB {X : Cx} : MtD X "list.count" omCountB := by
  refine ⟨_, mt_countB, ?_⟩
  intro F G H C x v xs vs R Q A rx rxs h k
  obtain ⟨bs, c, rfl, hl, q⟩ := h
  obtain ⟨u, rfl, ru⟩ := rxs.one
  cases ru
  obtain ⟨a, as, rfl, ha, ra⟩ := lst_at A rx hl
  rw [rpl_bools ra] at ha
  exact ⟨a, bs, c, rfl, rfl, .inl ha, k.now A q (.int _)⟩
section
variable {X : Cx} {o e : Expr} {es : List Expr} {to : DE} {t : DA} {apos cpos : Pos}
theorem de_countB (ho : PE X o (liftE X.K to)) (ha : PA X (e :: es) (liftA X.K t))
    (hbase : attributeBase o "count" X.env (eval o X.env) = eval o X.env := by rfl)
    (hfew : ((backTo cpos (starEach (e :: es) X.env)).all (fun x => !x.1) && (backToKw cpos (keywordEach [] X.env)).all (fun x => x.1.isSome)
      && decide ((e :: es).length + ([] : List Keyword).length + (if ([] : List Keyword).isEmpty then 0 else 1) < 30)) = true := by rfl)
    (hline : (apos.endLine == cpos.line) = true := by rfl) (hs : starEach (e :: es) X.env = (false, eval e X.env) :: starEach es X.env := by rfl) (hplain : (backTo cpos (starEach es X.env)).any (·.1) = false := by rfl) :
    PE X (.Call (.Attribute o "count" apos) (e :: es) [] cpos) (liftE X.K (dMtL omCountB to t)) := de_mtL PySem.F.slot_list_count PySem.F.type_list_count md_countB ho ha hbase hfew hline hs hplain
end
end DL
namespace DL
open PySem PySem.Spec L2
open PyProof.Rows hiding St
section
variable {X : Cx} {F0 : Cells} {G0 : Hp} {a b e c : Expr} {rest : List Expr} {t u : DT} {te ta tb : DE} {pos : Pos}
theorem dt_val0 (h : PE X e (liftE0 X.K F0 G0 te)) (he : ∀ whole, isTrue e X.env whole = (do let v ← whole; standAt e.pos; holding [v] (truthy v)) := by intro _; rfl) : PT X e (liftT0 X.K F0 G0 (dTest te)) :=
  (pt_val h he).weak fun σ H Q ⟨G, δ, C, R, s, A, S, q, k⟩ => ⟨G, δ, C, _, s, A, S, q, by
    rintro x C1 ⟨b, rfl, q⟩ v H1 G1 s1 A1 r1
    cases r1
    exact ⟨b, rfl, k b C1 q H1 G1 s1 A1⟩⟩
theorem dt_not0 (ha : PT X a (liftT0 X.K F0 G0 t)) : PT X (.UnaryOp .Not a pos) (liftT0 X.K F0 G0 (dNot t)) :=
  (pt_not ha).weak fun σ H Q ⟨G, δ, C, R, s, A, S, q, k⟩ => ⟨G, δ, C, _, s, A, S, q, fun b C1 q H1 G1 s1 A1 => k _ _ q H1 G1 s1 A1⟩
theorem dw_or10 (ha : PT X a (liftT0 X.K F0 G0 t)) : PW X (.BoolOp .Or [a] pos) (liftT0 X.K F0 G0 t) := pw_or1 ha
theorem dw_or0 (ha : PT X a (liftT0 X.K F0 G0 t)) (hb : PW X (.BoolOp .Or (b :: rest) pos) (liftT0 X.K F0 G0 u)) : PW X (.BoolOp .Or (a :: b :: rest) pos) (liftT0 X.K F0 G0 (dOr t u)) :=
  (pw_or ha hb).weak fun σ H Q ⟨G, δ, C, R, s, A, S, q, k⟩ => ⟨G, δ, C, _, s, A, S, q, fun b C1 q H1 G1 s1 A1 => by
    cases b with
    | true => rw [if_pos rfl] at q ⊢; exact k _ _ q H1 G1 s1 A1
    | false => rw [if_neg Bool.false_ne_true] at q ⊢; exact ⟨G1, δ, C1, R, s.trans s1, A1, S.mono s1, q, k.mono s1⟩⟩
theorem de_ifExp0 (hc : PT X c (liftT0 X.K F0 G0 t)) (ha : PE X a (liftE0 X.K F0 G0 ta)) (hb : PE X b (liftE0 X.K F0 G0 tb)) : PE X (.IfExp c a b pos) (liftE0 X.K F0 G0 (dIf t ta tb)) := by
  refine (pe_ifExp hc ha hb).weak ?_
  rintro σ H Q ⟨G, δ, C, R, s, A, S, q, k⟩
  refine ⟨G, δ, C, _, s, A, S, q, fun d C1 q1 H1 G1 s1 A1 => ?_⟩
  cases d with
  | true => rw [if_pos rfl] at q1 ⊢; exact ⟨G1, δ, C1, R, s.trans s1, A1, S.mono s1, q1, k.mono s1⟩
  | false => rw [if_neg Bool.false_ne_true] at q1 ⊢; exact ⟨G1, δ, C1, R, s.trans s1, A1, S.mono s1, q1, k.mono s1⟩
end
end DL
namespace DL
open PySem PySem.Spec L2
open PyProof.Rows hiding St
section
variable {X : Cx} {F0 : Cells} {G0 : Hp}
theorem ds_for0 {tg iter : Expr} {body : List Stmt} {wi : DI} {g : DG} {tb : DS} {pos : Pos} (hp : PassesOwn (model X.prog X.w) X.A X.env X.xe) (hc : X.calm = true) (hi : PI X tg iter (liftI X.K wi)) (hg : PG X tg (liftG X.K g)) (hb : PSs X body (liftS0 X.K F0 G0 tb))
    (hs : ∀ x, foldedSetIterable iter X.env x = pure x := by intro _; rfl) : PS X (.For tg iter body [] pos) (liftS0 X.K F0 G0 (dFor wi g tb)) := by
  refine (ps_for hp hc hi hg hb hs).weak ?_
  rintro D σ H ⟨G, δ, C, R, s0, A, S, q, k⟩
  refine ⟨F0, G, δ, C, _, A, S, q, ?_⟩
  rintro J C1 ⟨W, ⟨m0, w0⟩, step⟩ J' H1 G1 s1 A1 ok
  refine ⟨fun i m σ H => ∃ G2 δ C, Same G1 G2 ∧ Ab X.K F0 G2 H C ∧ RpS X.K G2 δ σ ∧ W i m δ C, ⟨m0, G1, δ, C1, Same.refl _, A1, S.mono s1, w0⟩, ?_⟩
  rintro i m σ2 H2 ⟨G2, δ2, C2, s2, A2, S2, w2⟩
  obtain ⟨o1, o2⟩ := ok F0 i G2 H2 C2 s2 A2
  rcases step i m δ2 C2 w2 with ⟨st, qn⟩ | ⟨go, N, hN, body⟩
  · exact .inl ⟨o2 st, k.nx _ _ qn σ2 H2 G2 (s1.trans s2) A2 S2⟩
  · obtain ⟨go', yl⟩ := o1 go
    refine .inr ⟨go', fun σ H => ∃ G3 δ C, Same G1 G3 ∧ Ab X.K F0 G3 H C ∧ RpS X.K G3 δ σ ∧ N δ C, ?_, ?_⟩
    · rintro σ' H' ⟨G3, δ', C', s3, A3, S3, n3⟩
      obtain ⟨m', hm, w3⟩ := hN δ' C' n3
      exact ⟨m', hm, G3, δ', C', s3, A3, S3, w3⟩
    · intro x H' y
      obtain ⟨G3, d, s3, A3, yd, rd⟩ := yl x H' y
      refine ⟨F0, G3, δ2, C2, d, _, A3, S2.mono s3, rd, body d yd, ?_⟩
      intro δ4 C4 q4 σ4 H4 G4 s4 A4 S4
      refine ⟨G4, δ4, C4, _, s0.trans (s1.trans (s2.trans (s3.trans s4))), A4, S4, q4, ⟨?_, k.rt.mono (s1.trans (s2.trans (s3.trans s4))), k.nx.mono (s1.trans (s2.trans (s3.trans s4))), ?_⟩⟩
      · intro δ5 C5 q5 σ5 H5 G5 s5 A5 S5
        exact ⟨G5, δ5, C5, s2.trans (s3.trans (s4.trans s5)), A5, S5, q5⟩
      · intro δ5 C5 q5 σ5 H5 G5 s5 A5 S5
        exact ⟨G5, δ5, C5, s2.trans (s3.trans (s4.trans s5)), A5, S5, q5⟩
end
/-- .. where the cells that the def made are forgotten behind it -/
def lssX (RX : XcD → Cells → Prop) : XcD → Cells → Prop := fun xd C => ∃ C', (∀ a c, C' a = some c → C a = some c) ∧ RX xd C'
section
variable {P : Program} {w : World} {K : PySem.W.Frag} {mg : Str → Option Value} {base : Heap}
theorem fnDXL {x qual : Str} {st : Stmt} {f : Addr} {fd : FuncData} {N ps : List Str} {k : Nat} {a : ASpX} {t : (XcD → DSt → Cells → Prop) → DS} (F : Fun K x qual st f fd) (S : FnScope N ps (defScope st)) (len : ∀ ds C R RX, a ds C R RX → ds.length = ps.length)
    (hbody : ∀ (cdv : Value) (A : Around) (outer : List Env) (s : Shared) (H : Hp) (E : XK), Room k (A.deeper (envOfC qual (defScope st) s.heap.objs.size f cdv)) → ∀ F0 G0 W, Takes (cxOf (L2.CX P w) P w K mg base N qual (defScope st) f cdv A outer s H E) (WK0 K F0 G0 W) →
      PSs (cxOf (L2.CX P w) P w K mg base N qual (defScope st) f cdv A outer s H E) (defBody st) (liftS0 K F0 G0 (t W)))
    (rd : ∀ ds C R RX, a ds C R RX → t (fun xd _ C' => lssX RX xd C') { nx := fun _ C' => lss R .non C', rt := lss R } (dstart N ds) C) :
    FnOk P w K mg base (L2.CX P w) (k + 1) f fd ps (liftFX K a) := by
  have h : FnOk P w K mg base (L2.CX P w) (k + 1) f fd ps (liftFX K fun ds C R RX => ∃ R' RX', R = lss R' ∧ RX = lssX RX' ∧ a ds C R' RX') := by
    refine fnDX F S (fun ds C R RX ⟨R', RX', _, _, q⟩ => len ds C R' RX' q) hbody ?_
    rintro ds C R RX ⟨R', RX', rfl, rfl, q⟩
    exact rd ds C R' RX' q
  refine h.imp ?_
  rintro vs H Q E ⟨F, G, ds, C, R, RX, A, r, q, k, kx⟩
  refine ⟨F, G, ds, C, lss R, lssX RX, A, r, ⟨R, RX, rfl, rfl, q⟩, ?_, ?_⟩
  · rintro d C1 ⟨C2, hs, q2⟩ v H' G' s' A' r'
    exact k d C2 q2 v H' G' s' (A'.less hs) r'
  · rintro xd C1 ⟨C2, hs, q2⟩ cls d H' G' s' A' r'
    exact kx xd C2 q2 cls d H' G' s' (A'.less hs) r'
end
end DL
namespace DL
open PySem PySem.Spec L2 LamX
open PyProof.Rows hiding St
theorem GivesL.weak {X : Cx} {k : Nat} {Ng : List Str} {x : Str} {sg : Scope} {g : Addr} {cdg : Value} {bg : List Stmt} {a q : Str} {aW bW : AL → Cells → (D → Cells → Prop) → Prop} (h : GivesL X k Ng x sg g cdg bg a q aW) (hw : ∀ al C R, bW al C R → aW al C R) : GivesL X k Ng x sg g cdg bg a q bW :=
  fun f c' s H Q al F G C R hr act hc A hW k => h f c' s H Q al F G C R hr act hc A (hw al C R hW) k
theorem de_lamcallW {X : Cx} {aW : AL → Cells → (D → Cells → Prop) → Prop} {tb : (XcD → DSt → Cells → Prop) → DE} {x a q : Str} {g c P : Addr} {k : Nat} {fd : FuncData} {st : Stmt} {Ng : List Str}
    {params : Arguments} {body : Expr} {scope : Scope} {p lpos pos : Pos} (hg : Gl X x) (F : Fun X.K x x st g fd) (d : Df X.K X.mg x g fd [a]) (Sg : FnScope Ng [a] (defScope st)) (hNg : Ng[0]? = some a) (hva : Vis (defScope st) a)
    (hG : ∀ cdv, GivesL X (k + 1) Ng x (defScope st) g cdv (defBody st) a q aW) (TB : TabB X.base X.mg c P) (hcode : X.env.code = .ref c) (hq : q = X.env.qual ++ "<lambda>") (hr : Room (k + 2) X.A) (L : lamSB X.env.scope scope = true) (hdef : defaultsOf params X.env = ([], []))
    (hbind : ∀ (q : Str) (cl : List (Str × Addr)) (pm cv ctv : Value), bindArgs (PySem.W.kla_fn "<lambda>" q params body scope cl pm cv ctv) ⟨[], []⟩ = pure [])
    (hbody : ∀ (A : Around) (outer : List Env) (s : Shared) (H : Hp) (E : XK) (f c' : Addr) (F0 : Cells) (G0 : Hp) (W : XcD → DSt → Cells → Prop), Room k (A.deeper (lamEnv X scope s.heap.objs.size f c')) → Takes (lamCx X A outer s H E scope f c') (WK0 X.K F0 G0 W) → PE (lamCx X A outer s H E scope f c') body (liftE0 X.K F0 G0 (tb W)))
    (hdb : (x == ("__debug__" : Str)) = false := by decide) (hd : (a == ("__debug__" : Str)) = false := by decide) (hcd : (a == ("__classdict__" : Str)) = false := by decide) :
    PE X (.Call (.Name x p) [.Lambda params body scope lpos] [] pos) (liftE X.K (dLamCall P q aW tb)) := by
  subst hq
  obtain ⟨⟨oc, od, kV, doc, pm, an, cdv, ct, osl, rfl, lk, hcg⟩, kp⟩ := F
  exact de_lamcall hg d.mg d.kp lk hcg d.bd Sg hNg hva (hG cdv) TB hcode hr (lamS_by L) hdef hbind hbody hdb hd hcd
/-- what the top says of an own class of exceptions (C), E: the class above it -/
structure XFc (K : PySem.W.Frag) (C E : Addr) : Prop where
  ok : OexC K C
  ex : ExcC K C
  xf : XfC K C
  up : PySem.W.exmOne K (.ref C) (.ref E) = some true
  f0 : PySem.W.findIn K (.ref C) "number" = some none
  f1 : PySem.W.findIn K (.ref C) "part" = some none
  f2 : PySem.W.findIn K (.ref C) "done" = some none
  f3 : PySem.W.findIn K (.ref C) "row" = some none
theorem xfc_mk {K : PySem.W.Frag} {C E : Addr} {nm q N bs bm sn sub ab col dd k0 k1 k2 k3 k5} (l : K.lookup C = some (excClassObj nm q C N bs bm true sn sub ab col dd k0 k1 k2 k3 k5 "ValueError.__new__")) (b : PySem.HandSPX.refsVE bm = true)
    (sa : PySem.W.findIn K (.ref C) "__setattr__" = some (some (.builtin "object.__setattr__"))) (eC : PySem.W.subIn K (.ref C) (.type "BaseException") = some true) (tC : PySem.W.typeIn K (.ref C) = some (.type "type")) (kC : PySem.W.keepIn K (.ref C) = true)
    (ga : PySem.W.findIn K (.ref C) "__getattribute__" = some (some (.builtin "BaseException.__getattribute__"))) (gg : PySem.W.findIn K (.ref C) "__getattr__" = some none) (hd : PySem.W.hasDictIn K C = true)
    (ha : PySem.W.findIn K (.ref C) "__class__" = some (some (.builtin "object.__class__"))) (hn : PySem.W.specialIn K (.builtin "object.__class__") "__get__" = some (some (.builtin "getset_descriptor.__get__"))) (ht : PySem.W.takesIn K (.builtin "object.__class__") = some true) (hm : PySem.W.mroIn K C (.type "object") = some true)
    (up : PySem.W.exmOne K (.ref C) (.ref E) = some true) (f0 : PySem.W.findIn K (.ref C) "number" = some none) (f1 : PySem.W.findIn K (.ref C) "part" = some none) (f2 : PySem.W.findIn K (.ref C) "done" = some none) (f3 : PySem.W.findIn K (.ref C) "row" = some none) : XFc K C E :=
  ⟨⟨⟨nm, q, N, bs, bm, sn, sub, ab, col, dd, k0, k1, k2, k3, k5, l, b⟩, sa, eC, tC, kC⟩, ⟨ga, gg, eC, hd, ha, hn, ht, hm⟩, ⟨ga, gg, eC, hd⟩, up, f0, f1, f2, f3⟩
/-- what isinstance says of an exception of class T: of the eight classes cs, in turn, bs; of ValueError that it is one -/
structure XKr (K : PySem.W.Frag) (T c0 c1 c2 c3 c4 c5 c6 c7 : Addr) (b0 b1 b2 b3 b4 b5 b6 b7 : Bool) : Prop where
  k0 : PySem.W.kitOne K (.ref T) (.ref c0) = some b0
  k1 : PySem.W.kitOne K (.ref T) (.ref c1) = some b1
  k2 : PySem.W.kitOne K (.ref T) (.ref c2) = some b2
  k3 : PySem.W.kitOne K (.ref T) (.ref c3) = some b3
  k4 : PySem.W.kitOne K (.ref T) (.ref c4) = some b4
  k5 : PySem.W.kitOne K (.ref T) (.ref c5) = some b5
  k6 : PySem.W.kitOne K (.ref T) (.ref c6) = some b6
  k7 : PySem.W.kitOne K (.ref T) (.ref c7) = some b7
  kv : PySem.W.kitOne K (.ref T) (.type "ValueError") = some true
/-- the class above them all -/
structure XTop (K : PySem.W.Frag) (B : Addr) : Prop where
  rd : ClX.CRead K B (.type "type")
  vv : PySem.W.findCls K (.ref B) (.type "type") "__init__" = some (.val (.builtin "ValueError.__init__"))
end DL
namespace RR
open PySem PySem.Spec L2 DL
open PyProof.Rows hiding St
def top (i : Nat) : Stmt := PySem.Challenge.pw_ruleroom_k20_any_text_read.main.body.getD i (.Pass ⟨0, 0, 0, 0⟩)
abbrev s__law_row : Stmt := top 54
abbrev N__law_row : List Str := ["_law_script", "_law_mixed", "_law_cell"]
theorem sc__law_row : FnScope N__law_row ["_law_script"] (defScope s__law_row) := ⟨rfl, rfl, rfl, by decide +kernel, rfl, by decide +kernel, by decide +kernel⟩
abbrev s__law_taken : Stmt := top 55
abbrev N__law_taken : List Str := ["_law_row_here", "_law_many", "_law_found", "_law_cell"]
theorem sc__law_taken : FnScope N__law_taken ["_law_row_here", "_law_many"] (defScope s__law_taken) := ⟨rfl, rfl, rfl, by decide +kernel, rfl, by decide +kernel, by decide +kernel⟩
abbrev s__law_worth : Stmt := top 56
abbrev N__law_worth : List Str := ["_law_row_here"]
theorem sc__law_worth : FnScope N__law_worth ["_law_row_here"] (defScope s__law_worth) := ⟨rfl, rfl, rfl, by decide +kernel, rfl, by decide +kernel, by decide +kernel⟩
abbrev s__law_dense_rule : Stmt := top 61
abbrev N__law_dense_rule : List Str := ["_law_row_here", "_law_name", "_law_known", "_law_wants", "_law_k", "_law_letter", "_law_way", "_law_part", "_law_side", "_law_places", "_law_deeds", "_law_thing_here"]
theorem sc__law_dense_rule : FnScope N__law_dense_rule ["_law_row_here", "_law_name"] (defScope s__law_dense_rule) := ⟨rfl, rfl, rfl, by decide +kernel, rfl, by decide +kernel, by decide +kernel⟩
abbrev s__law_pattern : Stmt := top 57
abbrev N__law_pattern : List Str := ["_law_row_here", "_law_letters_here", "_law_found", "_law_k", "_law_some"]
theorem sc__law_pattern : FnScope N__law_pattern ["_law_row_here", "_law_letters_here"] (defScope s__law_pattern) := ⟨rfl, rfl, rfl, by decide +kernel, rfl, by decide +kernel, by decide +kernel⟩
abbrev s__law_letters : Stmt := top 58
abbrev N__law_letters : List Str := ["_law_pattern_here", "_law_part"]
theorem sc__law_letters : FnScope N__law_letters ["_law_pattern_here"] (defScope s__law_letters) := ⟨rfl, rfl, rfl, by decide +kernel, rfl, by decide +kernel, by decide +kernel⟩
abbrev s__law_template : Stmt := top 59
abbrev N__law_template : List Str := ["_law_row_here", "_law_known", "_law_found", "_law_k", "_law_part"]
theorem sc__law_template : FnScope N__law_template ["_law_row_here", "_law_known"] (defScope s__law_template) := ⟨rfl, rfl, rfl, by decide +kernel, rfl, by decide +kernel, by decide +kernel⟩
abbrev s__law_rule : Stmt := top 60
abbrev N__law_rule : List Str := ["_law_row_here", "_law_name", "_law_known", "_law_wants", "_law_k", "_law_way", "_law_side", "_law_other", "_law_pair", "_law_places", "_law_deeds"]
theorem sc__law_rule : FnScope N__law_rule ["_law_row_here", "_law_name"] (defScope s__law_rule) := ⟨rfl, rfl, rfl, by decide +kernel, rfl, by decide +kernel, by decide +kernel⟩
abbrev s__law_rules : Stmt := top 62
abbrev N__law_rules : List Str := ["_law_row_here", "_law_wished", "_law_names", "_law_dense", "_law_found", "_law_k"]
theorem sc__law_rules : FnScope N__law_rules ["_law_row_here", "_law_wished"] (defScope s__law_rules) := ⟨rfl, rfl, rfl, by decide +kernel, rfl, by decide +kernel, by decide +kernel⟩
abbrev s__law_thing : Stmt := top 63
abbrev N__law_thing : List Str := ["_law_row_here", "_law_word_here", "_law_k"]
theorem sc__law_thing : FnScope N__law_thing ["_law_row_here"] (defScope s__law_thing) := ⟨rfl, rfl, rfl, by decide +kernel, rfl, by decide +kernel, by decide +kernel⟩
abbrev s_is_word : Stmt := top 19
abbrev N_is_word : List Str := ["part", "sign"]
theorem sc_is_word : FnScope N_is_word ["part"] (defScope s_is_word) := ⟨rfl, rfl, rfl, by decide +kernel, rfl, by decide +kernel, by decide +kernel⟩
abbrev s_is_number : Stmt := top 18
abbrev N_is_number : List Str := ["part", "low", "high"]
theorem sc_is_number : FnScope N_is_number ["part", "low", "high"] (defScope s_is_number) := ⟨rfl, rfl, rfl, by decide +kernel, rfl, by decide +kernel, by decide +kernel⟩
abbrev s_is_worth : Stmt := top 20
abbrev N_is_worth : List Str := ["part"]
theorem sc_is_worth : FnScope N_is_worth ["part"] (defScope s_is_worth) := ⟨rfl, rfl, rfl, by decide +kernel, rfl, by decide +kernel, by decide +kernel⟩
abbrev s_is_blank : Stmt := top 21
abbrev N_is_blank : List Str := ["part"]
theorem sc_is_blank : FnScope N_is_blank ["part"] (defScope s_is_blank) := ⟨rfl, rfl, rfl, by decide +kernel, rfl, by decide +kernel, by decide +kernel⟩
abbrev s_is_pattern : Stmt := top 23
abbrev N_is_pattern : List Str := ["part", "one"]
theorem sc_is_pattern : FnScope N_is_pattern ["part"] (defScope s_is_pattern) := ⟨rfl, rfl, rfl, by decide +kernel, rfl, by decide +kernel, by decide +kernel⟩
abbrev s_is_side : Stmt := top 36
abbrev N_is_side : List Str := ["part", "known"]
theorem sc_is_side : FnScope N_is_side ["part", "known"] (defScope s_is_side) := ⟨rfl, rfl, rfl, by decide +kernel, rfl, by decide +kernel, by decide +kernel⟩
abbrev s_is_want : Stmt := top 37
abbrev N_is_want : List Str := ["want", "known", "part"]
theorem sc_is_want : FnScope N_is_want ["want", "known"] (defScope s_is_want) := ⟨rfl, rfl, rfl, by decide +kernel, rfl, by decide +kernel, by decide +kernel⟩
abbrev s_blanks_of : Stmt := top 35
abbrev N_blanks_of : List Str := ["pattern", "part"]
theorem sc_blanks_of : FnScope N_blanks_of ["pattern"] (defScope s_blanks_of) := ⟨rfl, rfl, rfl, by decide +kernel, rfl, by decide +kernel, by decide +kernel⟩
abbrev s_is_template : Stmt := top 38
abbrev N_is_template : List Str := ["part", "known", "one"]
theorem sc_is_template : FnScope N_is_template ["part", "known"] (defScope s_is_template) := ⟨rfl, rfl, rfl, by decide +kernel, rfl, by decide +kernel, by decide +kernel⟩
abbrev s_is_deed : Stmt := top 39
abbrev N_is_deed : List Str := ["deed", "wants", "known"]
theorem sc_is_deed : FnScope N_is_deed ["deed", "wants", "known"] (defScope s_is_deed) := ⟨rfl, rfl, rfl, by decide +kernel, rfl, by decide +kernel, by decide +kernel⟩
abbrev s_bad_part : Stmt := top 40
abbrev N_bad_part : List Str := ["rule", "names", "name", "rank", "wants", "deeds", "known", "number", "want", "deed"]
theorem sc_bad_part : FnScope N_bad_part ["rule", "names"] (defScope s_bad_part) := ⟨rfl, rfl, rfl, by decide +kernel, rfl, by decide +kernel, by decide +kernel⟩
abbrev s_need_rules : Stmt := top 41
abbrev N_need_rules : List Str := ["rules", "names", "number", "rule", "part"]
theorem sc_need_rules : FnScope N_need_rules ["rules"] (defScope s_need_rules) := ⟨rfl, rfl, rfl, by decide +kernel, rfl, by decide +kernel, by decide +kernel⟩
abbrev s_is_thing : Stmt := top 22
abbrev N_is_thing : List Str := ["part", "one"]
theorem sc_is_thing : FnScope N_is_thing ["part"] (defScope s_is_thing) := ⟨rfl, rfl, rfl, by decide +kernel, rfl, by decide +kernel, by decide +kernel⟩
abbrev s_need_things : Stmt := top 24
abbrev N_need_things : List Str := ["things", "number", "thing"]
theorem sc_need_things : FnScope N_need_things ["things"] (defScope s_need_things) := ⟨rfl, rfl, rfl, by decide +kernel, rfl, by decide +kernel, by decide +kernel⟩
abbrev s_part_text : Stmt := top 47
abbrev N_part_text : List Str := ["part"]
theorem sc_part_text : FnScope N_part_text ["part"] (defScope s_part_text) := ⟨rfl, rfl, rfl, by decide +kernel, rfl, by decide +kernel, by decide +kernel⟩
abbrev s_written : Stmt := top 48
abbrev N_written : List Str := ["rules", "things", "rows", "name", "rank", "wants", "deeds", "want", "word", "what", "thing", "row", "part"]
theorem sc_written : FnScope N_written ["rules", "things"] (defScope s_written) := ⟨rfl, rfl, rfl, by decide +kernel, rfl, by decide +kernel, by decide +kernel⟩
abbrev s__law_spoilt : Stmt := top 64
abbrev N__law_spoilt : List Str := ["_law_row_here", "_law_rows", "_law_words", "_law_turn", "_law_k", "_law_way", "_law_word_here", "_law_some", "_law_at", "_law_rest", "_law_told", "_law_line"]
theorem sc__law_spoilt : FnScope N__law_spoilt ["_law_row_here", "_law_rows"] (defScope s__law_spoilt) := ⟨rfl, rfl, rfl, by decide +kernel, rfl, by decide +kernel, by decide +kernel⟩
abbrev s__law_number_of : Stmt := top 65
abbrev N__law_number_of : List Str := ["_law_word_here", "_law_figures", "_law_sign"]
theorem sc__law_number_of : FnScope N__law_number_of ["_law_word_here"] (defScope s__law_number_of) := ⟨rfl, rfl, rfl, by decide +kernel, rfl, by decide +kernel, by decide +kernel⟩
abbrev s__law_part_of : Stmt := top 66
abbrev N__law_part_of : List Str := ["_law_word_here", "_law_number", "_law_more_here"]
theorem sc__law_part_of : FnScope N__law_part_of ["_law_word_here"] (defScope s__law_part_of) := ⟨rfl, rfl, rfl, by decide +kernel, rfl, by decide +kernel, by decide +kernel⟩
abbrev s__law_more : Stmt := top 67
abbrev N__law_more : List Str := ["_law_rule_here", "_law_head", "_law_parts", "_law_name", "_law_rank", "_law_wants", "_law_deeds"]
theorem sc__law_more : FnScope N__law_more ["_law_rule_here", "_law_head", "_law_parts"] (defScope s__law_more) := ⟨rfl, rfl, rfl, by decide +kernel, rfl, by decide +kernel, by decide +kernel⟩
abbrev s__law_read : Stmt := top 68
abbrev N__law_read : List Str := ["_law_text", "_law_rules_here", "_law_things", "_law_lines", "_law_k", "_law_head", "_law_rest", "_law_parts", "_law_good", "_law_word_here"]
theorem sc__law_read : FnScope N__law_read ["_law_text"] (defScope s__law_read) := ⟨rfl, rfl, rfl, by decide +kernel, rfl, by decide +kernel, by decide +kernel⟩
abbrev s__law_alike : Stmt := top 70
abbrev N__law_alike : List Str := ["_law_found", "_law_due", "_law_same_kind", "_law_k"]
theorem sc__law_alike : FnScope N__law_alike ["_law_found", "_law_due"] (defScope s__law_alike) := ⟨rfl, rfl, rfl, by decide +kernel, rfl, by decide +kernel, by decide +kernel⟩
abbrev s__law_word : Stmt := top 69
abbrev N__law_word : List Str := ["_law_work", "_law_found", "e", "_law_kinds", "_law_words", "_law_word_here"]
theorem sc__law_word : FnScope N__law_word ["_law_work"] (defScope s__law_word) := ⟨rfl, rfl, rfl, by decide +kernel, rfl, by decide +kernel, by decide +kernel⟩
abbrev s_Reader___init__ : Stmt := inClass (top 51) 0
abbrev N_Reader___init__ : List Str := ["self"]
theorem sc_Reader___init__ : FnScope N_Reader___init__ ["self"] (defScope s_Reader___init__) := ⟨rfl, rfl, rfl, by decide +kernel, rfl, by decide +kernel, by decide +kernel⟩
abbrev s_number_of : Stmt := top 49
abbrev N_number_of : List Str := ["word", "figures", "sign"]
theorem sc_number_of : FnScope N_number_of ["word"] (defScope s_number_of) := ⟨rfl, rfl, rfl, by decide +kernel, rfl, by decide +kernel, by decide +kernel⟩
abbrev s_part_of : Stmt := top 50
abbrev N_part_of : List Str := ["word", "number", "more"]
theorem sc_part_of : FnScope N_part_of ["word"] (defScope s_part_of) := ⟨rfl, rfl, rfl, by decide +kernel, rfl, by decide +kernel, by decide +kernel⟩
abbrev s_Reader_take_within : Stmt := inClass (top 51) 2
abbrev N_Reader_take_within : List Str := ["self", "head", "parts", "name", "rank", "wants", "deeds"]
theorem sc_Reader_take_within : FnScope N_Reader_take_within ["self", "head", "parts"] (defScope s_Reader_take_within) := ⟨rfl, rfl, rfl, by decide +kernel, rfl, by decide +kernel, by decide +kernel⟩
abbrev s_Reader_take : Stmt := inClass (top 51) 1
abbrev N_Reader_take : List Str := ["self", "words", "head", "rest", "parts", "word"]
theorem sc_Reader_take : FnScope N_Reader_take ["self", "words"] (defScope s_Reader_take) := ⟨rfl, rfl, rfl, by decide +kernel, rfl, by decide +kernel, by decide +kernel⟩
abbrev s_read : Stmt := top 52
abbrev N_read : List Str := ["text", "reader", "row", "line", "rules", "name", "rank", "wants", "deeds"]
theorem sc_read : FnScope N_read ["text"] (defScope s_read) := ⟨rfl, rfl, rfl, by decide +kernel, rfl, by decide +kernel, by decide +kernel⟩
abbrev s_law : Stmt := top 71
abbrev N_law : List Str := ["_law_script", "_law_row_here", "_law_turn", "_law_rules_here", "_law_things", "_law_text", "_law_due", "_law_found", "_law_k", "_law_line"]
theorem sc_law : FnScope N_law ["_law_script"] (defScope s_law) := ⟨rfl, rfl, rfl, by decide +kernel, rfl, by decide +kernel, by decide +kernel⟩
abbrev s_BadText___init__ : Stmt := inClass (top 9) 0
abbrev N_BadText___init__ : List Str := ["self", "row"]
theorem sc_BadText___init__ : FnScope N_BadText___init__ ["self", "row"] (defScope s_BadText___init__) := ⟨rfl, rfl, rfl, by decide +kernel, rfl, by decide +kernel, by decide +kernel⟩
abbrev s_BadThing___init__ : Stmt := inClass (top 2) 0
abbrev N_BadThing___init__ : List Str := ["self", "number"]
theorem sc_BadThing___init__ : FnScope N_BadThing___init__ ["self", "number"] (defScope s_BadThing___init__) := ⟨rfl, rfl, rfl, by decide +kernel, rfl, by decide +kernel, by decide +kernel⟩
abbrev s_BadRules___init__ : Stmt := inClass (top 3) 0
abbrev N_BadRules___init__ : List Str := ["self", "number", "part"]
theorem sc_BadRules___init__ : FnScope N_BadRules___init__ ["self", "number", "part"] (defScope s_BadRules___init__) := ⟨rfl, rfl, rfl, by decide +kernel, rfl, by decide +kernel, by decide +kernel⟩
set_option genInjectivity false
structure Pk (K : PySem.W.Frag) (mg : Str → Option Value) where
  f__law_row : Addr
  fd__law_row : FuncData
  F__law_row : Fun K "_law_row" "_law_row" s__law_row f__law_row fd__law_row
  d__law_row : Df K mg "_law_row" f__law_row fd__law_row ["_law_script"]
  f__law_taken : Addr
  fd__law_taken : FuncData
  F__law_taken : Fun K "_law_taken" "_law_taken" s__law_taken f__law_taken fd__law_taken
  d__law_taken : Df K mg "_law_taken" f__law_taken fd__law_taken ["_law_row_here", "_law_many"]
  f__law_worth : Addr
  fd__law_worth : FuncData
  F__law_worth : Fun K "_law_worth" "_law_worth" s__law_worth f__law_worth fd__law_worth
  d__law_worth : Df K mg "_law_worth" f__law_worth fd__law_worth ["_law_row_here"]
  f__law_dense_rule : Addr
  fd__law_dense_rule : FuncData
  F__law_dense_rule : Fun K "_law_dense_rule" "_law_dense_rule" s__law_dense_rule f__law_dense_rule fd__law_dense_rule
  d__law_dense_rule : Df K mg "_law_dense_rule" f__law_dense_rule fd__law_dense_rule ["_law_row_here", "_law_name"]
  f__law_pattern : Addr
  fd__law_pattern : FuncData
  F__law_pattern : Fun K "_law_pattern" "_law_pattern" s__law_pattern f__law_pattern fd__law_pattern
  d__law_pattern : Df K mg "_law_pattern" f__law_pattern fd__law_pattern ["_law_row_here", "_law_letters_here"]
  f__law_letters : Addr
  fd__law_letters : FuncData
  F__law_letters : Fun K "_law_letters" "_law_letters" s__law_letters f__law_letters fd__law_letters
  d__law_letters : Df K mg "_law_letters" f__law_letters fd__law_letters ["_law_pattern_here"]
  f__law_template : Addr
  fd__law_template : FuncData
  F__law_template : Fun K "_law_template" "_law_template" s__law_template f__law_template fd__law_template
  d__law_template : Df K mg "_law_template" f__law_template fd__law_template ["_law_row_here", "_law_known"]
  f__law_rule : Addr
  fd__law_rule : FuncData
  F__law_rule : Fun K "_law_rule" "_law_rule" s__law_rule f__law_rule fd__law_rule
  d__law_rule : Df K mg "_law_rule" f__law_rule fd__law_rule ["_law_row_here", "_law_name"]
  f__law_rules : Addr
  fd__law_rules : FuncData
  F__law_rules : Fun K "_law_rules" "_law_rules" s__law_rules f__law_rules fd__law_rules
  d__law_rules : Df K mg "_law_rules" f__law_rules fd__law_rules ["_law_row_here", "_law_wished"]
  f__law_thing : Addr
  fd__law_thing : FuncData
  F__law_thing : Fun K "_law_thing" "_law_thing" s__law_thing f__law_thing fd__law_thing
  d__law_thing : Df K mg "_law_thing" f__law_thing fd__law_thing ["_law_row_here"]
  f_is_word : Addr
  fd_is_word : FuncData
  F_is_word : Fun K "is_word" "is_word" s_is_word f_is_word fd_is_word
  d_is_word : Df K mg "is_word" f_is_word fd_is_word ["part"]
  f_is_number : Addr
  fd_is_number : FuncData
  F_is_number : Fun K "is_number" "is_number" s_is_number f_is_number fd_is_number
  d_is_number : Df K mg "is_number" f_is_number fd_is_number ["part", "low", "high"]
  f_is_worth : Addr
  fd_is_worth : FuncData
  F_is_worth : Fun K "is_worth" "is_worth" s_is_worth f_is_worth fd_is_worth
  d_is_worth : Df K mg "is_worth" f_is_worth fd_is_worth ["part"]
  f_is_blank : Addr
  fd_is_blank : FuncData
  F_is_blank : Fun K "is_blank" "is_blank" s_is_blank f_is_blank fd_is_blank
  d_is_blank : Df K mg "is_blank" f_is_blank fd_is_blank ["part"]
  f_is_pattern : Addr
  fd_is_pattern : FuncData
  F_is_pattern : Fun K "is_pattern" "is_pattern" s_is_pattern f_is_pattern fd_is_pattern
  d_is_pattern : Df K mg "is_pattern" f_is_pattern fd_is_pattern ["part"]
  f_is_side : Addr
  fd_is_side : FuncData
  F_is_side : Fun K "is_side" "is_side" s_is_side f_is_side fd_is_side
  d_is_side : Df K mg "is_side" f_is_side fd_is_side ["part", "known"]
  f_is_want : Addr
  fd_is_want : FuncData
  F_is_want : Fun K "is_want" "is_want" s_is_want f_is_want fd_is_want
  d_is_want : Df K mg "is_want" f_is_want fd_is_want ["want", "known"]
  f_blanks_of : Addr
  fd_blanks_of : FuncData
  F_blanks_of : Fun K "blanks_of" "blanks_of" s_blanks_of f_blanks_of fd_blanks_of
  d_blanks_of : Df K mg "blanks_of" f_blanks_of fd_blanks_of ["pattern"]
  f_is_template : Addr
  fd_is_template : FuncData
  F_is_template : Fun K "is_template" "is_template" s_is_template f_is_template fd_is_template
  d_is_template : Df K mg "is_template" f_is_template fd_is_template ["part", "known"]
  f_is_deed : Addr
  fd_is_deed : FuncData
  F_is_deed : Fun K "is_deed" "is_deed" s_is_deed f_is_deed fd_is_deed
  d_is_deed : Df K mg "is_deed" f_is_deed fd_is_deed ["deed", "wants", "known"]
  f_bad_part : Addr
  fd_bad_part : FuncData
  F_bad_part : Fun K "bad_part" "bad_part" s_bad_part f_bad_part fd_bad_part
  d_bad_part : Df K mg "bad_part" f_bad_part fd_bad_part ["rule", "names"]
  f_need_rules : Addr
  fd_need_rules : FuncData
  F_need_rules : Fun K "need_rules" "need_rules" s_need_rules f_need_rules fd_need_rules
  d_need_rules : Df K mg "need_rules" f_need_rules fd_need_rules ["rules"]
  f_is_thing : Addr
  fd_is_thing : FuncData
  F_is_thing : Fun K "is_thing" "is_thing" s_is_thing f_is_thing fd_is_thing
  d_is_thing : Df K mg "is_thing" f_is_thing fd_is_thing ["part"]
  f_need_things : Addr
  fd_need_things : FuncData
  F_need_things : Fun K "need_things" "need_things" s_need_things f_need_things fd_need_things
  d_need_things : Df K mg "need_things" f_need_things fd_need_things ["things"]
  f_part_text : Addr
  fd_part_text : FuncData
  F_part_text : Fun K "part_text" "part_text" s_part_text f_part_text fd_part_text
  d_part_text : Df K mg "part_text" f_part_text fd_part_text ["part"]
  f_written : Addr
  fd_written : FuncData
  F_written : Fun K "written" "written" s_written f_written fd_written
  d_written : Df K mg "written" f_written fd_written ["rules", "things"]
  f__law_spoilt : Addr
  fd__law_spoilt : FuncData
  F__law_spoilt : Fun K "_law_spoilt" "_law_spoilt" s__law_spoilt f__law_spoilt fd__law_spoilt
  d__law_spoilt : Df K mg "_law_spoilt" f__law_spoilt fd__law_spoilt ["_law_row_here", "_law_rows"]
  f__law_number_of : Addr
  fd__law_number_of : FuncData
  F__law_number_of : Fun K "_law_number_of" "_law_number_of" s__law_number_of f__law_number_of fd__law_number_of
  d__law_number_of : Df K mg "_law_number_of" f__law_number_of fd__law_number_of ["_law_word_here"]
  f__law_part_of : Addr
  fd__law_part_of : FuncData
  F__law_part_of : Fun K "_law_part_of" "_law_part_of" s__law_part_of f__law_part_of fd__law_part_of
  d__law_part_of : Df K mg "_law_part_of" f__law_part_of fd__law_part_of ["_law_word_here"]
  f__law_more : Addr
  fd__law_more : FuncData
  F__law_more : Fun K "_law_more" "_law_more" s__law_more f__law_more fd__law_more
  d__law_more : Df K mg "_law_more" f__law_more fd__law_more ["_law_rule_here", "_law_head", "_law_parts"]
  f__law_read : Addr
  fd__law_read : FuncData
  F__law_read : Fun K "_law_read" "_law_read" s__law_read f__law_read fd__law_read
  d__law_read : Df K mg "_law_read" f__law_read fd__law_read ["_law_text"]
  f__law_alike : Addr
  fd__law_alike : FuncData
  F__law_alike : Fun K "_law_alike" "_law_alike" s__law_alike f__law_alike fd__law_alike
  d__law_alike : Df K mg "_law_alike" f__law_alike fd__law_alike ["_law_found", "_law_due"]
  f__law_word : Addr
  fd__law_word : FuncData
  F__law_word : Fun K "_law_word" "_law_word" s__law_word f__law_word fd__law_word
  d__law_word : Df K mg "_law_word" f__law_word fd__law_word ["_law_work"]
  f_Reader___init__ : Addr
  fd_Reader___init__ : FuncData
  F_Reader___init__ : Fun K "__init__" "Reader.__init__" s_Reader___init__ f_Reader___init__ fd_Reader___init__
  b_Reader___init__ : Binds K fd_Reader___init__ ["self"] []
  f_number_of : Addr
  fd_number_of : FuncData
  F_number_of : Fun K "number_of" "number_of" s_number_of f_number_of fd_number_of
  d_number_of : Df K mg "number_of" f_number_of fd_number_of ["word"]
  f_part_of : Addr
  fd_part_of : FuncData
  F_part_of : Fun K "part_of" "part_of" s_part_of f_part_of fd_part_of
  d_part_of : Df K mg "part_of" f_part_of fd_part_of ["word"]
  f_Reader_take_within : Addr
  fd_Reader_take_within : FuncData
  F_Reader_take_within : Fun K "take_within" "Reader.take_within" s_Reader_take_within f_Reader_take_within fd_Reader_take_within
  b_Reader_take_within : Binds K fd_Reader_take_within ["self", "head", "parts"] []
  f_Reader_take : Addr
  fd_Reader_take : FuncData
  F_Reader_take : Fun K "take" "Reader.take" s_Reader_take f_Reader_take fd_Reader_take
  b_Reader_take : Binds K fd_Reader_take ["self", "words"] []
  f_read : Addr
  fd_read : FuncData
  F_read : Fun K "read" "read" s_read f_read fd_read
  d_read : Df K mg "read" f_read fd_read ["text"]
  f_law : Addr
  fd_law : FuncData
  F_law : Fun K "law" "law" s_law f_law fd_law
  c_law : Addr
  P_law : Addr
  FC_law : FunC K "law" "law" s_law f_law fd_law (.ref c_law)
  d_law : Df K mg "law" f_law fd_law ["_law_script"]
  C_Reader : Addr
  cls_Reader : Cls K C_Reader
  na_Reader_rules : NoAttr K C_Reader "rules"
  na_Reader_some : NoAttr K C_Reader "some"
  m_Reader_take_within : Meth K C_Reader "take_within" f_Reader_take_within
  m_Reader_take : Meth K C_Reader "take" f_Reader_take
  mk_Reader : Mk K C_Reader f_Reader___init__
  mgc_Reader : mg "Reader" = some (.ref C_Reader)
  n_len : mg "len" = none
  n_range : mg "range" = none
  n_tuple : mg "tuple" = none
  n_isinstance : mg "isinstance" = none
  n_str : mg "str" = none
  n_all : mg "all" = none
  n_int : mg "int" = none
  n_bool : mg "bool" = none
  n_enumerate : mg "enumerate" = none
  n_list : mg "list" = none
  n_ValueError : mg "ValueError" = none
  c_MOST_LETTERS : GlD K mg "MOST_LETTERS" (.int 4)
  c_SMALL : GlD K mg "SMALL" (.str "abcdefghijklmnopqrstuvwxyz")
  c_MOST_NUMBER : GlD K mg "MOST_NUMBER" (.int 99)
  c_GREAT : GlD K mg "GREAT" (.str "ABCDEFGHIJKLMNOPQRSTUVWXYZ")
  c_MOST_PARTS : GlD K mg "MOST_PARTS" (.int 5)
  c_ANY : GlD K mg "ANY" (.str "_")
  c_NOT : GlD K mg "NOT" (.str "not")
  c_IS : GlD K mg "IS" (.str "is")
  c_TESTS : GlD K mg "TESTS" (.tup [(.str "less"), (.str "same"), (.str "unlike")])
  c_TAKE : GlD K mg "TAKE" (.str "take")
  c_TELLERS : GlD K mg "TELLERS" (.tup [(.str "add"), (.str "hold"), (.str "say")])
  c_MOST_RANK : GlD K mg "MOST_RANK" (.int 9)
  c_MOST_WANTS : GlD K mg "MOST_WANTS" (.int 5)
  c_MOST_DEEDS : GlD K mg "MOST_DEEDS" (.int 4)
  c_MOST_RULES : GlD K mg "MOST_RULES" (.int 8)
  c_MOST_THINGS : GlD K mg "MOST_THINGS" (.int 30)
  c_RULE : GlD K mg "RULE" (.str "rule")
  c_THING : GlD K mg "THING" (.str "thing")
  c_MOST_FIGURES : GlD K mg "MOST_FIGURES" (.int 2)
  c_FIGURES : GlD K mg "FIGURES" (.str "0123456789")
  X_BadThing : Addr
  xm_BadThing : mg "BadThing" = some (.ref X_BadThing)
  X_BadRules : Addr
  xm_BadRules : mg "BadRules" = some (.ref X_BadRules)
  X_BadCount : Addr
  xm_BadCount : mg "BadCount" = some (.ref X_BadCount)
  X_NotThere : Addr
  xm_NotThere : mg "NotThere" = some (.ref X_NotThere)
  X_NoRule : Addr
  xm_NoRule : mg "NoRule" = some (.ref X_NoRule)
  X_BadDeed : Addr
  xm_BadDeed : mg "BadDeed" = some (.ref X_BadDeed)
  X_Halted : Addr
  xm_Halted : mg "Halted" = some (.ref X_Halted)
  X_BadText : Addr
  xm_BadText : mg "BadText" = some (.ref X_BadText)
  X_RoomError : Addr
  xm_RoomError : mg "RoomError" = some (.ref X_RoomError)
  xt_RoomError : XTop K X_RoomError
  xf_BadText : XFc K X_BadText X_RoomError
  xk_BadText : XKr K X_BadText X_BadThing X_BadRules X_BadCount X_NotThere X_NoRule X_BadDeed X_Halted X_BadText false false false false false false false true
  f_BadText___init__ : Addr
  fd_BadText___init__ : FuncData
  F_BadText___init__ : Fun K "__init__" "BadText.__init__" s_BadText___init__ f_BadText___init__ fd_BadText___init__
  b_BadText___init__ : Binds K fd_BadText___init__ ["self", "row"] []
  mx_BadText___init__ : Meth K X_BadText "__init__" f_BadText___init__
  xi_BadText___init__ : PySem.W.typeIn K (.ref f_BadText___init__) = some (.type "function")
  xf_BadThing : XFc K X_BadThing X_RoomError
  xk_BadThing : XKr K X_BadThing X_BadThing X_BadRules X_BadCount X_NotThere X_NoRule X_BadDeed X_Halted X_BadText true false false false false false false false
  f_BadThing___init__ : Addr
  fd_BadThing___init__ : FuncData
  F_BadThing___init__ : Fun K "__init__" "BadThing.__init__" s_BadThing___init__ f_BadThing___init__ fd_BadThing___init__
  b_BadThing___init__ : Binds K fd_BadThing___init__ ["self", "number"] []
  mx_BadThing___init__ : Meth K X_BadThing "__init__" f_BadThing___init__
  xi_BadThing___init__ : PySem.W.typeIn K (.ref f_BadThing___init__) = some (.type "function")
  xf_BadRules : XFc K X_BadRules X_RoomError
  xk_BadRules : XKr K X_BadRules X_BadThing X_BadRules X_BadCount X_NotThere X_NoRule X_BadDeed X_Halted X_BadText false true false false false false false false
  f_BadRules___init__ : Addr
  fd_BadRules___init__ : FuncData
  F_BadRules___init__ : Fun K "__init__" "BadRules.__init__" s_BadRules___init__ f_BadRules___init__ fd_BadRules___init__
  b_BadRules___init__ : Binds K fd_BadRules___init__ ["self", "number", "part"] []
  mx_BadRules___init__ : Meth K X_BadRules "__init__" f_BadRules___init__
  xi_BadRules___init__ : PySem.W.typeIn K (.ref f_BadRules___init__) = some (.type "function")
theorem hu5_of {k : Nat} {A : Around} (hr : Room k A) : A.units + 65 < cLine := by
  have := hr.un
  omega
end RR
namespace RR
open PySem PySem.Spec L2 DL
open PyProof.Rows hiding St kindOf
/-- a def as the top has made it -/
def DefAt (K : PySem.W.Frag) (x : Str) (st : Stmt) : Prop := ∃ (f : Addr) (od an : Option Addr) (sl : Array (Option Value)) (oc kV dc pm cd ct : Value), PySem.W.nsIn K mainGlobals x = some (some (.ref f)) ∧ K.lookup f = some ⟨oc, od, .func (PySem.W.fnOf x x (defArgs st) (defBody st) (defScope st) .none kV dc pm an cd ct), sl⟩ ∧ PySem.W.codeIn K cd x = true ∧ PySem.W.keepIn K (.ref f) = true
theorem def_at {K : PySem.W.Frag} {x : Str} {st : Stmt} {f : Addr} {od an : Option Addr} {sl : Array (Option Value)} {oc kV dc pm cd ct : Value} (a : PySem.W.nsIn K mainGlobals x = some (some (.ref f))) (l : K.lookup f = some ⟨oc, od, .func (PySem.W.fnOf x x (defArgs st) (defBody st) (defScope st) .none kV dc pm an cd ct), sl⟩) (c : PySem.W.codeIn K cd x = true) (k : PySem.W.keepIn K (.ref f) = true) : DefAt K x st :=
  ⟨f, od, an, sl, oc, kV, dc, pm, cd, ct, a, l, c, k⟩
theorem DefAt.mk {K : PySem.W.Frag} {h : Heap} {mg : Str → Option Value} {x : Str} {st : Stmt} {ps : List Str} (X : K.In h) (G : h.Ns mainGlobals mg) (d : DefAt K x st)
    (hb : ∀ (f : Addr) (fd : FuncData), Fun K x x st f fd → Binds K fd ps []) : ∃ (f : Addr) (fd : FuncData), Fun K x x st f fd ∧ Df K mg x f fd ps ∧ ∃ (kV dc pm cd ct : Value) (an : Option Addr), fd = PySem.W.fnOf x x (defArgs st) (defBody st) (defScope st) .none kV dc pm an cd ct := by
  obtain ⟨f, od, an, sl, oc, kV, dc, pm, cd, ct, a, l, c, k⟩ := d
  have F := fun_mk (st := st) l c k
  exact ⟨f, _, F, ⟨PySem.W.mg_of X G a, k, hb f _ F⟩, kV, dc, pm, cd, ct, an, rfl⟩
def IntAt (K : PySem.W.Frag) (x : Str) (i : Int) : Prop := ∃ t, PySem.W.nsIn K mainGlobals x = some (some (.int i t))
theorem int_at {K : PySem.W.Frag} {x : Str} {i : Int} {t : Tok} (a : PySem.W.nsIn K mainGlobals x = some (some (.int i t))) : IntAt K x i := ⟨t, a⟩
theorem IntAt.mk {K : PySem.W.Frag} {h : Heap} {mg : Str → Option Value} {x : Str} {i : Int} (X : K.In h) (G : h.Ns mainGlobals mg) (d : IntAt K x i) : GlD K mg x (.int i) := by
  obtain ⟨t, a⟩ := d
  exact ⟨.int i, _, PySem.W.mg_of X G a, ⟨t, rfl⟩, fun _ => .int i⟩
def StrAt (K : PySem.W.Frag) (x : Str) (z : Str) : Prop := ∃ t, PySem.W.nsIn K mainGlobals x = some (some (.str z t))
theorem str_at {K : PySem.W.Frag} {x z : Str} {t : Tok} (a : PySem.W.nsIn K mainGlobals x = some (some (.str z t))) : StrAt K x z := ⟨t, a⟩
theorem StrAt.mk {K : PySem.W.Frag} {h : Heap} {mg : Str → Option Value} {x z : Str} (X : K.In h) (G : h.Ns mainGlobals mg) (d : StrAt K x z) : GlD K mg x (.str z) := by
  obtain ⟨t, a⟩ := d
  exact ⟨.str z, _, PySem.W.mg_of X G a, ⟨t, rfl⟩, fun _ => .str z⟩
def Tup3At (K : PySem.W.Frag) (x z1 z2 z3 : Str) : Prop := ∃ (a : Addr) (od : Option Addr) (sl : Array (Option Value)) (t1 t2 t3 : Tok) (n : Nat), PySem.W.nsIn K mainGlobals x = some (some (.ref a)) ∧ K.lookup a = some ⟨.type "tuple", od, .seq #[.str z1 t1, .str z2 t2, .str z3 t3] n, sl⟩
theorem tup3_at {K : PySem.W.Frag} {x z1 z2 z3 : Str} {a : Addr} {od : Option Addr} {sl : Array (Option Value)} {t1 t2 t3 : Tok} {n : Nat} (h : PySem.W.nsIn K mainGlobals x = some (some (.ref a))) (l : K.lookup a = some ⟨.type "tuple", od, .seq #[.str z1 t1, .str z2 t2, .str z3 t3] n, sl⟩) : Tup3At K x z1 z2 z3 := ⟨a, od, sl, t1, t2, t3, n, h, l⟩
theorem Tup3At.mk {K : PySem.W.Frag} {h : Heap} {mg : Str → Option Value} {x z1 z2 z3 : Str} (X : K.In h) (G : h.Ns mainGlobals mg) (d : Tup3At K x z1 z2 z3) : GlD K mg x (.tup [.str z1, .str z2, .str z3]) := by
  obtain ⟨a, od, sl, t1, t2, t3, n, h1, h2⟩ := d
  refine ⟨.ref a, _, PySem.W.mg_of X G h1, rfl, fun _ => .tup (xs := [.str z1, .str z2, .str z3]) (.inr ⟨_, _, n, h2, rfl, rfl, by rw [sizeLine_eq]; simp, ?_⟩) (.cons (.str z1) (.cons (.str z2) (.cons (.str z3) .nil)))⟩
  exact .cons ⟨t1, rfl⟩ (.cons ⟨t2, rfl⟩ (.cons ⟨t3, rfl⟩ .nil))
/-- no such name of the module's own: the built-in one -/
def NoAt (K : PySem.W.Frag) (x : Str) : Prop := PySem.W.nsIn K mainGlobals x = some none
/-- a method as the top has made it -/
def MthAt (K : PySem.W.Frag) (C : Addr) (m q : Str) (st : Stmt) : Prop := ∃ (f : Addr) (od an : Option Addr) (sl : Array (Option Value)) (oc kV dc pm cd ct : Value), PySem.W.findIn K (.ref C) m = some (some (.ref f)) ∧ PySem.W.isFn K (.ref f) = true ∧ K.lookup f = some ⟨oc, od, .func (PySem.W.fnOf m q (defArgs st) (defBody st) (defScope st) .none kV dc pm an cd ct), sl⟩ ∧ PySem.W.codeIn K cd q = true ∧ PySem.W.keepIn K (.ref f) = true
theorem mth_at {K : PySem.W.Frag} {C : Addr} {m q : Str} {st : Stmt} {f : Addr} {od an : Option Addr} {sl : Array (Option Value)} {oc kV dc pm cd ct : Value} (a : PySem.W.findIn K (.ref C) m = some (some (.ref f))) (i : PySem.W.isFn K (.ref f) = true) (l : K.lookup f = some ⟨oc, od, .func (PySem.W.fnOf m q (defArgs st) (defBody st) (defScope st) .none kV dc pm an cd ct), sl⟩) (c : PySem.W.codeIn K cd q = true) (k : PySem.W.keepIn K (.ref f) = true) : MthAt K C m q st :=
  ⟨f, od, an, sl, oc, kV, dc, pm, cd, ct, a, i, l, c, k⟩
theorem MthAt.mk {K : PySem.W.Frag} {C : Addr} {m q : Str} {st : Stmt} {ps : List Str} (d : MthAt K C m q st)
    (hb : ∀ (f : Addr) (fd : FuncData), Fun K m q st f fd → Binds K fd ps []) : ∃ (f : Addr) (fd : FuncData), Fun K m q st f fd ∧ Binds K fd ps [] ∧ Meth K C m f := by
  obtain ⟨f, od, an, sl, oc, kV, dc, pm, cd, ct, a, i, l, c, k⟩ := d
  have F := fun_mk (st := st) l c k
  exact ⟨f, _, F, hb f _ F, ⟨a, i, k⟩⟩
/-- a method that makes a lambda, its code object told -/
def MthAtC (K : PySem.W.Frag) (C : Addr) (m q : Str) (st : Stmt) (c : Addr) : Prop := ∃ (f : Addr) (od an : Option Addr) (sl : Array (Option Value)) (oc kV dc pm ct : Value), PySem.W.findIn K (.ref C) m = some (some (.ref f)) ∧ PySem.W.isFn K (.ref f) = true ∧ K.lookup f = some ⟨oc, od, .func (PySem.W.fnOf m q (defArgs st) (defBody st) (defScope st) .none kV dc pm an (.ref c) ct), sl⟩ ∧ PySem.W.codeIn K (.ref c) q = true ∧ PySem.W.keepIn K (.ref f) = true
theorem MthAtC.mk {K : PySem.W.Frag} {C c : Addr} {m q : Str} {st : Stmt} {ps : List Str} (d : MthAtC K C m q st c)
    (hb : ∀ (f : Addr) (fd : FuncData), Fun K m q st f fd → Binds K fd ps []) : ∃ (f : Addr) (fd : FuncData), Fun K m q st f fd ∧ FunC K m q st f fd (.ref c) ∧ Binds K fd ps [] ∧ Meth K C m f := by
  obtain ⟨f, od, an, sl, oc, kV, dc, pm, ct, a, i, l, cc, k⟩ := d
  have F := fun_mk (st := st) l cc k
  exact ⟨f, _, F, funC_mk l cc, hb f _ F, ⟨a, i, k⟩⟩
/-- a def that makes a lambda, its code object told -/
def DefAtC (K : PySem.W.Frag) (x : Str) (st : Stmt) (c : Addr) : Prop := ∃ (f : Addr) (od an : Option Addr) (sl : Array (Option Value)) (oc kV dc pm ct : Value), PySem.W.nsIn K mainGlobals x = some (some (.ref f)) ∧ K.lookup f = some ⟨oc, od, .func (PySem.W.fnOf x x (defArgs st) (defBody st) (defScope st) .none kV dc pm an (.ref c) ct), sl⟩ ∧ PySem.W.codeIn K (.ref c) x = true ∧ PySem.W.keepIn K (.ref f) = true
theorem defc_at {K : PySem.W.Frag} {x : Str} {st : Stmt} {f c : Addr} {od an : Option Addr} {sl : Array (Option Value)} {oc kV dc pm ct : Value} (a : PySem.W.nsIn K mainGlobals x = some (some (.ref f))) (l : K.lookup f = some ⟨oc, od, .func (PySem.W.fnOf x x (defArgs st) (defBody st) (defScope st) .none kV dc pm an (.ref c) ct), sl⟩) (cc : PySem.W.codeIn K (.ref c) x = true) (k : PySem.W.keepIn K (.ref f) = true) : DefAtC K x st c :=
  ⟨f, od, an, sl, oc, kV, dc, pm, ct, a, l, cc, k⟩
theorem DefAtC.mk {K : PySem.W.Frag} {h : Heap} {mg : Str → Option Value} {x : Str} {st : Stmt} {c : Addr} {ps : List Str} (X : K.In h) (G : h.Ns mainGlobals mg) (d : DefAtC K x st c)
    (hb : ∀ (f : Addr) (fd : FuncData), Fun K x x st f fd → Binds K fd ps []) : ∃ (f : Addr) (fd : FuncData), Fun K x x st f fd ∧ Df K mg x f fd ps ∧ FunC K x x st f fd (.ref c) ∧ ∃ (kV dc pm cd ct : Value) (an : Option Addr), fd = PySem.W.fnOf x x (defArgs st) (defBody st) (defScope st) .none kV dc pm an cd ct := by
  obtain ⟨f, od, an, sl, oc, kV, dc, pm, ct, a, l, cc, k⟩ := d
  have F := fun_mk (st := st) l cc k
  exact ⟨f, _, F, ⟨PySem.W.mg_of X G a, k, hb f _ F⟩, funC_mk l cc, kV, dc, pm, .ref c, ct, an, rfl⟩
/-- the table of a code object -/
def fieldP (K : PySem.W.Frag) (c P : Addr) : Prop := ∃ (oc : Value) (od : Option Addr) (vs : Array Value) (sl : Array (Option Value)), K.lookup c = some ⟨oc, od, .fields vs, sl⟩ ∧ vs[11]? = some (.ref P)
theorem field_at {K : PySem.W.Frag} {c P : Addr} {oc : Value} {od : Option Addr} {vs : Array Value} {sl : Array (Option Value)} (l : K.lookup c = some ⟨oc, od, .fields vs, sl⟩) (e : vs[11]? = some (.ref P)) : fieldP K c P := ⟨oc, od, vs, sl, l, e⟩
theorem xtop_mk {K : PySem.W.Frag} {B : Addr} (rd : PySem.W.readsIn K B (.type "type") = true) (ga : PySem.W.specialIn K (.ref B) "__getattribute__" = some (some (.builtin "type.__getattribute__"))) (vv : PySem.W.findCls K (.ref B) (.type "type") "__init__" = some (.val (.builtin "ValueError.__init__"))) : XTop K B := ⟨⟨rd, ga⟩, vv⟩
theorem isfn_ty {K : PySem.W.Frag} {f : Addr} (h : PySem.W.isFn K (.ref f) = true) : PySem.W.typeIn K (.ref f) = some (.type "function") := beq_iff_eq.mp h
structure ClsF (K : PySem.W.Frag) (C : Addr) : Prop where
  cl : Cls K C
  mks : PySem.W.makesIn K C = true
  kp : PySem.W.keepIn K (.ref C) = true
theorem cls_f {K : PySem.W.Frag} {C : Addr} (pg : PySem.W.plainGet K C Str.empty = true) (hd : PySem.W.hasDictIn K C = true) (po : PySem.W.plainOver K C = true) (sa : PySem.W.findIn K (.ref C) "__setattr__" = some (some (.builtin "object.__setattr__"))) (mk : PySem.W.makesIn K C = true) (kp : PySem.W.keepIn K (.ref C) = true) : ClsF K C := ⟨⟨pg, hd, po, sa⟩, mk, kp⟩
theorem len1 {α : Type} {us : List α} (hl : us.length = 1) : ∃ a0, us = [a0] := match us, hl with | [a0], _ => ⟨a0, rfl⟩
theorem len2 {α : Type} {us : List α} (hl : us.length = 2) : ∃ a0 a1, us = [a0, a1] := match us, hl with | [a0, a1], _ => ⟨a0, a1, rfl⟩
theorem len3 {α : Type} {us : List α} (hl : us.length = 3) : ∃ a0 a1 a2, us = [a0, a1, a2] := match us, hl with | [a0, a1, a2], _ => ⟨a0, a1, a2, rfl⟩
def a_law (PT : Addr) : ASp := fun ds C R => ∃ s : List Int, ds = [.lst (s.map .int)] ∧ s.length ≤ 100000 ∧ C PT = some (.tab "law.<locals>.<lambda>") ∧ ∀ C', R (.bl true) C'
def AllMk : Prop := ∀ {P : Program} {w : World} {K : PySem.W.Frag} {h : Heap} {mg : Str → Option Value} {fa : Addr} (X : K.In h) (G : h.Ns mainGlobals mg) (hfa : mg "law" = some (.ref fa)) {C_Reader : Addr} (aC_Reader : PySem.W.nsIn K mainGlobals "Reader" = some (some (.ref C_Reader))) (cf_Reader : ClsF K C_Reader) (h_na_Reader_rules : NoAttr K C_Reader "rules") (h_na_Reader_some : NoAttr K C_Reader "some") {X_BadThing : Addr} (aX_BadThing : PySem.W.nsIn K mainGlobals "BadThing" = some (some (.ref X_BadThing))) {X_BadRules : Addr} (aX_BadRules : PySem.W.nsIn K mainGlobals "BadRules" = some (some (.ref X_BadRules))) {X_BadCount : Addr} (aX_BadCount : PySem.W.nsIn K mainGlobals "BadCount" = some (some (.ref X_BadCount))) {X_NotThere : Addr} (aX_NotThere : PySem.W.nsIn K mainGlobals "NotThere" = some (some (.ref X_NotThere))) {X_NoRule : Addr} (aX_NoRule : PySem.W.nsIn K mainGlobals "NoRule" = some (some (.ref X_NoRule))) {X_BadDeed : Addr} (aX_BadDeed : PySem.W.nsIn K mainGlobals "BadDeed" = some (some (.ref X_BadDeed))) {X_Halted : Addr} (aX_Halted : PySem.W.nsIn K mainGlobals "Halted" = some (some (.ref X_Halted))) {X_BadText : Addr} (aX_BadText : PySem.W.nsIn K mainGlobals "BadText" = some (some (.ref X_BadText))) {X_RoomError : Addr} (aX_RoomError : PySem.W.nsIn K mainGlobals "RoomError" = some (some (.ref X_RoomError))) (xt_RoomError : XTop K X_RoomError) (xf_BadText : XFc K X_BadText X_RoomError) (xf_BadThing : XFc K X_BadThing X_RoomError) (xf_BadRules : XFc K X_BadRules X_RoomError) (xk_BadText : XKr K X_BadText X_BadThing X_BadRules X_BadCount X_NotThere X_NoRule X_BadDeed X_Halted X_BadText false false false false false false false true) (xk_BadThing : XKr K X_BadThing X_BadThing X_BadRules X_BadCount X_NotThere X_NoRule X_BadDeed X_Halted X_BadText true false false false false false false false) (xk_BadRules : XKr K X_BadRules X_BadThing X_BadRules X_BadCount X_NotThere X_NoRule X_BadDeed X_Halted X_BadText false true false false false false false false) (h_Reader___init__ : MthAt K C_Reader "__init__" "Reader.__init__" s_Reader___init__) (h_Reader_take_within : MthAt K C_Reader "take_within" "Reader.take_within" s_Reader_take_within) (h_Reader_take : MthAt K C_Reader "take" "Reader.take" s_Reader_take) (h_BadText___init__ : MthAt K X_BadText "__init__" "BadText.__init__" s_BadText___init__) (xi_BadText___init__ : ∀ f, PySem.W.isFn K (.ref f) = true → PySem.W.typeIn K (.ref f) = some (.type "function")) (h_BadThing___init__ : MthAt K X_BadThing "__init__" "BadThing.__init__" s_BadThing___init__) (xi_BadThing___init__ : ∀ f, PySem.W.isFn K (.ref f) = true → PySem.W.typeIn K (.ref f) = some (.type "function")) (h_BadRules___init__ : MthAt K X_BadRules "__init__" "BadRules.__init__" s_BadRules___init__) (xi_BadRules___init__ : ∀ f, PySem.W.isFn K (.ref f) = true → PySem.W.typeIn K (.ref f) = some (.type "function")) (h__law_row : DefAt K "_law_row" s__law_row) (h__law_taken : DefAt K "_law_taken" s__law_taken) (h__law_worth : DefAt K "_law_worth" s__law_worth) (h__law_dense_rule : DefAt K "_law_dense_rule" s__law_dense_rule) (h__law_pattern : DefAt K "_law_pattern" s__law_pattern) (h__law_letters : DefAt K "_law_letters" s__law_letters) (h__law_template : DefAt K "_law_template" s__law_template) (h__law_rule : DefAt K "_law_rule" s__law_rule) (h__law_rules : DefAt K "_law_rules" s__law_rules) (h__law_thing : DefAt K "_law_thing" s__law_thing) (h_is_word : DefAt K "is_word" s_is_word) (h_is_number : DefAt K "is_number" s_is_number) (h_is_worth : DefAt K "is_worth" s_is_worth) (h_is_blank : DefAt K "is_blank" s_is_blank) (h_is_pattern : DefAt K "is_pattern" s_is_pattern) (h_is_side : DefAt K "is_side" s_is_side) (h_is_want : DefAt K "is_want" s_is_want) (h_blanks_of : DefAt K "blanks_of" s_blanks_of) (h_is_template : DefAt K "is_template" s_is_template) (h_is_deed : DefAt K "is_deed" s_is_deed) (h_bad_part : DefAt K "bad_part" s_bad_part) (h_need_rules : DefAt K "need_rules" s_need_rules) (h_is_thing : DefAt K "is_thing" s_is_thing) (h_need_things : DefAt K "need_things" s_need_things) (h_part_text : DefAt K "part_text" s_part_text) (h_written : DefAt K "written" s_written) (h__law_spoilt : DefAt K "_law_spoilt" s__law_spoilt) (h__law_number_of : DefAt K "_law_number_of" s__law_number_of) (h__law_part_of : DefAt K "_law_part_of" s__law_part_of) (h__law_more : DefAt K "_law_more" s__law_more) (h__law_read : DefAt K "_law_read" s__law_read) (h__law_alike : DefAt K "_law_alike" s__law_alike) (h__law_word : DefAt K "_law_word" s__law_word) (h_number_of : DefAt K "number_of" s_number_of) (h_part_of : DefAt K "part_of" s_part_of) (h_read : DefAt K "read" s_read) {c_law P_law : Addr} (h_law : DefAtC K "law" s_law c_law) (f_law : fieldP K c_law P_law) (t_law : PySem.W.codeHdIn K c_law P_law = true) (n_law : K.lookup P_law = none) (g_law : h.get? P_law = some { cls := .none, data := .fields #[] }) (h_len : NoAt K "len") (h_range : NoAt K "range") (h_tuple : NoAt K "tuple") (h_isinstance : NoAt K "isinstance") (h_str : NoAt K "str") (h_all : NoAt K "all") (h_int : NoAt K "int") (h_bool : NoAt K "bool") (h_enumerate : NoAt K "enumerate") (h_list : NoAt K "list") (h_ValueError : NoAt K "ValueError") (h_MOST_LETTERS : IntAt K "MOST_LETTERS" (4)) (h_SMALL : StrAt K "SMALL" "abcdefghijklmnopqrstuvwxyz") (h_MOST_NUMBER : IntAt K "MOST_NUMBER" (99)) (h_GREAT : StrAt K "GREAT" "ABCDEFGHIJKLMNOPQRSTUVWXYZ") (h_MOST_PARTS : IntAt K "MOST_PARTS" (5)) (h_ANY : StrAt K "ANY" "_") (h_NOT : StrAt K "NOT" "not") (h_IS : StrAt K "IS" "is") (h_TESTS : Tup3At K "TESTS" "less" "same" "unlike") (h_TAKE : StrAt K "TAKE" "take") (h_TELLERS : Tup3At K "TELLERS" "add" "hold" "say") (h_MOST_RANK : IntAt K "MOST_RANK" (9)) (h_MOST_WANTS : IntAt K "MOST_WANTS" (5)) (h_MOST_DEEDS : IntAt K "MOST_DEEDS" (4)) (h_MOST_RULES : IntAt K "MOST_RULES" (8)) (h_MOST_THINGS : IntAt K "MOST_THINGS" (30)) (h_RULE : StrAt K "RULE" "rule") (h_THING : StrAt K "THING" "thing") (h_MOST_FIGURES : IntAt K "MOST_FIGURES" (2)) (h_FIGURES : StrAt K "FIGURES" "0123456789"), ∃ fd : FuncData, (∀ (s : Shared) (v : Value), BindsTo s fd ⟨[v], []⟩ [("_law_script", v)]) ∧ (PySem.W.CodeHd h c_law P_law) ∧ ∀ base : Heap, K.In base → base.Ns mainGlobals mg → LamX.TabB base mg c_law P_law → FnOk P w K mg base CX0 13 fa fd ["_law_script"] (liftF K (a_law P_law))
def isListCls : Value → Bool
  | .type n => n == "list"
  | _ => false
/-- the top has written no list -/
def noLists (K : PySem.W.Frag) : Bool := K.all fun p => !isListCls p.2.cls
theorem look_mem {α : Type} {a : Addr} {o : α} : ∀ {K : List (Addr × α)}, K.lookup a = some o → ∃ b, (b, o) ∈ K
  | [], h => by cases h
  | (b, x) :: K, h => by
    rw [List.lookup_cons] at h
    split at h
    · cases h; exact ⟨b, List.mem_cons_self⟩
    · obtain ⟨c, hc⟩ := look_mem h
      exact ⟨c, List.mem_cons_of_mem _ hc⟩
theorem rd_of {K : PySem.W.Frag} {H : Hp} {a : Addr} {xs : List V} (hK : noLists K = true) (hS : SqL K H a xs) : Rd H a (.lst xs) := by
  rcases hS with h | ⟨o, its, n, h1, h2, _⟩
  · exact h
  · exfalso
    obtain ⟨b, hb⟩ := look_mem h1
    have := List.all_eq_true.mp hK _ hb
    rw [h2] at this
    cases this
/-- the script and the table, as the machine hands them in -/
theorem script_in {K : PySem.W.Frag} {H : Hp} {a P : Addr} {ns : List Int} (hK : noLists K = true) (hl : ns.length ≤ 63) (hP : H P = some (.tbl #[])) (hS : SqL K H a (ns.map V.int)) : liftF K (a_law P) [.ref a] H (fun v _ => v = .bl true) fun _ _ _ => False := by
  have hR := rd_of hK hS
  have hne : a ≠ P := fun e => by
    rw [e] at hR
    rcases hR with h | ⟨o, h⟩ <;> (rw [hP] at h; cases h)
  refine ⟨fun _ => none, fun b => if b = P then none else H b, [.lst (ns.map .int)], fun b => if b = P then some (.tab "law.<locals>.<lambda>") else none, fun d _ => d = .bl true, ⟨fun b u e => ?_, fun b c e => ?_, fun _ _ e => by cases e⟩, ?_, ⟨ns, rfl, by omega, if_pos rfl, fun _ => rfl⟩, ?_⟩
  · split at e
    · cases e
    · exact e
  · split at e
    · rename_i eb
      cases e
      subst eb
      refine ⟨if_pos rfl, _, hP, .tab ?_ fun pos cv h => ?_⟩
      · (show TriplesOk []; first | trivial | exact .nil | simp [TriplesOk])
      · cases h
    · cases e
  · refine .cons (.lst (xs := ns.map V.int) ?_ ?_) .nil
    · rcases hR with h | ⟨o, h⟩
      · exact .inl ((if_neg hne).trans h)
      · exact .inr ⟨o, (if_neg hne).trans h⟩
    · clear hS hl hR
      induction ns with
      | nil => exact .nil
      | cons n ns ih => exact .cons (.int n) ih
  · rintro d C rfl v H' G' s' A' r
    cases r
    rfl
theorem walk {l : PySem.W.OpenLaw} {q : Program} {loose : List Str} {XP : (Str → Option Value) → Heap → Prop} {YP : World → Heap → Prop} {d : DefRec} {K : Params → PySem.W.Frag} (hn : l.most = some 63) (hdf : d.params.defaults = [])
    (hY : ∀ (w : World) (h : Heap), YP w h → (K w.params).In h)
    (F : ∀ (w : World) (mg : Str → Option Value) (fa : Addr) (h : Heap), YP w h → (K w.params).In h → h.Ns mainGlobals mg → mg d.name = some (.ref fa) → LamX.LawAtS l w (K w.params) CX0 13 63 "_law_script" mg fa h) :
    PySem.W.WalkO q loose XP YP l.row.toRowW d [] (fun f vs => PySem.call f vs) :=
  LamX.walk_ofTs (n := 63) (k := 13) (x := "_law_script") (CX := fun _ => CX0) hn (by decide) hdf ⟨rfl, by decide, by decide⟩ hY F fun _ _ _ _ _ z => z
theorem law_at {l : PySem.W.OpenLaw} {w : World} {K : PySem.W.Frag} {mg : Str → Option Value} {fa c P : Addr} {h : Heap} (hK : noLists K = true) (hP : h.get? P = some { cls := .none, data := .fields #[] }) (hn : K.lookup P = none)
    (F : ∃ fd : FuncData, (∀ (s : Shared) (v : Value), BindsTo s fd ⟨[v], []⟩ [("_law_script", v)]) ∧ PySem.W.CodeHd h c P ∧ ∀ base : Heap, K.In base → base.Ns mainGlobals mg → LamX.TabB base mg c P → FnOk l.prog w K mg base CX0 13 fa fd ["_law_script"] (liftF K (a_law P))) :
    LamX.LawAtS l w K CX0 13 63 "_law_script" mg fa h := by
  obtain ⟨fd, h1, h2, h3⟩ := F
  refine ⟨fd, [(c, P)], liftF K (a_law P), fun p hp => ?_, fun p hp => ?_, fun p hp => ?_, h1, fun H a ns hl _ hT hS => script_in hK hl (hT (c, P) (by simp)) hS, fun base hb hns hT => h3 base hb hns (hT (c, P) (by simp))⟩
  · rw [List.mem_singleton.mp hp]; exact hP
  · rw [List.mem_singleton.mp hp]; exact hn
  · rw [List.mem_singleton.mp hp]; exact h2
abbrev qv : Program := PySem.W.view (PySem.W.OpenLaw.row PySem.Challenge.rw_ruleroom_k20_any_text_read).prog [71]
def names0 : List Str := ["__name__", "RoomError", "BadThing", "BadRules", "BadCount", "NotThere", "NoRule", "BadDeed", "Halted", "BadText", "MOST_LETTERS", "MOST_PARTS", "MOST_NUMBER", "MOST_THINGS", "SMALL", "GREAT", "ANY", "is_number", "is_word", "is_worth", "is_blank", "is_thing", "is_pattern", "need_things", "MOST_RULES", "MOST_WANTS", "MOST_DEEDS", "MOST_RANK", "IS", "NOT"]
def names1 : List Str := ["TESTS", "TELLERS", "TAKE", "blanks_of", "is_side", "is_want", "is_template", "is_deed", "bad_part", "need_rules", "RULE", "THING", "FIGURES", "MOST_FIGURES", "part_text", "written", "number_of", "part_of", "Reader", "read", "_law_row", "_law_taken", "_law_worth", "_law_pattern", "_law_letters", "_law_template", "_law_rule", "_law_dense_rule", "_law_rules", "_law_thing"]
def names2 : List Str := ["_law_spoilt", "_law_number_of", "_law_part_of", "_law_more", "_law_read", "_law_word", "_law_alike"]
def topNames : List Str := names0 ++ names1 ++ names2
theorem obM_eq (K : Params → PySem.W.Frag) (as : List Addr) (e : ∀ P, as = (K P).map (·.1)) (ts : List Addr) (s : PySem.W.SharedT) : ((as.map (HandSHeadRun.getT s), ts.map (HandSHeadRun.getT s)) : List (Option Obj) × List (Option Obj)) = (PySem.W.kmHook K as e ts).obs s.abs := by
  have h : HandSHeadRun.getT s = s.abs.heap.get? := funext (HandSHeadRun.getT_eq s)
  rw [h]
  rfl
theorem obK_eq (K : Params → PySem.W.Frag) (as : List Addr) (e : ∀ P, as = (K P).map (·.1)) (s : PySem.W.SharedT) : (as.map (HandSHeadRun.getT s) : List (Option Obj)) = (PySem.W.kHook K as e).obs s.abs := by
  have h : HandSHeadRun.getT s = s.abs.heap.get? := funext (HandSHeadRun.getT_eq s)
  rw [h]
  rfl
end RR
section
open PySem PySem.W PyProof.Rows
local macro_rules | `(tactic| o_head $H:term) => `(tactic| refine HandSHeadRun.head_any (r := PySem.W.OpenLaw.row PySem.Challenge.rw_ruleroom_k20_any_text_read) (q := RR.qv) (H := $H) (ob := _) (M := 20000) (loose := RR.topNames) (d := HandSHeadRun.topDef (PySem.W.OpenLaw.row PySem.Challenge.rw_ruleroom_k20_any_text_read).prog 71) (kwd := [])
  (fun s => by first | exact RR.obM_eq _ _ _ _ s | exact RR.obK_eq _ _ _ s) (by kernel_rfl) (fun s => by kernel_rfl) (fun w => by intro os; kernel_rfl) (by kernel_rfl) (by kernel_rfl) (by kernel_rfl) (by rfl) (by first | assumption | decide +kernel) (by decide +kernel) ⟨rfl, rfl, rfl, rfl, rfl, by decide +kernel⟩ (by w_witness2) ?_)
set_option maxRecDepth 100000 in
set_option maxHeartbeats 0 in
theorem RR.top_holds (all_mk : RR.AllMk) : PySem.Challenge.rw_ruleroom_k20_any_text_read.Holds := by
  unfold RR.AllMk at all_mk
  w_on; o_law; k_head
  k_fill
  refine RR.walk (l := PySem.Challenge.rw_ruleroom_k20_any_text_read) rfl (by kernel_rfl) (fun w h Y => (by first | exact PySem.W.kIn_of Y | exact PySem.W.km_in_of Y)) ?F
  case F =>
    intro w mg fa h Y KX G hmg0
    have hmg : mg ("law" : PySem.Str) = some (.ref fa) := by
      have e : (HandSHeadRun.topDef (PySem.W.OpenLaw.row PySem.Challenge.rw_ruleroom_k20_any_text_read).prog 71).name = ("law" : PySem.Str) := by kernel_rfl
      rw [← e]
      exact hmg0
    have hT8 := PySem.W.km_tabs_of Y
    refine' RR.law_at ?noKq ?gTabq ?nTabq (all_mk KX G hmg ?aC_Reader ?cf_Reader ?h_na_Reader_rules ?h_na_Reader_some ?aX_BadThing ?aX_BadRules ?aX_BadCount ?aX_NotThere ?aX_NoRule ?aX_BadDeed ?aX_Halted ?aX_BadText ?aX_RoomError ?xt_RoomError ?xf_BadText ?xf_BadThing ?xf_BadRules ?xk_BadText ?xk_BadThing ?xk_BadRules ?h_Reader___init__ ?h_Reader_take_within ?h_Reader_take ?h_BadText___init__ ?xi_BadText___init__ ?h_BadThing___init__ ?xi_BadThing___init__ ?h_BadRules___init__ ?xi_BadRules___init__ ?h__law_row ?h__law_taken ?h__law_worth ?h__law_dense_rule ?h__law_pattern ?h__law_letters ?h__law_template ?h__law_rule ?h__law_rules ?h__law_thing ?h_is_word ?h_is_number ?h_is_worth ?h_is_blank ?h_is_pattern ?h_is_side ?h_is_want ?h_blanks_of ?h_is_template ?h_is_deed ?h_bad_part ?h_need_rules ?h_is_thing ?h_need_things ?h_part_text ?h_written ?h__law_spoilt ?h__law_number_of ?h__law_part_of ?h__law_more ?h__law_read ?h__law_alike ?h__law_word ?h_number_of ?h_part_of ?h_read ?h_law ?f_law ?t_law ?n_law ?g_law ?h_len ?h_range ?h_tuple ?h_isinstance ?h_str ?h_all ?h_int ?h_bool ?h_enumerate ?h_list ?h_ValueError ?h_MOST_LETTERS ?h_SMALL ?h_MOST_NUMBER ?h_GREAT ?h_MOST_PARTS ?h_ANY ?h_NOT ?h_IS ?h_TESTS ?h_TAKE ?h_TELLERS ?h_MOST_RANK ?h_MOST_WANTS ?h_MOST_DEEDS ?h_MOST_RULES ?h_MOST_THINGS ?h_RULE ?h_THING ?h_MOST_FIGURES ?h_FIGURES)
    case aC_Reader => k_is
    case cf_Reader => (refine' RR.cls_f ?pg ?hd ?po ?sa ?mk ?kp; (case pg => k_is); (case hd => k_is); (case po => k_is); (case sa => k_is); (case mk => k_is); (case kp => k_is))
    case h_na_Reader_rules => (show PySem.W.findIn _ _ _ = _; k_is)
    case h_na_Reader_some => (show PySem.W.findIn _ _ _ = _; k_is)
    case aX_BadThing => k_is
    case aX_BadRules => k_is
    case aX_BadCount => k_is
    case aX_NotThere => k_is
    case aX_NoRule => k_is
    case aX_BadDeed => k_is
    case aX_Halted => k_is
    case aX_BadText => k_is
    case aX_RoomError => k_is
    case xt_RoomError => (refine' RR.xtop_mk ?rd ?ga ?vv; (case rd => k_is); (case ga => k_is); (case vv => k_is))
    case xf_BadText => (refine' DL.xfc_mk ?l ?b ?sa ?eC ?tC ?kC ?ga ?gg ?hd ?ha ?hn ?ht ?hm ?up ?f0 ?f1 ?f2 ?f3; (case l => k_is); (case b => (first | rfl | k_is)); (case sa => k_is); (case eC => k_is); (case tC => k_is); (case kC => k_is); (case ga => k_is); (case gg => k_is); (case hd => k_is); (case ha => k_is); (case hn => k_is); (case ht => k_is); (case hm => k_is); (case up => kts_exm); (case f0 => k_is); (case f1 => k_is); (case f2 => k_is); (case f3 => k_is))
    case xf_BadThing => (refine' DL.xfc_mk ?l ?b ?sa ?eC ?tC ?kC ?ga ?gg ?hd ?ha ?hn ?ht ?hm ?up ?f0 ?f1 ?f2 ?f3; (case l => k_is); (case b => (first | rfl | k_is)); (case sa => k_is); (case eC => k_is); (case tC => k_is); (case kC => k_is); (case ga => k_is); (case gg => k_is); (case hd => k_is); (case ha => k_is); (case hn => k_is); (case ht => k_is); (case hm => k_is); (case up => kts_exm); (case f0 => k_is); (case f1 => k_is); (case f2 => k_is); (case f3 => k_is))
    case xf_BadRules => (refine' DL.xfc_mk ?l ?b ?sa ?eC ?tC ?kC ?ga ?gg ?hd ?ha ?hn ?ht ?hm ?up ?f0 ?f1 ?f2 ?f3; (case l => k_is); (case b => (first | rfl | k_is)); (case sa => k_is); (case eC => k_is); (case tC => k_is); (case kC => k_is); (case ga => k_is); (case gg => k_is); (case hd => k_is); (case ha => k_is); (case hn => k_is); (case ht => k_is); (case hm => k_is); (case up => kts_exm); (case f0 => k_is); (case f1 => k_is); (case f2 => k_is); (case f3 => k_is))
    case xk_BadText => (refine' DL.XKr.mk ?k0 ?k1 ?k2 ?k3 ?k4 ?k5 ?k6 ?k7 ?kv; (case k0 => kit_is); (case k1 => kit_is); (case k2 => kit_is); (case k3 => kit_is); (case k4 => kit_is); (case k5 => kit_is); (case k6 => kit_is); (case k7 => kit_is); (case kv => kit_is))
    case xk_BadThing => (refine' DL.XKr.mk ?k0 ?k1 ?k2 ?k3 ?k4 ?k5 ?k6 ?k7 ?kv; (case k0 => kit_is); (case k1 => kit_is); (case k2 => kit_is); (case k3 => kit_is); (case k4 => kit_is); (case k5 => kit_is); (case k6 => kit_is); (case k7 => kit_is); (case kv => kit_is))
    case xk_BadRules => (refine' DL.XKr.mk ?k0 ?k1 ?k2 ?k3 ?k4 ?k5 ?k6 ?k7 ?kv; (case k0 => kit_is); (case k1 => kit_is); (case k2 => kit_is); (case k3 => kit_is); (case k4 => kit_is); (case k5 => kit_is); (case k6 => kit_is); (case k7 => kit_is); (case kv => kit_is))
    case xi_BadText___init__ => exact fun f h => RR.isfn_ty h
    case xi_BadThing___init__ => exact fun f h => RR.isfn_ty h
    case xi_BadRules___init__ => exact fun f h => RR.isfn_ty h
    case h_law => (refine' RR.defc_at ?a ?l ?cc ?k; (case a => k_is); (case l => k_is); (case cc => k_is); (case k => k_is))
    case f_law => (refine' RR.field_at ?lq ?eq; (case lq => k_is); (case eq => rfl))
    case t_law => (first | exact (by kernel_rfl) | rfl | k_is)
    case n_law => (first | k_is | rfl)
    case g_law => exact hT8 _ (by first | k_mem | simp)
    case noKq => rfl
    case gTabq => exact hT8 _ (by first | k_mem | simp)
    case nTabq => (first | k_is | rfl)
    case h_Reader___init__ => (refine' RR.mth_at ?a ?i ?l ?c ?k; (case a => k_is); (case i => k_is); (case l => k_is); (case c => k_is); (case k => k_is))
    case h_Reader_take_within => (refine' RR.mth_at ?a ?i ?l ?c ?k; (case a => k_is); (case i => k_is); (case l => k_is); (case c => k_is); (case k => k_is))
    case h_Reader_take => (refine' RR.mth_at ?a ?i ?l ?c ?k; (case a => k_is); (case i => k_is); (case l => k_is); (case c => k_is); (case k => k_is))
    case h_BadText___init__ => (refine' RR.mth_at ?a ?i ?l ?c ?k; (case a => k_is); (case i => k_is); (case l => k_is); (case c => k_is); (case k => k_is))
    case h_BadThing___init__ => (refine' RR.mth_at ?a ?i ?l ?c ?k; (case a => k_is); (case i => k_is); (case l => k_is); (case c => k_is); (case k => k_is))
    case h_BadRules___init__ => (refine' RR.mth_at ?a ?i ?l ?c ?k; (case a => k_is); (case i => k_is); (case l => k_is); (case c => k_is); (case k => k_is))
    case h__law_row => (refine' RR.def_at ?a ?l ?c ?k; (case a => k_is); (case l => k_is); (case c => k_is); (case k => k_is))
    case h__law_taken => (refine' RR.def_at ?a ?l ?c ?k; (case a => k_is); (case l => k_is); (case c => k_is); (case k => k_is))
    case h__law_worth => (refine' RR.def_at ?a ?l ?c ?k; (case a => k_is); (case l => k_is); (case c => k_is); (case k => k_is))
    case h__law_dense_rule => (refine' RR.def_at ?a ?l ?c ?k; (case a => k_is); (case l => k_is); (case c => k_is); (case k => k_is))
    case h__law_pattern => (refine' RR.def_at ?a ?l ?c ?k; (case a => k_is); (case l => k_is); (case c => k_is); (case k => k_is))
    case h__law_letters => (refine' RR.def_at ?a ?l ?c ?k; (case a => k_is); (case l => k_is); (case c => k_is); (case k => k_is))
    case h__law_template => (refine' RR.def_at ?a ?l ?c ?k; (case a => k_is); (case l => k_is); (case c => k_is); (case k => k_is))
    case h__law_rule => (refine' RR.def_at ?a ?l ?c ?k; (case a => k_is); (case l => k_is); (case c => k_is); (case k => k_is))
    case h__law_rules => (refine' RR.def_at ?a ?l ?c ?k; (case a => k_is); (case l => k_is); (case c => k_is); (case k => k_is))
    case h__law_thing => (refine' RR.def_at ?a ?l ?c ?k; (case a => k_is); (case l => k_is); (case c => k_is); (case k => k_is))
    case h_is_word => (refine' RR.def_at ?a ?l ?c ?k; (case a => k_is); (case l => k_is); (case c => k_is); (case k => k_is))
    case h_is_number => (refine' RR.def_at ?a ?l ?c ?k; (case a => k_is); (case l => k_is); (case c => k_is); (case k => k_is))
    case h_is_worth => (refine' RR.def_at ?a ?l ?c ?k; (case a => k_is); (case l => k_is); (case c => k_is); (case k => k_is))
    case h_is_blank => (refine' RR.def_at ?a ?l ?c ?k; (case a => k_is); (case l => k_is); (case c => k_is); (case k => k_is))
    case h_is_pattern => (refine' RR.def_at ?a ?l ?c ?k; (case a => k_is); (case l => k_is); (case c => k_is); (case k => k_is))
    case h_is_side => (refine' RR.def_at ?a ?l ?c ?k; (case a => k_is); (case l => k_is); (case c => k_is); (case k => k_is))
    case h_is_want => (refine' RR.def_at ?a ?l ?c ?k; (case a => k_is); (case l => k_is); (case c => k_is); (case k => k_is))
    case h_blanks_of => (refine' RR.def_at ?a ?l ?c ?k; (case a => k_is); (case l => k_is); (case c => k_is); (case k => k_is))
    case h_is_template => (refine' RR.def_at ?a ?l ?c ?k; (case a => k_is); (case l => k_is); (case c => k_is); (case k => k_is))
    case h_is_deed => (refine' RR.def_at ?a ?l ?c ?k; (case a => k_is); (case l => k_is); (case c => k_is); (case k => k_is))
    case h_bad_part => (refine' RR.def_at ?a ?l ?c ?k; (case a => k_is); (case l => k_is); (case c => k_is); (case k => k_is))
    case h_need_rules => (refine' RR.def_at ?a ?l ?c ?k; (case a => k_is); (case l => k_is); (case c => k_is); (case k => k_is))
    case h_is_thing => (refine' RR.def_at ?a ?l ?c ?k; (case a => k_is); (case l => k_is); (case c => k_is); (case k => k_is))
    case h_need_things => (refine' RR.def_at ?a ?l ?c ?k; (case a => k_is); (case l => k_is); (case c => k_is); (case k => k_is))
    case h_part_text => (refine' RR.def_at ?a ?l ?c ?k; (case a => k_is); (case l => k_is); (case c => k_is); (case k => k_is))
    case h_written => (refine' RR.def_at ?a ?l ?c ?k; (case a => k_is); (case l => k_is); (case c => k_is); (case k => k_is))
    case h__law_spoilt => (refine' RR.def_at ?a ?l ?c ?k; (case a => k_is); (case l => k_is); (case c => k_is); (case k => k_is))
    case h__law_number_of => (refine' RR.def_at ?a ?l ?c ?k; (case a => k_is); (case l => k_is); (case c => k_is); (case k => k_is))
    case h__law_part_of => (refine' RR.def_at ?a ?l ?c ?k; (case a => k_is); (case l => k_is); (case c => k_is); (case k => k_is))
    case h__law_more => (refine' RR.def_at ?a ?l ?c ?k; (case a => k_is); (case l => k_is); (case c => k_is); (case k => k_is))
    case h__law_read => (refine' RR.def_at ?a ?l ?c ?k; (case a => k_is); (case l => k_is); (case c => k_is); (case k => k_is))
    case h__law_alike => (refine' RR.def_at ?a ?l ?c ?k; (case a => k_is); (case l => k_is); (case c => k_is); (case k => k_is))
    case h__law_word => (refine' RR.def_at ?a ?l ?c ?k; (case a => k_is); (case l => k_is); (case c => k_is); (case k => k_is))
    case h_number_of => (refine' RR.def_at ?a ?l ?c ?k; (case a => k_is); (case l => k_is); (case c => k_is); (case k => k_is))
    case h_part_of => (refine' RR.def_at ?a ?l ?c ?k; (case a => k_is); (case l => k_is); (case c => k_is); (case k => k_is))
    case h_read => (refine' RR.def_at ?a ?l ?c ?k; (case a => k_is); (case l => k_is); (case c => k_is); (case k => k_is))
    case h_len => (show PySem.W.nsIn _ _ _ = _; k_is)
    case h_range => (show PySem.W.nsIn _ _ _ = _; k_is)
    case h_tuple => (show PySem.W.nsIn _ _ _ = _; k_is)
    case h_isinstance => (show PySem.W.nsIn _ _ _ = _; k_is)
    case h_str => (show PySem.W.nsIn _ _ _ = _; k_is)
    case h_all => (show PySem.W.nsIn _ _ _ = _; k_is)
    case h_int => (show PySem.W.nsIn _ _ _ = _; k_is)
    case h_bool => (show PySem.W.nsIn _ _ _ = _; k_is)
    case h_enumerate => (show PySem.W.nsIn _ _ _ = _; k_is)
    case h_list => (show PySem.W.nsIn _ _ _ = _; k_is)
    case h_ValueError => (show PySem.W.nsIn _ _ _ = _; k_is)
    case h_MOST_LETTERS => (refine' RR.int_at ?a; (case a => k_is))
    case h_SMALL => (refine' RR.str_at ?a; (case a => k_is))
    case h_MOST_NUMBER => (refine' RR.int_at ?a; (case a => k_is))
    case h_GREAT => (refine' RR.str_at ?a; (case a => k_is))
    case h_MOST_PARTS => (refine' RR.int_at ?a; (case a => k_is))
    case h_ANY => (refine' RR.str_at ?a; (case a => k_is))
    case h_NOT => (refine' RR.str_at ?a; (case a => k_is))
    case h_IS => (refine' RR.str_at ?a; (case a => k_is))
    case h_TESTS => (refine' RR.tup3_at ?h ?l; (case h => k_is); (case l => k_is))
    case h_TAKE => (refine' RR.str_at ?a; (case a => k_is))
    case h_TELLERS => (refine' RR.tup3_at ?h ?l; (case h => k_is); (case l => k_is))
    case h_MOST_RANK => (refine' RR.int_at ?a; (case a => k_is))
    case h_MOST_WANTS => (refine' RR.int_at ?a; (case a => k_is))
    case h_MOST_DEEDS => (refine' RR.int_at ?a; (case a => k_is))
    case h_MOST_RULES => (refine' RR.int_at ?a; (case a => k_is))
    case h_MOST_THINGS => (refine' RR.int_at ?a; (case a => k_is))
    case h_RULE => (refine' RR.str_at ?a; (case a => k_is))
    case h_THING => (refine' RR.str_at ?a; (case a => k_is))
    case h_MOST_FIGURES => (refine' RR.int_at ?a; (case a => k_is))
    case h_FIGURES => (refine' RR.str_at ?a; (case a => k_is))
end
namespace RR
open PySem PySem.Spec L2 DL
open PyProof.Rows hiding St
def t__law_row : DS := dSeq (dAsg (dC (.int 7)) (gdName 1)) (dSeq (dFor (diSeq (dVar 0)) (gdName 2) (dAsg (dOp oMod (dOp oAdd (dOp oAdd (dOp oMul (dVar 1) (dC (.int 48271))) (dVar 2)) (dC (.int 11))) (dC (.int 2147483647))) (gdName 1))) (dRet (dLstC (dCons (dVar 0) (dCons (dC (.int 0)) (dCons (dC (.int 0)) (dCons (dVar 1) (dNil))))))))
def t__law_taken : DS := dSeq (dIfS (dTest (dOp oGt (dOp oIx (dVar 0) (dC (.int 2))) (dC (.int 0)))) (dSeq (dAsg (dOp oMod (dOp oIx (dVar 0) (dC (.int 2))) (dVar 1)) (gdName 2)) (dSeq (dAsg (dOp oDiv (dOp oIx (dVar 0) (dC (.int 2))) (dVar 1)) (gdSubL (dVar 0) (dC (.int 2)))) (dRet (dVar 2)))) (dNext)) (dSeq (dIfS (dTest (dOp oLt (dOp oIx (dVar 0) (dC (.int 1))) (dFn oLen (dCons (dOp oIx (dVar 0) (dC (.int 0))) (dNil))))) (dSeq (dAsg (dOp oIx (dOp oIx (dVar 0) (dC (.int 0))) (dOp oIx (dVar 0) (dC (.int 1)))) (gdName 3)) (dSeq (dAsg (dOp oAdd (dOp oIx (dVar 0) (dC (.int 1))) (dC (.int 1))) (gdSubL (dVar 0) (dC (.int 1)))) (dSeq (dIfS (dTest (dOp oGe (dVar 3) (dOp oPow (dC (.int 10)) (dC (.int 18))))) (dAsg (dOp oDiv (dVar 3) (dVar 1)) (gdSubL (dVar 0) (dC (.int 2)))) (dNext)) (dRet (dOp oMod (dVar 3) (dVar 1)))))) (dNext)) (dSeq (dAsg (dOp oMod (dOp oAdd (dOp oMul (dOp oIx (dVar 0) (dC (.int 3))) (dC (.int 48271))) (dC (.int 12345))) (dC (.int 2147483647))) (gdSubL (dVar 0) (dC (.int 3)))) (dRet (dOp oMod (dOp oDiv (dOp oIx (dVar 0) (dC (.int 3))) (dC (.int 1009))) (dVar 1)))))
def t__law_worth (a__law_taken : ASp) : DS := dRet (dOp oIx (dLst (dCons (dC (.str "a")) (dCons (dC (.str "b")) (dCons (dC (.int 0)) (dCons (dC (.int 1)) (dCons (dC (.int 2)) (dCons (dC (.str "c")) (dCons (dC (.int 99)) (dCons (dOp oSub (dC (.int 0)) (dC (.int 99))) (dNil)))))))))) (dOp oIx (dLst (dCons (dC (.int 0)) (dCons (dC (.int 1)) (dCons (dC (.int 2)) (dCons (dC (.int 3)) (dCons (dC (.int 4)) (dCons (dC (.int 0)) (dCons (dC (.int 1)) (dCons (dC (.int 2)) (dCons (dC (.int 3)) (dCons (dC (.int 5)) (dCons (dC (.int 6)) (dCons (dC (.int 7)) (dNil)))))))))))))) (dCall a__law_taken [] (dCons (dVar 0) (dCons (dC (.int 12)) (dNil))))))
def t__law_dense_rule (a__law_taken : ASp) (a__law_worth : ASp) : DS := dSeq (dAsg (dTup (dCons (dLstC (dCons (dC (.str "X")) (dNil))) (dCons (dLstC (dCons (dTup (dCons (dC (.str "is")) (dCons (dTup (dCons (dOp oIx (dLst (dCons (dC (.str "on")) (dCons (dC (.str "is")) (dNil)))) (dCall a__law_taken [] (dCons (dVar 0) (dCons (dC (.int 2)) (dNil))))) (dCons (dC (.str "X")) (dNil)))) (dNil)))) (dNil))) (dNil)))) (gdTup 2 (gdCons (gdName 2) (gdCons (gdName 3) (gdNil))))) (dSeq (dFor (diRng1 (dCons (dCall a__law_taken [] (dCons (dVar 0) (dCons (dC (.int 5)) (dNil)))) (dNil))) (gdName 4) (dSeq (dAsg (dOp oIx (dC (.str "XYZ")) (dCall a__law_taken [] (dCons (dVar 0) (dCons (dC (.int 3)) (dNil))))) (gdName 5)) (dSeq (dAsg (dCall a__law_taken [] (dCons (dVar 0) (dCons (dC (.int 8)) (dNil)))) (gdName 6)) (dIfS (dTest (dOp oLt (dVar 6) (dC (.int 3)))) (dSeq (dDrop (dMtL omAppend (dVar 3) (dCons (dTup (dCons (dC (.str "is")) (dCons (dTup (dCons (dOp oIx (dLst (dCons (dC (.str "on")) (dCons (dC (.str "is")) (dCons (dC (.str "big")) (dNil))))) (dVar 6)) (dCons (dVar 5) (dNil)))) (dNil)))) (dNil)))) (dDrop (dMtL omAppend (dVar 2) (dCons (dVar 5) (dNil))))) (dIfS (dTest (dOp oLt (dVar 6) (dC (.int 6)))) (dSeq (dAsg (dOp oIx (dLst (dCons (dVar 5) (dCons (dVar 5) (dCons (dCall a__law_worth [] (dCons (dVar 0) (dNil))) (dNil))))) (dCall a__law_taken [] (dCons (dVar 0) (dCons (dC (.int 3)) (dNil))))) (gdName 7)) (dDrop (dMtL omAppend (dVar 3) (dCons (dTup (dCons (dC (.str "not")) (dCons (dTup (dCons (dOp oIx (dLst (dCons (dC (.str "on")) (dCons (dC (.str "is")) (dCons (dC (.str "big")) (dNil))))) (dOp oSub (dVar 6) (dC (.int 3)))) (dCons (dVar 7) (dNil)))) (dNil)))) (dNil))))) (dSeq (dAsg (dOp oIx (dVar 2) (dCall a__law_taken [] (dCons (dVar 0) (dCons (dFn oLen (dCons (dVar 2) (dNil))) (dNil))))) (gdName 8)) (dDrop (dMtL omAppend (dVar 3) (dCons (dTup (dCons (dOp oIx (dLst (dCons (dC (.str "less")) (dCons (dC (.str "unlike")) (dNil)))) (dOp oSub (dVar 6) (dC (.int 6)))) (dCons (dVar 8) (dCons (dOp oIx (dLst (dCons (dCall a__law_worth [] (dCons (dVar 0) (dNil))) (dCons (dC (.str "X")) (dNil)))) (dOp oSub (dVar 6) (dC (.int 6)))) (dNil))))) (dNil)))))))))) (dSeq (dAsg (dLc (diRng1 (dCons (dFn oLen (dCons (dVar 3) (dNil))) (dNil))) (gdName 4) (dTest (dOp oEq (dOp oIx (dOp oIx (dVar 3) (dVar 4)) (dC (.int 0))) (dC (.str "is")))) (dVar 4) [4]) (gdName 9)) (dSeq (dAsg (dLstC (dNil)) (gdName 10)) (dSeq (dFor (diRng1 (dCons (dOp oAdd (dC (.int 1)) (dCall a__law_taken [] (dCons (dVar 0) (dCons (dC (.int 3)) (dNil))))) (dNil))) (gdName 4) (dSeq (dAsg (dOp oIx (dLst (dCons (dOp oIx (dVar 2) (dCall a__law_taken [] (dCons (dVar 0) (dCons (dFn oLen (dCons (dVar 2) (dNil))) (dNil))))) (dCons (dCall a__law_worth [] (dCons (dVar 0) (dNil))) (dNil)))) (dCall a__law_taken [] (dCons (dVar 0) (dCons (dC (.int 2)) (dNil))))) (gdName 7)) (dSeq (dAsg (dTup (dCons (dOp oIx (dLst (dCons (dC (.str "on")) (dCons (dC (.str "is")) (dCons (dC (.str "big")) (dNil))))) (dCall a__law_taken [] (dCons (dVar 0) (dCons (dC (.int 3)) (dNil))))) (dCons (dVar 7) (dNil)))) (gdName 11)) (dSeq (dDrop (dMtL omAppend (dVar 10) (dCons (dTup (dCons (dOp oIx (dLst (dCons (dC (.str "hold")) (dCons (dC (.str "hold")) (dCons (dC (.str "hold")) (dCons (dC (.str "add")) (dCons (dC (.str "say")) (dCons (dC (.str "take")) (dNil)))))))) (dCall a__law_taken [] (dCons (dVar 0) (dCons (dC (.int 6)) (dNil))))) (dCons (dVar 11) (dNil)))) (dNil)))) (dIfS (dTest (dOp oEq (dOp oIx (dOp oIx (dVar 10) (dUn oNeg (dC (.int 1)))) (dC (.int 0))) (dC (.str "take")))) (dAsg (dTup (dCons (dC (.str "take")) (dCons (dOp oIx (dVar 9) (dCall a__law_taken [] (dCons (dVar 0) (dCons (dFn oLen (dCons (dVar 9) (dNil))) (dNil))))) (dNil)))) (gdSubL (dVar 10) (dUn oNeg (dC (.int 1))))) (dNext)))))) (dRet (dTup (dCons (dVar 1) (dCons (dOp oSub (dCall a__law_taken [] (dCons (dVar 0) (dCons (dC (.int 3)) (dNil)))) (dC (.int 1))) (dCons (dFn oTuple (dCons (dVar 3) (dNil))) (dCons (dFn oTuple (dCons (dVar 10) (dNil))) (dNil)))))))))))
def t__law_pattern (a__law_taken : ASp) (a__law_worth : ASp) : DS := dSeq (dAsg (dTup (dCons (dOp oIx (dLst (dCons (dC (.str "on")) (dCons (dC (.str "is")) (dCons (dC (.str "big")) (dNil))))) (dCall a__law_taken [] (dCons (dVar 0) (dCons (dC (.int 3)) (dNil))))) (dNil))) (gdName 2)) (dSeq (dFor (diRng1 (dCons (dOp oIx (dLst (dCons (dC (.int 1)) (dCons (dC (.int 2)) (dCons (dC (.int 2)) (dCons (dC (.int 0)) (dCons (dC (.int 4)) (dNil))))))) (dCall a__law_taken [] (dCons (dVar 0) (dCons (dC (.int 5)) (dNil))))) (dNil))) (gdName 3) (dSeq (dAsg (dLst (dCons (dCall a__law_worth [] (dCons (dVar 0) (dNil))) (dCons (dC (.str "_")) (dCons (dOp oIx (dVar 1) (dCall a__law_taken [] (dCons (dVar 0) (dCons (dC (.int 3)) (dNil))))) (dCons (dOp oIx (dVar 1) (dCall a__law_taken [] (dCons (dVar 0) (dCons (dC (.int 2)) (dNil))))) (dNil)))))) (gdName 4)) (dAsg (dOp oAdd (dVar 2) (dTup (dCons (dOp oIx (dVar 4) (dCall a__law_taken [] (dCons (dVar 0) (dCons (dC (.int 4)) (dNil))))) (dNil)))) (gdName 2)))) (dRet (dVar 2)))
def t__law_letters : DS := dRet (dLc (diSeq (dSlice (dVar 0) (dPart (dC (.int 1))) (dNoPart))) (gdName 1) (dAnd (dTest (dFn oIsi (dCons (dVar 1) (dCons (dC (.ty "str")) (dNil))))) (dAnd (dTest (dChain oLe oLe (dC (.str "A")) (dVar 1) (dC (.str "Z")))) (dTest (dOp oEq (dFn oLen (dCons (dVar 1) (dNil))) (dC (.int 1)))))) (dVar 1) [1])
def t__law_template (a__law_taken : ASp) (a__law_worth : ASp) : DS := dSeq (dAsg (dTup (dCons (dOp oIx (dLst (dCons (dC (.str "on")) (dCons (dC (.str "is")) (dCons (dC (.str "big")) (dNil))))) (dCall a__law_taken [] (dCons (dVar 0) (dCons (dC (.int 3)) (dNil))))) (dNil))) (gdName 2)) (dSeq (dFor (diRng1 (dCons (dOp oIx (dLst (dCons (dC (.int 1)) (dCons (dC (.int 2)) (dCons (dC (.int 2)) (dCons (dC (.int 0)) (dNil)))))) (dCall a__law_taken [] (dCons (dVar 0) (dCons (dC (.int 4)) (dNil))))) (dNil))) (gdName 3) (dSeq (dAsg (dCall a__law_worth [] (dCons (dVar 0) (dNil))) (gdName 4)) (dSeq (dIfS (dAnd (dTest (dOp oNe (dVar 1) (dLst (dNil)))) (dTest (dOp oGt (dCall a__law_taken [] (dCons (dVar 0) (dCons (dC (.int 3)) (dNil)))) (dC (.int 0))))) (dSeq (dAsg (dOp oIx (dVar 1) (dCall a__law_taken [] (dCons (dVar 0) (dCons (dFn oLen (dCons (dVar 1) (dNil))) (dNil))))) (gdName 4)) (dIfS (dTest (dOp oEq (dCall a__law_taken [] (dCons (dVar 0) (dCons (dC (.int 3)) (dNil)))) (dC (.int 0)))) (dAsg (dTup (dCons (dVar 4) (dCons (dOp oIx (dLst (dCons (dC (.int 1)) (dCons (dOp oSub (dC (.int 0)) (dC (.int 1))) (dCons (dC (.int 0)) (dCons (dC (.int 50)) (dNil)))))) (dCall a__law_taken [] (dCons (dVar 0) (dCons (dC (.int 4)) (dNil))))) (dNil)))) (gdName 4)) (dNext))) (dNext)) (dAsg (dOp oAdd (dVar 2) (dTup (dCons (dVar 4) (dNil)))) (gdName 2))))) (dRet (dVar 2)))
def t__law_rule (a__law_taken : ASp) (a__law_pattern : ASp) (a__law_letters : ASp) (a__law_worth : ASp) (a__law_template : ASp) : DS := dSeq (dAsg (dTup (dCons (dLst (dNil)) (dCons (dLstC (dNil)) (dNil)))) (gdTup 2 (gdCons (gdName 2) (gdCons (gdName 3) (gdNil))))) (dSeq (dFor (diRng1 (dCons (dOp oIx (dLst (dCons (dC (.int 1)) (dCons (dC (.int 2)) (dCons (dC (.int 2)) (dCons (dC (.int 3)) (dCons (dC (.int 4)) (dNil))))))) (dCall a__law_taken [] (dCons (dVar 0) (dCons (dC (.int 5)) (dNil))))) (dNil))) (gdName 4) (dSeq (dAsg (dIf (dTest (dOp oGt (dVar 4) (dC (.int 0)))) (dCall a__law_taken [] (dCons (dVar 0) (dCons (dC (.int 8)) (dNil)))) (dC (.int 0))) (gdName 5)) (dIfS (dOr (dTest (dOp oLt (dVar 5) (dC (.int 4)))) (dAnd (dTest (dOp oGt (dVar 5) (dC (.int 5)))) (dTest (dOp oEq (dVar 2) (dLst (dNil)))))) (dSeq (dDrop (dMtL omAppend (dVar 3) (dCons (dTup (dCons (dC (.str "is")) (dCons (dCall a__law_pattern [] (dCons (dVar 0) (dCons (dC (.str "XYZ")) (dNil)))) (dNil)))) (dNil)))) (dAsg (dOp oAdd (dVar 2) (dCall a__law_letters [] (dCons (dOp oIx (dOp oIx (dVar 3) (dUn oNeg (dC (.int 1)))) (dC (.int 1))) (dNil)))) (gdName 2))) (dIfS (dTest (dOp oLt (dVar 5) (dC (.int 6)))) (dDrop (dMtL omAppend (dVar 3) (dCons (dTup (dCons (dC (.str "not")) (dCons (dCall a__law_pattern [] (dCons (dVar 0) (dCons (dC (.str "XYW")) (dNil)))) (dNil)))) (dNil)))) (dSeq (dAsg (dOp oIx (dVar 2) (dCall a__law_taken [] (dCons (dVar 0) (dCons (dFn oLen (dCons (dVar 2) (dNil))) (dNil))))) (gdName 6)) (dSeq (dAsg (dOp oIx (dLst (dCons (dCall a__law_worth [] (dCons (dVar 0) (dNil))) (dCons (dOp oIx (dVar 2) (dCall a__law_taken [] (dCons (dVar 0) (dCons (dFn oLen (dCons (dVar 2) (dNil))) (dNil))))) (dNil)))) (dCall a__law_taken [] (dCons (dVar 0) (dCons (dC (.int 2)) (dNil))))) (gdName 7)) (dSeq (dAsg (dIf (dTest (dOp oEq (dCall a__law_taken [] (dCons (dVar 0) (dCons (dC (.int 2)) (dNil)))) (dC (.int 0)))) (dTup (dCons (dVar 6) (dCons (dVar 7) (dNil)))) (dTup (dCons (dVar 7) (dCons (dVar 6) (dNil))))) (gdName 8)) (dDrop (dMtL omAppend (dVar 3) (dCons (dOp oAdd (dTup (dCons (dOp oIx (dLst (dCons (dC (.str "less")) (dCons (dC (.str "same")) (dCons (dC (.str "unlike")) (dNil))))) (dCall a__law_taken [] (dCons (dVar 0) (dCons (dC (.int 3)) (dNil))))) (dNil))) (dVar 8)) (dNil))))))))))) (dSeq (dAsg (dLc (diRng1 (dCons (dFn oLen (dCons (dVar 3) (dNil))) (dNil))) (gdName 4) (dTest (dOp oEq (dOp oIx (dOp oIx (dVar 3) (dVar 4)) (dC (.int 0))) (dC (.str "is")))) (dVar 4) [4]) (gdName 9)) (dSeq (dAsg (dLstC (dNil)) (gdName 10)) (dSeq (dFor (diRng1 (dCons (dOp oIx (dLst (dCons (dC (.int 1)) (dCons (dC (.int 1)) (dCons (dC (.int 2)) (dCons (dC (.int 3)) (dNil)))))) (dCall a__law_taken [] (dCons (dVar 0) (dCons (dC (.int 4)) (dNil))))) (dNil))) (gdName 4) (dSeq (dAsg (dCall a__law_taken [] (dCons (dVar 0) (dCons (dC (.int 8)) (dNil)))) (gdName 5)) (dIfS (dTest (dOp oEq (dVar 5) (dC (.int 0)))) (dDrop (dMtL omAppend (dVar 10) (dCons (dTup (dCons (dC (.str "take")) (dCons (dOp oIx (dVar 9) (dCall a__law_taken [] (dCons (dVar 0) (dCons (dFn oLen (dCons (dVar 9) (dNil))) (dNil))))) (dNil)))) (dNil)))) (dDrop (dMtL omAppend (dVar 10) (dCons (dTup (dCons (dOp oIx (dLst (dCons (dC (.str "say")) (dCons (dC (.str "add")) (dCons (dC (.str "add")) (dCons (dC (.str "hold")) (dCons (dC (.str "hold")) (dCons (dC (.str "hold")) (dCons (dC (.str "hold")) (dNil))))))))) (dOp oSub (dVar 5) (dC (.int 1)))) (dCons (dCall a__law_template [] (dCons (dVar 0) (dCons (dVar 2) (dNil)))) (dNil)))) (dNil))))))) (dRet (dTup (dCons (dVar 1) (dCons (dOp oSub (dCall a__law_taken [] (dCons (dVar 0) (dCons (dC (.int 3)) (dNil)))) (dC (.int 1))) (dCons (dFn oTuple (dCons (dVar 3) (dNil))) (dCons (dFn oTuple (dCons (dVar 10) (dNil))) (dNil)))))))))))
def t__law_rules (a__law_taken : ASp) (a__law_dense_rule : ASp) (a__law_rule : ASp) : DS := dSeq (dPar 2 3 (dCons (dLst (dCons (dC (.str "r")) (dCons (dC (.str "run")) (dCons (dC (.str "go")) (dCons (dC (.str "z")) (dNil)))))) (dCons (dOp oEq (dCall a__law_taken [] (dCons (dVar 0) (dCons (dC (.int 2)) (dNil)))) (dC (.int 0))) (dNil)))) (dSeq (dAsg (dLstC (dNil)) (gdName 4)) (dSeq (dFor (diRng1 (dCons (dOp oAdd (dC (.int 1)) (dCall a__law_taken [] (dCons (dVar 0) (dCons (dVar 1) (dNil))))) (dNil))) (gdName 5) (dDrop (dMtL omAppend (dVar 4) (dCons (dIf (dTest (dVar 3)) (dCall a__law_dense_rule [] (dCons (dVar 0) (dCons (dOp oIx (dVar 2) (dVar 5)) (dNil)))) (dCall a__law_rule [] (dCons (dVar 0) (dCons (dOp oIx (dVar 2) (dVar 5)) (dNil))))) (dNil))))) (dRet (dFn oTuple (dCons (dVar 4) (dNil))))))
def t_is_word : DS := dSeq (dIfS (dOr (dNot (dTest (dFn oIsi (dCons (dVar 0) (dCons (dC (.ty "str")) (dNil)))))) (dNot (dTest (dChain oLe oLe (dC (.int 1)) (dFn oLen (dCons (dVar 0) (dNil))) (dC (.int 4)))))) (dRet (dC (.bl false))) (dNext)) (dRet (dFn oAll (dCons (dLc (diSeq (dVar 0)) (gdName 1) (dYes) (dOp oIn (dVar 1) (dC (.str "abcdefghijklmnopqrstuvwxyz"))) [1]) (dNil))))
def t_is_number : DS := dRet (dAndV (dFn oIsi (dCons (dVar 0) (dCons (dC (.ty "int")) (dNil)))) (dAndV (dNotV (dFn oIsi (dCons (dVar 0) (dCons (dC (.ty "bool")) (dNil))))) (dChain oLe oLe (dVar 1) (dVar 0) (dVar 2))))
def t_is_worth (a_is_word : ASp) (a_is_number : ASp) : DS := dRet (dOrV (dCall a_is_word [] (dCons (dVar 0) (dNil))) (dCall a_is_number [] (dCons (dVar 0) (dCons (dOp oSub (dC (.int 0)) (dC (.int 99))) (dCons (dC (.int 99)) (dNil))))))
def t_is_blank : DS := dRet (dAndV (dFn oIsi (dCons (dVar 0) (dCons (dC (.ty "str")) (dNil)))) (dAndV (dOp oEq (dFn oLen (dCons (dVar 0) (dNil))) (dC (.int 1))) (dOp oIn (dVar 0) (dC (.str "ABCDEFGHIJKLMNOPQRSTUVWXYZ")))))
def t_is_pattern (a_is_word : ASp) (a_is_worth : ASp) (a_is_blank : ASp) : DS := dSeq (dIfS (dOr (dNot (dTest (dFn oIsi (dCons (dVar 0) (dCons (dC (.ty "tuple")) (dNil)))))) (dOr (dNot (dTest (dChain oLe oLe (dC (.int 1)) (dFn oLen (dCons (dVar 0) (dNil))) (dC (.int 5))))) (dNot (dTest (dCall a_is_word [] (dCons (dOp oIx (dVar 0) (dC (.int 0))) (dNil))))))) (dRet (dC (.bl false))) (dNext)) (dRet (dFn oAll (dCons (dLc (diSeq (dSlice (dVar 0) (dPart (dC (.int 1))) (dNoPart))) (gdName 1) (dYes) (dOrV (dCall a_is_worth [] (dCons (dVar 1) (dNil))) (dOrV (dCall a_is_blank [] (dCons (dVar 1) (dNil))) (dAndV (dFn oIsi (dCons (dVar 1) (dCons (dC (.ty "str")) (dNil)))) (dOp oEq (dVar 1) (dC (.str "_")))))) [1]) (dNil))))
def t_is_side (a_is_worth : ASp) (a_is_blank : ASp) : DS := dRet (dOrV (dCall a_is_worth [] (dCons (dVar 0) (dNil))) (dAndV (dCall a_is_blank [] (dCons (dVar 0) (dNil))) (dOp oIn (dVar 0) (dVar 1))))
def t_is_want (a_is_pattern : ASp) (a_is_side : ASp) : DS := dSeq (dIfS (dOr (dNot (dTest (dFn oIsi (dCons (dVar 0) (dCons (dC (.ty "tuple")) (dNil)))))) (dOr (dTest (dOp oEq (dVar 0) (dTup (dNil)))) (dNot (dTest (dFn oIsi (dCons (dOp oIx (dVar 0) (dC (.int 0))) (dCons (dC (.ty "str")) (dNil)))))))) (dRet (dC (.bl false))) (dNext)) (dSeq (dIfS (dTest (dOp oIn (dOp oIx (dVar 0) (dC (.int 0))) (dTup (dCons (dC (.str "is")) (dCons (dC (.str "not")) (dNil)))))) (dRet (dAndV (dOp oEq (dFn oLen (dCons (dVar 0) (dNil))) (dC (.int 2))) (dCall a_is_pattern [] (dCons (dOp oIx (dVar 0) (dC (.int 1))) (dNil))))) (dNext)) (dRet (dAndV (dOp oIn (dOp oIx (dVar 0) (dC (.int 0))) (dC (.tup [(.str "less"), (.str "same"), (.str "unlike")]))) (dAndV (dOp oEq (dFn oLen (dCons (dVar 0) (dNil))) (dC (.int 3))) (dFn oAll (dCons (dLc (diSeq (dSlice (dVar 0) (dPart (dC (.int 1))) (dNoPart))) (gdName 2) (dYes) (dCall a_is_side [] (dCons (dVar 2) (dCons (dVar 1) (dNil)))) [2]) (dNil)))))))
def t_blanks_of (a_is_blank : ASp) : DS := dRet (dLc (diSeq (dSlice (dVar 0) (dPart (dC (.int 1))) (dNoPart))) (gdName 1) (dTest (dCall a_is_blank [] (dCons (dVar 1) (dNil)))) (dVar 1) [1])
def t_is_template (a_is_word : ASp) (a_is_blank : ASp) (a_is_number : ASp) (a_is_side : ASp) : DS := dSeq (dIfS (dOr (dNot (dTest (dFn oIsi (dCons (dVar 0) (dCons (dC (.ty "tuple")) (dNil)))))) (dOr (dNot (dTest (dChain oLe oLe (dC (.int 1)) (dFn oLen (dCons (dVar 0) (dNil))) (dC (.int 5))))) (dNot (dTest (dCall a_is_word [] (dCons (dOp oIx (dVar 0) (dC (.int 0))) (dNil))))))) (dRet (dC (.bl false))) (dNext)) (dSeq (dFor (diSeq (dSlice (dVar 0) (dPart (dC (.int 1))) (dNoPart))) (gdName 2) (dIfS (dTest (dFn oIsi (dCons (dVar 2) (dCons (dC (.ty "tuple")) (dNil))))) (dSeq (dIfS (dOr (dTest (dOp oNe (dFn oLen (dCons (dVar 2) (dNil))) (dC (.int 2)))) (dOr (dNot (dTest (dCall a_is_blank [] (dCons (dOp oIx (dVar 2) (dC (.int 0))) (dNil))))) (dTest (dOp oNotIn (dOp oIx (dVar 2) (dC (.int 0))) (dVar 1))))) (dRet (dC (.bl false))) (dNext)) (dIfS (dNot (dTest (dCall a_is_number [] (dCons (dOp oIx (dVar 2) (dC (.int 1))) (dCons (dOp oSub (dC (.int 0)) (dC (.int 99))) (dCons (dC (.int 99)) (dNil))))))) (dRet (dC (.bl false))) (dNext))) (dIfS (dNot (dTest (dCall a_is_side [] (dCons (dVar 2) (dCons (dVar 1) (dNil)))))) (dRet (dC (.bl false))) (dNext)))) (dRet (dC (.bl true))))
def t_is_deed (a_is_number : ASp) (a_is_template : ASp) : DS := dSeq (dIfS (dOr (dNot (dTest (dFn oIsi (dCons (dVar 0) (dCons (dC (.ty "tuple")) (dNil)))))) (dOr (dTest (dOp oNe (dFn oLen (dCons (dVar 0) (dNil))) (dC (.int 2)))) (dNot (dTest (dFn oIsi (dCons (dOp oIx (dVar 0) (dC (.int 0))) (dCons (dC (.ty "str")) (dNil)))))))) (dRet (dC (.bl false))) (dNext)) (dSeq (dIfS (dTest (dOp oEq (dOp oIx (dVar 0) (dC (.int 0))) (dC (.str "take")))) (dRet (dAndV (dCall a_is_number [] (dCons (dOp oIx (dVar 0) (dC (.int 1))) (dCons (dC (.int 0)) (dCons (dOp oSub (dFn oLen (dCons (dVar 1) (dNil))) (dC (.int 1))) (dNil))))) (dOp oEq (dOp oIx (dOp oIx (dVar 1) (dOp oIx (dVar 0) (dC (.int 1)))) (dC (.int 0))) (dC (.str "is"))))) (dNext)) (dRet (dAndV (dOp oIn (dOp oIx (dVar 0) (dC (.int 0))) (dC (.tup [(.str "add"), (.str "hold"), (.str "say")]))) (dCall a_is_template [] (dCons (dOp oIx (dVar 0) (dC (.int 1))) (dCons (dVar 2) (dNil)))))))
def t_bad_part (a_is_word : ASp) (a_is_number : ASp) (a_is_want : ASp) (a_blanks_of : ASp) (a_is_deed : ASp) : DS := dSeq (dIfS (dOr (dNot (dTest (dFn oIsi (dCons (dVar 0) (dCons (dC (.ty "tuple")) (dNil)))))) (dTest (dOp oNe (dFn oLen (dCons (dVar 0) (dNil))) (dC (.int 4))))) (dRet (dUn oNeg (dC (.int 1)))) (dNext)) (dSeq (dAsg (dVar 0) (gdTup 4 (gdCons (gdName 2) (gdCons (gdName 3) (gdCons (gdName 4) (gdCons (gdName 5) (gdNil))))))) (dSeq (dIfS (dOr (dNot (dTest (dCall a_is_word [] (dCons (dVar 2) (dNil))))) (dTest (dOp oIn (dVar 2) (dVar 1)))) (dRet (dC (.int 0))) (dNext)) (dSeq (dIfS (dNot (dTest (dCall a_is_number [] (dCons (dVar 3) (dCons (dOp oSub (dC (.int 0)) (dC (.int 9))) (dCons (dC (.int 9)) (dNil))))))) (dRet (dC (.int 1))) (dNext)) (dSeq (dIfS (dOr (dNot (dTest (dFn oIsi (dCons (dVar 4) (dCons (dC (.ty "tuple")) (dNil)))))) (dNot (dTest (dChain oLe oLe (dC (.int 1)) (dFn oLen (dCons (dVar 4) (dNil))) (dC (.int 5)))))) (dRet (dC (.int 2))) (dNext)) (dSeq (dAsg (dLstC (dNil)) (gdName 6)) (dSeq (dFor (diEnum (dCons (dVar 4) (dNil))) (gdTup 2 (gdCons (gdName 7) (gdCons (gdName 8) (gdNil)))) (dSeq (dIfS (dOr (dNot (dTest (dCall a_is_want [] (dCons (dVar 8) (dCons (dVar 6) (dNil)))))) (dAnd (dTest (dOp oEq (dVar 7) (dC (.int 0)))) (dTest (dOp oNe (dOp oIx (dVar 8) (dC (.int 0))) (dC (.str "is")))))) (dRet (dC (.int 2))) (dNext)) (dDrop (dMtL omExtend (dVar 6) (dCons (dIf (dTest (dOp oEq (dOp oIx (dVar 8) (dC (.int 0))) (dC (.str "is")))) (dCall a_blanks_of [] (dCons (dOp oIx (dVar 8) (dC (.int 1))) (dNil))) (dLst (dNil))) (dNil)))))) (dSeq (dIfS (dOr (dNot (dTest (dFn oIsi (dCons (dVar 5) (dCons (dC (.ty "tuple")) (dNil)))))) (dNot (dTest (dChain oLe oLe (dC (.int 1)) (dFn oLen (dCons (dVar 5) (dNil))) (dC (.int 4)))))) (dRet (dC (.int 3))) (dNext)) (dRet (dIf (dTest (dFn oAll (dCons (dLc (diSeq (dVar 5)) (gdName 9) (dYes) (dCall a_is_deed [] (dCons (dVar 9) (dCons (dVar 4) (dCons (dVar 6) (dNil))))) [9]) (dNil)))) (dC .non) (dC (.int 3)))))))))))
def t_need_rules (a_bad_part : ASp) : DS := dSeq (dIfS (dOr (dNot (dTest (dFn oIsi (dCons (dVar 0) (dCons (dC (.ty "tuple")) (dNil)))))) (dTest (dOp oEq (dVar 0) (dTup (dNil))))) (dNever) (dNext)) (dSeq (dAsg (dLstC (dNil)) (gdName 1)) (dFor (diEnum (dCons (dVar 0) (dNil))) (gdTup 2 (gdCons (gdName 2) (gdCons (gdName 3) (gdNil)))) (dSeq (dAsg (dIf (dTest (dOp oEq (dVar 2) (dC (.int 8)))) (dUn oNeg (dC (.int 1))) (dCall a_bad_part [] (dCons (dVar 3) (dCons (dVar 1) (dNil))))) (gdName 4)) (dSeq (dIfS (dTest (dOp oIsNot (dVar 4) (dC .non))) (dNever) (dNext)) (dDrop (dMtL omAppend (dVar 1) (dCons (dOp oIx (dVar 3) (dC (.int 0))) (dNil))))))))
def t_is_thing (a_is_word : ASp) (a_is_worth : ASp) : DS := dSeq (dIfS (dOr (dNot (dTest (dFn oIsi (dCons (dVar 0) (dCons (dC (.ty "tuple")) (dNil)))))) (dOr (dNot (dTest (dChain oLe oLe (dC (.int 1)) (dFn oLen (dCons (dVar 0) (dNil))) (dC (.int 5))))) (dNot (dTest (dCall a_is_word [] (dCons (dOp oIx (dVar 0) (dC (.int 0))) (dNil))))))) (dRet (dC (.bl false))) (dNext)) (dRet (dFn oAll (dCons (dLc (diSeq (dSlice (dVar 0) (dPart (dC (.int 1))) (dNoPart))) (gdName 1) (dYes) (dCall a_is_worth [] (dCons (dVar 1) (dNil))) [1]) (dNil))))
def t__law_thing (a__law_taken : ASp) (a__law_worth : ASp) : DS := dSeq (dAsg (dOp oIx (dLst (dCons (dC (.str "on")) (dCons (dC (.str "is")) (dCons (dC (.str "big")) (dNil))))) (dCall a__law_taken [] (dCons (dVar 0) (dCons (dC (.int 3)) (dNil))))) (gdName 1)) (dRet (dOp oAdd (dTup (dCons (dVar 1) (dNil))) (dFn oTuple (dCons (dLc (diRng1 (dCons (dOp oIx (dLst (dCons (dC (.int 1)) (dCons (dC (.int 2)) (dCons (dC (.int 1)) (dCons (dC (.int 0)) (dCons (dC (.int 4)) (dCons (dC (.int 1)) (dNil)))))))) (dCall a__law_taken [] (dCons (dVar 0) (dCons (dC (.int 6)) (dNil))))) (dNil))) (gdName 2) (dYes) (dCall a__law_worth [] (dCons (dVar 0) (dNil))) [2]) (dNil)))))
def t_need_things (a_is_thing : ASp) : DS := dSeq (dIfS (dNot (dTest (dFn oIsi (dCons (dVar 0) (dCons (dC (.ty "list")) (dNil)))))) (dNever) (dNext)) (dFor (diEnum (dCons (dVar 0) (dNil))) (gdTup 2 (gdCons (gdName 1) (gdCons (gdName 2) (gdNil)))) (dIfS (dOr (dTest (dOp oEq (dVar 1) (dC (.int 30)))) (dNot (dTest (dCall a_is_thing [] (dCons (dVar 2) (dNil)))))) (dNever) (dNext)))
def t__law_alike (a__law_alike : ASp) : DS := dSeq (dIfS (dTest (dFn oIsi (dCons (dVar 1) (dCons (dTup (dCons (dC (.ty "tuple")) (dCons (dC (.ty "list")) (dNil)))) (dNil))))) (dSeq (dIfS (dOr (dTest (dOp oNe (dFn oIsi (dCons (dVar 0) (dCons (dC (.ty "tuple")) (dNil)))) (dFn oIsi (dCons (dVar 1) (dCons (dC (.ty "tuple")) (dNil)))))) (dNot (dTest (dFn oIsi (dCons (dVar 0) (dCons (dTup (dCons (dC (.ty "tuple")) (dCons (dC (.ty "list")) (dNil)))) (dNil))))))) (dRet (dC (.bl false))) (dNext)) (dSeq (dIfS (dTest (dOp oNe (dFn oLen (dCons (dVar 0) (dNil))) (dFn oLen (dCons (dVar 1) (dNil))))) (dRet (dC (.bl false))) (dNext)) (dRet (dOp oEq (dLc (diRng1 (dCons (dFn oLen (dCons (dVar 1) (dNil))) (dNil))) (gdName 3) (dNot (dTest (dCall a__law_alike [] (dCons (dOp oIx (dVar 0) (dVar 3)) (dCons (dOp oIx (dVar 1) (dVar 3)) (dNil)))))) (dVar 3) [3]) (dLst (dNil)))))) (dNext)) (dSeq (dIfS (dOr (dTest (dOp oIs (dVar 1) (dC .non))) (dTest (dOp oIs (dVar 0) (dC .non)))) (dRet (dAndV (dOp oIs (dVar 1) (dC .non)) (dOp oIs (dVar 0) (dC .non)))) (dNext)) (dSeq (dAsg (dOp oEq (dFn oIsi (dCons (dVar 1) (dCons (dC (.ty "str")) (dNil)))) (dFn oIsi (dCons (dVar 0) (dCons (dC (.ty "str")) (dNil))))) (gdName 2)) (dRet (dAndV (dVar 2) (dAndV (dOp oEq (dFn oIsi (dCons (dVar 1) (dCons (dC (.ty "bool")) (dNil)))) (dFn oIsi (dCons (dVar 0) (dCons (dC (.ty "bool")) (dNil))))) (dOp oEq (dVar 0) (dVar 1)))))))
def t_part_text : DS := dSeq (dIfS (dTest (dFn oIsi (dCons (dVar 0) (dCons (dC (.ty "tuple")) (dNil))))) (dRet (dOp oAdd (dOp oAdd (dOp oIx (dVar 0) (dC (.int 0))) (dIf (dTest (dOp oGe (dOp oIx (dVar 0) (dC (.int 1))) (dC (.int 0)))) (dC (.str "+")) (dC (.str "")))) (dFn oStr (dCons (dOp oIx (dVar 0) (dC (.int 1))) (dNil))))) (dNext)) (dRet (dFn oStr (dCons (dVar 0) (dNil))))
def t_written (a_need_rules : ASp) (a_need_things : ASp) (a_part_text : ASp) : DS := dSeq (dDrop (dCall a_need_rules [] (dCons (dVar 0) (dNil)))) (dSeq (dDrop (dCall a_need_things [] (dCons (dVar 1) (dNil)))) (dSeq (dAsg (dLstC (dNil)) (gdName 2)) (dSeq (dFor (diSeq (dVar 0)) (gdTup 4 (gdCons (gdName 3) (gdCons (gdName 4) (gdCons (gdName 5) (gdCons (gdName 6) (gdNil)))))) (dSeq (dDrop (dMtL omAppend (dVar 2) (dCons (dLst (dCons (dC (.str "rule")) (dCons (dVar 3) (dCons (dVar 4) (dNil))))) (dNil)))) (dSeq (dFor (diSeq (dVar 5)) (gdName 7) (dDrop (dMtL omAppend (dVar 2) (dCons (dOp oAdd (dLst (dCons (dOp oIx (dVar 7) (dC (.int 0))) (dNil))) (dFn oList (dCons (dIf (dTest (dOp oIn (dOp oIx (dVar 7) (dC (.int 0))) (dTup (dCons (dC (.str "is")) (dCons (dC (.str "not")) (dNil)))))) (dOp oIx (dVar 7) (dC (.int 1))) (dSlice (dVar 7) (dPart (dC (.int 1))) (dNoPart))) (dNil)))) (dNil))))) (dFor (diSeq (dVar 6)) (gdTup 2 (gdCons (gdName 8) (gdCons (gdName 9) (gdNil)))) (dDrop (dMtL omAppend (dVar 2) (dCons (dOp oAdd (dLst (dCons (dVar 8) (dNil))) (dIf (dTest (dOp oNe (dVar 8) (dC (.str "take")))) (dFn oList (dCons (dVar 9) (dNil))) (dLst (dCons (dVar 9) (dNil))))) (dNil)))))))) (dSeq (dDrop (dMtL omExtend (dVar 2) (dCons (dLc (diSeq (dVar 1)) (gdName 10) (dYes) (dOp oAdd (dLst (dCons (dC (.str "thing")) (dNil))) (dFn oList (dCons (dVar 10) (dNil)))) [10]) (dNil)))) (dRet (dMtS omJoin (dC (.str "\n")) (dCons (dLc (diSeq (dVar 2)) (gdName 11) (dYes) (dMtS omJoin (dC (.str " ")) (dCons (dLc (diSeq (dVar 11)) (gdName 12) (dYes) (dCall a_part_text [] (dCons (dVar 12) (dNil))) [12]) (dNil))) [11]) (dNil))))))))
def t_Reader___init__ (C_Reader : Addr) : DS := dSeq (dSetFld C_Reader (dVar 0) (dLstC (dNil)) "rules") (dSetFld C_Reader (dVar 0) (dLstC (dNil)) "some")
def t_number_of : DS := dSeq (dAsg (dIf (dTest (dMtS omStarts (dVar 0) (dCons (dC (.str "-")) (dNil)))) (dSlice (dVar 0) (dPart (dC (.int 1))) (dNoPart)) (dVar 0)) (gdName 1)) (dSeq (dIfS (dOr (dNot (dTest (dChain oLe oLe (dC (.int 1)) (dFn oLen (dCons (dVar 1) (dNil))) (dC (.int 2))))) (dNot (dTest (dFn oAll (dCons (dLc (diSeq (dVar 1)) (gdName 2) (dYes) (dOp oIn (dVar 2) (dC (.str "0123456789"))) [2]) (dNil)))))) (dRet (dC .non)) (dNext)) (dSeq (dIfS (dAnd (dTest (dOp oEq (dOp oIx (dVar 1) (dC (.int 0))) (dC (.str "0")))) (dTest (dOp oNe (dVar 0) (dC (.str "0"))))) (dRet (dC .non)) (dNext)) (dRet (dFn oIntS (dCons (dVar 0) (dNil))))))
def t_part_of (a_number_of : ASp) (a_is_blank : ASp) : DS := dSeq (dAsg (dCall a_number_of [] (dCons (dVar 0) (dNil))) (gdName 1)) (dSeq (dIfS (dTest (dOp oIsNot (dVar 1) (dC .non))) (dRet (dVar 1)) (dNext)) (dSeq (dIfS (dAnd (dTest (dOp oGt (dFn oLen (dCons (dVar 0) (dNil))) (dC (.int 2)))) (dAnd (dTest (dCall a_is_blank [] (dCons (dOp oIx (dVar 0) (dC (.int 0))) (dNil)))) (dTest (dOp oIn (dOp oIx (dVar 0) (dC (.int 1))) (dTup (dCons (dC (.str "+")) (dCons (dC (.str "-")) (dNil)))))))) (dSeq (dAsg (dCall a_number_of [] (dCons (dIf (dTest (dOp oEq (dOp oIx (dVar 0) (dC (.int 1))) (dC (.str "+")))) (dSlice (dVar 0) (dPart (dC (.int 2))) (dNoPart)) (dSlice (dVar 0) (dPart (dC (.int 1))) (dNoPart))) (dNil))) (gdName 2)) (dIfS (dAnd (dTest (dOp oIsNot (dVar 2) (dC .non))) (dTest (dOp oEq (dOp oEq (dOp oIx (dVar 0) (dC (.int 1))) (dC (.str "+"))) (dOp oGe (dVar 2) (dC (.int 0)))))) (dRet (dTup (dCons (dOp oIx (dVar 0) (dC (.int 0))) (dCons (dVar 2) (dNil))))) (dNext))) (dNext)) (dRet (dVar 0))))
def t_Reader_take_within (C_Reader : Addr) (a_is_number : ASp) : DS := dSeq (dAsg (dOp oIx (dFld C_Reader (dVar 0) "rules") (dUn oNeg (dC (.int 1)))) (gdUnl 4 (gdCons (gdName 3) (gdCons (gdName 4) (gdCons (gdName 5) (gdCons (gdName 6) (gdNil))))))) (dSeq (dIfS (dOr (dTest (dOp oIn (dVar 1) (dTup (dCons (dC (.str "is")) (dCons (dC (.str "not")) (dNil)))))) (dTest (dOp oIn (dVar 1) (dC (.tup [(.str "less"), (.str "same"), (.str "unlike")]))))) (dSeq (dIfS (dOr (dTest (dOp oNe (dVar 6) (dLst (dNil)))) (dAnd (dTest (dOp oIn (dVar 1) (dC (.tup [(.str "less"), (.str "same"), (.str "unlike")])))) (dTest (dOp oNe (dFn oLen (dCons (dVar 2) (dNil))) (dC (.int 2)))))) (dRet (dC (.bl false))) (dNext)) (dSeq (dDrop (dMtL omAppend (dVar 5) (dCons (dIf (dTest (dOp oIn (dVar 1) (dTup (dCons (dC (.str "is")) (dCons (dC (.str "not")) (dNil)))))) (dTup (dCons (dVar 1) (dCons (dVar 2) (dNil)))) (dOp oAdd (dTup (dCons (dVar 1) (dNil))) (dVar 2))) (dNil)))) (dRet (dC (.bl true))))) (dNext)) (dSeq (dIfS (dTest (dOp oEq (dVar 1) (dC (.str "take")))) (dSeq (dIfS (dOr (dTest (dOp oNe (dFn oLen (dCons (dVar 2) (dNil))) (dC (.int 1)))) (dNot (dTest (dCall a_is_number [] (dCons (dOp oIx (dVar 2) (dC (.int 0))) (dCons (dC (.int 0)) (dCons (dC (.int 99)) (dNil)))))))) (dRet (dC (.bl false))) (dNext)) (dSeq (dDrop (dMtL omAppend (dVar 6) (dCons (dTup (dCons (dC (.str "take")) (dCons (dOp oIx (dVar 2) (dC (.int 0))) (dNil)))) (dNil)))) (dRet (dC (.bl true))))) (dNext)) (dSeq (dIfS (dTest (dOp oIn (dVar 1) (dC (.tup [(.str "add"), (.str "hold"), (.str "say")])))) (dSeq (dDrop (dMtL omAppend (dVar 6) (dCons (dTup (dCons (dVar 1) (dCons (dVar 2) (dNil)))) (dNil)))) (dRet (dC (.bl true)))) (dNext)) (dRet (dC (.bl false))))))
def t_Reader_take (C_Reader : Addr) (a_part_of : ASp) (a_is_number : ASp) (a_Reader_take_within : ASp) : DS := dSeq (dAsg (dVar 1) (gdStar 2 1 (gdCons (gdName 2) (gdCons (gdName 3) (gdNil))))) (dSeq (dIfS (dOr (dTest (dOp oIn (dC (.str "")) (dVar 3))) (dTest (dOp oEq (dVar 3) (dLstC (dNil))))) (dRet (dC (.bl false))) (dNext)) (dSeq (dAsg (dFn oTuple (dCons (dLc (diSeq (dVar 3)) (gdName 5) (dYes) (dCall a_part_of [] (dCons (dVar 5) (dNil))) [5]) (dNil))) (gdName 4)) (dSeq (dIfS (dTest (dOp oEq (dVar 2) (dC (.str "thing")))) (dSeq (dDrop (dMtL omAppend (dFld C_Reader (dVar 0) "some") (dCons (dVar 4) (dNil)))) (dRet (dC (.bl true)))) (dNext)) (dSeq (dIfS (dTest (dOp oNe (dFld C_Reader (dVar 0) "some") (dLstC (dNil)))) (dRet (dC (.bl false))) (dNext)) (dSeq (dIfS (dTest (dOp oEq (dVar 2) (dC (.str "rule")))) (dSeq (dIfS (dOr (dTest (dOp oNe (dFn oLen (dCons (dVar 3) (dNil))) (dC (.int 2)))) (dNot (dTest (dCall a_is_number [] (dCons (dOp oIx (dVar 4) (dC (.int 1))) (dCons (dUn oNeg (dC (.int 99))) (dCons (dC (.int 99)) (dNil)))))))) (dRet (dC (.bl false))) (dNext)) (dSeq (dDrop (dMtL omAppend (dFld C_Reader (dVar 0) "rules") (dCons (dLst (dCons (dOp oIx (dVar 3) (dC (.int 0))) (dCons (dOp oIx (dVar 4) (dC (.int 1))) (dCons (dLstC (dNil)) (dCons (dLstC (dNil)) (dNil)))))) (dNil)))) (dRet (dC (.bl true))))) (dNext)) (dRet (dAndV (dOp oNe (dFld C_Reader (dVar 0) "rules") (dLstC (dNil))) (dMeth C_Reader "take_within" a_Reader_take_within (dVar 0) (dCons (dVar 2) (dCons (dVar 4) (dNil)))))))))))
end RR
namespace RR
open PySem PySem.Spec L2 DL
open PyProof.Rows hiding St
def okC (C : Str → Addr) (xd : XcD) : Prop := ∃ x ∈ (["BadThing", "BadRules", "BadText"] : List Str), xd.1 = C x
def aE (c : D) : DA := dCons (dVar 2) (dCons (dC c) dNil)
def t_word_s (K : PySem.W.Frag) (C : Str → Addr) (a : Addr) (xd : XcD) : DS := dSeq (dAsg (dLst (dCons (dIsX K xd a (aE (.ref (C "BadThing")))) (dCons (dIsX K xd a (aE (.ref (C "BadRules")))) (dCons (dIsX K xd a (aE (.ref (C "BadCount")))) (dCons (dIsX K xd a (aE (.ref (C "NotThere")))) dNil))))) (gdName 3)) (dSeq (dAsg (dOp oAdd (dVar 3) (dLst (dCons (dIsX K xd a (aE (.ref (C "NoRule")))) (dCons (dIsX K xd a (aE (.ref (C "BadDeed")))) (dCons (dIsX K xd a (aE (.ref (C "Halted")))) (dCons (dIsX K xd a (aE (.ref (C "BadText")))) dNil)))))) (gdName 3)) (dSeq (dAsg (dLst (dCons (dC (.str "thing")) (dCons (dC (.str "rules")) (dCons (dC (.str "count")) (dCons (dC (.str "there")) (dCons (dC (.str "rule")) (dCons (dC (.str "deed")) (dCons (dC (.str "halted")) (dCons (dC (.str "text")) dNil))))))))) (gdName 4)) (dSeq (dIfS (dOr (dTest (dOp oNe (dMtL omCountB (dVar 3) (dCons (dC (.bl true)) dNil)) (dC (.int 1)))) (dNot (dTest (dIsX K xd a (aE (.ty "ValueError")))))) (dRet (dTup (dCons (dC (.str "other")) (dCons (dC .non) dNil)))) dNext) (dSeq (dAsg (dOp oIx (dVar 4) (dMtL omIndex (dVar 3) (dCons (dC (.bl true)) dNil))) (gdName 5)) (dSeq (dIfS (dTest (dOp oEq (dVar 5) (dC (.str "rules")))) (dRet (dTup (dCons (dVar 5) (dCons (dTup (dCons (dXf 2 a xd "number") (dCons (dXf 2 a xd "part") dNil))) dNil)))) dNext) (dSeq (dIfS (dTest (dOp oEq (dVar 5) (dC (.str "halted")))) (dRet (dTup (dCons (dVar 5) (dCons (dTup (dCons (dXf 2 a xd "number") (dCons (dXf 2 a xd "done") dNil))) dNil)))) dNext) (dSeq (dIfS (dTest (dOp oEq (dVar 5) (dC (.str "text")))) (dRet (dTup (dCons (dVar 5) (dCons (dXf 2 a xd "row") dNil)))) dNext) (dRet (dIf (dTest (dOp oIn (dVar 5) (dTup (dCons (dC (.str "thing")) (dCons (dC (.str "deed")) dNil))))) (dTup (dCons (dVar 5) (dCons (dXf 2 a xd "number") dNil))) (dTup (dCons (dVar 5) (dCons (dC .non) dNil))))))))))))
def t_word (K : PySem.W.Frag) (C : Str → Addr) (f : Addr) (al : AL) : DS :=
  dSeq (dAsg (dLstC dNil) (gdName 1)) (dSeq (dTry (okC C) 2 (fun W => dDrop (dMtL omAppend (dVar 1) (dCons (dAct f 6 al W) dNil))) (t_word_s K C)) (dRet (dTup (dCons (dC (.str "")) (dCons (dOp oIx (dVar 1) (dC (.int 0))) dNil)))))
def t_need_thingsX (C : Addr) (a_is_thing : ASp) (W : XcD → DSt → Cells → Prop) : DS := dSeq (dIfS (dNot (dTest (dFn oIsi (dCons (dVar 0) (dCons (dC (.ty "list")) (dNil)))))) (dRaise1 C "number" (dCons (dC (.int 0)) dNil) W) (dNext)) (dFor (diEnum (dCons (dVar 0) (dNil))) (gdTup 2 (gdCons (gdName 1) (gdCons (gdName 2) (gdNil)))) (dIfS (dOr (dTest (dOp oEq (dVar 1) (dC (.int 30)))) (dNot (dTest (dCall a_is_thing [] (dCons (dVar 2) (dNil)))))) (dRaise1 C "number" (dCons (dVar 1) dNil) W) (dNext)))
def t_need_rulesX (C : Addr) (a_bad_part : ASp) (W : XcD → DSt → Cells → Prop) : DS := dSeq (dIfS (dOr (dNot (dTest (dFn oIsi (dCons (dVar 0) (dCons (dC (.ty "tuple")) (dNil)))))) (dTest (dOp oEq (dVar 0) (dTup (dNil))))) (dRaise2 C "number" "part" (dCons (dC (.int 0)) (dCons (dUn oNeg (dC (.int 1))) dNil)) W) (dNext)) (dSeq (dAsg (dLstC (dNil)) (gdName 1)) (dFor (diEnum (dCons (dVar 0) (dNil))) (gdTup 2 (gdCons (gdName 2) (gdCons (gdName 3) (gdNil)))) (dSeq (dAsg (dIf (dTest (dOp oEq (dVar 2) (dC (.int 8)))) (dUn oNeg (dC (.int 1))) (dCall a_bad_part [] (dCons (dVar 3) (dCons (dVar 1) (dNil))))) (gdName 4)) (dSeq (dIfS (dTest (dOp oIsNot (dVar 4) (dC .non))) (dRaise2 C "number" "part" (dCons (dVar 2) (dCons (dVar 4) dNil)) W) (dNext)) (dDrop (dMtL omAppend (dVar 1) (dCons (dOp oIx (dVar 3) (dC (.int 0))) (dNil))))))))
def t_readX (C_Reader CT : Addr) (a_Reader___init__ : ASp) (a_Reader_take : ASp) (a_need_rules a_need_things : ASpX) (W : XcD → DSt → Cells → Prop) : DS := dSeq (dAsg (dMake C_Reader a_Reader___init__ (dNil)) (gdName 1)) (dSeq (dFor (diEnum (dCons (dMtS omSplit (dVar 0) (dCons (dC (.str "\n")) (dNil))) (dNil))) (gdTup 2 (gdCons (gdName 2) (gdCons (gdName 3) (gdNil)))) (dIfS (dNot (dTest (dMeth C_Reader "take" a_Reader_take (dVar 1) (dCons (dMtS omSplit (dVar 3) (dCons (dC (.str " ")) (dNil))) (dNil))))) (dRaise1 CT "row" (dCons (dVar 2) dNil) W) (dNext))) (dSeq (dAsg (dFn oTuple (dCons (dLc (diSeq (dFld C_Reader (dVar 1) "rules")) (gdUnl 4 (gdCons (gdName 5) (gdCons (gdName 6) (gdCons (gdName 7) (gdCons (gdName 8) (gdNil)))))) (dYes) (dTup (dCons (dVar 5) (dCons (dVar 6) (dCons (dFn oTuple (dCons (dVar 7) (dNil))) (dCons (dFn oTuple (dCons (dVar 8) (dNil))) (dNil)))))) [5, 6, 7, 8]) (dNil))) (gdName 4)) (dSeq (dDrop (dCallX a_need_rules W (dCons (dVar 4) (dNil)))) (dSeq (dDrop (dCallX a_need_things W (dCons (dFld C_Reader (dVar 1) "some") (dNil)))) (dRet (dTup (dCons (dVar 4) (dCons (dFld C_Reader (dVar 1) "some") (dNil)))))))))
end RR
namespace RR
open PySem PySem.Spec L2 DL
open PyProof.Rows hiding St
def t__law_spoilt (a__law_taken : ASp) : DS := dSeq (dAsg (dLst (dCons (dC (.str "rule")) (dCons (dC (.str "is")) (dCons (dC (.str "not")) (dCons (dC (.str "less")) (dCons (dC (.str "take")) (dCons (dC (.str "add")) (dCons (dC (.str "say")) (dCons (dC (.str "hold")) (dCons (dC (.str "thing")) (dCons (dC (.str "X")) (dCons (dC (.str "_")) (dCons (dC (.str "5")) (dCons (dC (.str "-3")) (dCons (dC (.str "05")) (dCons (dC (.str "-0")) (dNil))))))))))))))))) (gdName 2)) (dSeq (dAsg (dOp oAdd (dVar 2) (dLst (dCons (dC (.str "a")) (dCons (dC (.str "r")) (dCons (dC (.str "X+1")) (dCons (dC (.str "X-2")) (dCons (dC (.str "X+05")) (dCons (dC (.str "X--1")) (dCons (dC (.str "x+1")) (dCons (dC (.str "100")) (dCons (dC (.str "")) (dCons (dC (.str "On")) (dCons (dC (.str "same")) (dCons (dC (.str "123")) (dNil))))))))))))))) (gdName 2)) (dSeq (dFor (diRng1 (dCons (dCall a__law_taken [] (dCons (dVar 0) (dCons (dC (.int 5)) (dNil)))) (dNil))) (gdName 3) (dSeq (dAsg (dIf (dTest (dOp oNe (dVar 1) (dLst (dNil)))) (dCall a__law_taken [] (dCons (dVar 0) (dCons (dFn oLen (dCons (dVar 1) (dNil))) (dNil)))) (dC (.int 0))) (gdName 4)) (dSeq (dPar 5 6 (dCons (dCall a__law_taken [] (dCons (dVar 0) (dCons (dC (.int 9)) (dNil)))) (dCons (dOp oIx (dVar 2) (dCall a__law_taken [] (dCons (dVar 0) (dCons (dFn oLen (dCons (dVar 2) (dNil))) (dNil))))) (dNil)))) (dIfS (dOr (dTest (dOp oEq (dVar 1) (dLst (dNil)))) (dTest (dOp oEq (dVar 5) (dC (.int 0))))) (dAsg (dOp oAdd (dOp oAdd (dSlice (dVar 1) (dNoPart) (dPart (dVar 4))) (dLst (dCons (dLst (dCons (dVar 6) (dNil))) (dNil)))) (dSlice (dVar 1) (dPart (dVar 4)) (dNoPart))) (gdName 1)) (dIfS (dTest (dOp oEq (dVar 5) (dC (.int 1)))) (dSeq (dAsg (dLst (dCons (dOp oAdd (dSlice (dVar 1) (dNoPart) (dPart (dVar 4))) (dSlice (dVar 1) (dPart (dOp oAdd (dVar 4) (dC (.int 1)))) (dNoPart))) (dCons (dOp oAdd (dSlice (dVar 1) (dPart (dVar 4)) (dNoPart)) (dSlice (dVar 1) (dNoPart) (dPart (dVar 4)))) (dCons (dOp oAdd (dSlice (dVar 1) (dNoPart) (dPart (dOp oAdd (dVar 4) (dC (.int 1))))) (dSlice (dVar 1) (dPart (dVar 4)) (dNoPart))) (dNil))))) (gdName 7)) (dAsg (dOp oIx (dVar 7) (dCall a__law_taken [] (dCons (dVar 0) (dCons (dC (.int 3)) (dNil))))) (gdName 1))) (dIfS (dTest (dOp oEq (dVar 5) (dC (.int 2)))) (dAsg (dOp oAdd (dOp oAdd (dSlice (dVar 1) (dNoPart) (dPart (dVar 4))) (dRev (dSlice (dVar 1) (dPart (dVar 4)) (dPart (dOp oAdd (dVar 4) (dC (.int 2))))))) (dSlice (dVar 1) (dPart (dOp oAdd (dVar 4) (dC (.int 2)))) (dNoPart))) (gdName 1)) (dSeq (dAsg (dCall a__law_taken [] (dCons (dVar 0) (dCons (dOp oAdd (dFn oLen (dCons (dOp oIx (dVar 1) (dVar 4)) (dNil))) (dC (.int 1))) (dNil)))) (gdName 8)) (dSeq (dAsg (dSlice (dOp oIx (dVar 1) (dVar 4)) (dPart (dOp oAdd (dVar 8) (dOp oMod (dVar 5) (dC (.int 2))))) (dNoPart)) (gdName 9)) (dSeq (dAsg (dOp oAdd (dOp oAdd (dSlice (dOp oIx (dVar 1) (dVar 4)) (dNoPart) (dPart (dVar 8))) (dOp oMul (dLst (dCons (dVar 6) (dNil))) (dOp oDiv (dVar 5) (dC (.int 5))))) (dVar 9)) (gdName 10)) (dAsg (dOp oAdd (dOp oAdd (dSlice (dVar 1) (dNoPart) (dPart (dVar 4))) (dLst (dCons (dVar 10) (dNil)))) (dSlice (dVar 1) (dPart (dOp oAdd (dVar 4) (dC (.int 1)))) (dNoPart))) (gdName 1))))))))))) (dRet (dMtS omJoin (dC (.str "\n")) (dCons (dLc (diSeq (dVar 1)) (gdName 11) (dYes) (dMtS omJoin (dC (.str " ")) (dCons (dVar 11) (dNil))) [11]) (dNil))))))
def t__law_number_of : DS := dSeq (dAsg (dIf (dTest (dOp oEq (dSlice (dVar 0) (dNoPart) (dPart (dC (.int 1)))) (dC (.str "-")))) (dSlice (dVar 0) (dPart (dC (.int 1))) (dNoPart)) (dVar 0)) (gdName 1)) (dSeq (dIfS (dOr (dNot (dTest (dChain oLe oLe (dC (.int 1)) (dFn oLen (dCons (dVar 1) (dNil))) (dC (.int 2))))) (dTest (dOp oNe (dLc (diSeq (dVar 1)) (gdName 2) (dTest (dOp oNotIn (dVar 2) (dC (.str "0123456789")))) (dVar 2) [2]) (dLst (dNil))))) (dRet (dC .non)) (dNext)) (dRet (dIf (dAnd (dTest (dOp oEq (dOp oIx (dVar 1) (dC (.int 0))) (dC (.str "0")))) (dTest (dOp oNe (dVar 0) (dC (.str "0"))))) (dC .non) (dFn oIntS (dCons (dVar 0) (dNil))))))
def t__law_part_of (a__law_number_of : ASp) : DS := dSeq (dAsg (dCall a__law_number_of [] (dCons (dVar 0) (dNil))) (gdName 1)) (dSeq (dIfS (dTest (dOp oIsNot (dVar 1) (dC .non))) (dRet (dVar 1)) (dNext)) (dSeq (dIfS (dAnd (dTest (dOp oGt (dFn oLen (dCons (dVar 0) (dNil))) (dC (.int 2)))) (dAnd (dTest (dChain oLe oLe (dC (.str "A")) (dOp oIx (dVar 0) (dC (.int 0))) (dC (.str "Z")))) (dTest (dOp oIn (dOp oIx (dVar 0) (dC (.int 1))) (dC (.str "+-")))))) (dSeq (dAsg (dCall a__law_number_of [] (dCons (dSlice (dVar 0) (dPart (dC (.int 2))) (dNoPart)) (dNil))) (gdName 2)) (dIfS (dAnd (dTest (dOp oIsNot (dVar 2) (dC .non))) (dAnd (dTest (dOp oGe (dVar 2) (dC (.int 0)))) (dOr (dTest (dOp oEq (dOp oIx (dVar 0) (dC (.int 1))) (dC (.str "+")))) (dTest (dOp oGt (dVar 2) (dC (.int 0))))))) (dRet (dTup (dCons (dOp oIx (dVar 0) (dC (.int 0))) (dCons (dIf (dTest (dOp oEq (dOp oIx (dVar 0) (dC (.int 1))) (dC (.str "+")))) (dVar 2) (dOp oSub (dC (.int 0)) (dVar 2))) (dNil))))) (dNext))) (dNext)) (dRet (dVar 0))))
def t__law_more : DS := dSeq (dAsg (dVar 0) (gdTup 4 (gdCons (gdName 3) (gdCons (gdName 4) (gdCons (gdName 5) (gdCons (gdName 6) (gdNil))))))) (dSeq (dIfS (dAnd (dTest (dOp oIn (dVar 1) (dTup (dCons (dC (.str "is")) (dCons (dC (.str "not")) (dNil)))))) (dTest (dOp oEq (dVar 6) (dTup (dNil))))) (dRet (dTup (dCons (dVar 3) (dCons (dVar 4) (dCons (dOp oAdd (dVar 5) (dTup (dCons (dTup (dCons (dVar 1) (dCons (dVar 2) (dNil)))) (dNil)))) (dCons (dVar 6) (dNil))))))) (dNext)) (dSeq (dIfS (dAnd (dTest (dOp oIn (dVar 1) (dTup (dCons (dC (.str "less")) (dCons (dC (.str "same")) (dCons (dC (.str "unlike")) (dNil))))))) (dAnd (dTest (dOp oEq (dVar 6) (dTup (dNil)))) (dTest (dOp oEq (dFn oLen (dCons (dVar 2) (dNil))) (dC (.int 2)))))) (dRet (dTup (dCons (dVar 3) (dCons (dVar 4) (dCons (dOp oAdd (dVar 5) (dTup (dCons (dOp oAdd (dTup (dCons (dVar 1) (dNil))) (dVar 2)) (dNil)))) (dCons (dVar 6) (dNil))))))) (dNext)) (dSeq (dIfS (dAnd (dTest (dOp oEq (dVar 1) (dC (.str "take")))) (dAnd (dTest (dOp oEq (dFn oLen (dCons (dVar 2) (dNil))) (dC (.int 1)))) (dAnd (dTest (dFn oIsi (dCons (dOp oIx (dVar 2) (dC (.int 0))) (dCons (dC (.ty "int")) (dNil))))) (dTest (dOp oGe (dOp oIx (dVar 2) (dC (.int 0))) (dC (.int 0))))))) (dRet (dTup (dCons (dVar 3) (dCons (dVar 4) (dCons (dVar 5) (dCons (dOp oAdd (dVar 6) (dTup (dCons (dTup (dCons (dC (.str "take")) (dCons (dOp oIx (dVar 2) (dC (.int 0))) (dNil)))) (dNil)))) (dNil))))))) (dNext)) (dRet (dIf (dTest (dOp oIn (dVar 1) (dTup (dCons (dC (.str "add")) (dCons (dC (.str "hold")) (dCons (dC (.str "say")) (dNil))))))) (dTup (dCons (dVar 3) (dCons (dVar 4) (dCons (dVar 5) (dCons (dOp oAdd (dVar 6) (dTup (dCons (dTup (dCons (dVar 1) (dCons (dVar 2) (dNil)))) (dNil)))) (dNil)))))) (dC .non))))))
def t__law_read (a__law_part_of : ASp) (a__law_more : ASp) : DS := dSeq (dPar 1 2 (dCons (dLstC (dNil)) (dCons (dLstC (dNil)) (dNil)))) (dSeq (dAsg (dMtS omSplit (dVar 0) (dCons (dC (.str "\n")) (dNil))) (gdName 3)) (dSeq (dFor (diRng1 (dCons (dFn oLen (dCons (dVar 3) (dNil))) (dNil))) (gdName 4) (dSeq (dPar 5 6 (dCons (dOp oIx (dMtS omSplit (dOp oIx (dVar 3) (dVar 4)) (dCons (dC (.str " ")) (dNil))) (dC (.int 0))) (dCons (dSlice (dMtS omSplit (dOp oIx (dVar 3) (dVar 4)) (dCons (dC (.str " ")) (dNil))) (dPart (dC (.int 1))) (dNoPart)) (dNil)))) (dSeq (dAsg (dFn oTuple (dCons (dLc (diSeq (dVar 6)) (gdName 9) (dYes) (dCall a__law_part_of [] (dCons (dVar 9) (dNil))) [9]) (dNil))) (gdName 7)) (dSeq (dAsg (dAndV (dOp oNe (dVar 6) (dLst (dNil))) (dAndV (dOp oNotIn (dC (.str "")) (dVar 6)) (dOrV (dOp oEq (dVar 2) (dLst (dNil))) (dOp oEq (dVar 5) (dC (.str "thing")))))) (gdName 8)) (dSeq (dIfS (dAnd (dTest (dVar 8)) (dTest (dOp oEq (dVar 5) (dC (.str "thing"))))) (dDrop (dMtL omAppend (dVar 2) (dCons (dVar 7) (dNil)))) (dIfS (dAnd (dTest (dVar 8)) (dAnd (dTest (dOp oEq (dVar 5) (dC (.str "rule")))) (dAnd (dTest (dOp oEq (dFn oLen (dCons (dVar 6) (dNil))) (dC (.int 2)))) (dTest (dFn oIsi (dCons (dOp oIx (dVar 7) (dC (.int 1))) (dCons (dC (.ty "int")) (dNil)))))))) (dDrop (dMtL omAppend (dVar 1) (dCons (dTup (dCons (dOp oIx (dVar 6) (dC (.int 0))) (dCons (dOp oIx (dVar 7) (dC (.int 1))) (dCons (dTup (dNil)) (dCons (dTup (dNil)) (dNil)))))) (dNil)))) (dIfS (dAnd (dTest (dVar 8)) (dAnd (dTest (dOp oNe (dVar 1) (dLst (dNil)))) (dTest (dOp oNe (dVar 5) (dC (.str "rule")))))) (dSeq (dAsg (dCall a__law_more [] (dCons (dOp oIx (dVar 1) (dUn oNeg (dC (.int 1)))) (dCons (dVar 5) (dCons (dVar 7) (dNil))))) (gdSubL (dVar 1) (dUn oNeg (dC (.int 1))))) (dAsg (dOp oIsNot (dOp oIx (dVar 1) (dUn oNeg (dC (.int 1)))) (dC .non)) (gdName 8))) (dAsg (dC (.bl false)) (gdName 8))))) (dIfS (dNot (dTest (dVar 8))) (dRet (dTup (dCons (dC (.str "text")) (dCons (dVar 4) (dNil))))) (dNext))))))) (dRet (dTup (dCons (dC (.str "")) (dCons (dTup (dCons (dFn oTuple (dCons (dVar 1) (dNil))) (dCons (dVar 2) (dNil)))) (dNil)))))))
def t_law (P_law : Addr) (aW : AL → Cells → (D → Cells → Prop) → Prop) (a_read : ASpX) (a__law_row : ASp) (a__law_rules : ASp) (a__law_taken : ASp) (a__law_thing : ASp) (a_written : ASp) (a__law_spoilt : ASp) (a__law_read : ASp) (a__law_alike : ASp) : DS := dSeq (dAsg (dCall a__law_row [] (dCons (dVar 0) (dNil))) (gdName 1)) (dSeq (dFor (diRng1 (dCons (dC (.int 5)) (dNil))) (gdName 2) (dSeq (dPar 3 4 (dCons (dCall a__law_rules [] (dCons (dVar 1) (dCons (dC (.int 3)) (dNil)))) (dCons (dLc (diRng1 (dCons (dCall a__law_taken [] (dCons (dVar 1) (dCons (dC (.int 4)) (dNil)))) (dNil))) (gdName 8) (dYes) (dCall a__law_thing [] (dCons (dVar 1) (dNil))) [8]) (dNil)))) (dSeq (dAsg (dCall a__law_spoilt [] (dCons (dVar 1) (dCons (dLc (diSeq (dMtS omSplit (dCall a_written [] (dCons (dVar 3) (dCons (dVar 4) (dNil)))) (dCons (dC (.str "\n")) (dNil)))) (gdName 9) (dYes) (dMtS omSplit (dVar 9) (dCons (dC (.str " ")) (dNil))) [9]) (dNil)))) (gdName 5)) (dSeq (dAsg (dCall a__law_read [] (dCons (dVar 5) (dNil))) (gdName 6)) (dSeq (dAsg (dLamCall P_law "law.<locals>.<lambda>" aW (fun W => dCallX a_read W (dCons (dVar 5) (dNil)))) (gdName 7)) (dIfS (dTest (dOp oEq (dOp oIx (dVar 6) (dC (.int 0))) (dC (.str "text")))) (dIfS (dNot (dTest (dCall a__law_alike [] (dCons (dVar 7) (dCons (dVar 6) (dNil)))))) (dRet (dC (.bl false))) (dNext)) (dIfS (dOr (dTest (dOp oNotIn (dOp oIx (dVar 7) (dC (.int 0))) (dTup (dCons (dC (.str "")) (dCons (dC (.str "rules")) (dCons (dC (.str "thing")) (dNil))))))) (dAnd (dTest (dOp oEq (dOp oIx (dVar 7) (dC (.int 0))) (dC (.str "")))) (dNot (dTest (dCall a__law_alike [] (dCons (dOp oIx (dVar 7) (dC (.int 1))) (dCons (dOp oIx (dVar 6) (dC (.int 1))) (dNil)))))))) (dRet (dC (.bl false))) (dNext)))))))) (dRet (dC (.bl true))))
end RR
namespace RR
open PySem PySem.Spec L2 DL
open PyProof.Rows hiding St kindOf
local macro_rules | `(tactic| walk_at "dl") => `(tactic| simp (config := { failIfUnchanged := false }) only [↓ex_two, ↓ex_three, dFor_eq, updC_at, updC_upd, lstOf_upd, dctOf_upd, dctOf_dct, lstOf_lst, isLst_upd, app_upd, dSeq, dNext, dRet, dRetN, dDrop, dIfS, dNever, dAsg, dPar, dPut, gdName, sz_0, sl_0, sz_1, sl_1, sz_2, sl_2, sz_3, sl_3, sz_4, sl_4, sz_5, sl_5, sz_6, sl_6, sz_7, sl_7, sz_8, sl_8, sz_9, sl_9, sz_10, sl_10, sz_11, sl_11, sz_12, sl_12, sz_13, sl_13, sz_14, sl_14, exists_eq, gdCons_cons, gdNil_nil, gdTup_tup, gdUnl_lst, Nat.succ_eq_add_one, Nat.zero_add, dAnd, dOr, dNot, dTest, dAndV, dOrV, dNotV, dIf, dChain, dOp, dUn, dFn, dCall, dNil, dCons, dVar, dC, dTup, dLst, dLstC, dDct0, dDct0C, dPart, dNoPart, dSlice, dLc, dLcC, diSeq, diZip, diEnum, diRng1, diRng2, dYes, dMtL, dSetd, dFrz,
  dstart, List.map, List.replicate, List.length, List.append, List.cons_append, List.nil_append, List.append_nil, List.getElem?_cons_zero, List.getElem?_cons_succ, Option.some.injEq, exists_eq_left', exists_eq_left, wipeD,
  List.cons.injEq, and_true, true_and, D.bl.injEq, D.int.injEq, D.str.injEq, D.tup.injEq, D.lst.injEq, D.dct.injEq, if_true, if_false, Bool.false_eq_true, Bool.not_true, Bool.not_false, Bool.not_not, ite_true, ite_false, reduceIte, List.set_cons_zero, List.set_cons_succ, Option.map_some, Option.isSome_some, and_false, false_and, exists_const,
  slOk_tup, itOf_tup, itOf_lst, itOf_str, itOf_dct, cutL_1, oLe_int, oLt_int, oGe_int, oGt_int, oAdd_int, oSub_int, oIs_non, oIsNot_non, oLen_tup, oLen_lst, oIx_tup, oIx_lst, atI_0, atI_1, atI_2, atI_3, atI_m1, atI_cast, oIn_str, oEq_int, oNe_int, oEq_bl, ex_some,
  bl_and, bl_or, bl_andT, bl_orT, Nat.sub_self, Nat.add_sub_cancel, Nat.reduceSub, Nat.reduceAdd])
/-- data, at most n deep, its texts and rows not too long -/
def datD : Nat → D → Bool
  | _, .non => true
  | _, .bl _ => true
  | _, .int _ => true
  | _, .str x => PyData.strOk x && decide (x.length ≤ 6000000)
  | n + 1, .tup ds => ds.all (datD n) && decide (ds.length ≤ 6000000)
  | n + 1, .lst ds => ds.all (datD n) && decide (ds.length ≤ 6000000)
  | _, _ => false
theorem datD_ok : ∀ {n : Nat} {d : D}, datD n d = true → okD n d = true
  | 0, d, h => by cases d <;> first | rfl | (simp [datD] at h; done) | (simp only [datD, Bool.and_eq_true] at h; exact h.1)
  | n + 1, d, h => by
    cases d <;> first
      | rfl
      | (simp [datD] at h; done)
      | (simp only [datD, Bool.and_eq_true] at h
         first
          | exact h.1
          | exact List.all_eq_true.mpr fun e he => datD_ok (List.all_eq_true.mp h.1 e he))
theorem datD_dat {n : Nat} {d : D} (h : datD n d = true) : dat d = true := by
  cases d <;> first | rfl | (cases n <;> simp [datD] at h)
theorem ml : (6000000 : Nat) ≤ sizeLine := by rw [sizeLine_eq]; decide
theorem datD_str {n : Nat} {z : Str} (h : datD n (.str z) = true) : z.length ≤ sizeLine := by
  have h : (PyData.strOk z && decide (z.length ≤ 6000000)) = true := by cases n <;> exact h
  rw [Bool.and_eq_true, decide_eq_true_eq] at h
  exact Nat.le_trans h.2 ml
theorem datD_tup {n : Nat} {ds : List D} (h : datD n (.tup ds) = true) : ∃ m, n = m + 1 ∧ ds.all (datD m) = true ∧ ds.length ≤ 6000000 := by
  cases n with
  | zero => simp [datD] at h
  | succ m =>
    simp only [datD, Bool.and_eq_true, decide_eq_true_eq] at h
    exact ⟨m, rfl, h.1, h.2⟩
def isNumD (d : D) (lo hi : Int) : Bool := match d with
  | .int i => decide (lo ≤ i) && decide (i ≤ hi)
  | _ => false
def a_is_number : ASp := fun ds C R => ∃ d lo hi, ds = [d, .int lo, .int hi] ∧ dat d = true ∧ R (.bl (isNumD d lo hi)) C
theorem rd_is_number : ∀ ds C R, a_is_number ds C R → t_is_number { nx := fun _ C' => R .non C', rt := R } (dstart ["part", "low", "high"] ds) C := by
  rintro ds C R ⟨d, lo, hi, rfl, hd, h⟩
  unfold t_is_number
  walk_at "dl"
  simp only [oIsi_int hd, oIsi_bool hd, D.bl.injEq, exists_eq_left', ex_some]
  cases d <;> simp [isIntD, isBlD, oLe, isNumD] at h ⊢ <;> first | exact h | skip
  rename_i i
  by_cases h1 : lo ≤ i <;> simp [h1] at h ⊢ <;> exact h
abbrev SMALL : Str := "abcdefghijklmnopqrstuvwxyz"
abbrev GREAT : Str := "ABCDEFGHIJKLMNOPQRSTUVWXYZ"
def isWordD (d : D) : Bool := match d with
  | .str z => decide (1 ≤ z.length) && decide (z.length ≤ 4) && z.cps.toList.all fun c => strIn ⟨#[c]⟩ SMALL
  | _ => false
def a_is_word : ASp := fun ds C R => ∃ d, ds = [d] ∧ datD 50 d = true ∧ R (.bl (isWordD d)) C
theorem chars_len (z : Str) : (chars z).length = z.length := by unfold chars; rw [List.length_map]; simp [Str.length]
theorem rd_is_word : ∀ ds C R, a_is_word ds C R → t_is_word { nx := fun _ C' => R .non C', rt := R } (dstart ["part", "sign"] ds) C := by
  rintro ds C R ⟨d, rfl, hd, h⟩
  unfold t_is_word
  walk_at "dl"
  simp only [oIsi_str (datD_dat hd), D.bl.injEq, exists_eq_left', ex_some]
  cases d <;> simp only [isStrD, isWordD, Bool.not_true, Bool.not_false, if_true, if_false, Bool.false_eq_true] at h ⊢ <;> first | exact h | skip
  rename_i z
  simp only [oLen_str (datD_str hd)]
  walk_at "dl"
  by_cases h1 : (1 : Int) ≤ (z.length : Nat)
  · by_cases h2 : ((z.length : Nat) : Int) ≤ 4
    · have e1 : 1 ≤ z.length := by omega
      have e2 : z.length ≤ 4 := by omega
      simp only [h1, h2, decide_true, if_true, D.bl.injEq, exists_eq_left', Bool.not_true, Bool.false_eq_true, if_false, itOf, ex_some]
      refine lc_fix (fun d => some (.bl (match d with | .str c => strIn c SMALL | _ => false))) (by rw [chars_len]; exact datD_str hd) (fun i d hi K hK => ?_) ?_
      · walk_at "dl"
        unfold chars at hi
        rw [List.getElem?_map] at hi
        obtain ⟨c, _, rfl⟩ := Option.map_eq_some_iff.mp hi
        walk_at "dl"
        exact hK
      · rw [fm_map]
        unfold chars
        rw [List.map_map]
        have : (z.cps.toList.map ((fun d => D.bl (match d with | .str c => strIn c SMALL | _ => false)) ∘ fun c => D.str ⟨#[c]⟩)) = z.cps.toList.map fun c => D.bl (strIn ⟨#[c]⟩ SMALL) := rfl
        rw [this, oAll_lst (bools_map _)]
        simp only [e1, e2, decide_true, Bool.true_and] at h
        have e3 : (z.cps.toList.map fun c => strIn ⟨#[c]⟩ SMALL).all id = z.cps.toList.all fun c => strIn ⟨#[c]⟩ SMALL := by rw [List.all_map]; rfl
        rw [e3]
        exact h
    · have e2 : ¬ z.length ≤ 4 := by omega
      simp [h1, h2, e2] at h ⊢
      exact h
  · have e1 : ¬ 1 ≤ z.length := by omega
    simp [h1, e1] at h ⊢
    exact h
theorem datD_all {n m : Nat} : ∀ {d : D}, n ≤ m → datD n d = true → datD m d = true := by
  intro d h
  induction n generalizing m d with
  | zero => intro q; cases d <;> first | (simp [datD] at q; done) | (cases m <;> exact q)
  | succ n ih =>
    intro q
    obtain ⟨m, rfl⟩ : ∃ k, m = k + 1 := ⟨m - 1, by omega⟩
    cases d <;> first
      | exact q
      | (simp only [datD, Bool.and_eq_true, List.all_eq_true] at q ⊢
         exact ⟨fun e he => ih (by omega) (q.1 e he), q.2⟩)
theorem datD_item {n : Nat} {ds : List D} {d : D} (h : datD n (.tup ds) = true) (hd : d ∈ ds) : datD n d = true := by
  obtain ⟨m, rfl, h1, _⟩ := datD_tup h
  exact datD_all (Nat.le_succ m) (List.all_eq_true.mp h1 d hd)
theorem datD_len {n : Nat} {ds : List D} (h : datD n (.tup ds) = true) : ds.length ≤ sizeLine := by
  obtain ⟨m, rfl, _, h2⟩ := datD_tup h
  exact Nat.le_trans h2 ml
theorem dat_ok {d : D} (h : datD 50 d = true) : okD 60 d = true := datD_ok (datD_all (by omega) h)
def isWorthD (d : D) : Bool := isWordD d || isNumD d (-99) 99
def a_is_worth : ASp := fun ds C R => ∃ d, ds = [d] ∧ datD 50 d = true ∧ R (.bl (isWorthD d)) C
theorem rd_is_worth : ∀ ds C R, a_is_worth ds C R → t_is_worth a_is_word a_is_number { nx := fun _ C' => R .non C', rt := R } (dstart ["part"] ds) C := by
  rintro ds C R ⟨d, rfl, hd, h⟩
  unfold t_is_worth
  walk_at "dl"
  refine ⟨d, rfl, hd, ?_⟩
  simp only [D.bl.injEq, exists_eq_left']
  unfold isWorthD at h
  cases e : isWordD d with
  | true => rw [e] at h; exact h
  | false =>
    rw [e] at h
    simp only [Bool.false_eq_true, if_false]
    refine ⟨d, -99, 99, by first | rfl | simp, datD_dat hd, ?_⟩
    exact h
def isBlankD (d : D) : Bool := match d with
  | .str z => decide (z.length = 1) && strIn z GREAT
  | _ => false
def a_is_blank : ASp := fun ds C R => ∃ d, ds = [d] ∧ datD 50 d = true ∧ R (.bl (isBlankD d)) C
theorem rd_is_blank : ∀ ds C R, a_is_blank ds C R → t_is_blank { nx := fun _ C' => R .non C', rt := R } (dstart ["part"] ds) C := by
  rintro ds C R ⟨d, rfl, hd, h⟩
  unfold t_is_blank
  walk_at "dl"
  simp only [oIsi_str (datD_dat hd), D.bl.injEq, exists_eq_left', ex_some]
  cases d <;> simp only [isStrD, isBlankD, if_true, if_false, Bool.false_eq_true] at h ⊢ <;> first | exact h | skip
  rename_i z
  simp only [oLen_str (datD_str hd)]
  walk_at "dl"
  have e : decide (((z.length : Nat) : Int) = 1) = decide (z.length = 1) := by
    rw [decide_eq_decide]; omega
  rw [e]
  exact h
def isThingD (d : D) : Bool := match d with
  | .tup (w :: ps) => decide (ps.length ≤ 4) && isWordD w && ps.all isWorthD
  | _ => false
def a_is_thing : ASp := fun ds C R => ∃ d, ds = [d] ∧ datD 50 d = true ∧ R (.bl (isThingD d)) C
theorem rd_is_thing : ∀ ds C R, a_is_thing ds C R → t_is_thing a_is_word a_is_worth { nx := fun _ C' => R .non C', rt := R } (dstart ["part", "one"] ds) C := by
  rintro ds C R ⟨d, rfl, hd, h⟩
  unfold t_is_thing
  walk_at "dl"
  simp only [oIsi_tuple (datD_dat hd), D.bl.injEq, exists_eq_left', ex_some]
  cases d <;> simp only [isTupD, isThingD, if_true, if_false, Bool.false_eq_true, Bool.not_true, Bool.not_false] at h ⊢ <;> first | exact h | skip
  rename_i ds
  walk_at "dl"
  cases ds with
  | nil =>
    simp at h ⊢
    exact h
  | cons w ps =>
    have hw : datD 50 w = true := datD_item hd (by simp)
    have e1 : (1 : Int) ≤ (((w :: ps).length : Nat) : Int) := by rw [List.length_cons]; omega
    by_cases e2 : (((w :: ps).length : Nat) : Int) ≤ 5
    · have e3 : ps.length ≤ 4 := by rw [List.length_cons] at e2; omega
      simp only [e3, decide_true, Bool.true_and] at h
      simp only [e1, e2, decide_true, if_true, D.bl.injEq, exists_eq_left', Bool.not_true, Bool.false_eq_true, if_false, List.getElem?_cons_zero, ex_some]
      refine ⟨w, by simp, hw, ?_⟩
      simp only [D.bl.injEq, exists_eq_left', List.drop_succ_cons, List.drop_zero]
      cases ew : isWordD w with
      | false => rw [ew] at h; simpa using h
      | true =>
        rw [ew] at h
        simp only [Bool.not_true, Bool.false_eq_true, if_false]
        refine lc_all isWorthD (by have := datD_len hd; rw [List.length_cons] at this; omega) (fun d hm K hK => ?_) (by simpa using h)
        walk_at "dl"
        exact ⟨d, rfl, datD_item hd (by simp [hm]), hK⟩
    · have e3 : ¬ ps.length ≤ 4 := by rw [List.length_cons] at e2; omega
      simp only [e3, decide_false, Bool.false_and] at h
      simp only [e1, e2, decide_true, decide_false, if_true, D.bl.injEq, exists_eq_left', Bool.not_false]
      exact h
def eqStrD (d : D) (z : Str) : Bool := match d with
  | .str x => x == z
  | _ => false
abbrev ANYS : Str := "_"
def isPartD (d : D) : Bool := isWorthD d || (isBlankD d || eqStrD d ANYS)
def isPatternD (d : D) : Bool := match d with
  | .tup (w :: ps) => decide (ps.length ≤ 4) && isWordD w && ps.all isPartD
  | _ => false
def a_is_pattern : ASp := fun ds C R => ∃ d, ds = [d] ∧ datD 50 d = true ∧ R (.bl (isPatternD d)) C
theorem rd_is_pattern : ∀ ds C R, a_is_pattern ds C R → t_is_pattern a_is_word a_is_worth a_is_blank { nx := fun _ C' => R .non C', rt := R } (dstart ["part", "one"] ds) C := by
  rintro ds C R ⟨d, rfl, hd, h⟩
  unfold t_is_pattern
  walk_at "dl"
  simp only [oIsi_tuple (datD_dat hd), D.bl.injEq, exists_eq_left', ex_some]
  cases d <;> simp only [isTupD, isPatternD, if_true, if_false, Bool.false_eq_true, Bool.not_true, Bool.not_false] at h ⊢ <;> first | exact h | skip
  rename_i ds
  walk_at "dl"
  cases ds with
  | nil =>
    simp at h ⊢
    exact h
  | cons w ps =>
    have hw : datD 50 w = true := datD_item hd (by simp)
    have e1 : (1 : Int) ≤ (((w :: ps).length : Nat) : Int) := by rw [List.length_cons]; omega
    by_cases e2 : (((w :: ps).length : Nat) : Int) ≤ 5
    · have e3 : ps.length ≤ 4 := by rw [List.length_cons] at e2; omega
      simp only [e3, decide_true, Bool.true_and] at h
      simp only [e1, e2, decide_true, if_true, D.bl.injEq, exists_eq_left', Bool.not_true, Bool.false_eq_true, if_false, List.getElem?_cons_zero, ex_some]
      refine ⟨w, by simp, hw, ?_⟩
      simp only [D.bl.injEq, exists_eq_left', List.drop_succ_cons, List.drop_zero]
      cases ew : isWordD w with
      | false => rw [ew] at h; simpa using h
      | true =>
        rw [ew] at h
        simp only [Bool.not_true, Bool.false_eq_true, if_false]
        refine lc_all isPartD (by have := datD_len hd; rw [List.length_cons] at this; omega) (fun d hm K hK => ?_) (by simpa using h)
        have hdd : datD 50 d = true := datD_item hd (by simp [hm])
        walk_at "dl"
        refine ⟨d, rfl, hdd, ?_⟩
        unfold isPartD at hK
        cases e4 : isWorthD d with
        | true => rw [e4] at hK; exact ⟨_, rfl, hK⟩
        | false =>
          rw [e4] at hK
          refine ⟨_, rfl, d, rfl, hdd, ?_⟩
          cases e5 : isBlankD d with
          | true => rw [e5] at hK; exact ⟨_, rfl, hK⟩
          | false =>
            rw [e5] at hK
            refine ⟨_, rfl, ?_⟩
            simp only [Bool.false_eq_true, if_false, oIsi_str (datD_dat hdd), D.bl.injEq, exists_eq_left']
            cases d <;> simp only [isStrD, if_true, if_false, Bool.false_eq_true] <;> first | exact hK | skip
            rw [oEq_ok (dat_ok hdd) (show okD 60 (D.str ANYS) = true by decide +kernel)]
            exact hK
    · have e3 : ¬ ps.length ≤ 4 := by rw [List.length_cons] at e2; omega
      simp only [e3, decide_false, Bool.false_and] at h
      simp only [e1, e2, decide_true, decide_false, if_true, D.bl.injEq, exists_eq_left', Bool.not_false]
      exact h
/-- the same, of worths -/
def sameD (x y : D) : Bool := (isStrD x == isStrD y) && D.eqv x y
def alikeD (p t : D) : Bool := match p, t with
  | .tup (a :: ps), .tup (b :: ts) => D.eqv a b && decide (ps.length = ts.length)
  | _, _ => false
def fit1 (k : List (Key × D)) (p t : D) : Option (List (Key × D)) :=
  if isBlankD p = true then (match keyOf p with
    | none => none
    | some kk => match getK k kk with
      | some v => if sameD v t = true then some k else none
      | none => if sameD t t = true then some (putD k kk t) else none)
  else if eqStrD p ANYS = true ∨ sameD p t = true then some k else none
def fitL : List (Key × D) → List (D × D) → Option (List (Key × D))
  | k, [] => some k
  | k, (p, t) :: r => (fit1 k p t).bind fun k' => fitL k' r
def fittedD (p t : D) (k : List (Key × D)) : Option (List (Key × D)) := match p, t with
  | .tup (a :: ps), .tup (b :: ts) => if alikeD (.tup (a :: ps)) (.tup (b :: ts)) = true then fitL k (ps.zip ts) else none
  | _, _ => none
/-- what is known: few, worths -/
def KnOk (k : List (Key × D)) : Prop := k.length ≤ 1000 ∧ ∀ kv ∈ k, datD 50 kv.2 = true
theorem getK_mem {k : List (Key × D)} {kk : Key} {d : D} (h : getK k kk = some d) : ∃ kv ∈ k, kv.2 = d := by
  obtain ⟨kv, h1, h2⟩ := Option.map_eq_some_iff.mp h
  exact ⟨kv, List.mem_of_find?_eq_some h1, h2⟩
theorem putD_len (k : List (Key × D)) (kk : Key) (d : D) : (putD k kk d).length ≤ k.length + 1 := by
  unfold putD
  split
  · rw [List.length_map]; omega
  · simp
theorem putD_mem {k : List (Key × D)} {kk : Key} {d : D} {kv : Key × D} (h : kv ∈ putD k kk d) : kv.2 = d ∨ kv ∈ k := by
  unfold putD at h
  split at h
  · obtain ⟨x, hx, e⟩ := List.mem_map.mp h
    split at e
    · exact .inl (by rw [← e])
    · exact .inr (by rw [← e]; exact hx)
  · rcases List.mem_append.mp h with h | h
    · exact .inr h
    · simp at h; exact .inl (by rw [h])
theorem fit1_len {k k' : List (Key × D)} {p t : D} (h : fit1 k p t = some k') : k'.length ≤ k.length + 1 ∧ ∀ kv ∈ k', kv ∈ k ∨ kv.2 = t := by
  unfold fit1 at h
  split at h
  · split at h
    · cases h
    · split at h
      · split at h
        · cases h; exact ⟨by omega, fun kv hk => .inl hk⟩
        · cases h
      · split at h
        · cases h; exact ⟨putD_len _ _ _, fun kv hk => (putD_mem hk).symm⟩
        · cases h
  · split at h
    · cases h; exact ⟨by omega, fun kv hk => .inl hk⟩
    · cases h
theorem take_snoc {α : Type} {l : List α} {i : Nat} {x : α} (h : l[i]? = some x) : l.take (i + 1) = l.take i ++ [x] := by
  rw [List.take_succ, h]; rfl
theorem split_at {α : Type} {l : List α} {i : Nat} {x : α} (h : l[i]? = some x) : l = l.take i ++ x :: l.drop (i + 1) := by
  obtain ⟨hi, e⟩ := List.getElem?_eq_some_iff.mp h
  rw [← e, ← List.drop_eq_getElem_cons hi, List.take_append_drop]
theorem oIn_at {x y : D} {C : Cells} {bs : List D} {R : D → Cells → Prop} (h : lstOf C y = some bs) (h1 : okD 60 x = true) (h2 : bs.all (okD 60) = true) : oIn x y C R = R (.bl (bs.any fun z => D.eqv z x)) C := by
  cases y <;> first | (simp [lstOf] at h; done) | skip
  · cases h
    exact oIn_lst h1 h2
  · rename_i p
    refine oIn_of ?_
    have e1 : dctOf C (.ref p) = none := by
      have h : (C p).bind cellLst = some bs := h
      show (C p).bind cellDct = none
      cases e : C p with
      | none => rfl
      | some c =>
        rw [e] at h
        cases c <;> first | rfl | (simp [cellLst] at h; done) | skip
        rename_i n c
        cases c <;> first | rfl | (simp [cellLst] at h; done)
    unfold inO
    simp only [DL.strOf, tupOf, e1, h]
    exact if_pos ⟨h1, h2⟩
def memD (x : D) (bs : List D) : Bool := bs.any fun z => D.eqv z x
def allDat (bs : List D) : Bool := bs.all (datD 50)
theorem allDat_ok {bs : List D} (h : allDat bs = true) : bs.all (okD 60) = true := List.all_eq_true.mpr fun d hd => dat_ok (List.all_eq_true.mp h d hd)
def blanksL (ps : List D) : List D := (ps.drop 1).filter isBlankD
def a_blanks_of : ASp := fun ds C R => ∃ ps, ds = [.tup ps] ∧ datD 50 (.tup ps) = true ∧ R (.lst (blanksL ps)) C
theorem rd_blanks_of : ∀ ds C R, a_blanks_of ds C R → t_blanks_of a_is_blank { nx := fun _ C' => R .non C', rt := R } (dstart ["pattern", "part"] ds) C := by
  rintro ds C R ⟨ps, rfl, hd, h⟩
  unfold t_blanks_of
  walk_at "dl"
  refine lc_filter isBlankD id (by have := datD_len hd; rw [List.length_drop]; omega) (fun d hm K hK => ?_) (by rw [List.map_id]; exact h)
  walk_at "dl"
  refine ⟨d, rfl, datD_item hd (List.mem_of_mem_drop hm), ?_⟩
  cases e : isBlankD d with
  | true => rw [e] at hK; walk_at "dl"; exact hK
  | false => rw [e] at hK; walk_at "dl"; exact hK
def isSideD (d : D) (bs : List D) : Bool := isWorthD d || (isBlankD d && memD d bs)
def a_is_side : ASp := fun ds C R => ∃ d y bs, ds = [d, y] ∧ datD 50 d = true ∧ lstOf C y = some bs ∧ allDat bs = true ∧ R (.bl (isSideD d bs)) C
theorem rd_is_side : ∀ ds C R, a_is_side ds C R → t_is_side a_is_worth a_is_blank { nx := fun _ C' => R .non C', rt := R } (dstart ["part", "known"] ds) C := by
  rintro ds C R ⟨d, y, bs, rfl, hd, hb, hbd, h⟩
  unfold t_is_side
  walk_at "dl"
  refine ⟨d, rfl, hd, ?_⟩
  unfold isSideD at h
  cases e : isWorthD d with
  | true => rw [e] at h; walk_at "dl"; exact h
  | false =>
    rw [e] at h
    walk_at "dl"
    refine ⟨d, rfl, hd, ?_⟩
    cases e2 : isBlankD d with
    | false => rw [e2] at h; walk_at "dl"; exact h
    | true =>
      rw [e2] at h
      walk_at "dl"
      rw [oIn_at hb (dat_ok hd) (allDat_ok hbd)]
      exact h
abbrev ISS : Str := "is"
abbrev NOTS : Str := "not"
abbrev LESSS : Str := "less"
abbrev SAMES : Str := "same"
abbrev UNLS : Str := "unlike"
def isWantD (d : D) (bs : List D) : Bool := match d with
  | .tup (.str z :: r) => if (z == ISS || z == NOTS) = true then (match r with
      | [p] => isPatternD p
      | _ => false)
    else ((z == LESSS || z == SAMES || z == UNLS) && decide (r.length = 2)) && r.all fun x => isSideD x bs
  | _ => false
def a_is_want : ASp := fun ds C R => ∃ d y bs, ds = [d, y] ∧ datD 50 d = true ∧ lstOf C y = some bs ∧ allDat bs = true ∧ R (.bl (isWantD d bs)) C
theorem rd_is_want : ∀ ds C R, a_is_want ds C R → t_is_want a_is_pattern a_is_side { nx := fun _ C' => R .non C', rt := R } (dstart ["part", "known", "want"] ds) C := by
  rintro ds C R ⟨d, y, bs, rfl, hd, hb, hbd, h⟩
  unfold t_is_want
  walk_at "dl"
  simp only [oIsi_tuple (datD_dat hd), D.bl.injEq, exists_eq_left']
  cases d <;> simp only [isTupD, isWantD, if_true, if_false, Bool.false_eq_true, Bool.not_true, Bool.not_false] at h ⊢ <;> first | exact h | skip
  rename_i ds
  rw [oEq_ok (dat_ok hd) (show okD 60 (D.tup []) = true from rfl)]
  cases ds with
  | nil =>
    walk_at "dl"
    exact h
  | cons w r =>
    have hw : datD 50 w = true := datD_item hd (by simp)
    have e0 : D.eqv (.tup (w :: r)) (.tup []) = false := by simp [D.eqv, D.eqvL]
    rw [e0]
    walk_at "dl"
    simp only [oIsi_str (datD_dat hw), D.bl.injEq, exists_eq_left']
    cases w <;> simp only [isStrD, if_true, if_false, Bool.false_eq_true, Bool.not_true, Bool.not_false] at h ⊢ <;> first | exact h | skip
    rename_i z
    rw [oIn_tup rfl rfl]
    walk_at "dl"
    simp only [List.any, D.eqv, Bool.or_false]
    have e1 : (ISS == z || NOTS == z) = (z == ISS || z == NOTS) := by rw [Bool.beq_comm (a := ISS), Bool.beq_comm (a := NOTS)]
    rw [e1]
    cases ez : (z == ISS || z == NOTS) with
    | true =>
      rw [ez] at h
      walk_at "dl"
      rcases r with _ | ⟨p, _ | ⟨p2, r⟩⟩
      · exact h
      · refine ⟨p, rfl, p, rfl, datD_item hd (by simp), ?_⟩
        exact h
      · have e2 : (((D.str z :: p :: p2 :: r).length : Nat) : Int) ≠ 2 := by simp only [List.length_cons]; omega
        walk_at "dl"
        rw [show decide ((((r.length + 1 + 1 + 1 : Nat)) : Int) = 2) = false from decide_eq_false (by omega)]
        walk_at "dl"
        exact h
    | false =>
      rw [ez] at h
      walk_at "dl"
      rw [oIn_tup rfl rfl]
      walk_at "dl"
      simp only [List.any, D.eqv, Bool.or_false]
      have e1 : (LESSS == z || (SAMES == z || UNLS == z)) = (z == LESSS || z == SAMES || z == UNLS) := by rw [Bool.beq_comm (a := LESSS), Bool.beq_comm (a := SAMES), Bool.beq_comm (a := UNLS), Bool.or_assoc]
      rw [e1]
      cases e3 : (z == LESSS || z == SAMES || z == UNLS) with
      | false => rw [e3] at h; walk_at "dl"; exact h
      | true =>
        rw [e3] at h
        have e4 : decide ((((r.length + 1 : Nat)) : Int) = 3) = decide (r.length = 2) := by rw [decide_eq_decide]; omega
        walk_at "dl"
        rw [e4]
        cases e5 : decide (r.length = 2) with
        | false => rw [e5] at h; walk_at "dl"; exact h
        | true =>
          rw [e5] at h
          walk_at "dl"
          refine lc_all (fun x => isSideD x bs) (by have := datD_len hd; rw [List.length_cons] at this; show r.length ≤ _; omega) (fun d hm K hK => ?_) h
          have hm : d ∈ r := hm
          walk_at "dl"
          exact ⟨d, y, bs, rfl, datD_item hd (by simp [hm]), hb, hbd, hK⟩
def isPlaceD (bs : List D) (d : D) : Bool := match d with
  | .tup [a, b] => isBlankD a && memD a bs && isNumD b (-99) 99
  | .tup _ => false
  | d => isSideD d bs
def isTemplateD (d : D) (bs : List D) : Bool := match d with
  | .tup (w :: ps) => decide (ps.length ≤ 4) && isWordD w && ps.all (isPlaceD bs)
  | _ => false
def a_is_template : ASp := fun ds C R => ∃ d y bs, ds = [d, y] ∧ datD 50 d = true ∧ lstOf C y = some bs ∧ allDat bs = true ∧ R (.bl (isTemplateD d bs)) C
theorem rd_is_template : ∀ ds C R, a_is_template ds C R → t_is_template a_is_word a_is_blank a_is_number a_is_side { nx := fun _ C' => R .non C', rt := R } (dstart ["part", "known", "one"] ds) C := by
  rintro ds C R ⟨d, y, bs, rfl, hd, hb, hbd, h⟩
  unfold t_is_template
  walk_at "dl"
  simp only [oIsi_tuple (datD_dat hd), D.bl.injEq, exists_eq_left']
  cases d <;> simp only [isTupD, isTemplateD, if_true, if_false, Bool.false_eq_true, Bool.not_true, Bool.not_false] at h ⊢ <;> first | exact h | skip
  rename_i ds
  walk_at "dl"
  cases ds with
  | nil =>
    walk_at "dl"
    exact h
  | cons w ps =>
    have hw : datD 50 w = true := datD_item hd (by simp)
    have e1 : (1 : Int) ≤ (((ps.length + 1 : Nat)) : Int) := by omega
    by_cases e3 : ps.length ≤ 4
    · have e2 : (((ps.length + 1 : Nat)) : Int) ≤ 5 := by omega
      simp only [e3, decide_true, Bool.true_and] at h
      walk_at "dl"
      simp only [e1, e2, decide_true]
      walk_at "dl"
      refine ⟨w, by simp, hw, ?_⟩
      cases ew : isWordD w with
      | false => rw [ew] at h; walk_at "dl"; exact h
      | true =>
        rw [ew] at h
        walk_at "dl"
        obtain ⟨Pv, hPv⟩ : ∃ Pv : Nat → DSt → Cells → Prop, ∀ i δ C', Pv i δ C' ↔ ∃ o, δ = [some (.tup (w :: ps)), some y, o] ∧ C' = C ∧ (ps.take i).all (isPlaceD bs) = true := ⟨_, fun _ _ _ => Iff.rfl⟩
        refine for_fix (ds := ps) Pv ((hPv _ _ _).mpr ⟨none, rfl, rfl, rfl⟩) (fun i d δ C' hi hv => ?_) (fun δ C' hv => ?_)
        · obtain ⟨o, rfl, rfl, hal⟩ := (hPv _ _ _).mp hv
          have hd' : datD 50 d = true := datD_item hd (List.mem_cons_of_mem _ (List.mem_of_getElem? hi))
          have good : isPlaceD bs d = true → Pv (i + 1) [some (.tup (w :: ps)), some y, some d] C' := fun e => (hPv _ _ _).mpr ⟨_, rfl, rfl, by rw [take_snoc hi, List.all_append, hal]; simp [e]⟩
          have bad : isPlaceD bs d = false → R (.bl false) C' := fun e => by
            have : ps.all (isPlaceD bs) = false := List.all_eq_false.mpr ⟨d, List.mem_of_getElem? hi, by simp [e]⟩
            rw [this] at h
            exact h
          walk_at "dl"
          simp only [oIsi_tuple (datD_dat hd'), D.bl.injEq, exists_eq_left']
          have side : isTupD d = false → isPlaceD bs d = isSideD d bs := fun e => by cases d <;> first | rfl | (cases e)
          cases et : isTupD d with
          | false =>
            rw [side et] at good bad
            walk_at "dl"
            refine ⟨d, y, bs, rfl, hd', hb, hbd, ?_⟩
            cases e : isSideD d bs with
            | true => walk_at "dl"; exact good e
            | false => walk_at "dl"; exact bad e
          | true =>
            obtain ⟨qs, rfl⟩ : ∃ qs, d = .tup qs := by cases d <;> first | exact ⟨_, rfl⟩ | cases et
            walk_at "dl"
            rcases qs with _ | ⟨a, _ | ⟨b, _ | ⟨c, qs⟩⟩⟩
            · exact bad rfl
            · exact bad rfl
            · have ha := datD_item hd' (show a ∈ [a, b] by simp)
              have hb' := datD_item hd' (show b ∈ [a, b] by simp)
              simp only [isPlaceD] at good bad
              walk_at "dl"
              simp only [show decide (((2 : Nat) : Int) = 2) = true from rfl]
              walk_at "dl"
              refine ⟨a, rfl, ha, ?_⟩
              cases ea : isBlankD a with
              | false => rw [ea] at bad; walk_at "dl"; exact bad rfl
              | true =>
                rw [ea] at bad good
                walk_at "dl"
                rw [oNotIn_eq, oIn_at hb (dat_ok ha) (allDat_ok hbd)]
                walk_at "dl"
                cases em : memD a bs with
                | false =>
                  rw [em] at bad
                  rw [show (bs.any fun z => D.eqv z a) = false from em]
                  walk_at "dl"
                  exact bad rfl
                | true =>
                  rw [em] at bad good
                  rw [show (bs.any fun z => D.eqv z a) = true from em]
                  walk_at "dl"
                  refine ⟨b, -99, 99, rfl, datD_dat hb', ?_⟩
                  cases eb : isNumD b (-99) 99 with
                  | false => walk_at "dl"; exact bad (by simp [eb])
                  | true => walk_at "dl"; exact good (by simp [eb])
            · walk_at "dl"
              rw [show decide ((((qs.length + 1 + 1 + 1 : Nat)) : Int) = 2) = false from decide_eq_false (by omega)]
              walk_at "dl"
              exact bad rfl
        · obtain ⟨o, rfl, rfl, hal⟩ := (hPv _ _ _).mp hv
          walk_at "dl"
          rw [List.take_length] at hal
          rw [hal] at h
          exact h
    · have e2 : ¬ (((ps.length + 1 : Nat)) : Int) ≤ 5 := by omega
      simp only [e3, decide_false, Bool.false_and] at h
      walk_at "dl"
      simp only [e1, e2, decide_true, decide_false]
      walk_at "dl"
      exact h
abbrev TAKES : Str := "take"
def tellerD (z : Str) : Bool := z == "add" || z == "hold" || z == "say"
/-- the want of a number looks for a thing -/
def isWantAt (ws : List D) (d : D) : Bool := match d with
  | .int i => (match atI ws i with
    | some (.tup (.str z :: _)) => z == ISS
    | _ => false)
  | _ => false
def isDeedD (d : D) (ws bs : List D) : Bool := match d with
  | .tup [.str z, x] => if z == TAKES then isNumD x 0 (ws.length - 1 : Int) && isWantAt ws x else tellerD z && isTemplateD x bs
  | _ => false
/-- a want, as far as it was looked at -/
def headStr (d : D) : Bool := match d with
  | .tup (.str _ :: _) => true
  | _ => false
theorem want_head {d : D} {bs : List D} (h : isWantD d bs = true) : headStr d = true := by
  cases d <;> first | (simp [isWantD] at h; done) | skip
  rename_i ds
  cases ds with
  | nil => simp [isWantD] at h
  | cons w r => cases w <;> first | rfl | (simp [isWantD] at h; done)
def a_is_deed : ASp := fun ds C R => ∃ d ws y bs, ds = [d, .tup ws, y] ∧ datD 50 d = true ∧ datD 50 (.tup ws) = true ∧ ws.all headStr = true ∧ lstOf C y = some bs ∧ allDat bs = true ∧ R (.bl (isDeedD d ws bs)) C
theorem eqv_str {a b : Str} : D.eqv (.str a) (.str b) = (a == b) := rfl
theorem rd_is_deed : ∀ ds C R, a_is_deed ds C R → t_is_deed a_is_number a_is_template { nx := fun _ C' => R .non C', rt := R } (dstart ["part", "wants", "known"] ds) C := by
  rintro ds C R ⟨d, ws, y, bs, rfl, hd, hw, hh, hb, hbd, h⟩
  unfold t_is_deed
  walk_at "dl"
  simp only [oIsi_tuple (datD_dat hd), D.bl.injEq, exists_eq_left']
  cases d <;> simp only [isTupD, isDeedD, if_true, if_false, Bool.false_eq_true, Bool.not_true, Bool.not_false] at h ⊢ <;> first | exact h | skip
  rename_i ds
  walk_at "dl"
  rcases ds with _ | ⟨a, _ | ⟨b, _ | ⟨c, qs⟩⟩⟩
  · exact h
  · have h : R (.bl false) C := by cases a <;> exact h
    exact h
  · have ha := datD_item hd (show a ∈ [a, b] by simp)
    have hb' := datD_item hd (show b ∈ [a, b] by simp)
    walk_at "dl"
    simp only [show decide (((2 : Nat) : Int) = 2) = true from rfl]
    walk_at "dl"
    simp only [oIsi_str (datD_dat ha), D.bl.injEq, exists_eq_left']
    cases a <;> simp only [isStrD, if_true, if_false, Bool.false_eq_true, Bool.not_true, Bool.not_false] at h ⊢ <;> first | exact h | skip
    rename_i z
    rw [oEq_ok (dat_ok ha) (show okD 60 (D.str TAKES) = true by decide +kernel), eqv_str]
    walk_at "dl"
    cases ez : (z == TAKES) with
    | true =>
      rw [ez] at h
      walk_at "dl"
      refine ⟨b, 0, (ws.length : Int) - 1, rfl, datD_dat hb', ?_⟩
      cases en : isNumD b 0 ((ws.length : Int) - 1) with
      | false => rw [en] at h; walk_at "dl"; exact h
      | true =>
        rw [en] at h
        walk_at "dl"
        obtain ⟨i, rfl⟩ : ∃ i, b = .int i := by cases b <;> first | exact ⟨_, rfl⟩ | (simp [isNumD] at en)
        simp only [isNumD, Bool.and_eq_true, decide_eq_true_eq] at en
        obtain ⟨n, rfl⟩ : ∃ n : Nat, i = (n : Int) := ⟨i.toNat, by omega⟩
        have hn : n < ws.length := by omega
        walk_at "dl"
        refine ⟨ws[n], List.getElem?_eq_getElem hn, ?_⟩
        have hm : ws[n] ∈ ws := List.getElem_mem hn
        have hs := List.all_eq_true.mp hh _ hm
        have hdw := datD_item hw hm
        simp only [isWantAt, atI_cast, List.getElem?_eq_getElem hn] at h
        generalize ws[n] = x at h hs hdw ⊢
        cases x <;> first | (simp [headStr] at hs; done) | skip
        rename_i ds
        cases ds with
        | nil => simp [headStr] at hs
        | cons v r =>
          cases v <;> first | (simp [headStr] at hs; done) | skip
          walk_at "dl"
          have hv := datD_item hdw List.mem_cons_self
          rw [oEq_ok (dat_ok hv) (show okD 60 (D.str ISS) = true by decide +kernel), eqv_str]
          exact h
    | false =>
      rw [ez] at h
      walk_at "dl"
      rw [oIn_tup rfl rfl]
      walk_at "dl"
      simp only [List.any, D.eqv, Bool.or_false]
      have e1 : ((("add" : Str) == z) || ((("hold" : Str) == z) || (("say" : Str) == z))) = tellerD z := by
        unfold tellerD
        rw [Bool.beq_comm (a := ("add" : Str)), Bool.beq_comm (a := ("hold" : Str)), Bool.beq_comm (a := ("say" : Str)), Bool.or_assoc]
      rw [e1]
      cases et : tellerD z with
      | false => rw [et] at h; walk_at "dl"; exact h
      | true =>
        rw [et] at h
        walk_at "dl"
        exact ⟨b, y, bs, rfl, hb', hb, hbd, h⟩
  · have h : R (.bl false) C := by cases a <;> exact h
    walk_at "dl"
    rw [show decide ((((qs.length + 1 + 1 + 1 : Nat)) : Int) = 2) = false from decide_eq_false (by omega)]
    walk_at "dl"
    exact h
/-- wants in order, each with the blanks of those ahead -/
def wantsBs : List D → List D → Option (List D)
  | bs, [] => some bs
  | bs, w :: ws => if isWantD w bs = true then (match w with
      | .tup (.str z :: .tup ps :: _) => wantsBs (if z == ISS then bs ++ blanksL ps else bs) ws
      | _ => wantsBs bs ws)
    else none
def firstIs (ws : List D) : Bool := match ws with
  | .tup (.str z :: _) :: _ => z == ISS
  | _ => false
def badPartD (d : D) (names : List D) : D := match d with
  | .tup [name, rank, wants, deeds] =>
    if (!isWordD name || memD name names) = true then .int 0
    else if isNumD rank (-9) 9 = false then .int 1
    else match wants with
      | .tup ws => if ws.length < 1 ∨ 5 < ws.length ∨ firstIs ws = false then .int 2
        else match wantsBs [] ws with
          | none => .int 2
          | some bs => match deeds with
            | .tup qs => if qs.length < 1 ∨ 4 < qs.length then .int 3 else if (qs.all fun q => isDeedD q ws bs) = true then .non else .int 3
            | _ => .int 3
      | _ => .int 2
  | _ => .int (-1)
theorem oEq_str {x y : Str} {C : Cells} {R : D → Cells → Prop} (hx : PyData.strOk x = true) (hy : PyData.strOk y = true) : oEq (.str x) (.str y) C R = R (.bl (x == y)) C := oEq_ok (x := .str x) (y := .str y) hx hy
theorem oNe_str {x y : Str} {C : Cells} {R : D → Cells → Prop} (hx : PyData.strOk x = true) (hy : PyData.strOk y = true) : oNe (.str x) (.str y) C R = R (.bl (!(x == y))) C := oNe_ok (x := .str x) (y := .str y) hx hy
theorem datD_sok {n : Nat} {z : Str} (h : datD n (.str z) = true) : PyData.strOk z = true := by
  have h : (PyData.strOk z && decide (z.length ≤ 6000000)) = true := by cases n <;> exact h
  exact (Bool.and_eq_true _ _ ▸ h).1
theorem okIS : PyData.strOk ISS = true := by decide +kernel
theorem blanksL_len (ps : List D) : (blanksL ps).length ≤ ps.length := by
  unfold blanksL
  refine Nat.le_trans (List.length_filter_le _ _) ?_
  rw [List.length_drop]; omega
theorem blanksL_mem {ps : List D} {x : D} (h : x ∈ blanksL ps) : x ∈ ps ∧ isBlankD x = true := by
  obtain ⟨h1, h2⟩ := List.mem_filter.mp h
  exact ⟨List.mem_of_mem_drop h1, h2⟩
/-- what one want adds -/
def wantAdd (bs : List D) (w : D) : List D := match w with
  | .tup (.str z :: .tup ps :: _) => if z == ISS then bs ++ blanksL ps else bs
  | _ => bs
theorem wantsBs_cons {bs : List D} {w : D} {ws : List D} : wantsBs bs (w :: ws) = if isWantD w bs = true then wantsBs (wantAdd bs w) ws else none := by
  show (if isWantD w bs = true then (match w with
      | .tup (.str z :: .tup ps :: _) => wantsBs (if z == ISS then bs ++ blanksL ps else bs) ws
      | _ => wantsBs bs ws)
    else none) = _
  split
  · unfold wantAdd
    split <;> rfl
  · rfl
theorem wantsBs_snoc {w : D} : ∀ {ws : List D} {bs : List D}, wantsBs bs (ws ++ [w]) = (wantsBs bs ws).bind fun b => if isWantD w b = true then some (wantAdd b w) else none
  | [], bs => by simp [wantsBs_cons, wantsBs]
  | v :: ws, bs => by
    rw [List.cons_append, wantsBs_cons, wantsBs_cons]
    split
    · exact wantsBs_snoc
    · rfl
theorem wantsBs_none {w : D} {r : List D} : ∀ {ws : List D} {bs b : List D}, wantsBs bs ws = some b → isWantD w b = false → wantsBs bs (ws ++ w :: r) = none
  | [], bs, b, h, e => by
    cases h
    rw [List.nil_append, wantsBs_cons, if_neg (by simp [e])]
  | v :: ws, bs, b, h, e => by
    rw [wantsBs_cons] at h
    rw [List.cons_append, wantsBs_cons]
    split at h
    · rename_i g
      rw [if_pos g]
      exact wantsBs_none h e
    · cases h
theorem pattern_tup {d : D} (h : isPatternD d = true) : ∃ w ps, d = .tup (w :: ps) ∧ ps.length ≤ 4 := by
  cases d <;> first | (simp [isPatternD] at h; done) | skip
  rename_i ds
  cases ds with
  | nil => simp [isPatternD] at h
  | cons w ps =>
    simp only [isPatternD, Bool.and_eq_true, decide_eq_true_eq] at h
    exact ⟨w, ps, rfl, h.1.1⟩
/-- the shapes a want can have -/
theorem want_cases {d : D} {bs : List D} (h : isWantD d bs = true) : (∃ z p, d = .tup [.str z, p] ∧ (z = ISS ∨ z = NOTS) ∧ isPatternD p = true) ∨ (∃ z x y, d = .tup [.str z, x, y] ∧ (z = LESSS ∨ z = SAMES ∨ z = UNLS) ∧ isSideD x bs = true ∧ isSideD y bs = true) := by
  cases d <;> first | (simp [isWantD] at h; done) | skip
  rename_i ds
  cases ds with
  | nil => simp [isWantD] at h
  | cons w r =>
    cases w <;> first | (simp [isWantD] at h; done) | skip
    rename_i z
    simp only [isWantD] at h
    split at h
    · rename_i hz
      rcases r with _ | ⟨p, _ | ⟨q, r⟩⟩
      · cases h
      · refine .inl ⟨z, p, rfl, ?_, h⟩
        simpa using hz
      · cases h
    · rename_i hz
      simp only [Bool.and_eq_true, decide_eq_true_eq, Bool.or_eq_true, beq_iff_eq] at h
      obtain ⟨⟨h1, h2⟩, h3⟩ := h
      rcases r with _ | ⟨p, _ | ⟨q, _ | ⟨q2, r⟩⟩⟩ <;> first | (simp at h2; done) | skip
      simp only [List.all_cons, List.all_nil, Bool.and_true, Bool.and_eq_true] at h3
      exact .inr ⟨z, p, q, rfl, by rcases h1 with (h1 | h1) | h1 <;> simp [h1], h3.1, h3.2⟩
theorem wantAdd_len {w : D} {bs : List D} (h : isWantD w bs = true) : (wantAdd bs w).length ≤ bs.length + 5 := by
  rcases want_cases h with ⟨z, p, rfl, hz, hp⟩ | ⟨z, x, y, rfl, hz, hx, hy⟩
  · obtain ⟨w, ps, rfl, hl⟩ := pattern_tup hp
    simp only [wantAdd]
    split
    · rw [List.length_append]
      have := blanksL_len (w :: ps)
      rw [List.length_cons] at this
      omega
    · omega
  · unfold wantAdd
    split
    · rename_i e
      injection e with e
      injection e with e1 e2
      injection e1 with e1
      subst e1
      have : (z == ISS) = false := by rcases hz with rfl | rfl | rfl <;> decide +kernel
      rw [this]
      simp
    · omega
theorem wantAdd_dat {w : D} {bs : List D} (hb : allDat bs = true) (hw : datD 50 w = true) : allDat (wantAdd bs w) = true := by
  unfold wantAdd
  split
  · rename_i z ps r
    split
    · rw [allDat, List.all_append, Bool.and_eq_true]
      refine ⟨hb, List.all_eq_true.mpr fun x hx => ?_⟩
      exact datD_item (datD_item hw (show D.tup ps ∈ [D.str z, D.tup ps] ++ r by simp)) (blanksL_mem hx).1
    · exact hb
  · exact hb
def a_bad_part : ASp := fun ds C R => ∃ d y bs, ds = [d, y] ∧ datD 50 d = true ∧ lstOf C y = some bs ∧ allDat bs = true ∧ R (badPartD d bs) C
theorem rd_bad_part : ∀ ds C R, a_bad_part ds C R → t_bad_part a_is_word a_is_number a_is_want a_blanks_of a_is_deed { nx := fun _ C' => lss R .non C', rt := lss R } (dstart ["rule", "names", "name", "rank", "wants", "deeds", "known", "number", "want", "deed"] ds) C := by
  rintro ds C R ⟨d, y, bs, rfl, hd, hb, hbd, h⟩
  unfold t_bad_part
  walk_at "dl"
  simp only [oIsi_tuple (datD_dat hd), D.bl.injEq, exists_eq_left']
  cases d <;> simp only [isTupD, if_true, if_false, Bool.false_eq_true, Bool.not_true, Bool.not_false] at h ⊢ <;> first | exact lss_of h | skip
  rename_i ds
  by_cases h4 : ds.length = 4
  rotate_left
  · have e : badPartD (.tup ds) bs = .int (-1) := by
      rcases ds with _ | ⟨a, _ | ⟨b, _ | ⟨c, _ | ⟨d, _ | ⟨e, r⟩⟩⟩⟩⟩ <;> first | rfl | (exact absurd rfl h4)
    rw [e] at h
    walk_at "dl"
    rw [show decide (((ds.length : Nat) : Int) = 4) = false from decide_eq_false (by omega)]
    walk_at "dl"
    exact lss_of h
  obtain ⟨name, rank, wants, deeds, rfl⟩ : ∃ a b c d, ds = [a, b, c, d] := by
    rcases ds with _ | ⟨a, _ | ⟨b, _ | ⟨c, _ | ⟨d, _ | ⟨e, r⟩⟩⟩⟩⟩ <;> first | exact ⟨_, _, _, _, rfl⟩ | (simp at h4; done)
  have hn := datD_item hd (show name ∈ [name, rank, wants, deeds] by simp)
  have hr := datD_item hd (show rank ∈ [name, rank, wants, deeds] by simp)
  have hw := datD_item hd (show wants ∈ [name, rank, wants, deeds] by simp)
  have hq := datD_item hd (show deeds ∈ [name, rank, wants, deeds] by simp)
  walk_at "dl"
  simp only [show decide (((4 : Nat) : Int) = 4) = true from rfl]
  walk_at "dl"
  refine ⟨name, rfl, hn, ?_⟩
  simp only [badPartD] at h
  cases en : isWordD name with
  | false =>
    simp only [en, Bool.not_false, Bool.true_or, if_true] at h
    walk_at "dl"
    exact lss_of h
  | true =>
    simp only [en, Bool.not_true, Bool.false_or] at h
    walk_at "dl"
    rw [oIn_at hb (dat_ok hn) (allDat_ok hbd)]
    walk_at "dl"
    cases em : memD name bs with
    | true =>
      rw [em, if_pos rfl] at h
      rw [show (bs.any fun z => D.eqv z name) = true from em]
      walk_at "dl"
      exact lss_of h
    | false =>
      rw [em, if_neg (by simp)] at h
      rw [show (bs.any fun z => D.eqv z name) = false from em]
      walk_at "dl"
      refine ⟨rank, -9, 9, rfl, datD_dat hr, ?_⟩
      cases ek : isNumD rank (-9) 9 with
      | false =>
        rw [ek, if_pos rfl] at h
        walk_at "dl"
        exact lss_of h
      | true =>
        rw [ek, if_neg (by simp)] at h
        walk_at "dl"
        simp only [oIsi_tuple (datD_dat hw), D.bl.injEq, exists_eq_left']
        cases wants <;> simp only [isTupD, if_true, if_false, Bool.false_eq_true, Bool.not_true, Bool.not_false] at h ⊢ <;> first | exact lss_of h | skip
        rename_i ws
        walk_at "dl"
        by_cases hl1 : ws.length < 1
        · rw [if_pos (.inl hl1)] at h
          rw [show decide ((1 : Int) ≤ (ws.length : Nat)) = false from decide_eq_false (by omega)]
          walk_at "dl"
          exact lss_of h
        rw [show decide ((1 : Int) ≤ (ws.length : Nat)) = true from decide_eq_true (by omega)]
        by_cases hl2 : 5 < ws.length
        · rw [if_pos (.inr (.inl hl2))] at h
          rw [show decide (((ws.length : Nat) : Int) ≤ 5) = false from decide_eq_false (by omega)]
          walk_at "dl"
          exact lss_of h
        rw [show decide (((ws.length : Nat) : Int) ≤ 5) = true from decide_eq_true (by omega)]
        walk_at "dl"
        intro q hqn
        obtain ⟨Pv, hPv⟩ : ∃ Pv : Nat → DSt → Cells → Prop, ∀ i δ C', Pv i δ C' ↔ ∃ o1 o2 kb, δ = [some (.tup [name, rank, .tup ws, deeds]), some y, some name, some rank, some (.tup ws), some deeds, some (.ref q), o1, o2, none] ∧ C' = updC C q (.lst kb) ∧ wantsBs [] (ws.take i) = some kb ∧ kb.length ≤ 5 * i ∧ allDat kb = true ∧ (ws.take i).all headStr = true ∧ (0 < i → firstIs ws = true) := ⟨_, fun _ _ _ => Iff.rfl⟩
        refine ⟨rfl, for_enum (x := .tup ws) (ds := ws) (fun _ => rfl) Pv ((hPv _ _ _).mpr ⟨none, none, [], rfl, rfl, rfl, by simp, rfl, rfl, by omega⟩) (fun i w δ C' hi hv => ?_) (fun δ C' hv => ?_)⟩
        · obtain ⟨o1, o2, kb, rfl, rfl, hkb, hkl, hkd, hhd, hfi⟩ := (hPv _ _ _).mp hv
          have hil : i < ws.length := (List.getElem?_eq_some_iff.mp hi).1
          have hwd := datD_item hw (List.mem_of_getElem? hi)
          have bad : isWantD w kb = false ∨ firstIs ws = false → lss R (.int 2) (updC C q (.lst kb)) := fun e => by
            refine lss_upd hqn ?_
            rcases e with e | e
            · have : wantsBs [] ws = none := by rw [split_at hi]; exact wantsBs_none hkb e
              rw [this] at h
              split at h <;> exact h
            · rw [if_pos (.inr (.inr e))] at h
              exact h
          walk_at "dl"
          refine ⟨w, .ref q, kb, rfl, hwd, lstOf_upd, hkd, ?_⟩
          cases ew : isWantD w kb with
          | false => walk_at "dl"; exact bad (.inl ew)
          | true =>
            have good : firstIs ws = true → ∀ kb2, kb2 = wantAdd kb w → Pv (i + 1) [some (.tup [name, rank, .tup ws, deeds]), some y, some name, some rank, some (.tup ws), some deeds, some (.ref q), some (.int (i : Nat)), some w, none] (updC C q (.lst kb2)) := fun e kb2 e2 => by
              subst e2
              refine (hPv _ _ _).mpr ⟨_, _, _, rfl, rfl, ?_, ?_, wantAdd_dat hkd hwd, ?_, fun _ => e⟩
              · rw [take_snoc hi, wantsBs_snoc, hkb]
                show (if isWantD w kb = true then some (wantAdd kb w) else none) = _
                rw [if_pos ew]
              · have := wantAdd_len ew; omega
              · rw [take_snoc hi, List.all_append, hhd]
                simp [want_head ew]
            have hkl2 : kb.length + 5 ≤ sizeLine := by have := ml; omega
            walk_at "dl"
            rcases want_cases ew with ⟨z, p, rfl, hz, hp⟩ | ⟨z, x, x2, rfl, hz, hx, hy⟩
            all_goals
              have hzd := datD_item hwd (show D.str z ∈ D.str z :: _ from List.mem_cons_self)
              have hfst : i = 0 → firstIs ws = (z == ISS) := fun e => by
                subst e
                rcases ws with _ | ⟨v, r⟩
                · cases hi
                · cases hi; rfl
              have hsec : i ≠ 0 → firstIs ws = true := fun e => hfi (by omega)
              have hz0 : z = NOTS ∨ z = LESSS ∨ z = SAMES ∨ z = UNLS → (z == ISS) = false := by rintro (rfl | rfl | rfl | rfl) <;> decide +kernel
              have hi0 : decide ((i : Int) = 0) = decide (i = 0) := by rw [decide_eq_decide]; omega
              rw [hi0]
              walk_at "dl"
              simp only [oEq_str (datD_sok hzd) okIS, oNe_str (datD_sok hzd) okIS]
              walk_at "dl"
            · obtain ⟨v, ps, rfl, hpl⟩ := pattern_tup hp
              have hpd := datD_item hwd (show D.tup (v :: ps) ∈ [D.str z, D.tup (v :: ps)] by simp)
              cases ez : (z == ISS) with
              | true =>
                have hf : firstIs ws = true := by
                  by_cases e : i = 0
                  · rw [hfst e, ez]
                  · exact hsec e
                have fin : isLst (updC C q (.lst kb)) (.ref q) ∧ a_blanks_of [.tup (v :: ps)] (updC C q (.lst kb)) fun x C1 => omExtend (.ref q) [x] C1 fun x C1 => Pv (i + 1) [some (.tup [name, rank, .tup ws, deeds]), some y, some name, some rank, some (.tup ws), some deeds, some (.ref q), some (.int (i : Nat)), some (.tup [.str z, .tup (v :: ps)]), none] C1 := by
                  refine ⟨by rw [isLst_upd]; trivial, _, rfl, hpd, ?_⟩
                  refine ext_upd (es := blanksL (v :: ps)) rfl ?_ (good hf _ ?_)
                  · have := blanksL_len (v :: ps)
                    rw [List.length_cons] at this
                    omega
                  · simp only [wantAdd, ez, if_true]
                by_cases e : i = 0
                · simp only [e, decide_true] at fin ⊢
                  walk_at "dl"
                  simpa only [isLst_upd, true_and] using fin
                · simp only [e, decide_false]
                  walk_at "dl"
                  simpa only [isLst_upd, true_and] using fin
              | false =>
                have ea : wantAdd kb (.tup [.str z, .tup (v :: ps)]) = kb := by simp only [wantAdd, ez]; simp
                by_cases e : i = 0
                · rw [show decide (i = 0) = true from decide_eq_true e]
                  simp (config := { failIfUnchanged := false }) only [ez]
                  walk_at "dl"
                  exact bad (.inr (by rw [hfst e, ez]))
                · rw [show decide (i = 0) = false from decide_eq_false e]
                  simp (config := { failIfUnchanged := false }) only [ez]
                  walk_at "dl"
                  exact ext_upd (es := []) rfl (by simp; omega) (good (hsec e) (kb ++ []) (by rw [ea, List.append_nil]))
            · have ez := hz0 (.inr hz)
              have ea : wantAdd kb (.tup [.str z, x, x2]) = kb := by
                unfold wantAdd
                split
                · rename_i e
                  injection e with e
                  injection e with e1 e2
                  injection e1 with e1
                  subst e1
                  rw [ez]
                  simp
                · rfl
              by_cases e : i = 0
              · rw [show decide (i = 0) = true from decide_eq_true e]
                simp (config := { failIfUnchanged := false }) only [ez]
                walk_at "dl"
                exact bad (.inr (by rw [hfst e, ez]))
              · rw [show decide (i = 0) = false from decide_eq_false e]
                simp (config := { failIfUnchanged := false }) only [ez]
                walk_at "dl"
                exact ext_upd (es := []) rfl (by simp; omega) (good (hsec e) (kb ++ []) (by rw [ea, List.append_nil]))
        · obtain ⟨o1, o2, kb, rfl, rfl, hkb, hkl, hkd, hhd, hfi⟩ := (hPv _ _ _).mp hv
          rw [List.take_length] at hkb hhd
          have hf := hfi (by omega)
          rw [if_neg (by rw [hf]; rintro (h | h | h) <;> first | omega | cases h), hkb] at h
          simp only at h
          walk_at "dl"
          simp only [oIsi_tuple (datD_dat hq), D.bl.injEq, exists_eq_left']
          cases deeds <;> simp only [isTupD, if_true, if_false, Bool.false_eq_true, Bool.not_true, Bool.not_false] at h ⊢ <;> first | exact lss_upd hqn h | skip
          rename_i qs
          walk_at "dl"
          by_cases hl3 : qs.length < 1
          · rw [if_pos (.inl hl3)] at h
            rw [show decide ((1 : Int) ≤ (qs.length : Nat)) = false from decide_eq_false (by omega)]
            walk_at "dl"
            exact lss_upd hqn h
          rw [show decide ((1 : Int) ≤ (qs.length : Nat)) = true from decide_eq_true (by omega)]
          by_cases hl4 : 4 < qs.length
          · rw [if_pos (.inr hl4)] at h
            rw [show decide (((qs.length : Nat) : Int) ≤ 4) = false from decide_eq_false (by omega)]
            walk_at "dl"
            exact lss_upd hqn h
          rw [if_neg (by omega)] at h
          rw [show decide (((qs.length : Nat) : Int) ≤ 4) = true from decide_eq_true (by omega)]
          walk_at "dl"
          refine lc_all (fun x => isDeedD x ws kb) (datD_len hq) (fun d hm K hK => ?_) ?_
          · walk_at "dl"
            exact ⟨d, ws, .ref q, kb, rfl, datD_item hq hm, hw, hhd, lstOf_upd, hkd, hK⟩
          · refine ⟨_, rfl, ?_⟩
            cases e : qs.all fun q => isDeedD q ws kb with
            | true => rw [e] at h; walk_at "dl"; exact lss_upd hqn h
            | false => rw [e] at h; walk_at "dl"; exact lss_upd hqn h
def sideD (k : List (Key × D)) (p : D) : Option D := if isBlankD p = true then (match p with
    | .str z => getK k (.inr z)
    | _ => none)
  else some p
def ltD (a b : D) : Bool := match a, b with
  | .int i, .int j => decide (i < j)
  | _, _ => false
def holdsD (z : Str) (a b : D) : Bool := if (z == LESSS) = true then ltD a b else sameD a b == (z == SAMES)
theorem worth_cases {d : D} (h : isWorthD d = true) : (∃ i, d = .int i) ∨ ∃ z, d = .str z := by
  unfold isWorthD at h
  cases d <;> first | exact .inl ⟨_, rfl⟩ | exact .inr ⟨_, rfl⟩ | (simp [isWordD, isNumD] at h; done)
abbrev Kn := List (Key × D)
abbrev S1 := List Int × Kn
def passS (w : D) (its : List (Int × D)) (s : S1) : List S1 := match w with
  | .tup [.str z, p] => if (z == ISS) = true then its.filterMap fun it => (fittedD p it.2 s.2).map fun k => (s.1 ++ [it.1], k)
    else if (its.all fun it => (fittedD p it.2 s.2).isNone) = true then [s] else []
  | .tup [.str z, x, y] => match sideD s.2 x, sideD s.2 y with
    | some a, some b => if holdsD z a b = true then [s] else []
    | _, _ => []
  | _ => []
/-- what is known is enough for the blanks bs -/
def KnFor (bs : List D) (k : Kn) : Prop := KnOk k ∧ (∀ kv ∈ k, isWorthD kv.2 = true) ∧ ∀ z, memD (.str z) bs = true → ∃ v, getK k (.inr z) = some v
def ThOk (t : D) : Prop := datD 50 t = true ∧ isThingD t = true
theorem thing_tup {d : D} (h : isThingD d = true) : ∃ w ps, d = .tup (w :: ps) ∧ ps.length ≤ 4 ∧ ps.all isWorthD = true := by
  cases d <;> first | (simp [isThingD] at h; done) | skip
  rename_i ds
  cases ds with
  | nil => simp [isThingD] at h
  | cons w ps =>
    simp only [isThingD, Bool.and_eq_true, decide_eq_true_eq] at h
    exact ⟨w, ps, rfl, h.1.1, h.2⟩
theorem len_take {α : Type} (l : List α) (i : Nat) : (l.take i).length ≤ l.length := by rw [List.length_take]; omega
theorem passS_len {w : D} {its : List (Int × D)} {s : S1} (h : 1 ≤ its.length) : (passS w its s).length ≤ its.length := by
  unfold passS
  split
  · split
    · exact List.length_filterMap_le _ _
    · split <;> simp <;> omega
  · split
    · split <;> simp <;> omega
    · simp
  · simp
theorem passS_len1 (w : D) (its : List (Int × D)) (s : S1) : (passS w its s).length ≤ max 1 its.length := by
  by_cases e : 1 ≤ its.length
  · have := passS_len (w := w) (s := s) e; omega
  · have : its = [] := List.length_eq_zero_iff.mp (by omega)
    subst this
    unfold passS
    split
    · split
      · simp
      · simp
    · split
      · split <;> simp
      · simp
    · simp
theorem pass_len (w : D) (its : List (Int × D)) (l : List S1) : (l.flatMap (passS w its)).length ≤ l.length * max 1 its.length := by
  induction l with
  | nil => simp
  | cons a l ih =>
    rw [List.flatMap_cons, List.length_append, List.length_cons, Nat.add_mul]
    have := passS_len1 w its a
    omega
theorem strIn_one {c : Nat} {y : Str} (h : strIn ⟨#[c]⟩ y = true) : c ∈ y.cps.toList := by
  refine Classical.byContradiction fun hc => ?_
  have : Builtin.Str.occurrences y ⟨#[c]⟩ 0 y.length 1 = [] := PySem.W.occ_nil_of_no y ⟨#[c]⟩ 1 fun i hi => by
    cases e : Builtin.Str.subAt y ⟨#[c]⟩ i with
    | false => rfl
    | true =>
      exfalso
      apply hc
      have e : y.cps.extract i (i + 1) = #[c] := by simpa [Builtin.Str.subAt, Str.length] using e
      have hm : c ∈ (y.cps.extract i (i + 1)).toList := by rw [e]; simp
      rw [Array.toList_extract] at hm
      exact List.mem_of_mem_drop (List.mem_of_mem_take (by simpa [List.extract] using hm))
  unfold strIn at h
  rw [this] at h
  cases h
theorem getK_put_self (k : Kn) (kk : Key) (d : D) : getK (putD k kk d) kk = some d := by
  unfold putD
  split
  · rename_i h
    induction k with
    | nil => simp at h
    | cons kv r ih =>
      rw [List.map_cons]
      by_cases e : kv.1 = kk
      · simp [getK, e]
      · simp only [getK, List.find?_cons, e, if_false, decide_false] at ih ⊢
        refine ih ?_
        simpa [e] using h
  · rename_i h
    have : k.find? (fun kv => decide (kv.1 = kk)) = none := by
      rw [List.find?_eq_none]
      intro x hx
      simp only [List.any_eq_true, not_exists, not_and] at h
      exact h x hx
    simp [getK, List.find?_append, this]
theorem getK_put_ne (k : Kn) {kk k2 : Key} (d : D) (hne : k2 ≠ kk) : getK (putD k kk d) k2 = getK k k2 := by
  unfold putD
  split
  · induction k with
    | nil => rfl
    | cons kv r ih =>
      rw [List.map_cons]
      by_cases h : kv.1 = k2
      · subst h
        simp [getK, hne]
      · by_cases e : kv.1 = kk
        · subst e
          rw [if_pos rfl]
          simp only [getK, List.find?_cons, h, decide_false] at ih ⊢
          by_cases ha : (r.any fun kv' => decide (kv'.1 = kv.1)) = true
          · exact ih ha
          · have : (r.map fun kv' => if kv'.1 = kv.1 then (kv'.1, d) else kv') = r := by
              rw [List.map_congr_left (g := id)]
              · simp
              · intro x hx
                have : x.1 ≠ kv.1 := fun e => ha (List.any_eq_true.mpr ⟨x, hx, by simp [e]⟩)
                simp [this]
            rw [this]
        · rw [if_neg e]
          simp only [getK, List.find?_cons, h, decide_false] at ih ⊢
          refine ih ?_
          simpa [e] using ‹((kv :: r).any fun kv => decide (kv.1 = kk)) = true›
  · have : kk ≠ k2 := fun e => hne e.symm
    simp [getK, List.find?_append, this]
theorem fit1_keep {k k' : Kn} {p t : D} {kk : Key} {v : D} (h : fit1 k p t = some k') (hv : getK k kk = some v) : getK k' kk = some v := by
  unfold fit1 at h
  split at h
  · split at h
    · cases h
    · split at h
      · split at h
        · cases h; exact hv
        · cases h
      · rename_i k2 hk2 hg
        split at h
        · cases h
          rw [getK_put_ne _ _ (by rintro rfl; rw [hg] at hv; cases hv)]
          exact hv
        · cases h
  · split at h
    · cases h; exact hv
    · cases h
theorem fit1_new {k k' : Kn} {z : Str} {t : D} (hb : isBlankD (.str z) = true) (h : fit1 k (.str z) t = some k') : ∃ v, getK k' (.inr z) = some v ∧ (v = t ∨ getK k (.inr z) = some v) := by
  unfold fit1 at h
  rw [if_pos hb] at h
  simp only [DL.keyOf] at h
  cases e : getK k (.inr z) with
  | some v =>
    simp only [e] at h
    split at h
    · cases h; exact ⟨v, e, .inr rfl⟩
    · cases h
  | none =>
    simp only [e] at h
    split at h
    · cases h; exact ⟨t, getK_put_self _ _ _, .inl rfl⟩
    · cases h
theorem fitL_keep {kk : Key} {v : D} : ∀ {r : List (D × D)} {k k' : Kn}, fitL k r = some k' → getK k kk = some v → getK k' kk = some v
  | [], _, _, h, hv => by cases h; exact hv
  | (p, t) :: r, k, k', h, hv => by
    simp only [fitL] at h
    obtain ⟨k2, h1, h2⟩ := Option.bind_eq_some_iff.mp h
    exact fitL_keep h2 (fit1_keep h1 hv)
theorem fitL_new {z : Str} (hb : isBlankD (.str z) = true) : ∀ {r : List (D × D)} {k k' : Kn}, fitL k r = some k' → (∀ pt ∈ r, isWorthD pt.2 = true) → (∀ v, getK k (.inr z) = some v → isWorthD v = true) → (∃ t, (D.str z, t) ∈ r) → ∃ v, getK k' (.inr z) = some v ∧ isWorthD v = true
  | [], _, _, h, _, _, ⟨_, hm⟩ => by cases hm
  | (p, t) :: r, k, k', h, hw, hk, ⟨u, hm⟩ => by
    simp only [fitL] at h
    obtain ⟨k2, h1, h2⟩ := Option.bind_eq_some_iff.mp h
    by_cases e : p = .str z
    · subst e
      obtain ⟨v, hv, hvv⟩ := fit1_new hb h1
      refine ⟨v, fitL_keep h2 hv, ?_⟩
      rcases hvv with rfl | hvv
      · exact hw (.str z, v) List.mem_cons_self
      · exact hk v hvv
    · refine fitL_new hb h2 (fun pt hpt => hw pt (by simp [hpt])) (fun v hv => ?_) ⟨u, by
        rcases List.mem_cons.mp hm with hm | hm
        · cases hm; exact absurd rfl e
        · exact hm⟩
      unfold fit1 at h1
      split at h1
      · rename_i hpb
        obtain ⟨y, rfl⟩ : ∃ y, p = .str y := by cases p <;> first | exact ⟨_, rfl⟩ | (cases hpb; done)
        simp only [DL.keyOf] at h1
        split at h1
        · split at h1
          · cases h1; exact hk v hv
          · cases h1
        · split at h1
          · cases h1
            rw [getK_put_ne _ _ (by rintro e2; cases e2; exact e rfl)] at hv
            exact hk v hv
          · cases h1
      · split at h1
        · cases h1; exact hk v hv
        · cases h1
theorem fitL_len : ∀ {r : List (D × D)} {k k' : Kn}, fitL k r = some k' → k'.length ≤ k.length + r.length ∧ ∀ kv ∈ k', kv ∈ k ∨ ∃ pt ∈ r, kv.2 = pt.2
  | [], _, _, h => by cases h; exact ⟨by omega, fun kv h => .inl h⟩
  | (p, t) :: r, k, k', h => by
    simp only [fitL] at h
    obtain ⟨k2, h1, h2⟩ := Option.bind_eq_some_iff.mp h
    obtain ⟨l1, m1⟩ := fit1_len h1
    obtain ⟨l2, m2⟩ := fitL_len h2
    refine ⟨by rw [List.length_cons]; omega, fun kv hkv => ?_⟩
    rcases m2 kv hkv with q | ⟨pt, q1, q2⟩
    · rcases m1 kv q with q | q
      · exact .inl q
      · exact .inr ⟨(p, t), by simp, q⟩
    · exact .inr ⟨pt, by simp [q1], q2⟩
theorem zip_right {ps ts : List D} {p : D} (h : p ∈ ps) (hl : ps.length = ts.length) : ∃ t, (p, t) ∈ ps.zip ts := by
  obtain ⟨i, hi, rfl⟩ := List.mem_iff_getElem.mp h
  exact ⟨ts[i]'(by omega), List.mem_iff_getElem.mpr ⟨i, by rw [List.length_zip]; omega, by rw [List.getElem_zip]⟩⟩
theorem memD_str {z : Str} {bs : List D} (h : memD (.str z) bs = true) : D.str z ∈ bs := by
  obtain ⟨x, hx, e⟩ := List.any_eq_true.mp h
  cases x <;> first | (cases e; done) | skip
  have e : ((_ : Str) == z) = true := e
  rw [beq_iff_eq] at e
  subst e
  exact hx
theorem fitted_for {bs : List D} {z : Str} {ps : List D} {v : D} {t : D} {k k' : Kn} (hz : (z == ISS) = true) (hpl : ps.length ≤ 4) (ht : ThOk t) (hk : KnFor bs k) (hl : k.length ≤ 900) (h : fittedD (.tup (v :: ps)) t k = some k') : KnFor (wantAdd bs (.tup [.str z, .tup (v :: ps)])) k' ∧ k'.length ≤ k.length + 4 := by
  obtain ⟨htd, htt⟩ := ht
  obtain ⟨u, us, rfl, hul, huw⟩ := thing_tup htt
  simp only [fittedD] at h
  split at h
  rotate_left
  · cases h
  rename_i ha
  have hlen : ps.length = us.length := by
    simp only [alikeD, Bool.and_eq_true, decide_eq_true_eq] at ha
    exact ha.2
  obtain ⟨l1, m1⟩ := fitL_len h
  have hzl : (ps.zip us).length ≤ 4 := by rw [List.length_zip]; omega
  refine ⟨⟨⟨by omega, fun kv hkv => ?_⟩, fun kv hkv => ?_, fun y hy => ?_⟩, by omega⟩
  · rcases m1 kv hkv with q | ⟨pt, q1, q2⟩
    · exact hk.1.2 kv q
    · rw [q2]
      exact datD_item htd (List.mem_cons_of_mem _ (List.of_mem_zip q1).2)
  · rcases m1 kv hkv with q | ⟨pt, q1, q2⟩
    · exact hk.2.1 kv q
    · rw [q2]
      exact List.all_eq_true.mp huw _ (List.of_mem_zip q1).2
  · simp only [wantAdd, hz, if_true] at hy
    have hy := memD_str hy
    rcases List.mem_append.mp hy with q | q
    · obtain ⟨w, hw1⟩ := hk.2.2 y (List.any_eq_true.mpr ⟨_, q, by simp [D.eqv]⟩)
      exact ⟨w, fitL_keep h hw1⟩
    · obtain ⟨q1, q2⟩ := List.mem_filter.mp q
      have q1 : D.str y ∈ ps := q1
      obtain ⟨w, hw, _⟩ := fitL_new q2 h (fun pt hpt => List.all_eq_true.mp huw _ (List.of_mem_zip hpt).2) (fun w hw => by
        obtain ⟨kv, hkv, rfl⟩ := getK_mem hw
        exact hk.2.1 kv hkv) (zip_right q1 hlen)
      exact ⟨w, hw⟩
theorem passS_for {w : D} {bs : List D} {its : List (Int × D)} {s s' : S1} (hw : isWantD w bs = true) (hits : ∀ it ∈ its, ThOk it.2) (hk : KnFor bs s.2) (hl : s.2.length ≤ 900) (h : s' ∈ passS w its s) : KnFor (wantAdd bs w) s'.2 ∧ s'.1.length ≤ s.1.length + 1 ∧ s'.2.length ≤ s.2.length + 4 := by
  rcases want_cases hw with ⟨z, p, rfl, hz, hp⟩ | ⟨z, x, y, rfl, hz, hx, hy⟩
  · obtain ⟨v, ps, rfl, hpl⟩ := pattern_tup hp
    cases ez : (z == ISS) with
    | true =>
      simp only [passS, ez, if_true] at h
      obtain ⟨it, hit, e⟩ := List.mem_filterMap.mp h
      obtain ⟨k', e1, rfl⟩ := Option.map_eq_some_iff.mp e
      obtain ⟨a, b⟩ := fitted_for ez hpl (hits it hit) hk hl e1
      exact ⟨a, by simp, b⟩
    | false =>
      have ea : wantAdd bs (.tup [.str z, .tup (v :: ps)]) = bs := by simp only [wantAdd, ez]; simp
      simp only [passS, ez] at h
      rw [ea]
      split at h
      · simp at *
      · split at h
        · simp at h; subst h; exact ⟨hk, by omega, by omega⟩
        · cases h
  · have ez : (z == ISS) = false := by rcases hz with rfl | rfl | rfl <;> decide +kernel
    have ea : wantAdd bs (.tup [.str z, x, y]) = bs := by
      unfold wantAdd
      split
      · rename_i e
        injection e with e
        injection e with e1 e2
        injection e1 with e1
        subst e1
        rw [ez]
        simp
      · rfl
    rw [ea]
    simp only [passS] at h
    split at h
    · split at h
      · simp at h; subst h; exact ⟨hk, by omega, by omega⟩
      · cases h
    · cases h
/-- the ways to meet wants -/
def ways (its : List (Int × D)) (ss : List S1) (ws : List D) : List S1 := ws.foldl (fun ss w => ss.flatMap (passS w its)) ss
theorem ways_snoc (its : List (Int × D)) (ss : List S1) (ws : List D) (w : D) : ways its ss (ws ++ [w]) = (ways its ss ws).flatMap (passS w its) := by
  unfold ways
  rw [List.foldl_append]
  rfl
/-- every way of as many wants is good -/
theorem ways_ok {its : List (Int × D)} (hits : ∀ it ∈ its, ThOk it.2) : ∀ {ws : List D} {bs : List D}, wantsBs [] ws = some bs → ws.length ≤ 200 → (∀ s ∈ ways its [([], [])] ws, KnFor bs s.2 ∧ s.1.length ≤ ws.length ∧ s.2.length ≤ 4 * ws.length) ∧ (ways its [([], [])] ws).length ≤ (max 1 its.length) ^ ws.length := by
  intro ws
  suffices H : ∀ n (ws : List D) bs, ws.length = n → wantsBs [] ws = some bs → ws.length ≤ 200 → (∀ s ∈ ways its [([], [])] ws, KnFor bs s.2 ∧ s.1.length ≤ ws.length ∧ s.2.length ≤ 4 * ws.length) ∧ (ways its [([], [])] ws).length ≤ (max 1 its.length) ^ ws.length from fun {bs} => H _ ws bs rfl
  intro n
  induction n with
  | zero =>
    intro ws bs hl hb _
    obtain rfl := List.length_eq_zero_iff.mp hl
    cases hb
    refine ⟨fun s hs => ?_, by simp [ways]⟩
    simp only [ways, List.foldl_nil, List.mem_singleton] at hs
    subst hs
    exact ⟨⟨⟨by simp, fun _ h => by cases h⟩, fun _ h => (by cases h), fun z h => by cases h⟩, by simp, by simp⟩
  | succ n ih =>
    intro ws bs hl hb h200
    obtain ⟨ws, w, rfl⟩ : ∃ l x, ws = l ++ [x] := ⟨ws.dropLast, ws.getLast (by intro e; subst e; cases hl), (List.dropLast_concat_getLast _).symm⟩
    rw [List.length_append, List.length_singleton] at hl h200
    rw [wantsBs_snoc] at hb
    obtain ⟨b, hb1, hb2⟩ := Option.bind_eq_some_iff.mp hb
    split at hb2
    rotate_left
    · cases hb2
    rename_i hw
    cases hb2
    obtain ⟨i1, i2⟩ := ih ws b (by omega) hb1 (by omega)
    rw [ways_snoc]
    refine ⟨fun s hs => ?_, ?_⟩
    · obtain ⟨s0, h0, h1⟩ := List.mem_flatMap.mp hs
      obtain ⟨j1, j2, j3⟩ := i1 s0 h0
      obtain ⟨k1, k2, k3⟩ := passS_for hw hits j1 (by omega) h1
      rw [List.length_append, List.length_singleton]
      exact ⟨k1, by omega, by omega⟩
    · refine Nat.le_trans (pass_len w its _) ?_
      rw [List.length_append, List.length_singleton, Nat.pow_succ]
      exact Nat.mul_le_mul_right _ i2
/-- a match: which rule, which things -/
def matchD (m : Nat × List Int) : D := .tup [.int (m.1 : Nat), .tup (m.2.map .int)]
theorem itOf_ref {C : Cells} {p : Addr} {ds : List D} (h : C p = some (.lst ds)) : itOf C (.ref p) = some (itLive p) := by
  show (match C p with | some (.lst _) => some (itLive p) | _ => none) = _
  rw [h]
/-- a comprehension over a list that stays as it is -/
theorem lc_liveP {p : Addr} {ds : List D} {fin : List D → Cells → Prop} {gd : DG} {tt : DT} {te : DE} {δ : DSt} {C : Cells} (Pv : Nat → List D → Cells → Prop) (hx : ∀ i acc C, Pv i acc C → C p = some (.lst ds)) (h0 : Pv 0 [] C)
    (hs : ∀ (i : Nat) (d : D) acc C, ds[i]? = some d → Pv i acc C → gd d δ C fun δ2 C2 => tt δ2 C2 fun b C3 => if b = true then te δ2 C3 fun y C4 => acc.length < sizeLine ∧ Pv (i + 1) (acc ++ [y]) C4 else Pv (i + 1) acc C3)
    (hd : ∀ acc C, Pv ds.length acc C → fin acc C) : dLcW fin (itLive p) C gd tt te δ := by
  refine ⟨fun i m acc C => m = ds.length - i ∧ i ≤ ds.length ∧ Pv i acc C, ⟨ds.length, by simp, Nat.zero_le _, h0⟩, ?_⟩
  rintro i m acc C ⟨rfl, hi, q⟩
  have hx := hx i acc C q
  by_cases hlt : i < ds.length
  · refine .inr ⟨⟨ds, ds[i], hx, List.getElem?_eq_getElem hlt⟩, Pv (i + 1), fun acc' C' p' => ⟨ds.length - (i + 1), by omega, rfl, hlt, p'⟩, fun d y => ?_⟩
    obtain ⟨es, h1, h2⟩ := y
    rw [hx] at h1; cases h1
    exact hs i d acc C h2 q
  · have e : i = ds.length := by omega
    subst e
    exact .inl ⟨⟨ds, hx, Nat.le_refl _⟩, hd acc C q⟩
/-- a list, as a value or in a cell -/
def SeqY (C : Cells) (y : D) (ds : List D) : Prop := y = .lst ds ∨ ∃ p, y = .ref p ∧ C p = some (.lst ds)
theorem SeqY.seq {C : Cells} {y : D} {ds : List D} (h : SeqY C y ds) : seqOf C y = some ds := by
  rcases h with rfl | ⟨p, rfl, hp⟩
  · rfl
  · show (C p).bind _ = _; rw [hp]; rfl
/-- good rules, their names each by itself -/
def rulesOk : List D → List D → Bool
  | _, [] => true
  | ns, r :: rs => isNon (badPartD r ns) && (match r with
    | .tup (n :: _) => rulesOk (ns ++ [n]) rs
    | _ => false)
def a_need_rules : ASp := fun ds C R => ∃ rs, ds = [.tup rs] ∧ datD 50 (.tup rs) = true ∧ rs ≠ [] ∧ rs.length ≤ 8 ∧ rulesOk [] rs = true ∧ R .non C
theorem rules_step {ns : List D} {rs : List D} {i : Nat} {r : D} : rulesOk ns rs = true → rs[i]? = some r → ∀ nm, (∀ j d, j < i → rs[j]? = some d → ∃ n l, d = .tup (n :: l) ∧ nm[j]? = some n) → nm.length = i → isNon (badPartD r (ns ++ nm)) = true ∧ ∃ n l, r = .tup (n :: l) := by
  induction rs generalizing ns i with
  | nil => intro _ h; cases h
  | cons r0 rs ih =>
    intro h hi nm hj hn
    simp only [rulesOk, Bool.and_eq_true] at h
    obtain ⟨h1, h2⟩ := h
    split at h2
    rotate_left
    · cases h2
    rename_i n l
    cases i with
    | zero =>
      cases hi
      obtain rfl := List.length_eq_zero_iff.mp hn
      exact ⟨by rw [List.append_nil]; exact h1, n, l, rfl⟩
    | succ i =>
      obtain ⟨n', l', e1, e2⟩ := hj 0 _ (by omega) rfl
      cases e1
      rcases nm with _ | ⟨m, nm⟩
      · cases hn
      · cases e2
        have := ih h2 hi nm (fun j d hji hd => by
          obtain ⟨a, b, c1, c2⟩ := hj (j + 1) d (by omega) hd
          exact ⟨a, b, c1, c2⟩) (by simpa using hn)
        rw [List.append_assoc] at this
        exact this
theorem rd_need_rules : ∀ ds C R, a_need_rules ds C R → t_need_rules a_bad_part { nx := fun _ C' => lss R .non C', rt := lss R } (dstart ["rules", "names", "number", "rule", "part"] ds) C := by
  rintro ds C R ⟨rs, rfl, hd, hne, hl, hok, h⟩
  unfold t_need_rules
  walk_at "dl"
  simp only [oIsi_tuple (datD_dat hd), D.bl.injEq, exists_eq_left', isTupD]
  walk_at "dl"
  rw [oEq_ok (dat_ok hd) (show okD 60 (D.tup []) = true from rfl)]
  have e0 : D.eqv (.tup rs) (.tup []) = false := by
    cases rs with
    | nil => exact absurd rfl hne
    | cons a b => simp [D.eqv, D.eqvL]
  rw [e0]
  walk_at "dl"
  intro q hq
  obtain ⟨Pv, hPv⟩ : ∃ Pv : Nat → DSt → Cells → Prop, ∀ i δ C', Pv i δ C' ↔ ∃ o1 o2 o3 nm, δ = [some (.tup rs), some (.ref q), o1, o2, o3] ∧ C' = updC C q (.lst nm) ∧ (∀ j d, j < i → rs[j]? = some d → ∃ n l, d = .tup (n :: l) ∧ nm[j]? = some n) ∧ nm.length = i ∧ allDat nm = true := ⟨_, fun _ _ _ => Iff.rfl⟩
  refine ⟨rfl, for_enum (x := .tup rs) (ds := rs) (fun _ => rfl) Pv ((hPv _ _ _).mpr ⟨none, none, none, [], rfl, rfl, fun j d h => by omega, rfl, rfl⟩) (fun i r δ C' hi hv => ?_) (fun δ C' hv => ?_)⟩
  · obtain ⟨o1, o2, o3, nm, rfl, rfl, hj, hn, hnd⟩ := (hPv _ _ _).mp hv
    have hi8 : i < rs.length := (List.getElem?_eq_some_iff.mp hi).1
    have hrd := datD_item hd (List.mem_of_getElem? hi)
    obtain ⟨g1, n, l, rfl⟩ := rules_step hok hi nm hj hn
    walk_at "dl"
    rw [show decide ((i : Int) = 8) = false from decide_eq_false (by omega)]
    walk_at "dl"
    refine ⟨_, .ref q, nm, rfl, hrd, lstOf_upd, hnd, ?_⟩
    rw [List.nil_append] at g1
    walk_at "dl"
    rw [g1]
    walk_at "dl"
    refine ⟨by rw [sizeLine_eq]; omega, (hPv _ _ _).mpr ⟨_, _, _, _, rfl, rfl, fun j d hji hdj => ?_, by simp [hn], ?_⟩⟩
    · by_cases e : j < i
      · obtain ⟨a, b, c1, c2⟩ := hj j d e hdj
        exact ⟨a, b, c1, by rw [List.getElem?_append_left (by omega)]; exact c2⟩
      · have e2 : j = i := by omega
        subst e2
        rw [hi] at hdj
        cases hdj
        exact ⟨n, l, rfl, by rw [List.getElem?_append_right (by omega)]; simp [hn]⟩
    · rw [allDat, List.all_append, Bool.and_eq_true]
      exact ⟨hnd, by simp only [List.all_cons, List.all_nil, Bool.and_true]; exact datD_item hrd List.mem_cons_self⟩
  · obtain ⟨o1, o2, o3, nm, rfl, rfl, _⟩ := (hPv _ _ _).mp hv
    walk_at "dl"
    exact lss_upd hq h
theorem oIsi_kind {x : D} {T k : String} {C : Cells} {R : D → Cells → Prop} (h : DL.kindOf C x = some k) (hT : types.contains T = true) : oIsi [x, .ty T] C R = R (.bl (isiT k T)) C := by
  rw [oIsi_def]
  have e : isiO C x (.ty T) = some (isiT k T) := by
    show (if types.contains T = true then (DL.kindOf C x).map (fun k => isiT k T) else none) = _
    rw [if_pos hT, h]; rfl
  rw [e]; simp only [Option.some.injEq, exists_eq_left']
theorem oIsi_kind2 {x : D} {T U k : String} {C : Cells} {R : D → Cells → Prop} (h : DL.kindOf C x = some k) (hT : (types.contains T && types.contains U) = true) : oIsi [x, .tup [.ty T, .ty U]] C R = R (.bl (isiT k T || isiT k U)) C := by
  rw [oIsi_def]
  have e : isiO C x (.tup [.ty T, .ty U]) = some (isiT k T || isiT k U) := by
    show (if (types.contains T && types.contains U) = true then (DL.kindOf C x).map (fun k => isiT k T || isiT k U) else none) = _
    rw [if_pos hT, h]; rfl
  rw [e]; simp only [Option.some.injEq, exists_eq_left']
mutual
theorem eqv_refl : ∀ (n : Nat) (d : D), datD n d = true → D.eqv d d = true
  | _, .non, _ => rfl
  | _, .bl b, _ => by simp [D.eqv]
  | _, .int b, _ => by simp [D.eqv]
  | _, .str b, _ => by simp [D.eqv]
  | n + 1, .tup ds, h => by
    simp only [datD, Bool.and_eq_true] at h
    show D.eqvL ds ds = true
    exact eqvL_refl n ds h.1
  | n + 1, .lst ds, h => by
    simp only [datD, Bool.and_eq_true] at h
    show D.eqvL ds ds = true
    exact eqvL_refl n ds h.1
  | 0, .tup _, h => by cases h
  | 0, .lst _, h => by cases h
  | 0, .dct _, h => by cases h
  | n + 1, .dct _, h => by cases h
  | 0, .ref _, h => by cases h
  | n + 1, .ref _, h => by cases h
  | 0, .ty _, h => by cases h
  | n + 1, .ty _, h => by cases h
theorem eqvL_refl : ∀ (n : Nat) (ds : List D), ds.all (datD n) = true → D.eqvL ds ds = true
  | _, [], _ => rfl
  | n, d :: ds, h => by
    simp only [List.all_cons, Bool.and_eq_true] at h
    show (D.eqv d d && D.eqvL ds ds) = true
    rw [eqv_refl n d h.1, eqvL_refl n ds h.2]
    rfl
end
/-- enumerate of what stays while it is walked -/
theorem for_enumP {x : D} {ds : List D} {g : DG} {tb : DS} {N : DEnds} {δ : DSt} {C : Cells} (Pv : Nat → DSt → Cells → Prop) (hx : ∀ i δ C, Pv i δ C → seqOf C x = some ds) (h0 : Pv 0 δ C)
    (hs : ∀ i d δ C, ds[i]? = some d → Pv i δ C → g (.tup [.int (i : Nat), d]) δ C fun δ2 C2 => tb { N with nx := Pv (i + 1), ct := Pv (i + 1), bk := N.nx } δ2 C2) (hd : ∀ δ C, Pv ds.length δ C → N.nx δ C) :
    ∃ W : Nat → Nat → DSt → Cells → Prop, (∃ m, W 0 m δ C) ∧ ∀ i m δ C, W i m δ C →
      ((itEnum x).stop i C ∧ N.nx δ C) ∨ ((itEnum x).go i C ∧ ∃ Nx : DSt → Cells → Prop, (∀ δ' C', Nx δ' C' → ∃ m', m' < m ∧ W (i + 1) m' δ' C') ∧ ∀ d, (itEnum x).yld i C d → g d δ C fun δ2 C2 => tb { N with nx := Nx, ct := Nx, bk := N.nx } δ2 C2) := by
  refine ⟨fun i m δ C => m = ds.length - i ∧ i ≤ ds.length ∧ Pv i δ C, ⟨ds.length, by simp, Nat.zero_le _, h0⟩, ?_⟩
  rintro i m δ C ⟨rfl, hi, p⟩
  have hx := hx i δ C p
  by_cases hlt : i < ds.length
  · refine .inr ⟨⟨ds, ds[i], hx, List.getElem?_eq_getElem hlt⟩, Pv (i + 1), fun δ' C' p' => ⟨ds.length - (i + 1), by omega, rfl, hlt, p'⟩, fun d y => ?_⟩
    obtain ⟨es, e, h1, h2, rfl⟩ := y
    rw [hx] at h1; cases h1
    exact hs i e δ C h2 p
  · have e : i = ds.length := by omega
    subst e
    exact .inl ⟨⟨ds, hx, Nat.le_refl _⟩, hd δ C p⟩
def a_need_things : ASp := fun ds C R => ∃ y ts, ds = [y] ∧ SeqY C y ts ∧ (∀ t ∈ ts, ThOk t) ∧ ts.length ≤ 30 ∧ R .non C
theorem rd_need_things : ∀ ds C R, a_need_things ds C R → t_need_things a_is_thing { nx := fun _ C' => R .non C', rt := R } (dstart ["things", "number", "thing"] ds) C := by
  rintro ds C R ⟨y, ts, rfl, hy, hts, hl, h⟩
  unfold t_need_things
  have hk : DL.kindOf C y = some "list" := by
    rcases hy with rfl | ⟨p, rfl, hp⟩
    · rfl
    · show (C p).bind _ = _; rw [hp]; rfl
  have hq : seqOf C y = some ts := by
    rcases hy with rfl | ⟨p, rfl, hp⟩
    · rfl
    · show (C p).bind _ = _; rw [hp]; rfl
  walk_at "dl"
  rw [oIsi_kind (k := "list") (T := "list") hk (by decide)]
  simp only [show isiT "list" "list" = true by decide, D.bl.injEq, exists_eq_left']
  walk_at "dl"
  obtain ⟨Pv, hPv⟩ : ∃ Pv : Nat → DSt → Cells → Prop, ∀ i δ C', Pv i δ C' ↔ ∃ o1 o2, δ = [some y, o1, o2] ∧ C' = C := ⟨_, fun _ _ _ => Iff.rfl⟩
  refine ⟨by rw [hq]; rfl, for_enumP (x := y) (ds := ts) Pv (fun i δ C' hv => by obtain ⟨_, _, _, rfl⟩ := (hPv _ _ _).mp hv; exact hq) ((hPv _ _ _).mpr ⟨none, none, rfl, rfl⟩) (fun i t δ C' hi hv => ?_) (fun δ C' hv => ?_)⟩
  · obtain ⟨o1, o2, rfl, rfl⟩ := (hPv _ _ _).mp hv
    have hil : i < ts.length := (List.getElem?_eq_some_iff.mp hi).1
    obtain ⟨h1, h2⟩ := hts t (List.mem_of_getElem? hi)
    walk_at "dl"
    rw [show decide ((i : Int) = 30) = false from decide_eq_false (by omega)]
    walk_at "dl"
    refine ⟨t, rfl, h1, ?_⟩
    rw [h2]
    walk_at "dl"
    exact (hPv _ _ _).mpr ⟨_, _, rfl, rfl⟩
  · obtain ⟨o1, o2, rfl, rfl⟩ := (hPv _ _ _).mp hv
    exact h
/-- what stands in a row's list -/
def RowSt (c : List D) : Prop := ∃ (s : List Int) (j k m : Int), c = [.lst (s.map .int), .int j, .int k, .int m] ∧ 0 ≤ j ∧ 0 ≤ m ∧ m < 2147483648 ∧ s.length ≤ 100000
def a__law_row : ASp := fun ds C R => ∃ s : List Int, ds = [.lst (s.map .int)] ∧ s.length ≤ 100000 ∧ ∀ p c, C p = none → RowSt c → R (.ref p) (updC C p (.lst c))
theorem oMul_int {i j : Int} {C : Cells} {R : D → Cells → Prop} : oMul (.int i) (.int j) C R = (CMul i j ∧ R (.int (i * j)) C) := rfl
theorem oDiv_int {i j : Int} {C : Cells} {R : D → Cells → Prop} : oDiv (.int i) (.int j) C R = (CDiv i j ∧ R (.int (i / j)) C) := rfl
theorem oMod_int {i j : Int} {C : Cells} {R : D → Cells → Prop} : oMod (.int i) (.int j) C R = (0 < j ∧ R (.int (i % j)) C) := rfl
theorem oPow_int {i j : Int} {C : Cells} {R : D → Cells → Prop} : oPow (.int i) (.int j) C R = (CPow i j ∧ R (.int (i ^ j.toNat)) C) := rfl
theorem rd__law_row : ∀ ds C R, a__law_row ds C R → t__law_row { nx := fun _ C' => lss R .non C', rt := lss R } (dstart ["_law_script", "_law_mixed", "_law_cell"] ds) C := by
  rintro ds C R ⟨s, rfl, hs, h⟩
  unfold t__law_row
  walk_at "dl"
  obtain ⟨Pv, hPv⟩ : ∃ Pv : Nat → DSt → Cells → Prop, ∀ i δ C', Pv i δ C' ↔ ∃ m : Int, ∃ o : Option D, δ = [some (.lst (s.map .int)), some (.int m), o] ∧ C' = C ∧ 0 ≤ m ∧ m < 2147483648 := ⟨_, fun _ _ _ => Iff.rfl⟩
  refine for_fix Pv ((hPv _ _ _).mpr ⟨7, none, rfl, rfl, by omega, by omega⟩) (fun i d δ C' hi hv => ?_) (fun δ C' hv => ?_)
  · obtain ⟨m, o, rfl, rfl, h1, h2⟩ := (hPv _ _ _).mp hv
    rw [List.getElem?_map] at hi
    obtain ⟨x, _, rfl⟩ := Option.map_eq_some_iff.mp hi
    walk_at "dl"
    simp only [oMul_int, oMod_int, oAdd_int]
    refine ⟨.inr ⟨by omega, by omega⟩, by omega, (hPv _ _ _).mpr ⟨_, _, rfl, rfl, Int.emod_nonneg _ (by omega), ?_⟩⟩
    have := Int.emod_lt_of_pos (m * 48271 + x + 11) (show (0 : Int) < 2147483647 by omega)
    omega
  · obtain ⟨m, o, rfl, rfl, h1, h2⟩ := (hPv _ _ _).mp hv
    walk_at "dl"
    exact fun p hp => lss_of (h p _ hp ⟨s, 0, 0, m, rfl, by omega, h1, h2, hs⟩)
/-- a draw: which number comes is left open -/
def a__law_taken : ASp := fun ds C R => ∃ p n c, ds = [.ref p, .int n] ∧ 0 < n ∧ n < 1000 ∧ C p = some (.lst c) ∧ RowSt c ∧ ∀ r c', 0 ≤ r → r < n → RowSt c' → R (.int r) (updC C p (.lst c'))
theorem rd__law_taken : ∀ ds C R, a__law_taken ds C R → t__law_taken { nx := fun _ C' => R .non C', rt := R } (dstart ["_law_row_here", "_law_many", "_law_found_here", "_law_cell"] ds) C := by
  rintro ds C R ⟨p, n, c, rfl, hn0, hn1, hp, ⟨s, j, k, m, rfl, hj, hm0, hm1, hs⟩, h⟩
  unfold t__law_taken
  have e2 : ixN 4 (2 : Int) = some 2 := by decide
  have e1 : ixN 4 (1 : Int) = some 1 := by decide
  have e3 : ixN 4 (3 : Int) = some 3 := by decide
  walk_at "dl"
  rw [oIx_ref hp]
  walk_at "dl"
  by_cases hk : 0 < k
  · simp only [hk, decide_true]
    walk_at "dl"
    rw [oIx_ref hp]
    walk_at "dl"
    simp only [oMod_int]
    refine ⟨hn0, ?_⟩
    walk_at "dl"
    rw [oIx_ref hp]
    walk_at "dl"
    simp only [oDiv_int]
    refine ⟨⟨hn0, by omega⟩, ?_⟩
    simp only [gdSubL]
    walk_at "dl"
    refine ⟨p, _, _, _, rfl, rfl, hp, e2, ?_⟩
    exact h _ _ (Int.emod_nonneg _ (by omega)) (Int.emod_lt_of_pos _ hn0) ⟨s, j, _, m, rfl, hj, hm0, hm1, hs⟩
  · simp only [hk, decide_false]
    walk_at "dl"
    rw [oIx_ref hp]
    walk_at "dl"
    rw [oIx_ref hp]
    walk_at "dl"
    by_cases hl : j < ((s.map D.int).length : Nat)
    · simp only [hl, decide_true]
      walk_at "dl"
      rw [oIx_ref hp]
      walk_at "dl"
      rw [oIx_ref hp]
      walk_at "dl"
      obtain ⟨i, rfl⟩ : ∃ i : Nat, j = (i : Int) := ⟨j.toNat, by omega⟩
      have hi : i < s.length := by rw [List.length_map] at hl; omega
      walk_at "dl"
      refine ⟨.int s[i], by rw [List.getElem?_map, List.getElem?_eq_getElem hi]; rfl, ?_⟩
      walk_at "dl"
      rw [oIx_ref hp]
      walk_at "dl"
      simp only [gdSubL]
      walk_at "dl"
      refine ⟨p, _, _, _, rfl, rfl, hp, e1, ?_⟩
      simp only [oPow_int, oDiv_int, oMod_int]
      refine ⟨⟨by omega, by omega, by decide⟩, ?_⟩
      walk_at "dl"
      by_cases hb : (10 : Int) ^ (18 : Int).toNat ≤ s[i]
      · simp only [hb, decide_true]
        walk_at "dl"
        refine ⟨⟨hn0, by omega⟩, ?_⟩
        simp only [gdSubL]
        walk_at "dl"
        refine ⟨p, _, _, _, rfl, rfl, updC_at, e2, ?_⟩
        walk_at "dl"
        simp only [oMod_int]
        refine ⟨hn0, ?_⟩
        exact h _ _ (Int.emod_nonneg _ (by omega)) (Int.emod_lt_of_pos _ hn0) ⟨s, _, _, m, rfl, by omega, hm0, hm1, hs⟩
      · simp only [hb, decide_false]
        walk_at "dl"
        refine ⟨hn0, ?_⟩
        exact h _ _ (Int.emod_nonneg _ (by omega)) (Int.emod_lt_of_pos _ hn0) ⟨s, _, _, m, rfl, by omega, hm0, hm1, hs⟩
    · simp only [hl, decide_false]
      walk_at "dl"
      rw [oIx_ref hp]
      walk_at "dl"
      simp only [gdSubL, oMul_int, oMod_int, oDiv_int, oAdd_int]
      refine ⟨.inr ⟨by omega, by omega⟩, by omega, ?_⟩
      walk_at "dl"
      refine ⟨p, _, _, _, rfl, rfl, hp, e3, ?_⟩
      rw [oIx_ref updC_at]
      walk_at "dl"
      simp only [List.set_cons_succ, List.set_cons_zero, List.getElem?_cons_succ, List.getElem?_cons_zero, ex_some, oDiv_int, oMod_int]
      refine ⟨⟨by omega, by omega⟩, hn0, ?_⟩
      refine h _ _ (Int.emod_nonneg _ (by omega)) (Int.emod_lt_of_pos _ hn0) ⟨s, j, k, _, rfl, hj, Int.emod_nonneg _ (by omega), ?_, hs⟩
      have := Int.emod_lt_of_pos (m * 48271 + 12345) (show (0 : Int) < 2147483647 by omega)
      omega
abbrev WORTHS : List D := [.str "a", .str "b", .int 0, .int 1, .int 2, .str "c", .int 99, .int (-99)]
abbrev LETTERS : List D := [.str "X", .str "Y", .str "Z", .str "W"]
abbrev PARTS : List D := [.str "a", .str "b", .int 0, .int 1, .int 2, .str "c", .int 99, .int (-99), .str "_", .str "X", .str "Y", .str "Z", .str "W"]
abbrev HEADS : List D := [.str "on", .str "is", .str "big"]
theorem pick {l : List D} {r : Int} {C : Cells} {R : D → Cells → Prop} (h0 : 0 ≤ r) (h1 : r < (l.length : Nat)) (h : ∀ d ∈ l, R d C) : oIx (.lst l) (.int r) C R := by
  obtain ⟨n, rfl⟩ : ∃ n : Nat, r = (n : Int) := ⟨r.toNat, by omega⟩
  have hn : n < l.length := by omega
  rw [oIx_lst, atI_cast]
  exact ⟨l[n], List.getElem?_eq_getElem hn, h _ (List.getElem_mem hn)⟩
theorem pickE {l : List D} {r : Int} {P : D → Prop} (h0 : 0 ≤ r) (h1 : r < (l.length : Nat)) (h : ∀ d ∈ l, P d) : ∃ d, atI l r = some d ∧ P d := by
  obtain ⟨n, rfl⟩ : ∃ n : Nat, r = (n : Int) := ⟨r.toNat, by omega⟩
  have hn : n < l.length := by omega
  rw [atI_cast]
  exact ⟨l[n], List.getElem?_eq_getElem hn, h _ (List.getElem_mem hn)⟩
theorem pickS {z : Str} {r : Int} {C : Cells} {R : D → Cells → Prop} (h0 : 0 ≤ r) (h1 : r < (z.length : Nat)) (hz : z.length ≤ 1000) (h : ∀ c ∈ z.cps.toList, R (.str ⟨#[c]⟩) C) : oIx (.str z) (.int r) C R := by
  obtain ⟨n, rfl⟩ : ∃ n : Nat, r = (n : Int) := ⟨r.toNat, by omega⟩
  have hn : n < z.cps.toList.length := by
    have : z.cps.toList.length = z.length := by simp [Str.length]
    omega
  rw [oIx_str (by rw [sizeLine_eq]; omega), atI_cast]
  exact ⟨_, by rw [List.getElem?_eq_getElem hn]; rfl, h _ (List.getElem_mem hn)⟩
def a__law_worth : ASp := fun ds C R => ∃ p c, ds = [.ref p] ∧ C p = some (.lst c) ∧ RowSt c ∧ ∀ v c', v ∈ WORTHS → RowSt c' → R v (updC C p (.lst c'))
theorem rd__law_worth : ∀ ds C R, a__law_worth ds C R → t__law_worth a__law_taken { nx := fun _ C' => R .non C', rt := R } (dstart ["_law_row_here"] ds) C := by
  rintro ds C R ⟨p, c, rfl, hp, hc, h⟩
  unfold t__law_worth
  walk_at "dl"
  refine ⟨p, 12, c, rfl, by omega, by omega, hp, hc, fun r c' h0 h1 hr => ?_⟩
  refine pick h0 (by simpa using h1) fun d hd => ?_
  obtain ⟨k, rfl, hk0, hk1⟩ : ∃ k : Int, d = .int k ∧ 0 ≤ k ∧ k < 8 := by
    simp only [List.mem_cons, List.not_mem_nil, or_false] at hd
    rcases hd with rfl | rfl | rfl | rfl | rfl | rfl | rfl | rfl | rfl | rfl | rfl | rfl <;> exact ⟨_, rfl, by omega, by omega⟩
  exact pick hk0 (by simpa using hk1) fun d hd => h d c' hd hr
/-- a pattern as the law makes it -/
def PatOk (v : D) : Prop := ∃ w ps, v = .tup (w :: ps) ∧ w ∈ HEADS ∧ ps.length ≤ 4 ∧ ∀ x ∈ ps, x ∈ PARTS
def a__law_pattern : ASp := fun ds C R => ∃ p c z, ds = [.ref p, .str z] ∧ C p = some (.lst c) ∧ RowSt c ∧ z.length = 3 ∧ (∀ c ∈ z.cps.toList, D.str ⟨#[c]⟩ ∈ LETTERS) ∧ ∀ v c', PatOk v → RowSt c' → R v (updC C p (.lst c'))
theorem worth_part {v : D} (h : v ∈ WORTHS) : v ∈ PARTS := by
  simp only [List.mem_cons, List.not_mem_nil, or_false] at h ⊢
  rcases h with rfl | rfl | rfl | rfl | rfl | rfl | rfl | rfl <;> simp
theorem letter_part {v : D} (h : v ∈ LETTERS) : v ∈ PARTS := by
  simp only [List.mem_cons, List.not_mem_nil, or_false] at h ⊢
  rcases h with rfl | rfl | rfl | rfl <;> simp
theorem ints_in {d : D} {ks : List Int} (h : d ∈ ks.map D.int) : ∃ k ∈ ks, d = .int k := by
  obtain ⟨k, hk, rfl⟩ := List.mem_map.mp h
  exact ⟨k, hk, rfl⟩
theorem rd__law_pattern : ∀ ds C R, a__law_pattern ds C R → t__law_pattern a__law_taken a__law_worth { nx := fun _ C' => R .non C', rt := R } (dstart ["_law_row_here", "_law_letters_here", "_law_found_here", "_law_k", "_law_some"] ds) C := by
  rintro ds C R ⟨p, c, z, rfl, hp, hc, hz, hzl, h⟩
  unfold t__law_pattern
  walk_at "dl"
  refine ⟨p, 3, c, rfl, by omega, by omega, hp, hc, fun r c1 h0 h1 hr1 => ?_⟩
  walk_at "dl"
  refine pickE h0 (by simpa using h1) fun w hw => ?_
  walk_at "dl"
  refine ⟨p, 5, c1, rfl, by omega, by omega, updC_at, hr1, fun r c2 h0 h1 hr2 => ?_⟩
  walk_at "dl"
  refine pickE h0 (by simpa using h1) fun d hd => ?_
  obtain ⟨k, hk, rfl⟩ := ints_in (ks := [1, 2, 2, 0, 4]) hd
  have hk4 : 0 ≤ k ∧ k ≤ 4 := by
    simp only [List.mem_cons, List.not_mem_nil, or_false] at hk
    omega
  walk_at "dl"
  refine ⟨by omega, by omega, ?_⟩
  obtain ⟨Pv, hPv⟩ : ∃ Pv : Nat → DSt → Cells → Prop, ∀ i δ C', Pv i δ C' ↔ ∃ ps o1 o2 c', δ = [some (.ref p), some (.str z), some (.tup (w :: ps)), o1, o2] ∧ C' = updC C p (.lst c') ∧ RowSt c' ∧ ps.length = i ∧ ∀ x ∈ ps, x ∈ PARTS := ⟨_, fun _ _ _ => Iff.rfl⟩
  refine for_rng Pv ((hPv _ _ _).mpr ⟨[], none, none, c2, rfl, rfl, hr2, rfl, by simp⟩) (fun i δ C' hi hv => ?_) (fun δ C' hv => ?_)
  · obtain ⟨ps, o1, o2, c3, rfl, rfl, hr3, hpl, hps⟩ := (hPv _ _ _).mp hv
    have hi4 : i < 4 := by omega
    walk_at "dl"
    refine ⟨p, c3, rfl, updC_at, hr3, fun v1 c4 hv1 hr4 => ?_⟩
    walk_at "dl"
    refine ⟨p, 3, c4, rfl, by omega, by omega, updC_at, hr4, fun r c5 h0 h1 hr5 => ?_⟩
    walk_at "dl"
    refine pickS h0 (by omega) (by omega) fun x1 hx1 => ?_
    refine ⟨p, 2, c5, rfl, by omega, by omega, updC_at, hr5, fun r c6 h0 h1 hr6 => ?_⟩
    walk_at "dl"
    refine pickS h0 (by omega) (by omega) fun x2 hx2 => ?_
    walk_at "dl"
    refine ⟨p, 4, c6, rfl, by omega, by omega, updC_at, hr6, fun r c7 h0 h1 hr7 => ?_⟩
    walk_at "dl"
    refine pickE h0 (by simpa using h1) fun d hd => ?_
    have hdp : d ∈ PARTS := by
      simp only [List.mem_cons, List.not_mem_nil, or_false] at hd
      rcases hd with rfl | rfl | rfl | rfl
      · exact worth_part hv1
      · simp
      · exact letter_part (hzl _ hx1)
      · exact letter_part (hzl _ hx2)
    walk_at "dl"
    rw [oAdd_tup (by rw [sizeLine_eq]; simp; omega)]
    walk_at "dl"
    refine (hPv _ _ _).mpr ⟨ps ++ [d], _, _, c7, rfl, rfl, hr7, by simp [hpl], fun x hx => ?_⟩
    rcases List.mem_append.mp hx with hx | hx
    · exact hps x hx
    · rw [List.mem_singleton.mp hx]; exact hdp
  · obtain ⟨ps, o1, o2, c3, rfl, rfl, hr3, hpl, hps⟩ := (hPv _ _ _).mp hv
    walk_at "dl"
    exact h _ _ ⟨w, ps, rfl, hw, by omega, hps⟩ hr3
def letD : D → Bool
  | .str z => (!decide (z.cps.toList < ("A" : Str).cps.toList)) && ((!decide (("Z" : Str).cps.toList < z.cps.toList)) && decide (((z.length : Nat) : Int) = 1))
  | _ => false
theorem let_blank : ∀ d ∈ PARTS, letD d = isBlankD d := by decide +kernel
theorem parts_dat : ∀ d ∈ PARTS, datD 30 d = true := by decide +kernel
theorem heads_dat : ∀ d ∈ HEADS, datD 30 d = true ∧ isWordD d = true ∧ isStrD d = true := by decide +kernel
theorem worths_dat : ∀ d ∈ WORTHS, datD 30 d = true ∧ isWorthD d = true ∧ isTupD d = false ∧ isBlankD d = false := by decide +kernel
theorem pat_dat {v : D} (h : PatOk v) : datD 40 v = true := by
  obtain ⟨w, ps, rfl, hw, hl, hps⟩ := h
  show ((w :: ps).all (datD 39) && decide ((w :: ps).length ≤ 6000000)) = true
  rw [Bool.and_eq_true, decide_eq_true_eq, List.length_cons, List.all_cons, Bool.and_eq_true]
  refine ⟨⟨datD_all (by omega) (heads_dat w hw).1, List.all_eq_true.mpr fun x hx => datD_all (by omega) (parts_dat x (hps x hx))⟩, by omega⟩
def a__law_letters : ASp := fun ds C R => ∃ w ps, ds = [.tup (w :: ps)] ∧ (∀ x ∈ ps, x ∈ PARTS) ∧ ps.length ≤ 100 ∧ R (.lst (blanksL (w :: ps))) C
theorem rd__law_letters : ∀ ds C R, a__law_letters ds C R → t__law_letters { nx := fun _ C' => R .non C', rt := R } (dstart ["_law_pattern_here", "_law_part"] ds) C := by
  rintro ds C R ⟨w, ps, rfl, hps, hl, h⟩
  unfold t__law_letters
  walk_at "dl"
  refine lc_filter isBlankD id (by show ps.length ≤ _; rw [sizeLine_eq]; omega) (fun d hm K hK => ?_) (by rw [List.map_id]; exact h)
  have hm : d ∈ ps := hm
  have hdat := datD_dat (parts_dat d (hps d hm))
  have hd := parts_dat d (hps d hm)
  rw [← let_blank d (hps d hm)] at hK
  walk_at "dl"
  simp only [oIsi_str hdat, D.bl.injEq, exists_eq_left']
  cases es : isStrD d with
  | false =>
    have : letD d = false := by cases d <;> first | rfl | cases es
    rw [this] at hK
    walk_at "dl"
    exact hK
  | true =>
  obtain ⟨z, rfl⟩ : ∃ z, d = .str z := by cases d <;> first | exact ⟨_, rfl⟩ | cases es
  simp only [letD] at hK
  simp only [oLe_str, oLen_str (datD_str hd)]
  walk_at "dl"
  cases e1 : decide (z.cps.toList < ("A" : Str).cps.toList) with
  | true =>
    simp only [e1, Bool.not_true, Bool.false_and, Bool.false_eq_true, if_false] at hK
    walk_at "dl"
    exact hK
  | false =>
    simp only [e1, Bool.not_false, Bool.true_and] at hK
    walk_at "dl"
    cases e2 : decide (("Z" : Str).cps.toList < z.cps.toList) with
    | true =>
      simp only [e2, Bool.not_true, Bool.false_and, Bool.false_eq_true, if_false] at hK
      walk_at "dl"
      exact hK
    | false =>
      simp only [e2, Bool.not_false, Bool.true_and] at hK
      walk_at "dl"
      cases e3 : decide (((z.length : Nat) : Int) = 1) with
      | true => simp only [e3, if_true] at hK; walk_at "dl"; exact hK
      | false => simp only [e3, Bool.false_eq_true, if_false] at hK; walk_at "dl"; exact hK
/-- a thing as the law makes it -/
def ThingOk (v : D) : Prop := ∃ w ps, v = .tup (w :: ps) ∧ w ∈ HEADS ∧ ps.length ≤ 4 ∧ ∀ x ∈ ps, x ∈ WORTHS
theorem thing_ok {v : D} (h : ThingOk v) : ThOk v := by
  obtain ⟨w, ps, rfl, hw, hl, hps⟩ := h
  refine ⟨datD_all (show 40 ≤ 50 by omega) (pat_dat ⟨w, ps, rfl, hw, hl, fun x hx => worth_part (hps x hx)⟩), ?_⟩
  simp only [isThingD, Bool.and_eq_true, decide_eq_true_eq]
  exact ⟨⟨hl, (heads_dat w hw).2.1⟩, List.all_eq_true.mpr fun x hx => (worths_dat x (hps x hx)).2.1⟩
def a__law_thing : ASp := fun ds C R => ∃ p c, ds = [.ref p] ∧ C p = some (.lst c) ∧ RowSt c ∧ ∀ v c', ThingOk v → RowSt c' → R v (updC C p (.lst c'))
theorem rd__law_thing : ∀ ds C R, a__law_thing ds C R → t__law_thing a__law_taken a__law_worth { nx := fun _ C' => R .non C', rt := R } (dstart ["_law_row_here", "_law_word", "_law_k"] ds) C := by
  rintro ds C R ⟨p, c, rfl, hp, hc, h⟩
  unfold t__law_thing
  walk_at "dl"
  refine ⟨p, 3, c, rfl, by omega, by omega, hp, hc, fun r c1 h0 h1 hr1 => ?_⟩
  walk_at "dl"
  refine pickE h0 (by simpa using h1) fun w hw => ?_
  walk_at "dl"
  refine ⟨p, 6, c1, rfl, by omega, by omega, updC_at, hr1, fun r c2 h0 h1 hr2 => ?_⟩
  walk_at "dl"
  refine pickE h0 (by simpa using h1) fun d hd => ?_
  obtain ⟨k, hk, rfl⟩ := ints_in (ks := [1, 2, 1, 0, 4, 1]) hd
  have hk4 : 0 ≤ k ∧ k ≤ 4 := by
    simp only [List.mem_cons, List.not_mem_nil, or_false] at hk
    omega
  walk_at "dl"
  refine ⟨by omega, by omega, ?_⟩
  obtain ⟨Pv, hPv⟩ : ∃ Pv : Nat → List D → Cells → Prop, ∀ i ps C', Pv i ps C' ↔ ∃ c', C' = updC C p (.lst c') ∧ RowSt c' ∧ ps.length = i ∧ ∀ x ∈ ps, x ∈ WORTHS := ⟨_, fun _ _ _ => Iff.rfl⟩
  refine lc_inv (n := k.toNat) Pv (fun i _ hi => hi) (fun _ => Nat.le_refl _) ((hPv _ _ _).mpr ⟨c2, rfl, hr2, rfl, by simp⟩) (fun i d acc C' hi hy hv => ?_) (fun acc C' hv => ?_)
  · obtain ⟨c3, rfl, hr3, hpl, hps⟩ := (hPv _ _ _).mp hv
    walk_at "dl"
    refine ⟨p, c3, rfl, updC_at, hr3, fun v c4 hv1 hr4 => ?_⟩
    rw [DL.updC_upd]
    refine ⟨by rw [sizeLine_eq]; omega, (hPv _ _ _).mpr ⟨c4, rfl, hr4, by simp [hpl], fun x hx => ?_⟩⟩
    rcases List.mem_append.mp hx with hx | hx
    · exact hps x hx
    · rw [List.mem_singleton.mp hx]; exact hv1
  · obtain ⟨c3, rfl, hr3, hpl, hps⟩ := (hPv _ _ _).mp hv
    rw [oTuple_def]
    walk_at "dl"
    simp only [tupOf, DL.lstOf, Option.some.injEq, exists_eq_left']
    rw [oAdd_tup (by rw [sizeLine_eq]; simp; omega)]
    exact h _ _ ⟨w, acc, rfl, hw, by omega, hps⟩ hr3
theorem letters_dat : ∀ d ∈ LETTERS, datD 30 d = true ∧ isBlankD d = true ∧ isTupD d = false := by decide +kernel
theorem letter_str {d : D} (h : d ∈ LETTERS) : ∃ z, d = .str z := by
  simp only [List.mem_cons, List.not_mem_nil, or_false] at h
  rcases h with rfl | rfl | rfl | rfl <;> exact ⟨_, rfl⟩
theorem mem_memD {d : D} {kn : List D} (h : d ∈ kn) (hl : d ∈ LETTERS) : memD d kn = true := by
  obtain ⟨z, rfl⟩ := letter_str hl
  exact List.any_eq_true.mpr ⟨_, h, by simp [D.eqv]⟩
theorem eqv_lst_nil (kn : List D) : D.eqv (.lst kn) (.lst []) = kn.isEmpty := by
  cases kn <;> simp [D.eqv, D.eqvL]
theorem allL {kn : List D} (h : ∀ b ∈ kn, b ∈ LETTERS) (n : Nat) : kn.all (okD (n + 30)) = true := List.all_eq_true.mpr fun x hx => datD_ok (datD_all (by omega) (letters_dat x (h x hx)).1)
def TplOk (kn : List D) (v : D) : Prop := isTemplateD v kn = true ∧ datD 45 v = true
def a__law_template : ASp := fun ds C R => ∃ p c kn, ds = [.ref p, .lst kn] ∧ C p = some (.lst c) ∧ RowSt c ∧ (∀ b ∈ kn, b ∈ LETTERS) ∧ kn.length ≤ 100 ∧ ∀ v c', TplOk kn v → RowSt c' → R v (updC C p (.lst c'))
theorem place_worth {kn : List D} : ∀ d ∈ WORTHS, isPlaceD kn d = true := by
  intro d hd
  have h := worths_dat d hd
  have : isPlaceD kn d = isSideD d kn := by cases d <;> first | rfl | (cases h.2.2.1; done)
  rw [this]
  unfold isSideD
  rw [h.2.1]
  rfl
theorem place_letter {kn : List D} {d : D} (hm : d ∈ kn) (hd : d ∈ LETTERS) : isPlaceD kn d = true := by
  have h := letters_dat d hd
  have : isPlaceD kn d = isSideD d kn := by cases d <;> first | rfl | (cases h.2.2; done)
  rw [this]
  unfold isSideD
  rw [h.2.1, mem_memD hm hd]
  simp
theorem rd__law_template : ∀ ds C R, a__law_template ds C R → t__law_template a__law_taken a__law_worth { nx := fun _ C' => R .non C', rt := R } (dstart ["_law_row_here", "_law_known", "_law_found_here", "_law_k", "_law_part"] ds) C := by
  rintro ds C R ⟨p, c, kn, rfl, hp, hc, hkn, hkl, h⟩
  unfold t__law_template
  walk_at "dl"
  refine ⟨p, 3, c, rfl, by omega, by omega, hp, hc, fun r c1 h0 h1 hr1 => ?_⟩
  walk_at "dl"
  refine pickE h0 (by simpa using h1) fun w hw => ?_
  walk_at "dl"
  refine ⟨p, 4, c1, rfl, by omega, by omega, updC_at, hr1, fun r c2 h0 h1 hr2 => ?_⟩
  walk_at "dl"
  refine pickE h0 (by simpa using h1) fun d hd => ?_
  obtain ⟨k, hk, rfl⟩ := ints_in (ks := [1, 2, 2, 0]) hd
  have hk4 : 0 ≤ k ∧ k ≤ 4 := by
    simp only [List.mem_cons, List.not_mem_nil, or_false] at hk
    omega
  walk_at "dl"
  refine ⟨by omega, by omega, ?_⟩
  obtain ⟨Pv, hPv⟩ : ∃ Pv : Nat → DSt → Cells → Prop, ∀ i δ C', Pv i δ C' ↔ ∃ ps o1 o2 c', δ = [some (.ref p), some (.lst kn), some (.tup (w :: ps)), o1, o2] ∧ C' = updC C p (.lst c') ∧ RowSt c' ∧ ps.length = i ∧ ∀ x ∈ ps, isPlaceD kn x = true ∧ datD 40 x = true := ⟨_, fun _ _ _ => Iff.rfl⟩
  refine for_rng Pv ((hPv _ _ _).mpr ⟨[], none, none, c2, rfl, rfl, hr2, rfl, by simp⟩) (fun i δ C' hi hv => ?_) (fun δ C' hv => ?_)
  · obtain ⟨ps, o1, o2, c3, rfl, rfl, hr3, hpl, hps⟩ := (hPv _ _ _).mp hv
    have hi4 : i < 4 := by omega
    have fin : ∀ d c', isPlaceD kn d = true → datD 40 d = true → RowSt c' → oAdd (.tup (w :: ps)) (.tup [d]) (updC C p (.lst c')) fun v C1 => Pv (i + 1) [some (.ref p), some (.lst kn), some v, some (.int (0 + (i : Nat))), some d] C1 := fun d c' g1 g2 g3 => by
      rw [oAdd_tup (by rw [sizeLine_eq]; simp; omega)]
      refine (hPv _ _ _).mpr ⟨ps ++ [d], _, _, c', rfl, rfl, g3, by simp [hpl], fun x hx => ?_⟩
      rcases List.mem_append.mp hx with hx | hx
      · exact hps x hx
      · rw [List.mem_singleton.mp hx]; exact ⟨g1, g2⟩
    walk_at "dl"
    refine ⟨p, c3, rfl, updC_at, hr3, fun v1 c4 hv1 hr4 => ?_⟩
    have gw := fin v1 c4 (place_worth v1 hv1) (datD_all (by omega) (worths_dat v1 hv1).1) hr4
    walk_at "dl"
    rw [oNe_ok (show okD 60 (D.lst kn) = true from allL hkn 29) (show okD 60 (D.lst []) = true from rfl), eqv_lst_nil]
    walk_at "dl"
    cases ee : kn.isEmpty with
    | true => walk_at "dl"; exact gw
    | false =>
      have hne : 0 < kn.length := by cases kn <;> first | (cases ee; done) | (simp; done)
      walk_at "dl"
      refine ⟨p, 3, c4, rfl, by omega, by omega, updC_at, hr4, fun r c5 h0 h1 hr5 => ?_⟩
      walk_at "dl"
      by_cases hr : 0 < r
      · simp only [hr, decide_true]
        walk_at "dl"
        refine ⟨p, (kn.length : Nat), c5, rfl, by omega, by omega, updC_at, hr5, fun r c6 h0 h1 hr6 => ?_⟩
        walk_at "dl"
        refine pickE h0 h1 fun b hb => ?_
        have hbl := letters_dat b (hkn b hb)
        walk_at "dl"
        refine ⟨p, 3, c6, rfl, by omega, by omega, updC_at, hr6, fun r c7 h0 h1 hr7 => ?_⟩
        walk_at "dl"
        by_cases hz : r = 0
        · simp only [hz, decide_true]
          walk_at "dl"
          refine ⟨p, 4, c7, rfl, by omega, by omega, updC_at, hr7, fun r c8 h0 h1 hr8 => ?_⟩
          walk_at "dl"
          refine pickE h0 (by simpa using h1) fun e he => ?_
          obtain ⟨k, hk, rfl⟩ := ints_in (ks := [1, 0 - 1, 0, 50]) he
          have hk5 : -99 ≤ k ∧ k ≤ 99 := by
            simp only [List.mem_cons, List.not_mem_nil, or_false] at hk
            omega
          walk_at "dl"
          refine fin (.tup [b, .int k]) c8 ?_ ?_ hr8
          · simp only [isPlaceD, hbl.2.1, mem_memD hb (hkn b hb), isNumD, hk5.1, hk5.2, decide_true, Bool.and_self]
          · show ([b, .int k].all (datD 39) && decide (([b, .int k] : List D).length ≤ 6000000)) = true
            simp only [List.all_cons, List.all_nil, Bool.and_true, Bool.and_eq_true]
            exact ⟨⟨datD_all (by omega) hbl.1, rfl⟩, rfl⟩
        · simp only [hz, decide_false]
          walk_at "dl"
          exact fin b c7 (place_letter hb (hkn b hb)) (datD_all (by omega) hbl.1) hr7
      · simp only [hr, decide_false]
        walk_at "dl"
        exact fin v1 c5 (place_worth v1 hv1) (datD_all (by omega) (worths_dat v1 hv1).1) hr5
  · obtain ⟨ps, o1, o2, c3, rfl, rfl, hr3, hpl, hps⟩ := (hPv _ _ _).mp hv
    walk_at "dl"
    refine h _ _ ⟨?_, ?_⟩ hr3
    · simp only [isTemplateD, Bool.and_eq_true, decide_eq_true_eq]
      exact ⟨⟨by omega, (heads_dat w hw).2.1⟩, List.all_eq_true.mpr fun x hx => (hps x hx).1⟩
    · show ((w :: ps).all (datD 44) && decide ((w :: ps).length ≤ 6000000)) = true
      rw [Bool.and_eq_true, decide_eq_true_eq, List.length_cons, List.all_cons, Bool.and_eq_true]
      exact ⟨⟨datD_all (by omega) (heads_dat w hw).1, List.all_eq_true.mpr fun x hx => datD_all (by omega) (hps x hx).2⟩, by omega⟩
theorem oNeg_int {i : Int} {C : Cells} {R : D → Cells → Prop} : oNeg (.int i) C R = R (.int (-i)) C := rfl
abbrev SIDES : List D := [.str "a", .str "b", .int 0, .int 1, .int 2, .str "c", .int 99, .int (-99), .str "X", .str "Y", .str "Z", .str "W"]
def testZ (z : Str) : Bool := z == LESSS || z == SAMES || z == UNLS
/-- a want as the law makes it -/
def WantOk (w : D) : Prop := (∃ z v, w = .tup [.str z, v] ∧ (z = ISS ∨ z = NOTS) ∧ PatOk v) ∨ ∃ z x y, w = .tup [.str z, x, y] ∧ (z = LESSS ∨ z = SAMES ∨ z = UNLS) ∧ x ∈ SIDES ∧ y ∈ SIDES
structure WsOk (ws kn : List D) : Prop where
  bs : wantsBs [] ws = some kn
  kl : ∀ b ∈ kn, b ∈ LETTERS
  ln : kn.length ≤ 5 * ws.length
  all : ∀ w ∈ ws, WantOk w
  fst : ws ≠ [] → firstIs ws = true
structure RuleGood (nm : Str) (r : D) : Prop where
  sh : ∃ (m : Int) (ws qs kn : List D), r = .tup [.str nm, .int m, .tup ws, .tup qs] ∧ -9 ≤ m ∧ m ≤ 9 ∧ WsOk ws kn ∧ 1 ≤ ws.length ∧ ws.length ≤ 5 ∧ 1 ≤ qs.length ∧ qs.length ≤ 4 ∧ (∀ q ∈ qs, isDeedD q ws kn = true)
  dat : datD 49 r = true
theorem parts_part : ∀ d ∈ PARTS, isPartD d = true := by decide +kernel
theorem parts_blank : ∀ d ∈ PARTS, isBlankD d = true → d ∈ LETTERS := by decide +kernel
theorem pat_pattern {v : D} (h : PatOk v) : isPatternD v = true := by
  obtain ⟨w, ps, rfl, hw, hl, hps⟩ := h
  simp only [isPatternD, Bool.and_eq_true, decide_eq_true_eq]
  exact ⟨⟨hl, (heads_dat w hw).2.1⟩, List.all_eq_true.mpr fun x hx => parts_part x (hps x hx)⟩
theorem ws_nil : WsOk [] [] := ⟨rfl, fun _ h => (by cases h), by simp, fun _ h => (by cases h), fun h => absurd rfl h⟩
theorem snoc_step {ws kn : List D} {w : D} (h : WsOk ws kn) (hw : isWantD w kn = true) : wantsBs [] (ws ++ [w]) = some (wantAdd kn w) := by
  rw [wantsBs_snoc, h.bs]
  show (if isWantD w kn = true then some (wantAdd kn w) else none) = _
  rw [if_pos hw]
theorem fst_snoc {ws kn : List D} {w : D} (h : WsOk ws kn) (hf : ws = [] → firstIs [w] = true) : firstIs (ws ++ [w]) = true := by
  cases ws with
  | nil => exact hf rfl
  | cons a r =>
    have := h.fst (by simp)
    rw [List.cons_append]
    cases a <;> first | (cases this; done) | skip
    rename_i ds
    cases ds with
    | nil => cases this
    | cons b s => cases b <;> first | (cases this; done) | exact this
theorem mem_snoc {w : D} {ws : List D} {P : D → Prop} (h : ∀ x ∈ ws, P x) (hw : P w) : ∀ x ∈ ws ++ [w], P x := fun x hx => by
  rcases List.mem_append.mp hx with hx | hx
  · exact h x hx
  · rw [List.mem_singleton.mp hx]; exact hw
theorem ws_is {ws kn ps : List D} {v : D} (h : WsOk ws kn) (hp : PatOk (.tup (v :: ps))) : WsOk (ws ++ [.tup [.str ISS, .tup (v :: ps)]]) (kn ++ blanksL (v :: ps)) := by
  have hw : isWantD (.tup [.str ISS, .tup (v :: ps)]) kn = true := by
    have : (ISS == ISS || ISS == NOTS) = true := by decide +kernel
    simp only [isWantD, this, if_true]
    exact pat_pattern hp
  have ha : wantAdd kn (.tup [.str ISS, .tup (v :: ps)]) = kn ++ blanksL (v :: ps) := by
    have : (ISS == ISS) = true := by decide +kernel
    simp only [wantAdd, this, if_true]
  obtain ⟨_, ps', e, hv, hl, hps⟩ := hp
  cases e
  refine ⟨by rw [snoc_step h hw, ha], fun b hb => ?_, ?_, mem_snoc h.all (.inl ⟨_, _, rfl, .inl rfl, v, ps, rfl, hv, hl, hps⟩), fun _ => fst_snoc h fun _ => show (ISS == ISS) = true by decide +kernel⟩
  · rcases List.mem_append.mp hb with hb | hb
    · exact h.kl b hb
    · obtain ⟨h1, h2⟩ := List.mem_filter.mp hb
      exact parts_blank b (hps b h1) h2
  · rw [List.length_append, List.length_append, List.length_singleton]
    have := blanksL_len (v :: ps)
    have := h.ln
    rw [List.length_cons] at *
    omega
theorem ws_not {ws kn : List D} {v : D} (h : WsOk ws kn) (hne : ws ≠ []) (hp : PatOk v) : WsOk (ws ++ [.tup [.str NOTS, v]]) kn := by
  have hw : isWantD (.tup [.str NOTS, v]) kn = true := by
    have : (NOTS == ISS || NOTS == NOTS) = true := by decide +kernel
    simp only [isWantD, this, if_true]
    exact pat_pattern hp
  have ha : wantAdd kn (.tup [.str NOTS, v]) = kn := by
    obtain ⟨w, ps, rfl, _⟩ := hp
    have : (NOTS == ISS) = false := by decide +kernel
    simp only [wantAdd, this]
    simp
  exact ⟨by rw [snoc_step h hw, ha], h.kl, by rw [List.length_append]; have := h.ln; omega, mem_snoc h.all (.inl ⟨_, _, rfl, .inr rfl, hp⟩), fun _ => fst_snoc h fun e => absurd e hne⟩
theorem ws_test {ws kn : List D} {z : Str} {x y : D} (h : WsOk ws kn) (hne : ws ≠ []) (hz : z = LESSS ∨ z = SAMES ∨ z = UNLS) (hx : x ∈ WORTHS ∨ x ∈ kn) (hy : y ∈ WORTHS ∨ y ∈ kn) : WsOk (ws ++ [.tup [.str z, x, y]]) kn := by
  have ez : (z == ISS || z == NOTS) = false := by rcases hz with rfl | rfl | rfl <;> decide +kernel
  have ez2 : (z == LESSS || z == SAMES || z == UNLS) = true := by rcases hz with rfl | rfl | rfl <;> decide +kernel
  have side : ∀ x, (x ∈ WORTHS ∨ x ∈ kn) → isSideD x kn = true ∧ x ∈ SIDES := fun x hx => by
    rcases hx with hx | hx
    · refine ⟨by unfold isSideD; rw [(worths_dat x hx).2.1]; rfl, ?_⟩
      simp only [List.mem_cons, List.not_mem_nil, or_false] at hx ⊢
      rcases hx with rfl | rfl | rfl | rfl | rfl | rfl | rfl | rfl <;> simp
    · have hl := h.kl x hx
      refine ⟨by unfold isSideD; rw [(letters_dat x hl).2.1, mem_memD hx hl]; simp, ?_⟩
      simp only [List.mem_cons, List.not_mem_nil, or_false] at hl ⊢
      rcases hl with rfl | rfl | rfl | rfl <;> simp
  have hw : isWantD (.tup [.str z, x, y]) kn = true := by
    simp only [isWantD, ez, ez2, List.all_cons, List.all_nil, (side x hx).1, (side y hy).1]
    rfl
  have ha : wantAdd kn (.tup [.str z, x, y]) = kn := by
    have e3 : (z == ISS) = false := by rcases hz with rfl | rfl | rfl <;> decide +kernel
    unfold wantAdd
    split
    · rename_i e
      injection e with e
      injection e with e1 e2
      injection e1 with e1
      subst e1
      rw [e3]
      simp
    · rfl
  exact ⟨by rw [snoc_step h hw, ha], h.kl, by rw [List.length_append]; have := h.ln; omega, mem_snoc h.all (.inr ⟨_, _, _, rfl, hz, (side x hx).2, (side y hy).2⟩), fun _ => fst_snoc h fun e => absurd e hne⟩
theorem sides_dat : ∀ d ∈ SIDES, datD 30 d = true := by decide +kernel
theorem want_dat {w : D} (h : WantOk w) : datD 45 w = true := by
  rcases h with ⟨z, v, rfl, hz, hp⟩ | ⟨z, x, y, rfl, hz, hx, hy⟩
  · have hzd : datD 44 (.str z) = true := by rcases hz with rfl | rfl <;> decide +kernel
    show ([.str z, v].all (datD 44) && decide (([.str z, v] : List D).length ≤ 6000000)) = true
    simp only [List.all_cons, List.all_nil, Bool.and_true, hzd, datD_all (show 40 ≤ 44 by omega) (pat_dat hp), Bool.true_and]
    rfl
  · have hzd : datD 44 (.str z) = true := by rcases hz with rfl | rfl | rfl <;> decide +kernel
    show ([.str z, x, y].all (datD 44) && decide (([.str z, x, y] : List D).length ≤ 6000000)) = true
    simp only [List.all_cons, List.all_nil, Bool.and_true, hzd, datD_all (show 30 ≤ 44 by omega) (sides_dat x hx), datD_all (show 30 ≤ 44 by omega) (sides_dat y hy), Bool.true_and]
    rfl
/-- two cells: the row's, and one more -/
theorem updC2 {C : Cells} {p q : Addr} {c c' w : Cell} (h : q ≠ p) : updC (updC (updC C p c) q w) p c' = updC (updC C p c') q w := by
  rw [← updC_comm h.symm, DL.updC_upd]
  exact updC_comm h.symm ▸ rfl
theorem at2 {C : Cells} {p q : Addr} {c w : Cell} (h : q ≠ p) : updC (updC C p c) q w p = some c := by
  rw [DL.updC_ne h.symm, updC_at]
theorem lss_upd2 {R : D → Cells → Prop} {d : D} {C : Cells} {q r : Addr} {x y : Cell} (hq : C q = none) (hr : updC C q x r = none) (h : R d C) : lss R d (updC (updC C q x) r y) := by
  refine ⟨C, fun a c e => ?_, h⟩
  have h1 : a ≠ q := by rintro rfl; rw [hq] at e; cases e
  have h2 : a ≠ r := by
    rintro rfl
    rw [DL.updC_ne h1, e] at hr
    cases hr
  rw [DL.updC_ne h2, DL.updC_ne h1]
  exact e
def headIs (d : D) : Bool := match d with
  | .tup (.str z :: _) => z == ISS
  | _ => false
theorem wantAt_head {ws : List D} {i : Int} {d : D} (h : atI ws i = some d) : isWantAt ws (.int i) = headIs d := by
  simp only [isWantAt, h]
  cases d <;> first | rfl | skip
  rename_i ds
  rcases ds with _ | ⟨b, ds⟩
  · rfl
  · cases b <;> rfl
theorem firstIs_cons (a : D) (r : List D) : firstIs (a :: r) = headIs a := by
  cases a <;> first | rfl | skip
  rename_i ds
  rcases ds with _ | ⟨b, ds⟩
  · rfl
  · cases b <;> rfl
theorem deed_take {n : Nat} {ws kn : List D} (hn : n < ws.length) (hw : isWantAt ws (.int (n : Nat)) = true) : isDeedD (.tup [.str TAKES, .int (n : Nat)]) ws kn = true := by
  have e : (TAKES == TAKES) = true := by decide +kernel
  simp only [isDeedD, e, if_true, hw, isNumD, Bool.and_true, Bool.and_eq_true, decide_eq_true_eq]
  omega
theorem deed_tell {z : Str} {v : D} {ws kn : List D} (h1 : tellerD z = true) (h2 : (z == TAKES) = false) (h3 : isTemplateD v kn = true) : isDeedD (.tup [.str z, v]) ws kn = true := by
  simp only [isDeedD, h1, h2, h3]
  rfl
theorem take_dat {n : Int} : datD 47 (.tup [.str TAKES, .int n]) = true := by
  show ([.str TAKES, .int n].all (datD 46) && decide (([.str TAKES, .int n] : List D).length ≤ 6000000)) = true
  simp only [List.all_cons, List.all_nil, Bool.and_true, show datD 46 (.str TAKES) = true by decide +kernel, Bool.true_and]
  rfl
theorem tell_dat {z : Str} {v : D} (h : datD 46 (.str z) = true) (hv : datD 46 v = true) : datD 47 (.tup [.str z, v]) = true := by
  show ([.str z, v].all (datD 46) && decide (([.str z, v] : List D).length ≤ 6000000)) = true
  simp only [List.all_cons, List.all_nil, Bool.and_true, h, hv, Bool.true_and]
  rfl
abbrev str3 (z : Str) : Str := z
def a__law_rule : ASp := fun ds C R => ∃ p c nm, ds = [.ref p, .str nm] ∧ C p = some (.lst c) ∧ RowSt c ∧ datD 40 (.str nm) = true ∧ isWordD (.str nm) = true ∧ ∀ v c', RuleGood nm v → RowSt c' → R v (updC C p (.lst c'))
def tlr_a (a__law_taken : ASp) (a__law_pattern : ASp) (a__law_letters : ASp) (a__law_worth : ASp) (a__law_template : ASp) : DS := dSeq (dDrop (dMtL omAppend (dVar 3) (dCons (dTup (dCons (dC (.str "is")) (dCons (dCall a__law_pattern [] (dCons (dVar 0) (dCons (dC (.str "XYZ")) (dNil)))) (dNil)))) (dNil)))) (dAsg (dOp oAdd (dVar 2) (dCall a__law_letters [] (dCons (dOp oIx (dOp oIx (dVar 3) (dUn oNeg (dC (.int 1)))) (dC (.int 1))) (dNil)))) (gdName 2))
def tlr_b (a__law_taken : ASp) (a__law_pattern : ASp) (a__law_letters : ASp) (a__law_worth : ASp) (a__law_template : ASp) : DS := dDrop (dMtL omAppend (dVar 3) (dCons (dTup (dCons (dC (.str "not")) (dCons (dCall a__law_pattern [] (dCons (dVar 0) (dCons (dC (.str "XYW")) (dNil)))) (dNil)))) (dNil)))
def tlr_d (a__law_taken : ASp) (a__law_pattern : ASp) (a__law_letters : ASp) (a__law_worth : ASp) (a__law_template : ASp) : DS := dSeq (dAsg (dIf (dTest (dOp oEq (dCall a__law_taken [] (dCons (dVar 0) (dCons (dC (.int 2)) (dNil)))) (dC (.int 0)))) (dTup (dCons (dVar 6) (dCons (dVar 7) (dNil)))) (dTup (dCons (dVar 7) (dCons (dVar 6) (dNil))))) (gdName 8)) (dDrop (dMtL omAppend (dVar 3) (dCons (dOp oAdd (dTup (dCons (dOp oIx (dLst (dCons (dC (.str "less")) (dCons (dC (.str "same")) (dCons (dC (.str "unlike")) (dNil))))) (dCall a__law_taken [] (dCons (dVar 0) (dCons (dC (.int 3)) (dNil))))) (dNil))) (dVar 8)) (dNil))))
def tlr_c2 (a__law_taken : ASp) (a__law_pattern : ASp) (a__law_letters : ASp) (a__law_worth : ASp) (a__law_template : ASp) : DS := dSeq (dAsg (dOp oIx (dLst (dCons (dCall a__law_worth [] (dCons (dVar 0) (dNil))) (dCons (dOp oIx (dVar 2) (dCall a__law_taken [] (dCons (dVar 0) (dCons (dFn oLen (dCons (dVar 2) (dNil))) (dNil))))) (dNil)))) (dCall a__law_taken [] (dCons (dVar 0) (dCons (dC (.int 2)) (dNil))))) (gdName 7)) (tlr_d a__law_taken a__law_pattern a__law_letters a__law_worth a__law_template)
def tlr_c (a__law_taken : ASp) (a__law_pattern : ASp) (a__law_letters : ASp) (a__law_worth : ASp) (a__law_template : ASp) : DS := dSeq (dAsg (dOp oIx (dVar 2) (dCall a__law_taken [] (dCons (dVar 0) (dCons (dFn oLen (dCons (dVar 2) (dNil))) (dNil))))) (gdName 6)) (tlr_c2 a__law_taken a__law_pattern a__law_letters a__law_worth a__law_template)
def tlr_t (a__law_taken : ASp) (a__law_pattern : ASp) (a__law_letters : ASp) (a__law_worth : ASp) (a__law_template : ASp) : DS := dSeq (dAsg (dLc (diRng1 (dCons (dFn oLen (dCons (dVar 3) (dNil))) (dNil))) (gdName 4) (dTest (dOp oEq (dOp oIx (dOp oIx (dVar 3) (dVar 4)) (dC (.int 0))) (dC (.str "is")))) (dVar 4) [4]) (gdName 9)) (dSeq (dAsg (dLstC (dNil)) (gdName 10)) (dSeq (dFor (diRng1 (dCons (dOp oIx (dLst (dCons (dC (.int 1)) (dCons (dC (.int 1)) (dCons (dC (.int 2)) (dCons (dC (.int 3)) (dNil)))))) (dCall a__law_taken [] (dCons (dVar 0) (dCons (dC (.int 4)) (dNil))))) (dNil))) (gdName 4) (dSeq (dAsg (dCall a__law_taken [] (dCons (dVar 0) (dCons (dC (.int 8)) (dNil)))) (gdName 5)) (dIfS (dTest (dOp oEq (dVar 5) (dC (.int 0)))) (dDrop (dMtL omAppend (dVar 10) (dCons (dTup (dCons (dC (.str "take")) (dCons (dOp oIx (dVar 9) (dCall a__law_taken [] (dCons (dVar 0) (dCons (dFn oLen (dCons (dVar 9) (dNil))) (dNil))))) (dNil)))) (dNil)))) (dDrop (dMtL omAppend (dVar 10) (dCons (dTup (dCons (dOp oIx (dLst (dCons (dC (.str "say")) (dCons (dC (.str "add")) (dCons (dC (.str "add")) (dCons (dC (.str "hold")) (dCons (dC (.str "hold")) (dCons (dC (.str "hold")) (dCons (dC (.str "hold")) (dNil))))))))) (dOp oSub (dVar 5) (dC (.int 1)))) (dCons (dCall a__law_template [] (dCons (dVar 0) (dCons (dVar 2) (dNil)))) (dNil)))) (dNil))))))) (dRet (dTup (dCons (dVar 1) (dCons (dOp oSub (dCall a__law_taken [] (dCons (dVar 0) (dCons (dC (.int 3)) (dNil)))) (dC (.int 1))) (dCons (dFn oTuple (dCons (dVar 3) (dNil))) (dCons (dFn oTuple (dCons (dVar 10) (dNil))) (dNil)))))))))
theorem rd__law_rule : ∀ ds C R, a__law_rule ds C R → t__law_rule a__law_taken a__law_pattern a__law_letters a__law_worth a__law_template { nx := fun _ C' => lss R .non C', rt := lss R } (dstart ["_law_row_here", "_law_name", "_law_known", "_law_wants", "_law_k", "_law_way", "_law_side", "_law_other", "_law_pair", "_law_places", "_law_deeds"] ds) C := by
  rintro ds C R ⟨p, c, nm, rfl, hp, hc, hnd, hnw, h⟩
  unfold t__law_rule
  show dSeq _ (dSeq (dFor _ _ (dSeq _ (dIfS _ (tlr_a a__law_taken a__law_pattern a__law_letters a__law_worth a__law_template) (dIfS _ (tlr_b a__law_taken a__law_pattern a__law_letters a__law_worth a__law_template) (tlr_c a__law_taken a__law_pattern a__law_letters a__law_worth a__law_template))))) (tlr_t a__law_taken a__law_pattern a__law_letters a__law_worth a__law_template)) _ _ _
  walk_at "dl"
  intro q hq
  have hpq : q ≠ p := by rintro rfl; rw [hp] at hq; cases hq
  walk_at "dl"
  refine ⟨p, 5, c, rfl, by omega, by omega, by rw [DL.updC_ne hpq.symm]; exact hp, hc, fun r c1 h0 h1 hr1 => ?_⟩
  rw [updC_comm hpq.symm]
  walk_at "dl"
  refine pickE h0 (by simpa using h1) fun d hd => ?_
  obtain ⟨k, hk, rfl⟩ := ints_in (ks := [1, 2, 2, 3, 4]) hd
  have hk4 : 1 ≤ k ∧ k ≤ 4 := by
    simp only [List.mem_cons, List.not_mem_nil, or_false] at hk
    omega
  walk_at "dl"
  refine ⟨by omega, by omega, ?_⟩
  obtain ⟨Pv, hPv⟩ : ∃ Pv : Nat → DSt → Cells → Prop, ∀ i δ C', Pv i δ C' ↔ ∃ ws kn o4 o5 o6 o7 o8 c', δ = [some (.ref p), some (.str nm), some (.lst kn), some (.ref q), o4, o5, o6, o7, o8, none, none] ∧ C' = updC (updC C p (.lst c')) q (.lst ws) ∧ RowSt c' ∧ WsOk ws kn ∧ ws.length = i := ⟨_, fun _ _ _ => Iff.rfl⟩
  refine for_rng Pv ((hPv _ _ _).mpr ⟨[], [], none, none, none, none, none, c1, rfl, rfl, hr1, ws_nil, rfl⟩) (fun i δ C' hi hv => ?_) (fun δ C' hv => ?_)
  · obtain ⟨ws, kn, o4, o5, o6, o7, o8, c3, rfl, rfl, hr3, hws, hwl⟩ := (hPv _ _ _).mp hv
    have hi4 : i < 4 := by omega
    have hkn : kn.length ≤ 20 := by have := hws.ln; omega
    by_cases hi0 : i = 0
    · subst hi0
      obtain rfl := List.length_eq_zero_iff.mp hwl
      walk_at "dl"
      simp only [show decide ((0 : Int) < 0 + ((0 : Nat) : Int)) = false from rfl]
      walk_at "dl"
      simp only [show decide ((0 : Int) < 4) = true from rfl]
      walk_at "dl"
      unfold tlr_a
      walk_at "dl"
      refine ⟨p, c3, str3 "XYZ", rfl, at2 hpq, hr3, rfl, by decide +kernel, fun v c5 hv5 hr5 => ?_⟩
      obtain ⟨w, ps, rfl, hw', hl', hps'⟩ := id hv5
      rw [updC2 hpq]
      walk_at "dl"
      simp only [oNeg_int]
      rw [oIx_ref updC_at]
      simp only [oNeg_int, atI_m1, List.getLast?_append, List.getLast?_singleton, Option.some_or]
      walk_at "dl"
      refine ⟨w, ps, rfl, hps', by omega, ?_⟩
      walk_at "dl"
      rw [oAdd_lst (by have := blanksL_len (w :: ps); rw [List.length_cons] at this; rw [sizeLine_eq]; omega)]
      walk_at "dl"
      exact (hPv _ _ _).mpr ⟨_, _, _, _, _, _, _, c5, rfl, rfl, hr5, ws_is hws hv5, by simp [hwl]⟩
    · have hwne : ws ≠ [] := by rintro rfl; exact hi0 (by simpa using hwl.symm)
      walk_at "dl"
      simp only [show decide ((0 : Int) < 0 + (i : Int)) = true from decide_eq_true (by omega)]
      walk_at "dl"
      refine ⟨p, 8, c3, rfl, by omega, by omega, at2 hpq, hr3, fun y c4 h0 h1 hr4 => ?_⟩
      rw [updC2 hpq]
      walk_at "dl"
      by_cases hy4 : y < 4
      · simp only [hy4, decide_true]
        walk_at "dl"
        unfold tlr_a
        walk_at "dl"
        refine ⟨p, c4, str3 "XYZ", rfl, at2 hpq, hr4, rfl, by decide +kernel, fun v c5 hv5 hr5 => ?_⟩
        obtain ⟨w, ps, rfl, hw', hl', hps'⟩ := id hv5
        rw [updC2 hpq]
        walk_at "dl"
        refine ⟨by rw [sizeLine_eq]; omega, ?_⟩
        simp only [oNeg_int]
        rw [oIx_ref updC_at]
        simp only [oNeg_int, atI_m1, List.getLast?_append, List.getLast?_singleton, Option.some_or]
        walk_at "dl"
        refine ⟨w, ps, rfl, hps', by omega, ?_⟩
        walk_at "dl"
        rw [oAdd_lst (by have := blanksL_len (w :: ps); rw [List.length_cons] at this; rw [sizeLine_eq]; omega)]
        walk_at "dl"
        exact (hPv _ _ _).mpr ⟨_, _, _, _, _, _, _, c5, rfl, rfl, hr5, ws_is hws hv5, by simp [hwl]⟩
      · simp only [hy4, decide_false]
        walk_at "dl"
        by_cases hy5 : 5 < y
        · simp only [hy5, decide_true]
          walk_at "dl"
          rw [oEq_ok (show okD 60 (D.lst kn) = true from allL hws.kl 29) (show okD 60 (D.lst []) = true from rfl), eqv_lst_nil]
          walk_at "dl"
          cases ee : kn.isEmpty with
          | true =>
            walk_at "dl"
            unfold tlr_a
            walk_at "dl"
            refine ⟨p, c4, str3 "XYZ", rfl, at2 hpq, hr4, rfl, by decide +kernel, fun v c5 hv5 hr5 => ?_⟩
            obtain ⟨w, ps, rfl, hw', hl', hps'⟩ := id hv5
            rw [updC2 hpq]
            walk_at "dl"
            refine ⟨by rw [sizeLine_eq]; omega, ?_⟩
            simp only [oNeg_int]
            rw [oIx_ref updC_at]
            simp only [oNeg_int, atI_m1, List.getLast?_append, List.getLast?_singleton, Option.some_or]
            walk_at "dl"
            refine ⟨w, ps, rfl, hps', by omega, ?_⟩
            walk_at "dl"
            rw [oAdd_lst (by have := blanksL_len (w :: ps); rw [List.length_cons] at this; rw [sizeLine_eq]; omega)]
            walk_at "dl"
            exact (hPv _ _ _).mpr ⟨_, _, _, _, _, _, _, c5, rfl, rfl, hr5, ws_is hws hv5, by simp [hwl]⟩
          | false =>
            have hne : 0 < kn.length := by cases kn <;> first | (cases ee; done) | (simp; done)
            walk_at "dl"
            simp only [show decide (y < 6) = false from decide_eq_false (by omega)]
            walk_at "dl"
            unfold tlr_c
            walk_at "dl"
            refine ⟨p, (kn.length : Nat), c4, rfl, by omega, by omega, at2 hpq, hr4, fun r c5 h0 h1 hr5 => ?_⟩
            rw [updC2 hpq]
            walk_at "dl"
            refine pickE h0 h1 fun sd hsd => ?_
            walk_at "dl"
            unfold tlr_c2
            walk_at "dl"
            refine ⟨p, c5, rfl, at2 hpq, hr5, fun v1 c6 hv1 hr6 => ?_⟩
            rw [updC2 hpq]
            walk_at "dl"
            refine ⟨p, (kn.length : Nat), c6, rfl, by omega, by omega, at2 hpq, hr6, fun r c7 h0 h1 hr7 => ?_⟩
            rw [updC2 hpq]
            walk_at "dl"
            refine pickE h0 h1 fun s2 hs2 => ?_
            walk_at "dl"
            refine ⟨p, 2, c7, rfl, by omega, by omega, at2 hpq, hr7, fun r c8 h0 h1 hr8 => ?_⟩
            rw [updC2 hpq]
            walk_at "dl"
            refine pickE h0 (by simpa using h1) fun ot hot => ?_
            have hot2 : ot ∈ WORTHS ∨ ot ∈ kn := by
              simp only [List.mem_cons, List.not_mem_nil, or_false] at hot
              rcases hot with rfl | rfl
              · exact .inl hv1
              · exact .inr hs2
            walk_at "dl"
            unfold tlr_d
            walk_at "dl"
            refine ⟨p, 2, c8, rfl, by omega, by omega, at2 hpq, hr8, fun r2 c9 h0 h1 hr9 => ?_⟩
            rw [updC2 hpq]
            walk_at "dl"
            by_cases hz : r2 = 0
            · simp only [hz, decide_true]
              walk_at "dl"
              refine ⟨p, 3, c9, rfl, by omega, by omega, at2 hpq, hr9, fun r c10 h0 h1 hr10 => ?_⟩
              rw [updC2 hpq]
              walk_at "dl"
              refine pickE h0 (by simpa using h1) fun tz htz => ?_
              obtain ⟨z, rfl, hzz⟩ : ∃ z, tz = .str z ∧ (z = LESSS ∨ z = SAMES ∨ z = UNLS) := by
                simp only [List.mem_cons, List.not_mem_nil, or_false] at htz
                rcases htz with rfl | rfl | rfl
                · exact ⟨_, rfl, .inl rfl⟩
                · exact ⟨_, rfl, .inr (.inl rfl)⟩
                · exact ⟨_, rfl, .inr (.inr rfl)⟩
              walk_at "dl"
              rw [oAdd_tup (by rw [sizeLine_eq]; simp)]
              walk_at "dl"
              refine ⟨by rw [sizeLine_eq]; omega, ?_⟩
              exact (hPv _ _ _).mpr ⟨_, _, _, _, _, _, _, c10, rfl, rfl, hr10, ws_test hws hwne hzz (.inr hsd) (hot2), by simp [hwl]⟩
            · simp only [hz, decide_false]
              walk_at "dl"
              refine ⟨p, 3, c9, rfl, by omega, by omega, at2 hpq, hr9, fun r c10 h0 h1 hr10 => ?_⟩
              rw [updC2 hpq]
              walk_at "dl"
              refine pickE h0 (by simpa using h1) fun tz htz => ?_
              obtain ⟨z, rfl, hzz⟩ : ∃ z, tz = .str z ∧ (z = LESSS ∨ z = SAMES ∨ z = UNLS) := by
                simp only [List.mem_cons, List.not_mem_nil, or_false] at htz
                rcases htz with rfl | rfl | rfl
                · exact ⟨_, rfl, .inl rfl⟩
                · exact ⟨_, rfl, .inr (.inl rfl)⟩
                · exact ⟨_, rfl, .inr (.inr rfl)⟩
              walk_at "dl"
              rw [oAdd_tup (by rw [sizeLine_eq]; simp)]
              walk_at "dl"
              refine ⟨by rw [sizeLine_eq]; omega, ?_⟩
              exact (hPv _ _ _).mpr ⟨_, _, _, _, _, _, _, c10, rfl, rfl, hr10, ws_test hws hwne hzz (hot2) (.inr hsd), by simp [hwl]⟩
        · simp only [hy5, decide_false]
          walk_at "dl"
          simp only [show decide (y < 6) = true from decide_eq_true (by omega)]
          walk_at "dl"
          unfold tlr_b
          walk_at "dl"
          refine ⟨p, c4, str3 "XYW", rfl, at2 hpq, hr4, rfl, by decide +kernel, fun v c5 hv5 hr5 => ?_⟩
          rw [updC2 hpq]
          walk_at "dl"
          refine ⟨by rw [sizeLine_eq]; omega, ?_⟩
          exact (hPv _ _ _).mpr ⟨_, _, _, _, _, _, _, c5, rfl, rfl, hr5, ws_not hws hwne hv5, by simp [hwl]⟩
  · obtain ⟨ws, kn, o4, o5, o6, o7, o8, c3, rfl, rfl, hr3, hws, hwl⟩ := (hPv _ _ _).mp hv
    have hw1 : 1 ≤ ws.length := by omega
    have hw5 : ws.length ≤ 4 := by omega
    have hkn : kn.length ≤ 20 := by have := hws.ln; omega
    unfold tlr_t
    walk_at "dl"
    rw [oLen_ref updC_at]
    walk_at "dl"
    refine ⟨by omega, by omega, ?_⟩
    obtain ⟨Pl, hPl⟩ : ∃ Pl : Nat → List D → Cells → Prop, ∀ i acc C', Pl i acc C' ↔ C' = updC (updC C p (.lst c3)) q (.lst ws) ∧ (∀ x ∈ acc, ∃ n : Nat, x = .int (n : Nat) ∧ n < ws.length ∧ isWantAt ws x = true) ∧ (0 < i → acc ≠ []) ∧ acc.length ≤ i := ⟨_, fun _ _ _ => Iff.rfl⟩
    refine lc_inv (n := ((ws.length : Nat) : Int).toNat) Pl (fun i _ hi => hi) (fun _ => Nat.le_refl _) ((hPl _ _ _).mpr ⟨rfl, by simp, by simp, by simp⟩) (fun i d acc C' hi hy hv => ?_) (fun acc C' hv => ?_)
    · obtain ⟨rfl, ha1, ha2, ha3⟩ := (hPl _ _ _).mp hv
      have hy : d = .int (0 + (i : Int)) := hy
      subst hy
      have hiw : i < ws.length := by omega
      walk_at "dl"
      rw [oIx_ref updC_at]
      simp only [Int.zero_add, atI_cast]
      walk_at "dl"
      refine ⟨ws[i], List.getElem?_eq_getElem hiw, ?_⟩
      have hwd := want_dat (hws.all _ (List.getElem_mem hiw))
      have hwa : isWantAt ws (.int (i : Nat)) = headIs ws[i] := wantAt_head (by rw [atI_cast]; exact List.getElem?_eq_getElem hiw)
      have h00 : i = 0 → isWantAt ws (.int (i : Nat)) = true := fun e => by
        subst e
        have := hws.fst (by rintro rfl; simp at hiw)
        rw [hwa]
        cases ws with
        | nil => simp at hiw
        | cons a r => rw [firstIs_cons] at this; exact this
      have yes : isWantAt ws (.int (i : Nat)) = true → Pl (i + 1) (acc ++ [.int (i : Nat)]) (updC (updC C p (.lst c3)) q (.lst ws)) := fun e => (hPl _ _ _).mpr ⟨rfl, mem_snoc ha1 ⟨i, rfl, hiw, e⟩, by simp, by simp; omega⟩
      have no : isWantAt ws (.int (i : Nat)) = false → Pl (i + 1) acc (updC (updC C p (.lst c3)) q (.lst ws)) := fun e => (hPl _ _ _).mpr ⟨rfl, ha1, fun _ => ha2 (by
        refine Nat.pos_of_ne_zero fun e0 => ?_
        rw [h00 e0] at e
        cases e), by omega⟩
      rcases hws.all _ (List.getElem_mem hiw) with ⟨z, v, e, hz, hpv⟩ | ⟨z, x, y, e, hz, hx, hy2⟩
      all_goals
        rw [e] at hwd hwa ⊢
        have hzd := datD_item hwd (show D.str z ∈ D.str z :: _ from List.mem_cons_self)
        walk_at "dl"
        simp only [oEq_str (datD_sok hzd) okIS]
        walk_at "dl"
        have hwa : isWantAt ws (.int (i : Nat)) = (z == ISS) := hwa
        cases ez : (z == ISS) with
        | true =>
          walk_at "dl"
          exact ⟨by rw [sizeLine_eq]; omega, yes (by rw [hwa, ez])⟩
        | false =>
          walk_at "dl"
          exact no (by rw [hwa, ez])
    · obtain ⟨rfl, ha1, ha2, ha3⟩ := (hPl _ _ _).mp hv
      have hne : acc ≠ [] := ha2 (by omega)
      have hal : 0 < acc.length := List.length_pos_iff.mpr hne
      walk_at "dl"
      intro r hr
      have hrq : r ≠ q := by rintro rfl; rw [updC_at] at hr; cases hr
      have hrp : r ≠ p := by rintro rfl; rw [at2 hpq] at hr; cases hr
      have hCq : updC C q (.lst ws) r = none := by
        rw [DL.updC_ne hrq] at hr ⊢
        rw [DL.updC_ne hrp] at hr
        exact hr
      rw [show updC (updC C p (.lst c3)) q (.lst ws) = updC (updC C q (.lst ws)) p (.lst c3) from updC_comm hpq]
      refine ⟨p, 4, c3, rfl, by omega, by omega, at2 hrp, hr3, fun y c4 h0 h1 hr4 => ?_⟩
      rw [updC2 hrp]
      walk_at "dl"
      refine pickE h0 (by simpa using h1) fun d hd => ?_
      obtain ⟨k2, hk2, rfl⟩ := ints_in (ks := [1, 1, 2, 3]) hd
      have hk24 : 1 ≤ k2 ∧ k2 ≤ 3 := by
        simp only [List.mem_cons, List.not_mem_nil, or_false] at hk2
        omega
      walk_at "dl"
      refine ⟨by omega, by omega, ?_⟩
      obtain ⟨Pw, hPw⟩ : ∃ Pw : Nat → DSt → Cells → Prop, ∀ i δ C', Pw i δ C' ↔ ∃ qs o4 o5 o6 o7 o8 c', δ = [some (.ref p), some (.str nm), some (.lst kn), some (.ref q), o4, o5, o6, o7, o8, some (.lst acc), some (.ref r)] ∧ C' = updC (updC (updC C q (.lst ws)) p (.lst c')) r (.lst qs) ∧ RowSt c' ∧ qs.length = i ∧ (∀ x ∈ qs, isDeedD x ws kn = true ∧ datD 47 x = true) := ⟨_, fun _ _ _ => Iff.rfl⟩
      refine for_rng Pw ((hPw _ _ _).mpr ⟨[], _, _, _, _, _, c4, rfl, rfl, hr4, rfl, by simp⟩) (fun i δ C' hi hv => ?_) (fun δ C' hv => ?_)
      · obtain ⟨qs, o4, o5, o6, o7, o8, c5, rfl, rfl, hr5, hql, hqs⟩ := (hPw _ _ _).mp hv
        walk_at "dl"
        refine ⟨p, 8, c5, rfl, by omega, by omega, at2 hrp, hr5, fun y c6 h0 h1 hr6 => ?_⟩
        rw [updC2 hrp]
        walk_at "dl"
        by_cases hy0 : y = 0
        · simp only [hy0, decide_true]
          walk_at "dl"
          refine ⟨p, (acc.length : Nat), c6, rfl, by omega, by omega, at2 hrp, hr6, fun y c7 h0 h1 hr7 => ?_⟩
          rw [updC2 hrp]
          walk_at "dl"
          refine pickE h0 h1 fun pl hpl => ?_
          obtain ⟨n, rfl, hn, hwn⟩ := ha1 pl hpl
          walk_at "dl"
          refine ⟨by rw [sizeLine_eq]; omega, (hPw _ _ _).mpr ⟨_, _, _, _, _, _, c7, rfl, rfl, hr7, by simp [hql], mem_snoc hqs ⟨?_, ?_⟩⟩⟩
          · exact deed_take hn hwn
          · exact take_dat
        · simp only [hy0, decide_false]
          walk_at "dl"
          refine pickE (by omega) (by simp; omega) fun td htd => ?_
          obtain ⟨z, rfl, hz1, hz2, hz3⟩ : ∃ z, td = .str z ∧ tellerD z = true ∧ (z == TAKES) = false ∧ datD 46 (.str z) = true := by
            simp only [List.mem_cons, List.not_mem_nil, or_false] at htd
            rcases htd with rfl | rfl | rfl | rfl | rfl | rfl | rfl <;> exact ⟨_, rfl, by decide +kernel, by decide +kernel, by decide +kernel⟩
          walk_at "dl"
          refine ⟨p, c6, kn, rfl, at2 hrp, hr6, hws.kl, by omega, fun v c7 hv7 hr7 => ?_⟩
          rw [updC2 hrp]
          walk_at "dl"
          refine ⟨by rw [sizeLine_eq]; omega, (hPw _ _ _).mpr ⟨_, _, _, _, _, _, c7, rfl, rfl, hr7, by simp [hql], mem_snoc hqs ⟨?_, ?_⟩⟩⟩
          · exact deed_tell hz1 hz2 hv7.1
          · exact tell_dat hz3 (datD_all (by omega) hv7.2)
      · obtain ⟨qs, o4, o5, o6, o7, o8, c5, rfl, rfl, hr5, hql, hqs⟩ := (hPw _ _ _).mp hv
        walk_at "dl"
        refine ⟨p, 3, c5, rfl, by omega, by omega, at2 hrp, hr5, fun y c6 h0 h1 hr6 => ?_⟩
        rw [updC2 hrp]
        walk_at "dl"
        rw [oTuple_def]
        have el : lstOf (updC (updC (updC C q (.lst ws)) p (.lst c6)) r (.lst qs)) (.ref q) = some ws := by
          refine lstOf_at ?_
          rw [DL.updC_ne (Ne.symm hrq), at2 (Ne.symm hpq)]
        simp only [tupOf, el, Option.some.injEq, exists_eq_left']
        rw [oTuple_def]
        simp only [tupOf, lstOf_upd, Option.some.injEq, exists_eq_left']
        walk_at "dl"
        rw [show updC (updC C q (.lst ws)) p (.lst c6) = updC (updC C p (.lst c6)) q (.lst ws) from (updC_comm hpq).symm]
        refine lss_upd2 ?_ ?_ (h _ c6 ⟨⟨y - 1, ws, qs, kn, rfl, by omega, by omega, hws, by omega, by omega, by omega, by omega, fun x hx => (hqs x hx).1⟩, ?_⟩ hr6)
        · rw [DL.updC_ne hpq]; exact hq
        · rw [DL.updC_ne hrq, DL.updC_ne hrp]
          rw [DL.updC_ne hrq] at hCq
          exact hCq
        · show ([.str nm, .int (y - 1), .tup ws, .tup qs].all (datD 48) && decide (([.str nm, .int (y - 1), .tup ws, .tup qs] : List D).length ≤ 6000000)) = true
          have d1 : datD 48 (.tup ws) = true := by
            show (ws.all (datD 47) && decide (ws.length ≤ 6000000)) = true
            rw [Bool.and_eq_true, decide_eq_true_eq]
            exact ⟨List.all_eq_true.mpr fun x hx => datD_all (by omega) (want_dat (hws.all x hx)), by omega⟩
          have d2 : datD 48 (.tup qs) = true := by
            show (qs.all (datD 47) && decide (qs.length ≤ 6000000)) = true
            rw [Bool.and_eq_true, decide_eq_true_eq]
            exact ⟨List.all_eq_true.mpr fun x hx => (hqs x hx).2, by omega⟩
          simp only [List.all_cons, List.all_nil, Bool.and_true, d1, d2, datD_all (show 40 ≤ 48 by omega) hnd, Bool.true_and]
          rfl
theorem updC3 {C : Cells} {p q s : Addr} {c c' k w : Cell} (h1 : q ≠ p) (h2 : s ≠ p) : updC (updC (updC (updC C p c) q k) s w) p c' = updC (updC (updC C p c') q k) s w := by
  rw [updC_comm (C := updC (updC C p c) q k) (h := h2.symm), updC2 h1]
theorem updC2q {C : Cells} {q s : Addr} {k k' w : Cell} (h : s ≠ q) : updC (updC (updC C q k) s w) q k' = updC (updC C q k') s w := updC2 h
theorem at3 {C : Cells} {p q s : Addr} {c k w : Cell} (h1 : q ≠ p) (h2 : s ≠ p) : updC (updC (updC C p c) q k) s w p = some c := by
  rw [DL.updC_ne h2.symm, at2 h1]
theorem letters3 : ∀ c ∈ (("XYZ" : Str)).cps.toList, D.str ⟨#[c]⟩ ∈ LETTERS := by decide +kernel
theorem blanksL_one {h x : D} (hx : x ∈ LETTERS) : blanksL [h, x] = [x] := by
  unfold blanksL
  simp [(letters_dat x hx).2.1]
theorem sub_m1 {qs : List D} {x y : D} {C : Cells} {r : Addr} {δ : DSt} {R : DSt → Cells → Prop} (h : C r = some (.lst (qs ++ [x]))) (k : R δ (updC C r (.lst (qs ++ [y])))) : ∃ p' ds n j', D.ref r = .ref p' ∧ D.int (-1) = .int n ∧ C p' = some (.lst ds) ∧ ixN ds.length n = some j' ∧ R δ (updC C p' (.lst (ds.set j' y))) := by
  refine ⟨r, _, -1, qs.length, rfl, rfl, h, ?_, ?_⟩
  · rw [List.length_append, List.length_singleton]
    unfold ixN
    simp
    omega
  · have : (qs ++ [x]).set qs.length y = qs ++ [y] := by
      rw [List.set_append_right _ _ (Nat.le_refl _)]
      simp
    rw [this]
    exact k
theorem lss_upd3 {R : D → Cells → Prop} {d : D} {C : Cells} {q s r : Addr} {x y z : Cell} (hq : C q = none) (hs : C s = none) (hr : C r = none) (h : R d C) : lss R d (updC (updC (updC C q x) s y) r z) := by
  refine ⟨C, fun a c e => ?_, h⟩
  have h1 : a ≠ q := by rintro rfl; rw [hq] at e; cases e
  have h2 : a ≠ s := by rintro rfl; rw [hs] at e; cases e
  have h3 : a ≠ r := by rintro rfl; rw [hr] at e; cases e
  rw [DL.updC_ne h3, DL.updC_ne h2, DL.updC_ne h1]
  exact e
def a__law_dense_rule : ASp := a__law_rule
def tld_a (a__law_taken : ASp) (a__law_worth : ASp) : DS := dSeq (dDrop (dMtL omAppend (dVar 3) (dCons (dTup (dCons (dC (.str "is")) (dCons (dTup (dCons (dOp oIx (dLst (dCons (dC (.str "on")) (dCons (dC (.str "is")) (dCons (dC (.str "big")) (dNil))))) (dVar 6)) (dCons (dVar 5) (dNil)))) (dNil)))) (dNil)))) (dDrop (dMtL omAppend (dVar 2) (dCons (dVar 5) (dNil))))
def tld_b (a__law_taken : ASp) (a__law_worth : ASp) : DS := dSeq (dAsg (dOp oIx (dLst (dCons (dVar 5) (dCons (dVar 5) (dCons (dCall a__law_worth [] (dCons (dVar 0) (dNil))) (dNil))))) (dCall a__law_taken [] (dCons (dVar 0) (dCons (dC (.int 3)) (dNil))))) (gdName 7)) (dDrop (dMtL omAppend (dVar 3) (dCons (dTup (dCons (dC (.str "not")) (dCons (dTup (dCons (dOp oIx (dLst (dCons (dC (.str "on")) (dCons (dC (.str "is")) (dCons (dC (.str "big")) (dNil))))) (dOp oSub (dVar 6) (dC (.int 3)))) (dCons (dVar 7) (dNil)))) (dNil)))) (dNil))))
def tld_c (a__law_taken : ASp) (a__law_worth : ASp) : DS := dSeq (dAsg (dOp oIx (dVar 2) (dCall a__law_taken [] (dCons (dVar 0) (dCons (dFn oLen (dCons (dVar 2) (dNil))) (dNil))))) (gdName 8)) (dDrop (dMtL omAppend (dVar 3) (dCons (dTup (dCons (dOp oIx (dLst (dCons (dC (.str "less")) (dCons (dC (.str "unlike")) (dNil)))) (dOp oSub (dVar 6) (dC (.int 6)))) (dCons (dVar 8) (dCons (dOp oIx (dLst (dCons (dCall a__law_worth [] (dCons (dVar 0) (dNil))) (dCons (dC (.str "X")) (dNil)))) (dOp oSub (dVar 6) (dC (.int 6)))) (dNil))))) (dNil))))
def tld_t (a__law_taken : ASp) (a__law_worth : ASp) : DS := dSeq (dAsg (dLc (diRng1 (dCons (dFn oLen (dCons (dVar 3) (dNil))) (dNil))) (gdName 4) (dTest (dOp oEq (dOp oIx (dOp oIx (dVar 3) (dVar 4)) (dC (.int 0))) (dC (.str "is")))) (dVar 4) [4]) (gdName 9)) (dSeq (dAsg (dLstC (dNil)) (gdName 10)) (dSeq (dFor (diRng1 (dCons (dOp oAdd (dC (.int 1)) (dCall a__law_taken [] (dCons (dVar 0) (dCons (dC (.int 3)) (dNil))))) (dNil))) (gdName 4) (dSeq (dAsg (dOp oIx (dLst (dCons (dOp oIx (dVar 2) (dCall a__law_taken [] (dCons (dVar 0) (dCons (dFn oLen (dCons (dVar 2) (dNil))) (dNil))))) (dCons (dCall a__law_worth [] (dCons (dVar 0) (dNil))) (dNil)))) (dCall a__law_taken [] (dCons (dVar 0) (dCons (dC (.int 2)) (dNil))))) (gdName 7)) (dSeq (dAsg (dTup (dCons (dOp oIx (dLst (dCons (dC (.str "on")) (dCons (dC (.str "is")) (dCons (dC (.str "big")) (dNil))))) (dCall a__law_taken [] (dCons (dVar 0) (dCons (dC (.int 3)) (dNil))))) (dCons (dVar 7) (dNil)))) (gdName 11)) (dSeq (dDrop (dMtL omAppend (dVar 10) (dCons (dTup (dCons (dOp oIx (dLst (dCons (dC (.str "hold")) (dCons (dC (.str "hold")) (dCons (dC (.str "hold")) (dCons (dC (.str "add")) (dCons (dC (.str "say")) (dCons (dC (.str "take")) (dNil)))))))) (dCall a__law_taken [] (dCons (dVar 0) (dCons (dC (.int 6)) (dNil))))) (dCons (dVar 11) (dNil)))) (dNil)))) (dIfS (dTest (dOp oEq (dOp oIx (dOp oIx (dVar 10) (dUn oNeg (dC (.int 1)))) (dC (.int 0))) (dC (.str "take")))) (dAsg (dTup (dCons (dC (.str "take")) (dCons (dOp oIx (dVar 9) (dCall a__law_taken [] (dCons (dVar 0) (dCons (dFn oLen (dCons (dVar 9) (dNil))) (dNil))))) (dNil)))) (gdSubL (dVar 10) (dUn oNeg (dC (.int 1))))) (dNext)))))) (dRet (dTup (dCons (dVar 1) (dCons (dOp oSub (dCall a__law_taken [] (dCons (dVar 0) (dCons (dC (.int 3)) (dNil)))) (dC (.int 1))) (dCons (dFn oTuple (dCons (dVar 3) (dNil))) (dCons (dFn oTuple (dCons (dVar 10) (dNil))) (dNil)))))))))
theorem rd__law_dense_rule : ∀ ds C R, a__law_dense_rule ds C R → t__law_dense_rule a__law_taken a__law_worth { nx := fun _ C' => lss R .non C', rt := lss R } (dstart ["_law_row_here", "_law_name", "_law_known", "_law_wants", "_law_k", "_law_letter", "_law_way", "_law_part", "_law_side", "_law_places", "_law_deeds", "_law_thing_here"] ds) C := by
  rintro ds C R ⟨p, c, nm, rfl, hp, hc, hnd, hnw, h⟩
  unfold t__law_dense_rule
  show dSeq _ (dSeq (dFor _ _ (dSeq _ (dSeq _ (dIfS _ (tld_a a__law_taken a__law_worth) (dIfS _ (tld_b a__law_taken a__law_worth) (tld_c a__law_taken a__law_worth)))))) (tld_t a__law_taken a__law_worth)) _ _ _
  walk_at "dl"
  intro q hq
  have hpq : q ≠ p := by rintro rfl; rw [hp] at hq; cases hq
  refine ⟨p, 2, c, rfl, by omega, by omega, by rw [DL.updC_ne hpq.symm]; exact hp, hc, fun r c1 h0 h1 hr1 => ?_⟩
  rw [updC_comm hpq.symm]
  walk_at "dl"
  refine pickE h0 (by simpa using h1) fun hd1 hhd1 => ?_
  intro s hs
  have hsq : s ≠ q := by rintro rfl; rw [updC_at] at hs; cases hs
  have hsp : s ≠ p := by rintro rfl; rw [at2 hpq] at hs; cases hs
  have hCs : C s = none := by rw [DL.updC_ne hsq, DL.updC_ne hsp] at hs; exact hs
  walk_at "dl"
  refine ⟨p, 5, c1, rfl, by omega, by omega, at3 hpq hsp, hr1, fun k c2 h0 h1 hr2 => ?_⟩
  rw [updC3 hpq hsp]
  walk_at "dl"
  refine ⟨by omega, by omega, ?_⟩
  have hhd1' : hd1 ∈ HEADS := by
    simp only [List.mem_cons, List.not_mem_nil, or_false] at hhd1 ⊢
    rcases hhd1 with rfl | rfl <;> simp
  have hX : D.str "X" ∈ LETTERS := by simp
  have ws0 : WsOk [.tup [.str ISS, .tup [hd1, .str "X"]]] [.str "X"] := by
    have := ws_is (v := hd1) (ps := [.str "X"]) ws_nil ⟨_, _, rfl, hhd1', by simp, fun x hx => letter_part (by rw [List.mem_singleton.mp hx]; exact hX)⟩
    rw [blanksL_one hX] at this
    exact this
  obtain ⟨Pv, hPv⟩ : ∃ Pv : Nat → DSt → Cells → Prop, ∀ i δ C', Pv i δ C' ↔ ∃ ws kn o4 o5 o6 o7 o8 c', δ = [some (.ref p), some (.str nm), some (.ref q), some (.ref s), o4, o5, o6, o7, o8, none, none, none] ∧ C' = updC (updC (updC C p (.lst c')) q (.lst kn)) s (.lst ws) ∧ RowSt c' ∧ WsOk ws kn ∧ ws.length = i + 1 ∧ D.str "X" ∈ kn := ⟨_, fun _ _ _ => Iff.rfl⟩
  refine for_rng Pv ((hPv _ _ _).mpr ⟨_, _, none, none, none, none, none, c2, rfl, rfl, hr2, ws0, rfl, by simp⟩) (fun i δ C' hi hv => ?_) (fun δ C' hv => ?_)
  · obtain ⟨ws, kn, o4, o5, o6, o7, o8, c3, rfl, rfl, hr3, hws, hwl, hXk⟩ := (hPv _ _ _).mp hv
    have hi4 : i < 4 := by omega
    have hkn : kn.length ≤ 25 := by have := hws.ln; omega
    have hkn0 : 0 < kn.length := List.length_pos_of_mem hXk
    have hwne : ws ≠ [] := by rintro rfl; simp at hwl
    walk_at "dl"
    refine ⟨p, 3, c3, rfl, by omega, by omega, at3 hpq hsp, hr3, fun y c4 h0 h1 hr4 => ?_⟩
    rw [updC3 hpq hsp]
    refine pickS h0 (show y < (("XYZ" : Str).length : Nat) from h1) (by decide) fun l hl => ?_
    have hlet := letters3 l hl
    walk_at "dl"
    refine ⟨p, 8, c4, rfl, by omega, by omega, at3 hpq hsp, hr4, fun y c5 h0 h1 hr5 => ?_⟩
    rw [updC3 hpq hsp]
    walk_at "dl"
    by_cases hy3 : y < 3
    · simp only [hy3, decide_true]
      walk_at "dl"
      unfold tld_a
      walk_at "dl"
      refine pickE h0 (by simpa using hy3) fun w hw => ?_
      walk_at "dl"
      refine ⟨by rw [sizeLine_eq]; omega, ?_⟩
      have hwn := ws_is (v := w) (ps := [.str ⟨#[l]⟩]) hws ⟨_, _, rfl, hw, by simp, fun x hx => letter_part (by rw [List.mem_singleton.mp hx]; exact hlet)⟩
      rw [blanksL_one hlet] at hwn
      have hat : updC (updC (updC C p (.lst c5)) q (.lst kn)) s (.lst (ws ++ [.tup [.str ISS, .tup [w, .str ⟨#[l]⟩]]])) q = some (.lst kn) := at2 hsq
      refine ⟨by unfold isLst; rw [lstOf_at hat]; rfl, ?_⟩
      refine app_at hat (by rw [sizeLine_eq]; omega) ?_
      rw [updC2q hsq]
      exact (hPv _ _ _).mpr ⟨_, _, _, _, _, _, _, c5, rfl, rfl, hr5, hwn, by simp [hwl], List.mem_append_left _ hXk⟩
    · simp only [hy3, decide_false]
      walk_at "dl"
      by_cases hy6 : y < 6
      · simp only [hy6, decide_true]
        walk_at "dl"
        unfold tld_b
        walk_at "dl"
        refine ⟨p, c5, rfl, at3 hpq hsp, hr5, fun v1 c6 hv1 hr6 => ?_⟩
        rw [updC3 hpq hsp]
        walk_at "dl"
        refine ⟨p, 3, c6, rfl, by omega, by omega, at3 hpq hsp, hr6, fun r c7 h0 h1 hr7 => ?_⟩
        rw [updC3 hpq hsp]
        walk_at "dl"
        refine pickE h0 (by simpa using h1) fun pt hpt => ?_
        have hpt2 : pt ∈ PARTS := by
          simp only [List.mem_cons, List.not_mem_nil, or_false] at hpt
          rcases hpt with rfl | rfl | rfl
          · exact letter_part hlet
          · exact letter_part hlet
          · exact worth_part hv1
        walk_at "dl"
        refine pickE (by omega) (by simp; omega) fun w hw => ?_
        walk_at "dl"
        refine ⟨by rw [sizeLine_eq]; omega, ?_⟩
        exact (hPv _ _ _).mpr ⟨_, _, _, _, _, _, _, c7, rfl, rfl, hr7, ws_not hws hwne ⟨_, _, rfl, hw, by simp, fun x hx => by rw [List.mem_singleton.mp hx]; exact hpt2⟩, by simp [hwl], hXk⟩
      · simp only [hy6, decide_false]
        walk_at "dl"
        unfold tld_c
        walk_at "dl"
        have hat : updC (updC (updC C p (.lst c5)) q (.lst kn)) s (.lst ws) q = some (.lst kn) := at2 hsq
        rw [oLen_ref hat]
        walk_at "dl"
        refine ⟨p, (kn.length : Nat), c5, rfl, by omega, by omega, at3 hpq hsp, hr5, fun r c6 h0' h1' hr6 => ?_⟩
        rw [updC3 hpq hsp]
        walk_at "dl"
        have hat6 : updC (updC (updC C p (.lst c6)) q (.lst kn)) s (.lst ws) q = some (.lst kn) := at2 hsq
        rw [oIx_ref hat6]
        refine pickE h0' h1' fun sd hsd => ?_
        walk_at "dl"
        refine pickE (by omega) (by simp; omega) fun tz htz => ?_
        obtain ⟨z, rfl, hzz⟩ : ∃ z, tz = .str z ∧ (z = LESSS ∨ z = SAMES ∨ z = UNLS) := by
          simp only [List.mem_cons, List.not_mem_nil, or_false] at htz
          rcases htz with rfl | rfl
          · exact ⟨_, rfl, .inl rfl⟩
          · exact ⟨_, rfl, .inr (.inr rfl)⟩
        refine ⟨p, c6, rfl, at3 hpq hsp, hr6, fun v1 c7 hv1 hr7 => ?_⟩
        rw [updC3 hpq hsp]
        walk_at "dl"
        refine pickE (by omega) (by simp; omega) fun ot hot => ?_
        have hot2 : ot ∈ WORTHS ∨ ot ∈ kn := by
          simp only [List.mem_cons, List.not_mem_nil, or_false] at hot
          rcases hot with rfl | rfl
          · exact .inl hv1
          · exact .inr hXk
        walk_at "dl"
        refine ⟨by rw [sizeLine_eq]; omega, ?_⟩
        exact (hPv _ _ _).mpr ⟨_, _, _, _, _, _, _, c7, rfl, rfl, hr7, ws_test hws hwne hzz (.inr hsd) hot2, by simp [hwl], hXk⟩
  · obtain ⟨ws, kn, o4, o5, o6, o7, o8, c3, rfl, rfl, hr3, hws, hwl, hXk⟩ := (hPv _ _ _).mp hv
    unfold tld_t
    have hw1 : 1 ≤ ws.length := by omega
    have hw5 : ws.length ≤ 5 := by omega
    have hkn : kn.length ≤ 25 := by have := hws.ln; omega
    have hkn0 : 0 < kn.length := List.length_pos_of_mem hXk
    walk_at "dl"
    rw [oLen_ref updC_at]
    walk_at "dl"
    refine ⟨by omega, by omega, ?_⟩
    obtain ⟨Pl, hPl⟩ : ∃ Pl : Nat → List D → Cells → Prop, ∀ i acc C', Pl i acc C' ↔ C' = updC (updC (updC C p (.lst c3)) q (.lst kn)) s (.lst ws) ∧ (∀ x ∈ acc, ∃ n : Nat, x = .int (n : Nat) ∧ n < ws.length ∧ isWantAt ws x = true) ∧ (0 < i → acc ≠ []) ∧ acc.length ≤ i := ⟨_, fun _ _ _ => Iff.rfl⟩
    refine lc_inv (n := ((ws.length : Nat) : Int).toNat) Pl (fun i _ hi => hi) (fun _ => Nat.le_refl _) ((hPl _ _ _).mpr ⟨rfl, by simp, by simp, by simp⟩) (fun i d acc C' hi hy hv => ?_) (fun acc C' hv => ?_)
    · obtain ⟨rfl, ha1, ha2, ha3⟩ := (hPl _ _ _).mp hv
      have hy : d = .int (0 + (i : Int)) := hy
      subst hy
      have hiw : i < ws.length := by omega
      walk_at "dl"
      rw [oIx_ref updC_at]
      simp only [Int.zero_add, atI_cast]
      walk_at "dl"
      refine ⟨ws[i], List.getElem?_eq_getElem hiw, ?_⟩
      have hwd := want_dat (hws.all _ (List.getElem_mem hiw))
      have hwa : isWantAt ws (.int (i : Nat)) = headIs ws[i] := wantAt_head (by rw [atI_cast]; exact List.getElem?_eq_getElem hiw)
      have h00 : i = 0 → isWantAt ws (.int (i : Nat)) = true := fun e => by
        subst e
        have := hws.fst (by rintro rfl; simp at hiw)
        rw [hwa]
        cases ws with
        | nil => simp at hiw
        | cons a r => rw [firstIs_cons] at this; exact this
      have yes : isWantAt ws (.int (i : Nat)) = true → Pl (i + 1) (acc ++ [.int (i : Nat)]) (updC (updC (updC C p (.lst c3)) q (.lst kn)) s (.lst ws)) := fun e => (hPl _ _ _).mpr ⟨rfl, mem_snoc ha1 ⟨i, rfl, hiw, e⟩, by simp, by simp; omega⟩
      have no : isWantAt ws (.int (i : Nat)) = false → Pl (i + 1) acc (updC (updC (updC C p (.lst c3)) q (.lst kn)) s (.lst ws)) := fun e => (hPl _ _ _).mpr ⟨rfl, ha1, fun _ => ha2 (by
        refine Nat.pos_of_ne_zero fun e0 => ?_
        rw [h00 e0] at e
        cases e), by omega⟩
      rcases hws.all _ (List.getElem_mem hiw) with ⟨z, v, e, hz, hpv⟩ | ⟨z, x, y, e, hz, hx, hy2⟩
      all_goals
        rw [e] at hwd hwa ⊢
        have hzd := datD_item hwd (show D.str z ∈ D.str z :: _ from List.mem_cons_self)
        walk_at "dl"
        simp only [oEq_str (datD_sok hzd) okIS]
        walk_at "dl"
        have hwa : isWantAt ws (.int (i : Nat)) = (z == ISS) := hwa
        cases ez : (z == ISS) with
        | true =>
          walk_at "dl"
          exact ⟨by rw [sizeLine_eq]; omega, yes (by rw [hwa, ez])⟩
        | false =>
          walk_at "dl"
          exact no (by rw [hwa, ez])
    · obtain ⟨rfl, ha1, ha2, ha3⟩ := (hPl _ _ _).mp hv
      have hne : acc ≠ [] := ha2 (by omega)
      have hal : 0 < acc.length := List.length_pos_iff.mpr hne
      walk_at "dl"
      intro r hr
      have hrs : r ≠ s := by rintro rfl; rw [updC_at] at hr; cases hr
      have hrq : r ≠ q := by rintro rfl; rw [at2 hsq] at hr; cases hr
      have hrp : r ≠ p := by rintro rfl; rw [at3 hpq hsp] at hr; cases hr
      have hCr : C r = none := by
        rw [DL.updC_ne hrs, DL.updC_ne hrq, DL.updC_ne hrp] at hr
        exact hr
      obtain ⟨B, hB⟩ : ∃ B, B = updC (updC C q (.lst kn)) s (.lst ws) := ⟨_, rfl⟩
      have eB : ∀ c, updC (updC (updC C p (.lst c)) q (.lst kn)) s (.lst ws) = updC B p (.lst c) := fun c => by
        rw [hB, updC_comm hsp.symm, updC_comm (C := C) hpq.symm]
      have hBq : ∀ c x, updC (updC B p (.lst c)) r (.lst x) q = some (.lst kn) := fun c x => by
        rw [DL.updC_ne hrq.symm, DL.updC_ne hpq, hB, at2 hsq]
      have hBs : ∀ c x, updC (updC B p (.lst c)) r (.lst x) s = some (.lst ws) := fun c x => by
        rw [DL.updC_ne hrs.symm, DL.updC_ne hsp, hB, updC_at]
      rw [eB]
      refine ⟨p, 3, c3, rfl, by omega, by omega, at2 hrp, hr3, fun k2 c4 h0 h1 hr4 => ?_⟩
      rw [updC2 hrp]
      walk_at "dl"
      refine ⟨by omega, by omega, ?_⟩
      obtain ⟨Pw, hPw⟩ : ∃ Pw : Nat → DSt → Cells → Prop, ∀ i δ C', Pw i δ C' ↔ ∃ qs o4 o5 o6 o7 o8 o9 c', δ = [some (.ref p), some (.str nm), some (.ref q), some (.ref s), o4, o5, o6, o7, o8, some (.lst acc), some (.ref r), o9] ∧ C' = updC (updC B p (.lst c')) r (.lst qs) ∧ RowSt c' ∧ qs.length = i ∧ (∀ x ∈ qs, isDeedD x ws kn = true ∧ datD 47 x = true) := ⟨_, fun _ _ _ => Iff.rfl⟩
      refine for_rng Pw ((hPw _ _ _).mpr ⟨[], _, _, _, _, _, _, c4, rfl, rfl, hr4, rfl, by simp⟩) (fun i δ C' hi hv => ?_) (fun δ C' hv => ?_)
      · obtain ⟨qs, o4, o5, o6, o7, o8, o9, c5, rfl, rfl, hr5, hql, hqs⟩ := (hPw _ _ _).mp hv
        walk_at "dl"
        rw [oLen_ref (hBq _ _)]
        walk_at "dl"
        refine ⟨p, (kn.length : Nat), c5, rfl, by omega, by omega, at2 hrp, hr5, fun y c6 h0 h1 hr6 => ?_⟩
        rw [updC2 hrp]
        walk_at "dl"
        rw [oIx_ref (hBq _ _)]
        refine pickE h0 h1 fun l hl => ?_
        refine ⟨p, c6, rfl, at2 hrp, hr6, fun v1 c7 hv1 hr7 => ?_⟩
        rw [updC2 hrp]
        walk_at "dl"
        refine ⟨p, 2, c7, rfl, by omega, by omega, at2 hrp, hr7, fun y c8 h0 h1 hr8 => ?_⟩
        rw [updC2 hrp]
        walk_at "dl"
        refine pickE h0 (by simpa using h1) fun pt hpt => ?_
        have hpl : isPlaceD kn pt = true ∧ datD 30 pt = true := by
          simp only [List.mem_cons, List.not_mem_nil, or_false] at hpt
          rcases hpt with rfl | rfl
          · exact ⟨place_letter hl (hws.kl _ hl), (letters_dat _ (hws.kl _ hl)).1⟩
          · exact ⟨place_worth _ hv1, (worths_dat _ hv1).1⟩
        walk_at "dl"
        refine ⟨p, 3, c8, rfl, by omega, by omega, at2 hrp, hr8, fun y c9 h0 h1 hr9 => ?_⟩
        rw [updC2 hrp]
        walk_at "dl"
        refine pickE h0 (by simpa using h1) fun w hw => ?_
        have htpl : isTemplateD (.tup [w, pt]) kn = true := by
          simp only [isTemplateD, (heads_dat w hw).2.1, List.all_cons, List.all_nil, hpl.1]
          rfl
        have htd : datD 46 (.tup [w, pt]) = true := by
          show ([w, pt].all (datD 45) && decide (([w, pt] : List D).length ≤ 6000000)) = true
          simp only [List.all_cons, List.all_nil, Bool.and_true, datD_all (show 30 ≤ 45 by omega) (heads_dat w hw).1, datD_all (show 30 ≤ 45 by omega) hpl.2, Bool.true_and]
          rfl
        walk_at "dl"
        refine ⟨p, 6, c9, rfl, by omega, by omega, at2 hrp, hr9, fun y c10 h0 h1 hr10 => ?_⟩
        rw [updC2 hrp]
        walk_at "dl"
        refine pickE h0 (by simpa using h1) fun td htd2 => ?_
        obtain ⟨z, rfl, hz1, hz3⟩ : ∃ z, td = .str z ∧ (tellerD z = true ∧ (z == TAKES) = false ∨ (z == TAKES) = true) ∧ datD 46 (.str z) = true := by
          simp only [List.mem_cons, List.not_mem_nil, or_false] at htd2
          rcases htd2 with rfl | rfl | rfl | rfl | rfl | rfl <;> exact ⟨_, rfl, by decide +kernel, by decide +kernel⟩
        walk_at "dl"
        refine ⟨by rw [sizeLine_eq]; omega, ?_⟩
        simp only [oNeg_int]
        rw [oIx_ref updC_at]
        simp only [oNeg_int, atI_m1, List.getLast?_append, List.getLast?_singleton, Option.some_or]
        walk_at "dl"
        simp only [oEq_str (datD_sok hz3) (show PyData.strOk TAKES = true by decide +kernel)]
        walk_at "dl"
        rcases hz1 with ⟨hz1, hz2⟩ | hz2
        · rw [hz2]
          walk_at "dl"
          exact (hPw _ _ _).mpr ⟨_, _, _, _, _, _, _, c10, rfl, rfl, hr10, by simp [hql], mem_snoc hqs ⟨deed_tell hz1 hz2 htpl, tell_dat hz3 htd⟩⟩
        · rw [hz2]
          walk_at "dl"
          refine ⟨p, (acc.length : Nat), c10, rfl, by omega, by omega, at2 hrp, hr10, fun y c11 h0 h1 hr11 => ?_⟩
          rw [updC2 hrp]
          walk_at "dl"
          refine pickE h0 h1 fun pl hpl => ?_
          obtain ⟨n, rfl, hn, hwn⟩ := ha1 pl hpl
          simp only [gdSubL]
          walk_at "dl"
          simp only [oNeg_int]
          refine sub_m1 updC_at ?_
          rw [DL.updC_upd]
          exact (hPw _ _ _).mpr ⟨_, _, _, _, _, _, _, c11, rfl, rfl, hr11, by simp [hql], mem_snoc hqs ⟨deed_take hn hwn, take_dat⟩⟩
      · obtain ⟨qs, o4, o5, o6, o7, o8, o9, c5, rfl, rfl, hr5, hql, hqs⟩ := (hPw _ _ _).mp hv
        walk_at "dl"
        refine ⟨p, 3, c5, rfl, by omega, by omega, at2 hrp, hr5, fun y c6 h0 h1 hr6 => ?_⟩
        rw [updC2 hrp]
        walk_at "dl"
        rw [oTuple_def]
        simp only [tupOf, lstOf_at (hBs _ _), Option.some.injEq, exists_eq_left']
        rw [oTuple_def]
        simp only [tupOf, lstOf_upd, Option.some.injEq, exists_eq_left']
        walk_at "dl"
        have e4 : updC (updC B p (.lst c6)) r (.lst qs) = updC (updC (updC (updC C p (.lst c6)) q (.lst kn)) s (.lst ws)) r (.lst qs) := by rw [eB]
        rw [e4]
        refine lss_upd3 (by rw [DL.updC_ne hpq]; exact hq) (by rw [DL.updC_ne hsp]; exact hCs) (by rw [DL.updC_ne hrp]; exact hCr) (h _ c6 ⟨⟨y - 1, ws, qs, kn, rfl, by omega, by omega, hws, by omega, by omega, by omega, by omega, fun x hx => (hqs x hx).1⟩, ?_⟩ hr6)
        show ([.str nm, .int (y - 1), .tup ws, .tup qs].all (datD 48) && decide (([.str nm, .int (y - 1), .tup ws, .tup qs] : List D).length ≤ 6000000)) = true
        have d1 : datD 48 (.tup ws) = true := by
          show (ws.all (datD 47) && decide (ws.length ≤ 6000000)) = true
          rw [Bool.and_eq_true, decide_eq_true_eq]
          exact ⟨List.all_eq_true.mpr fun x hx => datD_all (by omega) (want_dat (hws.all x hx)), by omega⟩
        have d2 : datD 48 (.tup qs) = true := by
          show (qs.all (datD 47) && decide (qs.length ≤ 6000000)) = true
          rw [Bool.and_eq_true, decide_eq_true_eq]
          exact ⟨List.all_eq_true.mpr fun x hx => (hqs x hx).2, by omega⟩
        simp only [List.all_cons, List.all_nil, Bool.and_true, d1, d2, datD_all (show 40 ≤ 48 by omega) hnd, Bool.true_and]
        rfl
abbrev NAMES : List Str := ["r", "run", "go", "z"]
def RulesGood (rs : List D) : Prop := rs ≠ [] ∧ rs.length ≤ 4 ∧ ∀ (i : Nat) (r : D), rs[i]? = some r → ∃ nm, NAMES[i]? = some nm ∧ RuleGood nm r
theorem names_ok : ∀ nm ∈ NAMES, datD 40 (.str nm) = true ∧ isWordD (.str nm) = true := by decide +kernel
theorem names_new : ∀ i < 4, ∀ nm, NAMES[i]? = some nm → memD (.str nm) ((NAMES.take i).map D.str) = false := by decide +kernel
theorem rule_bad {nm : Str} {r : D} {ns : List D} (hw : isWordD (.str nm) = true) (hn : memD (.str nm) ns = false) (h : RuleGood nm r) : badPartD r ns = .non ∧ ∃ l, r = .tup (.str nm :: l) := by
  obtain ⟨m, ws, qs, kn, rfl, h1, h2, hws, h3, h4, h5, h6, h7⟩ := h.sh
  refine ⟨?_, _, rfl⟩
  have hm : isNumD (.int m) (-9) 9 = true := by simp only [isNumD, h1, h2, decide_true, Bool.and_self]
  have hf : firstIs ws = true := hws.fst (by rintro rfl; simp at h3)
  have hq : (qs.all fun q => isDeedD q ws kn) = true := List.all_eq_true.mpr h7
  simp only [badPartD, hw, hn, hm, hws.bs, hf, hq]
  rw [if_neg (by simp), if_neg (by simp), if_neg (by rintro (h | h | h) <;> first | omega | cases h), if_neg (by omega)]
  rfl
theorem rules_good_ok : ∀ {rs : List D} {i : Nat}, i + rs.length ≤ 4 → (∀ (j : Nat) (r : D), rs[j]? = some r → ∃ nm, NAMES[i + j]? = some nm ∧ RuleGood nm r) → rulesOk ((NAMES.take i).map D.str) rs = true
  | [], _, _, _ => rfl
  | r :: rs, i, hl, h => by
    rw [List.length_cons] at hl
    obtain ⟨nm, hn, hr⟩ := h 0 r rfl
    have hn : NAMES[i]? = some nm := hn
    obtain ⟨e, l, rfl⟩ := rule_bad (names_ok nm (List.mem_of_getElem? hn)).2 (names_new i (by omega) nm hn) hr
    have ih := rules_good_ok (rs := rs) (i := i + 1) (by omega) fun j r hj => by
      have := h (j + 1) r hj
      rw [show i + (j + 1) = i + 1 + j by omega] at this
      exact this
    rw [take_snoc hn, List.map_append] at ih
    simp only [rulesOk, e, Bool.and_eq_true]
    exact ⟨rfl, ih⟩
theorem rules_good {rs : List D} (h : RulesGood rs) : rulesOk [] rs = true ∧ datD 50 (.tup rs) = true := by
  refine ⟨rules_good_ok (i := 0) (by have := h.2.1; omega) fun j r hj => by rw [Nat.zero_add]; exact h.2.2 j r hj, ?_⟩
  show (rs.all (datD 49) && decide (rs.length ≤ 6000000)) = true
  rw [Bool.and_eq_true, decide_eq_true_eq]
  refine ⟨List.all_eq_true.mpr fun x hx => ?_, by have := h.2.1; omega⟩
  obtain ⟨i, hi⟩ := List.getElem?_of_mem hx
  obtain ⟨nm, _, hr⟩ := h.2.2 i x hi
  exact hr.dat
def a__law_rules : ASp := fun ds C R => ∃ p c w, ds = [.ref p, .int w] ∧ 1 ≤ w ∧ w ≤ 4 ∧ C p = some (.lst c) ∧ RowSt c ∧ ∀ rs c', RulesGood rs → RowSt c' → R (.tup rs) (updC C p (.lst c'))
theorem rd__law_rules : ∀ ds C R, a__law_rules ds C R → t__law_rules a__law_taken a__law_dense_rule a__law_rule { nx := fun _ C' => lss R .non C', rt := lss R } (dstart ["_law_row_here", "_law_wished", "_law_names", "_law_dense", "_law_found_here", "_law_k"] ds) C := by
  rintro ds C R ⟨p, c, w, rfl, hw1, hw4, hp, hc, h⟩
  unfold t__law_rules
  walk_at "dl"
  refine ⟨p, 2, c, rfl, by omega, by omega, hp, hc, fun r c1 h0 h1 hr1 => ?_⟩
  walk_at "dl"
  intro q hq
  have hpq : q ≠ p := by rintro rfl; rw [updC_at] at hq; cases hq
  have hCq : C q = none := by rw [DL.updC_ne hpq] at hq; exact hq
  walk_at "dl"
  refine ⟨p, w, c1, rfl, by omega, by omega, at2 hpq, hr1, fun k c2 h0 h1 hr2 => ?_⟩
  rw [updC2 hpq]
  walk_at "dl"
  refine ⟨by omega, by omega, ?_⟩
  obtain ⟨Pv, hPv⟩ : ∃ Pv : Nat → DSt → Cells → Prop, ∀ i δ C', Pv i δ C' ↔ ∃ rs b o c', δ = [some (.ref p), some (.int w), some (.lst (NAMES.map .str)), some (.bl b), some (.ref q), o] ∧ C' = updC (updC C p (.lst c')) q (.lst rs) ∧ RowSt c' ∧ rs.length = i ∧ ∀ (i : Nat) (r : D), rs[i]? = some r → ∃ nm, NAMES[i]? = some nm ∧ RuleGood nm r := ⟨_, fun _ _ _ => Iff.rfl⟩
  refine for_rng Pv ((hPv _ _ _).mpr ⟨[], _, none, c2, rfl, rfl, hr2, rfl, by simp⟩) (fun i δ C' hi hv => ?_) (fun δ C' hv => ?_)
  · obtain ⟨rs, b, o, c3, rfl, rfl, hr3, hrl, hrs⟩ := (hPv _ _ _).mp hv
    have hi4 : i < 4 := by omega
    have hn : ∃ nm, NAMES[i]? = some nm := ⟨_, List.getElem?_eq_getElem (show i < NAMES.length from hi4)⟩
    obtain ⟨nm, hnm⟩ := hn
    obtain ⟨n1, n2⟩ := names_ok nm (List.mem_of_getElem? hnm)
    have fin : ∀ v c', RuleGood nm v → RowSt c' → rs.length < sizeLine ∧ Pv (i + 1) [some (.ref p), some (.int w), some (.lst (NAMES.map .str)), some (.bl b), some (.ref q), some (.int (0 + (i : Nat)))] (updC (updC C p (.lst c')) q (.lst (rs ++ [v]))) := fun v c' hv5 hc' => by
      refine ⟨by rw [sizeLine_eq]; omega, (hPv _ _ _).mpr ⟨_, _, _, c', rfl, rfl, hc', by simp [hrl], fun j r hj => ?_⟩⟩
      by_cases e : j < rs.length
      · rw [List.getElem?_append_left e] at hj
        exact hrs j r hj
      · rw [List.getElem?_append_right (by omega)] at hj
        have e2 : j = i := by
          have := (List.getElem?_eq_some_iff.mp hj).1
          simp at this
          omega
        subst e2
        rw [hrl, Nat.sub_self] at hj
        cases hj
        exact ⟨nm, hnm, hv5⟩
    have hix : atI (NAMES.map D.str) (0 + (i : Int)) = some (.str nm) := by
      rw [Int.zero_add, atI_cast, List.getElem?_map, hnm]
      rfl
    walk_at "dl"
    cases b with
    | true =>
      walk_at "dl"
      refine ⟨_, hix, p, c3, nm, rfl, at2 hpq, hr3, n1, n2, fun v c4 hv4 hr4 => ?_⟩
      rw [updC2 hpq]
      walk_at "dl"
      exact fin v c4 hv4 hr4
    | false =>
      walk_at "dl"
      refine ⟨_, hix, p, c3, nm, rfl, at2 hpq, hr3, n1, n2, fun v c4 hv4 hr4 => ?_⟩
      rw [updC2 hpq]
      walk_at "dl"
      exact fin v c4 hv4 hr4
  · obtain ⟨rs, b, o, c3, rfl, rfl, hr3, hrl, hrs⟩ := (hPv _ _ _).mp hv
    walk_at "dl"
    rw [oTuple_def]
    simp only [tupOf, lstOf_upd, Option.some.injEq, exists_eq_left']
    exact lss_upd (by rw [DL.updC_ne hpq]; exact hCq) (h rs c3 ⟨by rintro rfl; simp at hrl; omega, by omega, hrs⟩ hr3)
end RR
namespace RR
open PySem PySem.Spec L2 DL
open PyProof.Rows hiding St kindOf
local macro_rules | `(tactic| walk_at "dl") => `(tactic| simp (config := { failIfUnchanged := false }) only [↓ex_two, ↓ex_three, dFor_eq, updC_at, updC_upd, lstOf_upd, dctOf_upd, dctOf_dct, lstOf_lst, isLst_upd, app_upd, dSeq, dNext, dRet, dRetN, dDrop, dIfS, dNever, dAsg, dPar, dPut, gdName, sz_0, sl_0, sz_1, sl_1, sz_2, sl_2, sz_3, sl_3, sz_4, sl_4, sz_5, sl_5, sz_6, sl_6, sz_7, sl_7, sz_8, sl_8, sz_9, sl_9, sz_10, sl_10, sz_11, sl_11, sz_12, sl_12, sz_13, sl_13, sz_14, sl_14, exists_eq, gdCons_cons, gdNil_nil, gdTup_tup, gdUnl_lst, Nat.succ_eq_add_one, Nat.zero_add, dAnd, dOr, dNot, dTest, dAndV, dOrV, dNotV, dIf, dChain, dOp, dUn, dFn, dCall, dNil, dCons, dVar, dC, dTup, dLst, dLstC, dDct0, dDct0C, dPart, dNoPart, dSlice, dLc, dLcC, diSeq, diZip, diEnum, diRng1, diRng2, dYes, dMtL, dSetd, dFrz, dMtS, dFld, dSetFld, dAugFld, dMeth, dMake, dLockS, dLockE, dPutN, dPut, dPop1, dPop2, dUpd, dDcC, dDcN, diLk, dListV, dRev, dPopL, dDctN, dGetN2,
  dstart, List.map, List.replicate, List.length, List.append, List.cons_append, List.nil_append, List.append_nil, List.getElem?_cons_zero, List.getElem?_cons_succ, Option.some.injEq, exists_eq_left', exists_eq_left, wipeD,
  List.cons.injEq, and_true, true_and, D.bl.injEq, D.int.injEq, D.str.injEq, D.tup.injEq, D.lst.injEq, D.dct.injEq, if_true, if_false, Bool.false_eq_true, Bool.not_true, Bool.not_false, Bool.not_not, ite_true, ite_false, reduceIte, List.set_cons_zero, List.set_cons_succ, Option.map_some, Option.isSome_some, and_false, false_and, exists_const,
  slOk_tup, itOf_tup, itOf_lst, itOf_str, itOf_dct, cutL_1, oLe_int, oLt_int, oGe_int, oGt_int, oAdd_int, oSub_int, oIs_non, oIsNot_non, oLen_tup, oLen_lst, oIx_tup, oIx_lst, atI_0, atI_1, atI_2, atI_3, atI_m1, atI_cast, oIn_str, oEq_int, oNe_int, oEq_bl, ex_some,
  bl_and, bl_or, bl_andT, bl_orT, Nat.sub_self, Nat.add_sub_cancel, Nat.reduceSub, Nat.reduceAdd])
theorem app_of {C : Cells} {R : D → Cells → Prop} {p : Addr} {ds : List D} {d : D} (h : C p = some (.lst ds)) : omAppend (.ref p) [d] C R = (ds.length < sizeLine ∧ R .non (updC C p (.lst (ds ++ [d])))) := propext ⟨by
  rintro ⟨p', ds', d', e1, e2, e3, h1, h2⟩
  cases e1; cases e2
  rw [h] at e3; cases e3
  exact ⟨h1, h2⟩, fun ⟨h1, h2⟩ => ⟨p, ds, d, rfl, rfl, h, h1, h2⟩⟩
theorem lstOf_ref {C : Cells} {p : Addr} {ds : List D} (h : C p = some (.lst ds)) : lstOf C (.ref p) = some ds := by
  show (C p).bind _ = _
  rw [h]; rfl
structure PartC where
  a : Addr
  b : Addr
  nums : List Int
  known : Kn
def numsD (l : List Int) : D := .tup (l.map .int)
structure LaneC where
  a : Addr
  ws : List D
  asked : Int
  lots : List (Addr × List (Int × D))
  lv : Addr
  levs : List (Addr × List PartC)
  pool : List PartC
  bars : Addr → List Int
theorem lookN {f g : Str} {d : D} {r : List (Str × D)} (h : (f == g) = false) : List.lookup f ((g, d) :: r) = List.lookup f r := by rw [List.lookup_cons, h]
/-- what is known of a part that came up to level k -/
def KnAt (ws : List D) (k : Nat) (p : PartC) : Prop := ∃ bs, wantsBs [] (ws.take k) = some bs ∧ KnFor bs p.known ∧ p.known.length ≤ 4 * k ∧ p.nums.length ≤ k
structure LaneW (c : LaneC) (N : List Int) : Prop where
  lots : c.lots.length = c.ws.length
  levs : c.levs.length = c.ws.length
  pooled : ∀ l ∈ c.levs, ∀ p ∈ l.2, p ∈ c.pool
  pnd : (c.pool.map (·.a)).Nodup
  keys : ∀ l ∈ c.levs, (l.2.map (·.nums)).Nodup
  vals : ∀ p ∈ c.pool, p.nums.length ≤ 5 ∧ ∀ x ∈ p.nums, x ∈ N
  few : N.length ≤ 26
  bv : ∀ p ∈ c.pool, (c.bars p.a).Nodup ∧ ∀ x ∈ c.bars p.a, x ∈ N
  apart : ∀ (i j : Nat) (li lj : Addr × List PartC) (p : PartC), c.levs[i]? = some li → c.levs[j]? = some lj → p ∈ li.2 → p ∈ lj.2 → i = j
  kn : ∀ (j : Nat) (l : Addr × List PartC), c.levs[j]? = some l → ∀ p ∈ l.2, KnAt c.ws (j + 1) p
structure PM where
  nums : List Int
  known : Kn
  bars : List Int
abbrev Lev := List PM
def fitsN (p : D) (kn : Kn) (lot : List (Int × D)) : List Int := (lot.filter fun it => (fittedD p it.2 kn).isSome).map (·.1)
def pmOf (bars : Addr → List Int) (p : PartC) : PM := ⟨p.nums, p.known, bars p.a⟩
def absL (c : LaneC) : List Lev := c.levs.map fun l => l.2.map (pmOf c.bars)
def lotsL (c : LaneC) : List (List (Int × D)) := c.lots.map (·.2)
/-- lists of few small numbers are few -/
def code (N : Nat) : Nat → List Int → Nat
  | 0, _ => 0
  | n + 1, [] => code N n [] * (N + 1)
  | n + 1, x :: l => code N n l * (N + 1) + (x.toNat + 1)
structure Ext (c c' : LaneC) (N : List Int) : Prop where
  a : c'.a = c.a
  ws : c'.ws = c.ws
  asked : c'.asked = c.asked
  lots : c'.lots = c.lots
  lv : c'.lv = c.lv
  addr : c'.levs.map (·.1) = c.levs.map (·.1)
  pool : ∀ p ∈ c.pool, p ∈ c'.pool ∧ c'.bars p.a = c.bars p.a
  w : LaneW c' N
theorem Ext.refl {c : LaneC} {N : List Int} (w : LaneW c N) : Ext c c N := ⟨rfl, rfl, rfl, rfl, rfl, rfl, fun _ h => ⟨h, rfl⟩, w⟩
theorem Ext.trans {c c' c'' : LaneC} {N : List Int} (h : Ext c c' N) (k : Ext c' c'' N) : Ext c c'' N :=
  ⟨k.a.trans h.a, k.ws.trans h.ws, k.asked.trans h.asked, k.lots.trans h.lots, k.lv.trans h.lv, k.addr.trans h.addr, fun p hp => ⟨(k.pool p (h.pool p hp).1).1, (k.pool p (h.pool p hp).1).2.trans (h.pool p hp).2⟩, k.w⟩
/-- what a lane's going on rests on -/
structure GoOk (c : LaneC) (N : List Int) (bsAll : List D) : Prop where
  w : LaneW c N
  bs : wantsBs [] c.ws = some bsAll
  dat : datD 50 (.tup c.ws) = true
  len : c.ws.length ≤ 5
  lots : ∀ l ∈ c.lots, l.2.length ≤ 26 ∧ (l.2.map (·.1)).Nodup ∧ ∀ it ∈ l.2, ThOk it.2 ∧ it.1 ∈ N
theorem Ext.go {c c' : LaneC} {N : List Int} {bsAll : List D} (e : Ext c c' N) (g : GoOk c N bsAll) : GoOk c' N bsAll := ⟨e.w, by rw [e.ws]; exact g.bs, by rw [e.ws]; exact g.dat, by rw [e.ws]; exact g.len, by rw [e.lots]; exact g.lots⟩
theorem wantsBs_prefix {ws : List D} {bsAll : List D} (h : wantsBs [] ws = some bsAll) {k : Nat} {w : D} {bs : List D} (hw : ws[k]? = some w) (hb : wantsBs [] (ws.take k) = some bs) : isWantD w bs = true ∧ wantsBs [] (ws.take (k + 1)) = some (wantAdd bs w) := by
  have e := split_at hw
  rw [take_snoc hw, wantsBs_snoc, hb]
  rw [e] at h
  cases hq : isWantD w bs with
  | false => rw [wantsBs_none hb hq] at h; cases h
  | true => exact ⟨rfl, by show (if isWantD w bs = true then _ else _) = _; rw [if_pos hq]⟩
/-- a want, looked at -/
theorem want_shape {w : D} {bs : List D} (h : isWantD w bs = true) : (∃ z v ps, w = .tup [.str z, .tup (v :: ps)] ∧ (z = ISS ∨ z = NOTS) ∧ ps.length ≤ 4) ∨ ∃ z x y, w = .tup [.str z, x, y] ∧ (z = LESSS ∨ z = SAMES ∨ z = UNLS) ∧ isSideD x bs = true ∧ isSideD y bs = true := by
  unfold isWantD at h
  split at h
  · rename_i z r
    split at h
    · rename_i hz
      split at h
      · rename_i p
        unfold isPatternD at h
        split at h
        · rename_i v ps
          simp only [Bool.and_eq_true, decide_eq_true_eq] at h
          refine .inl ⟨z, v, ps, rfl, ?_, h.1.1⟩
          simpa using hz
        · cases h
      · cases h
    · simp only [Bool.and_eq_true, decide_eq_true_eq, Bool.or_eq_true, beq_iff_eq] at h
      obtain ⟨⟨h1, h2⟩, h3⟩ := h
      obtain ⟨x, y, rfl⟩ : ∃ x y, r = [x, y] := by
        match r, h2 with
        | [x, y], _ => exact ⟨x, y, rfl⟩
      simp only [List.all_cons, List.all_nil, Bool.and_true, Bool.and_eq_true] at h3
      exact .inr ⟨z, x, y, rfl, by rcases h1 with (h | h) | h <;> simp [h], h3.1, h3.2⟩
  · cases h
theorem cutL_take {α : Type} (xs : List α) (k : Nat) : cutL xs none (some (k : Int)) = xs.take k := by
  unfold cutL
  rw [HT.sIx_nat, HT.sIx_none, List.drop_zero, Nat.sub_zero]
  rw [List.take_eq_take_iff]
  omega
def alikeAt (w t : D) : Bool := match w with
  | .tup [.str z, p] => (z == ISS || z == NOTS) && alikeD p t
  | _ => false
def fitsAt (w t : D) : Bool := match w with
  | .tup [.str z, p] => (z == ISS || z == NOTS) && (fittedD p t []).isSome
  | _ => false
def askN (ws : List D) (t : D) (m : Nat) : Int := (((ws.take m).filter fun w => alikeAt w t).length : Nat)
theorem isLst_of {C : Cells} {p : Addr} {ds : List D} (h : C p = some (.lst ds)) : isLst C (.ref p) := by
  unfold isLst
  rw [lstOf_ref h]
  rfl
theorem wantsBs_take {ws : List D} {bsAll : List D} (h : wantsBs [] ws = some bsAll) : ∀ k, k ≤ ws.length → ∃ bs, wantsBs [] (ws.take k) = some bs
  | 0, _ => ⟨[], rfl⟩
  | k + 1, hk => by
    obtain ⟨bs, hb⟩ := wantsBs_take h k (by omega)
    obtain ⟨w, hw⟩ : ∃ w, ws[k]? = some w := ⟨_, List.getElem?_eq_getElem (by omega)⟩
    exact ⟨_, (wantsBs_prefix h hw hb).2⟩
def wsOf (r : D) : List D := match r with
  | .tup [_, _, .tup ws, _] => ws
  | _ => []
theorem same_eq {v t : D} (hv : isWorthD v = true) (ht : isWorthD t = true) (h : sameD v t = true) : v = t := by
  unfold sameD at h
  rw [Bool.and_eq_true] at h
  have h2 := h.2
  rcases worth_cases hv with ⟨i, rfl⟩ | ⟨z, rfl⟩ <;> rcases worth_cases ht with ⟨j, rfl⟩ | ⟨y, rfl⟩
  · simp [D.eqv] at h2
    rw [h2]
  · simp [D.eqv] at h2
  · simp [D.eqv] at h2
  · simp [D.eqv] at h2
    rw [h2]
theorem sameW_self {t : D} (ht : isWorthD t = true) : sameD t t = true := by
  rcases worth_cases ht with ⟨j, rfl⟩ | ⟨y, rfl⟩ <;> simp [sameD, D.eqv]
def SubK (a b : Kn) : Prop := ∀ kk v, getK a kk = some v → getK b kk = some v
def WorthK (k : Kn) : Prop := ∀ kk v, getK k kk = some v → isWorthD v = true
theorem fit1_less {k0 k k' : Kn} {p t : D} (hs : SubK k0 k) (hw : WorthK k) (ht : isWorthD t = true) (h : fit1 k p t = some k') : ∃ k0', fit1 k0 p t = some k0' ∧ SubK k0' k' ∧ WorthK k' := by
  have hst := sameW_self ht
  unfold fit1 at h ⊢
  by_cases hb : isBlankD p = true
  · rw [if_pos hb] at h
    rw [if_pos hb]
    cases hk : DL.keyOf p with
    | none => rw [hk] at h; cases h
    | some kk =>
      rw [hk] at h
      simp only at h ⊢
      cases h0 : getK k0 kk with
      | some v =>
        have h1 := hs kk v h0
        rw [h1] at h
        simp only at h ⊢
        split at h
        · rename_i hsv
          cases h
          exact ⟨k0, by rw [if_pos hsv], hs, hw⟩
        · cases h
      | none =>
        simp only
        rw [if_pos hst]
        cases h1 : getK k kk with
        | some v1 =>
          rw [h1] at h
          simp only at h
          split at h
          · rename_i hsv
            cases h
            refine ⟨_, rfl, fun k2 v hv => ?_, hw⟩
            by_cases e : k2 = kk
            · subst e
              rw [getK_put_self] at hv
              cases hv
              rw [h1, same_eq (hw _ _ h1) ht hsv]
            · rw [getK_put_ne _ _ e] at hv
              exact hs k2 v hv
          · cases h
        | none =>
          rw [h1] at h
          simp only at h
          rw [if_pos hst] at h
          cases h
          refine ⟨_, rfl, fun k2 v hv => ?_, fun k2 v hv => ?_⟩
          · by_cases e : k2 = kk
            · subst e
              rw [getK_put_self] at hv ⊢
              exact hv
            · rw [getK_put_ne _ _ e] at hv ⊢
              exact hs k2 v hv
          · by_cases e : k2 = kk
            · subst e
              rw [getK_put_self] at hv
              cases hv
              exact ht
            · rw [getK_put_ne _ _ e] at hv
              exact hw k2 v hv
  · rw [if_neg hb] at h
    rw [if_neg hb]
    split at h
    · rename_i hc
      cases h
      exact ⟨k0, by rw [if_pos hc], hs, hw⟩
    · cases h
theorem fitL_less : ∀ {r : List (D × D)} {k0 k k' : Kn}, (∀ pt ∈ r, isWorthD pt.2 = true) → SubK k0 k → WorthK k → fitL k r = some k' → ∃ k0', fitL k0 r = some k0' ∧ SubK k0' k' ∧ WorthK k'
  | [], k0, k, k', _, hs, hw, h => by cases h; exact ⟨k0, rfl, hs, hw⟩
  | (p, t) :: r, k0, k, k', ht, hs, hw, h => by
    simp only [fitL] at h ⊢
    obtain ⟨k2, h1, h2⟩ := Option.bind_eq_some_iff.mp h
    obtain ⟨k3, h3, h4, h5⟩ := fit1_less hs hw (ht (p, t) (by simp)) h1
    obtain ⟨k4, h6, h7⟩ := fitL_less (fun pt hpt => ht pt (by simp [hpt])) h4 h5 h2
    exact ⟨k4, by rw [h3]; exact h6, h7⟩
theorem fitted_less {p t : D} {k : Kn} (ht : ThOk t) (hw : WorthK k) (h : (fittedD p t k).isSome = true) : (fittedD p t []).isSome = true := by
  obtain ⟨tw, tps, rfl, htl, hta⟩ := thing_tup ht.2
  unfold fittedD at h ⊢
  cases p <;> first | (simp at h; done) | skip
  rename_i ds
  cases ds with
  | nil => simp at h
  | cons a ps =>
    simp only at h ⊢
    split at h
    · rename_i ha
      rw [if_pos ha]
      obtain ⟨k', h1⟩ := Option.isSome_iff_exists.mp h
      obtain ⟨k0', h2, _⟩ := fitL_less (k0 := []) (fun pt hpt => List.all_eq_true.mp hta _ (List.of_mem_zip hpt).2) (fun kk v hv => by cases hv) hw h1
      rw [h2]
      rfl
    · cases h
theorem worthK_of {k : Kn} (h : ∀ kv ∈ k, isWorthD kv.2 = true) : WorthK k := fun kk v hv => by
  obtain ⟨kv, h1, rfl⟩ := getK_mem hv
  exact h kv h1
def Made (ws : List D) (lf : Nat → List (Int × D)) (k : Nat) (s : S1) (q : PM) : Prop := match ws[k]? with
  | some (.tup [.str z, p]) => if (z == ISS) = true then ∃ it ∈ lf k, ∃ kn, fittedD p it.2 s.2 = some kn ∧ q = ⟨s.1 ++ [it.1], kn, []⟩
      else q = ⟨s.1, s.2, fitsN p s.2 (lf k)⟩
  | some (.tup [.str z, x, y]) => ∃ a b, sideD s.2 x = some a ∧ sideD s.2 y = some b ∧ holdsD z a b = true ∧ q = ⟨s.1, s.2, []⟩
  | _ => False
def ReachF (ws : List D) (lf : Nat → List (Int × D)) : Nat → S1 → Nat → S1 → Prop
  | _, s0, 0, s => s = s0
  | k0, s0, d + 1, s => ∃ q, Made ws lf k0 s0 q ∧ q.bars = [] ∧ ReachF ws lf (k0 + 1) (q.nums, q.known) d s
def lotF (lots : List (List (Int × D))) (k : Nat) : List (Int × D) := lots.getD k []
theorem reach_snoc {ws : List D} {lf : Nat → List (Int × D)} {s : S1} : ∀ {d k0 : Nat} {s0 : S1}, ReachF ws lf k0 s0 (d + 1) s ↔ ∃ s1 q, ReachF ws lf k0 s0 d s1 ∧ Made ws lf (k0 + d) s1 q ∧ q.bars = [] ∧ s = (q.nums, q.known)
  | 0, k0, s0 => by
    constructor
    · rintro ⟨q, h1, h2, h3⟩
      exact ⟨s0, q, rfl, h1, h2, h3⟩
    · rintro ⟨s1, q, rfl, h1, h2, h3⟩
      exact ⟨q, h1, h2, h3⟩
  | d + 1, k0, s0 => by
    constructor
    · rintro ⟨q, h1, h2, h3⟩
      obtain ⟨s1, q1, h4, h5, h6, h7⟩ := reach_snoc.mp h3
      exact ⟨s1, q1, ⟨q, h1, h2, h4⟩, by rw [show k0 + (d + 1) = k0 + 1 + d by omega]; exact h5, h6, h7⟩
    · rintro ⟨s1, q1, ⟨q, h1, h2, h4⟩, h5, h6, h7⟩
      exact ⟨q, h1, h2, reach_snoc.mpr ⟨s1, q1, h4, by rw [show k0 + 1 + d = k0 + (d + 1) by omega]; exact h5, h6, h7⟩⟩
def LvF (ws : List D) (lf : Nat → List (Int × D)) (k : Nat) (q : PM) : Prop := ∃ s, ReachF ws lf 0 ([], []) k s ∧ Made ws lf k s q
/-- the levels are what they are to be -/
structure InvL (ws : List D) (lf : Nat → List (Int × D)) (ls : List Lev) : Prop where
  len : ls.length = ws.length
  mem : ∀ k q, q ∈ ls.getD k [] ↔ LvF ws lf k q
  nd : ∀ k, ((ls.getD k []).map (·.nums)).Nodup
theorem made_not {ws : List D} {lf : Nat → List (Int × D)} {j : Nat} {z : Str} {p : D} (hw : ws[j]? = some (.tup [.str z, p])) (hz : (z == ISS) = false) {s : S1} {q : PM} : Made ws lf j s q ↔ q = ⟨s.1, s.2, fitsN p s.2 (lf j)⟩ := by
  unfold Made
  rw [hw]
  simp [hz]
theorem made_is {ws : List D} {lf : Nat → List (Int × D)} {j : Nat} {z : Str} {p : D} (hw : ws[j]? = some (.tup [.str z, p])) (hz : (z == ISS) = true) {s : S1} {q : PM} : Made ws lf j s q ↔ ∃ it ∈ lf j, ∃ kn, fittedD p it.2 s.2 = some kn ∧ q = ⟨s.1 ++ [it.1], kn, []⟩ := by
  unfold Made
  rw [hw]
  simp [hz]
theorem fitsN_lot {z : Str} {p : D} {kn : Kn} {its : List (Int × D)} (hz : (z == ISS || z == NOTS) = true) (hk : WorthK kn) (hits : ∀ it ∈ its, ThOk it.2) : fitsN p kn (its.filter fun it => fitsAt (.tup [.str z, p]) it.2) = fitsN p kn its := by
  unfold fitsN
  rw [List.filter_filter]
  congr 1
  refine List.filter_congr fun it hit => ?_
  cases e : (fittedD p it.2 kn).isSome with
  | false => rfl
  | true =>
    show fitsAt (.tup [.str z, p]) it.2 = true
    show ((z == ISS || z == NOTS) && (fittedD p it.2 []).isSome) = true
    rw [hz, fitted_less (hits it hit) hk e]
    rfl
theorem made_pass {ws : List D} {lf : Nat → List (Int × D)} {k : Nat} {w : D} {bs : List D} {its : List (Int × D)} {s s' : S1} (hw : ws[k]? = some w) (hwant : isWantD w bs = true) (hlf : lf k = its.filter fun it => fitsAt w it.2) (hits : ∀ it ∈ its, ThOk it.2) (hk : WorthK s.2) :
    (∃ q, Made ws lf k s q ∧ q.bars = [] ∧ s' = (q.nums, q.known)) ↔ s' ∈ passS w its s := by
  rcases want_shape hwant with ⟨z, v, ps, rfl, hz, hpl⟩ | ⟨z, x, y, rfl, hz, hx, hy⟩
  · have hz2 : (z == ISS || z == NOTS) = true := by rcases hz with rfl | rfl <;> decide +kernel
    cases ez : (z == ISS) with
    | true =>
      unfold passS
      simp only [ez, if_true]
      rw [List.mem_filterMap]
      constructor
      · rintro ⟨q, h1, _, rfl⟩
        rw [made_is hw ez, hlf] at h1
        obtain ⟨it, hit, kn, h2, rfl⟩ := h1
        exact ⟨it, (List.mem_filter.mp hit).1, by rw [h2]; rfl⟩
      · rintro ⟨it, hit, h1⟩
        obtain ⟨kn, h2, rfl⟩ := Option.map_eq_some_iff.mp h1
        refine ⟨⟨s.1 ++ [it.1], kn, []⟩, (made_is hw ez).mpr ⟨it, ?_, kn, h2, rfl⟩, rfl, rfl⟩
        rw [hlf, List.mem_filter]
        refine ⟨hit, ?_⟩
        show ((z == ISS || z == NOTS) && (fittedD (.tup (v :: ps)) it.2 []).isSome) = true
        rw [hz2, fitted_less (hits it hit) hk (by rw [h2]; rfl)]
        rfl
    | false =>
      have hall : (its.all fun it => (fittedD (.tup (v :: ps)) it.2 s.2).isNone) = true ↔ fitsN (.tup (v :: ps)) s.2 its = [] := by
        unfold fitsN
        rw [List.map_eq_nil_iff, List.filter_eq_nil_iff, List.all_eq_true]
        refine forall_congr' fun it => forall_congr' fun _ => ?_
        cases fittedD (.tup (v :: ps)) it.2 s.2 <;> simp
      unfold passS
      simp only [ez, Bool.false_eq_true, if_false]
      constructor
      · rintro ⟨q, h1, h2, rfl⟩
        rw [made_not hw ez, hlf, fitsN_lot hz2 hk hits] at h1
        subst h1
        rw [if_pos (hall.mpr h2)]
        exact List.mem_singleton.mpr rfl
      · intro h
        split at h
        · rename_i ha
          rw [List.mem_singleton.mp h]
          exact ⟨⟨s.1, s.2, fitsN (.tup (v :: ps)) s.2 its⟩, by rw [made_not hw ez, hlf, fitsN_lot hz2 hk hits], hall.mp ha, rfl⟩
        · cases h
  · unfold passS Made
    rw [hw]
    simp only
    constructor
    · rintro ⟨q, ⟨a, b, h1, h2, h3, rfl⟩, _, rfl⟩
      rw [h1, h2]
      simp only
      rw [if_pos h3]
      exact List.mem_singleton.mpr rfl
    · intro h
      split at h
      · rename_i a b h1 h2
        split at h
        · rename_i h3
          rw [List.mem_singleton.mp h]
          exact ⟨⟨s.1, s.2, []⟩, ⟨a, b, h1, h2, h3, rfl⟩, rfl, rfl⟩
        · cases h
      · cases h
def LotsAre (ws : List D) (its : List (Int × D)) (lf : Nat → List (Int × D)) : Prop := ∀ k, lf k = its.filter fun it => fitsAt (ws.getD k .non) it.2
theorem reach_ways {ws : List D} {its : List (Int × D)} {lf : Nat → List (Int × D)} {bsAll : List D} (hb : wantsBs [] ws = some bsAll) (hl : ws.length ≤ 200) (hlf : LotsAre ws its lf) (hits : ∀ it ∈ its, ThOk it.2) : ∀ k, k ≤ ws.length → ∀ s, ReachF ws lf 0 ([], []) k s ↔ s ∈ ways its [([], [])] (ws.take k)
  | 0, _, s => by
    show s = ([], []) ↔ s ∈ [([], [])]
    rw [List.mem_singleton]
  | k + 1, hk, s => by
    obtain ⟨w, hw⟩ : ∃ w, ws[k]? = some w := ⟨_, List.getElem?_eq_getElem (by omega)⟩
    obtain ⟨bs, hbs⟩ := wantsBs_take hb k (by omega)
    obtain ⟨hwb, _⟩ := wantsBs_prefix hb hw hbs
    have hwd : ws.getD k .non = w := by rw [List.getD_eq_getElem?_getD, hw]; rfl
    have hlk := hlf k
    rw [hwd] at hlk
    have htl := len_take ws k
    have hw5 := (ways_ok hits hbs (by omega)).1
    rw [take_snoc hw, ways_snoc, List.mem_flatMap, reach_snoc]
    constructor
    · rintro ⟨s1, q, h1, h2, h3, rfl⟩
      rw [Nat.zero_add] at h2
      have h1 := (reach_ways hb hl hlf hits k (by omega) s1).mp h1
      exact ⟨s1, h1, (made_pass hw hwb hlk hits (worthK_of (hw5 s1 h1).1.2.1)).mp ⟨q, h2, h3, rfl⟩⟩
    · rintro ⟨s1, h1, h2⟩
      obtain ⟨q, h3, h4, h5⟩ := (made_pass hw hwb hlk hits (worthK_of (hw5 s1 h1).1.2.1)).mpr h2
      exact ⟨s1, q, (reach_ways hb hl hlf hits k (by omega) s1).mpr h1, by rw [Nat.zero_add]; exact h3, h4, h5⟩
/-- a lane that has met the things its -/
structure LaneI (its : List (Int × D)) (c : LaneC) : Prop where
  lots : LotsAre c.ws its (lotF (lotsL c))
  inv : InvL c.ws (lotF (lotsL c)) (absL c)
theorem pass_back {w : D} {its : List (Int × D)} : ∃ back : List Int → List Int, ∀ s e, e ∈ passS w its s → back e.1 = s.1 := by
  unfold passS
  split
  · rename_i z p
    by_cases hz : (z == ISS) = true
    · refine ⟨List.dropLast, fun s e h => ?_⟩
      rw [if_pos hz] at h
      obtain ⟨it, _, h2⟩ := List.mem_filterMap.mp h
      obtain ⟨k, _, rfl⟩ := Option.map_eq_some_iff.mp h2
      simp
    · refine ⟨id, fun s e h => ?_⟩
      rw [if_neg hz] at h
      split at h
      · rw [List.mem_singleton.mp h]; rfl
      · cases h
  · refine ⟨id, fun s e h => ?_⟩
    split at h
    · split at h
      · rw [List.mem_singleton.mp h]; rfl
      · cases h
    · cases h
  · exact ⟨id, fun s e h => by cases h⟩
theorem passS_nd {w : D} {its : List (Int × D)} (hn : (its.map (·.1)).Nodup) (s : S1) : ((passS w its s).map (·.1)).Nodup := by
  unfold passS
  split
  · rename_i z p
    split
    · have : (its.filterMap fun it => (fittedD p it.2 s.2).map fun k => (s.1 ++ [it.1], k)).map (·.1) = (its.filterMap fun it => (fittedD p it.2 s.2).map fun _ => it.1).map fun n => s.1 ++ [n] := by
        rw [List.map_filterMap, List.map_filterMap]
        congr 1
        funext it
        cases fittedD p it.2 s.2 <;> rfl
      rw [this]
      have h2 : ((its.filterMap fun it => (fittedD p it.2 s.2).map fun _ => it.1)).Sublist (its.map (·.1)) := by
        clear this hn
        induction its with
        | nil => exact List.Sublist.refl _
        | cons a l ih =>
          rw [List.filterMap_cons, List.map_cons]
          cases fittedD p a.2 s.2 with
          | none => exact ih.cons _
          | some k => exact ih.cons₂ _
      have h3 := h2.nodup hn
      unfold List.Nodup at h3 ⊢
      rw [List.pairwise_map]
      exact h3.imp fun {a b} hne e => hne (by simpa using e)
    · split
      · exact List.nodup_cons.mpr ⟨by simp, List.nodup_nil⟩
      · exact List.nodup_nil
  · split
    · split
      · exact List.nodup_cons.mpr ⟨by simp, List.nodup_nil⟩
      · exact List.nodup_nil
    · exact List.nodup_nil
  · exact List.nodup_nil
theorem pass_nd {w : D} {its : List (Int × D)} (hn : (its.map (·.1)).Nodup) {ss : List S1} (hs : (ss.map (·.1)).Nodup) : ((ss.flatMap (passS w its)).map (·.1)).Nodup := by
  obtain ⟨back, hback⟩ := pass_back (w := w) (its := its)
  rw [List.map_flatMap]
  unfold List.Nodup at hs ⊢
  rw [List.pairwise_flatMap]
  refine ⟨fun s _ => passS_nd hn s, ?_⟩
  rw [List.pairwise_map] at hs
  refine hs.imp fun {a b} hne x hx y hy e => hne ?_
  obtain ⟨x', h1, rfl⟩ := List.mem_map.mp hx
  obtain ⟨y', h2, rfl⟩ := List.mem_map.mp hy
  rw [← hback a x' h1, ← hback b y' h2, e]
theorem ways_nd {its : List (Int × D)} (hn : (its.map (·.1)).Nodup) : ∀ {ws : List D} {ss : List S1}, (ss.map (·.1)).Nodup → ((ways its ss ws).map (·.1)).Nodup
  | [], _, h => h
  | _ :: ws, _, h => ways_nd hn (ws := ws) (pass_nd hn h)
/-- all matches, by looking through all things -/
def waysMs (its : List (Int × D)) (rs : List D) : List (Nat × List Int) := rs.zipIdx.flatMap fun ri => (ways its [([], [])] (wsOf ri.1)).map fun s => (ri.2, s.1)
def leM (a b : Nat × List Int) : Bool := decide (a.1 < b.1 ∨ (a.1 = b.1 ∧ a.2 ≤ b.2))
/-- sorted by insertion: the kernel computes it -/
def insM (a : Nat × List Int) : List (Nat × List Int) → List (Nat × List Int)
  | [] => [a]
  | b :: l => if leM a b = true then a :: b :: l else b :: insM a l
def sortM (l : List (Nat × List Int)) : List (Nat × List Int) := l.foldr insM []
theorem insM_perm (a : Nat × List Int) : ∀ l : List (Nat × List Int), (insM a l).Perm (a :: l)
  | [] => List.Perm.refl _
  | b :: l => by
    unfold insM
    split
    · exact List.Perm.refl _
    · exact ((insM_perm a l).cons b).trans (List.Perm.swap _ _ _)
theorem sortM_perm : ∀ l : List (Nat × List Int), (sortM l).Perm l
  | [] => List.Perm.refl _
  | a :: l => (insM_perm a (sortM l)).trans ((sortM_perm l).cons a)
def dropLot (n : Int) (l : List (Int × D)) : List (Int × D) := l.filter fun it => decide (it.1 ≠ n)
def dropI (n : Int) (l : List Int) : List Int := l.filter fun x => decide (x ≠ n)
abbrev Mt := Nat × List Int
structure RoomG where
  a : Addr
  rs : List D
  n : Addr
  lanes : List LaneC
  k : Addr
  kept : List (Int × D)
  o : Addr
  own : List Int
  count : Nat
  f : Addr
  fired : List (Mt × Bool)
  h : Addr
  held : List (Mt × Addr × List Int)
  s : Addr
  said : List D
  b : Addr
  book : List D
  running : Int
/-- a room, said plainly -/
structure RS where
  kept : List (Int × D)
  own : List Int
  count : Nat
  fired : List (Mt × Bool)
  held : List (Mt × List Int)
  said : List D
  book : List D
  running : Int
  asked : Int
def numFor (kept : List (Int × D)) (t : D) : Option Int := (kept.find? fun e => D.eqv e.2 t).map (·.1)
def getF (l : List ((Nat × List Int) × Bool)) (m : Nat × List Int) : Bool := ((l.find? fun e => decide (e.1 = m)).map (·.2)).getD false
def firedOf (old : List ((Nat × List Int) × Bool)) (ms : List (Nat × List Int)) : List ((Nat × List Int) × Bool) := ms.map fun m => (m, getF old m)
def keepM {α : Type} (ms : List Mt) (l : List (Mt × α)) : List (Mt × α) := l.filter fun e => decide (e.1 ∈ ms)
/-- a rule that may stand in a room -/
structure RuleR (x : D) : Prop where
  sh : ∃ nm m ws qs bs, x = .tup [nm, m, .tup ws, qs] ∧ 1 ≤ ws.length ∧ ws.length ≤ 5 ∧ firstIs ws = true ∧ wantsBs [] ws = some bs ∧ datD 50 (.tup ws) = true
structure RsR (rs : List D) : Prop where
  ok : rulesOk [] rs = true
  dat : datD 50 (.tup rs) = true
  ne : rs ≠ []
  len : rs.length ≤ 8
  all : ∀ r ∈ rs, RuleR r
def bssF (c : LaneC) : List D := (wantsBs [] c.ws).getD []
/-- how often a thing is put beside wants -/
def askT (rs : List D) (t : D) : Int := (rs.map fun x => askN (wsOf x) t (wsOf x).length).sum
/-- which matches stand, by looking through all -/
def nowS (rs : List D) (kept : List (Int × D)) : List Mt := sortM (waysMs kept rs)
def lookS (rs : List D) (S : RS) : RS := { S with fired := firedOf S.fired (nowS rs S.kept), held := keepM (nowS rs S.kept) S.held }
def comeS (rs : List D) (t : D) (S : RS) : Int × RS := match numFor S.kept t with
  | some n => (n, S)
  | none => ((S.count : Nat), lookS rs { S with kept := S.kept ++ [((S.count : Int), t)], count := S.count + 1, asked := S.asked + askT rs t })
def goS (rs : List D) (n : Int) (S : RS) : RS := lookS rs { S with kept := dropLot n S.kept, own := dropI n S.own, held := S.held.map fun e => (e.1, dropI n e.2) }
def numsOf (l : List (Int × D)) : List Int := l.map (·.1)
/-- a room that may go on -/
structure RoomOk (rs : List D) (r : RoomG) : Prop where
  ers : r.rs = rs
  ll : r.lanes.length = rs.length
  lanes : ∀ (i : Nat) (c : LaneC) (x : D), r.lanes[i]? = some c → rs[i]? = some x → LaneI r.kept c ∧ c.ws = wsOf x ∧ GoOk c (numsOf r.kept) (bssF c)
  knd : (numsOf r.kept).Nodup
  kb : ∀ e ∈ r.kept, ThOk e.2 ∧ 0 ≤ e.1 ∧ e.1 < r.count
  ond : r.own.Nodup
  osub : ∀ n ∈ r.own, n ∈ numsOf r.kept
  hnd : (r.held.map (·.1)).Nodup
  hin : ∀ e ∈ r.held, e.2.2.Nodup ∧ ∀ n ∈ e.2.2, n ∈ numsOf r.kept
  hfi : ∀ e ∈ r.held, e.1 ∈ r.fired.map (·.1)
  fir : r.fired.map (·.1) = nowS rs r.kept
  kl : r.kept.length ≤ 26
theorem rsR_at {rs : List D} (h : RsR rs) {i : Nat} {x : D} (hx : rs[i]? = some x) : ∃ bs, wantsBs [] (wsOf x) = some bs ∧ 1 ≤ (wsOf x).length ∧ (wsOf x).length ≤ 5 := by
  obtain ⟨nm, m, ws, qs, bs, rfl, h1, h2, h3, h4, h5⟩ := (h.all x (List.mem_of_getElem? hx)).sh
  exact ⟨bs, h4, h1, h2⟩
abbrev Gn := Int × Option Mt
def keysG (l : List Gn) : List Int := l.map (·.1)
def heldOf (held : List (Mt × List Int)) (m : Mt) : List Int := ((held.find? fun e => decide (e.1 = m)).map (·.2)).getD []
/-- what a match brings whose things all have grounds -/
def gndOf (held : List (Mt × List Int)) (f acc : List Gn) (m : Mt) : List Gn := ((heldOf held m).filter fun n => !decide (n ∈ keysG f) && !decide (n ∈ keysG acc)).map fun n => (n, some m)
def gndStep (held : List (Mt × List Int)) (f acc : List Gn) (m : Mt) : List Gn :=
  if (m.2.all fun n => decide (n ∈ keysG f)) = true then acc ++ gndOf held f acc m else acc
def gndMore (held : List (Mt × List Int)) (f : List Gn) : List Gn := (sortM (held.map (·.1))).foldl (gndStep held f) []
def gndN (held : List (Mt × List Int)) : Nat → List Gn → List Gn
  | 0, f => f
  | k + 1, f => if (gndMore held f).isEmpty = true then f else gndN held k (f ++ gndMore held f)
def groundS (S : RS) : List Gn := gndN S.held (S.kept.length + 1) (S.own.map fun n => (n, none))
theorem nodup_len : ∀ {l m : List Int}, l.Nodup → (∀ x ∈ l, x ∈ m) → l.length ≤ m.length
  | [], _, _, _ => Nat.zero_le _
  | a :: l, m, hn, h => by
    rw [List.nodup_cons] at hn
    have ha := h a (by simp)
    have := nodup_len (m := m.erase a) hn.2 fun x hx => (List.mem_erase_of_ne (fun e : x = a => hn.1 (by rw [← e]; exact hx))).mpr (h x (by simp [hx]))
    rw [List.length_erase_of_mem ha] at this
    have := List.length_pos_of_mem ha
    rw [List.length_cons]
    omega
theorem find_nodup {α β : Type} [DecidableEq α] : ∀ {l : List (α × β)} {e : α × β}, (l.map (·.1)).Nodup → e ∈ l → (l.find? fun x => decide (x.1 = e.1)) = some e
  | x :: l, e, hn, he => by
    rw [List.map_cons, List.nodup_cons] at hn
    rw [List.find?_cons]
    rcases List.mem_cons.mp he with rfl | he
    · simp
    · have hne : ¬ x.1 = e.1 := fun e2 => hn.1 (by rw [e2]; exact List.mem_map.mpr ⟨e, he, rfl⟩)
      simp only [hne, decide_false]
      exact find_nodup hn.2 he
/-- sorted by insertion: the kernel computes it -/
def insI (a : Int) : List Int → List Int
  | [] => [a]
  | b :: l => if decide (a ≤ b) = true then a :: b :: l else b :: insI a l
def sortI (l : List Int) : List Int := l.foldr insI []
/-- the things without grounds, rising -/
def goneS (S : RS) : List Int := (sortI (numsOf S.kept)).filter fun n => !decide (n ∈ keysG (groundS S))
def goAll (rs : List D) (l : List Int) (S : RS) : RS := l.foldl (fun S n => goS rs n S) S
def settleN (rs : List D) : Nat → RS → RS
  | 0, S => S
  | k + 1, S => if (goneS S).isEmpty = true then S else settleN rs k (goAll rs (goneS S) S)
def settleS (rs : List D) (S : RS) : RS := settleN rs (S.kept.length + 1) S
def ownPut (own : List Int) (n : Int) : List Int := if n ∈ own then own else own ++ [n]
def standS (n : Int) (S : RS) : RS := { S with own := ownPut S.own n }
def takeS (rs : List D) (n : Int) (S : RS) : RS := settleS rs (goS rs n S)
structure RuleF (x : D) : Prop where
  sh : ∃ nm rk ws qs bs, x = .tup [nm, .int rk, .tup ws, .tup qs] ∧ isWordD nm = true ∧ isNumD (.int rk) (-9) 9 = true ∧ 1 ≤ ws.length ∧ ws.length ≤ 5 ∧ firstIs ws = true ∧ wantsBs [] ws = some bs ∧ 1 ≤ qs.length ∧ qs.length ≤ 4 ∧ (qs.all fun q => isDeedD q ws bs) = true
theorem bad_full {r : D} {ns : List D} (h : isNon (badPartD r ns) = true) : RuleF r := by
  unfold badPartD at h
  split at h
  rotate_left
  · cases h
  rename_i name rank wants deeds
  split at h
  · cases h
  rename_i h1
  split at h
  · cases h
  rename_i h2
  split at h
  rotate_left
  · cases h
  rename_i ws
  split at h
  · cases h
  rename_i h3
  split at h
  · cases h
  rename_i bs hbs
  split at h
  rotate_left
  · cases h
  rename_i qs
  split at h
  · cases h
  rename_i h4
  split at h
  rotate_left
  · cases h
  rename_i h5
  obtain ⟨rk, rfl⟩ : ∃ rk, rank = .int rk := by
    cases rank <;> first | exact ⟨_, rfl⟩ | (simp [isNumD] at h2; done)
  simp only [Bool.or_eq_true, not_or, Bool.not_eq_true', Bool.not_eq_true, Bool.not_eq_false'] at h1
  simp only [not_or, Nat.not_lt] at h3 h4
  exact ⟨name, rk, ws, qs, bs, rfl, by simpa using h1.1, by simpa using h2, h3.1, h3.2.1, by simpa using h3.2.2, hbs, h4.1, h4.2, h5⟩
def negD : D → D
  | .int n => .int (0 - n)
  | _ => .non
/-- by what matches are put in order -/
def keyD (rs : List D) : D → D
  | .tup [.int n, .tup ns] => match rs[n.toNat]? with
    | some (.tup [_, rk, .tup ws, _]) => .tup [rk, .lst (sortDR ns), .int (ws.length : Nat), .int (0 - n), .lst (ns.map negD)]
    | _ => .non
  | _ => .non
def bestM (rs : List D) : List Mt → Mt
  | [] => (0, [])
  | m :: l => l.foldl (fun b m => if gtD (keyD rs (matchD m)) (keyD rs (matchD b)) = true then m else b) m
theorem bestM_mem {rs : List D} {l : List Mt} (h : l ≠ []) : bestM rs l ∈ l := by
  cases l with
  | nil => exact absurd rfl h
  | cons m l =>
    show l.foldl _ m ∈ m :: l
    have H : ∀ (l : List Mt) (m : Mt), l.foldl (fun b m => if gtD (keyD rs (matchD m)) (keyD rs (matchD b)) = true then m else b) m ∈ m :: l := by
      intro l
      induction l with
      | nil => intro m; simp
      | cons x l ih =>
        intro m
        rw [List.foldl_cons]
        split
        · exact List.mem_cons_of_mem _ (ih x)
        · rcases List.mem_cons.mp (ih m) with e | e
          · rw [e]; simp
          · exact List.mem_cons_of_mem _ (List.mem_cons_of_mem _ e)
    exact H l m
def waitsS (S : RS) : List Mt := (S.fired.filter fun e => !e.2).map (·.1)
def dueS (rs : List D) (S : RS) : Option Mt := if (waitsS S).isEmpty = true then none else some (bestM rs (waitsS S))
def sortIR (l : List Int) : List Int := l.mergeSort fun a b => decide (b ≤ a)
def knownS (kept : List (Int × D)) (rs : List D) (m : Mt) : Kn := (((ways kept [([], [])] (wsOf (rs.getD m.1 .non))).find? fun s => decide (s.1 = m.2)).map (·.2)).getD []
def fillP (kn : Kn) (d : D) : Option D := match d with
  | .tup [b, .int n] => match sideD kn b with
    | some (.int v) => if (decide (-99 ≤ v + n) && decide (v + n ≤ 99)) = true then some (.int (v + n)) else none
    | _ => none
  | .tup _ => none
  | d => sideD kn d
def fillL (kn : Kn) (ps : List D) : Option (List D) := ps.foldl (fun acc p => acc.bind fun l => (fillP kn p).map fun x => l ++ [x]) (some [])
def filledD (w : D) (ps : List D) (kn : Kn) : Option D := (fillL kn ps).map fun xs => .tup (w :: xs)
abbrev HOLDS : Str := "hold"
abbrev SAYS : Str := "say"
abbrev ADDS : Str := "add"
def isIsD (w : D) : Bool := match w with
  | .tup (.str z :: _) => z == ISS
  | _ => false
def cntIs (ws : List D) : Nat := (ws.filter isIsD).length
def holdS (m : Mt) (n : Int) (S : RS) : RS := { S with held := S.held.map fun e => if e.1 = m then (e.1, ownPut e.2 n) else e }
def doS (rs : List D) (m : Mt) (ws : List D) (z : Str) (x : D) (kn : Kn) (S : RS) : RS :=
  if (z == TAKES) = true then
    match x with
    | .int j => settleS rs (if m.2.getD (cntIs (ws.take j.toNat)) 0 ∈ numsOf S.kept then goS rs (m.2.getD (cntIs (ws.take j.toNat)) 0) S else S)
    | _ => S
  else match x with
    | .tup (w :: ps) => match filledD w ps kn with
      | none => S
      | some t => if z == HOLDS ∧ m ∉ S.held.map (·.1) then S else if (z == SAYS) = true then { S with said := S.said ++ [t] }
        else settleS rs (if (z == ADDS) = true then standS (comeS rs t S).1 (comeS rs t S).2 else if m ∈ (comeS rs t S).2.held.map (·.1) then holdS m (comeS rs t S).1 (comeS rs t S).2 else (comeS rs t S).2)
    | _ => S
theorem waysMs_at {its : List (Int × D)} {rs : List D} {m : Mt} (h : m ∈ waysMs its rs) : ∃ x, rs[m.1]? = some x ∧ ∃ s ∈ ways its [([], [])] (wsOf x), s.1 = m.2 := by
  unfold waysMs at h
  obtain ⟨ri, hri, h2⟩ := List.mem_flatMap.mp h
  obtain ⟨s, hs, rfl⟩ := List.mem_map.mp h2
  obtain ⟨x, i⟩ := ri
  have := List.mem_zipIdx_iff_getElem?.mp hri
  exact ⟨x, this, s, hs, rfl⟩
theorem now_at {its : List (Int × D)} {rs : List D} {m : Mt} (h : m ∈ nowS rs its) : ∃ x, rs[m.1]? = some x ∧ ∃ s ∈ ways its [([], [])] (wsOf x), s.1 = m.2 := waysMs_at ((sortM_perm _).mem_iff.mp h)
theorem known_is {its : List (Int × D)} {rs : List D} {m : Mt} {x : D} {s : S1} (hn : (its.map (·.1)).Nodup) (hx : rs[m.1]? = some x) (hs : s ∈ ways its [([], [])] (wsOf x)) (e : s.1 = m.2) : knownS its rs m = s.2 := by
  unfold knownS
  have ex : rs.getD m.1 .non = x := by rw [List.getD_eq_getElem?_getD, hx]; rfl
  rw [ex, ← e, find_nodup (ways_nd hn (by simp)) hs]
  rfl
theorem RoomOk.known {rs : List D} {r : RoomG} (hrs : RsR rs) (h : RoomOk rs r) {m : Mt} (hm : m ∈ r.fired.map (·.1)) :
    ∃ (c : LaneC) (l : Addr × List PartC) (p : PartC), r.lanes[m.1]? = some c ∧ 1 ≤ c.ws.length ∧ c.levs[c.ws.length - 1]? = some l ∧ (l.2.map (·.nums)).Nodup ∧ p ∈ l.2 ∧ p ∈ c.pool ∧ p.nums = m.2 ∧ p.known = knownS r.kept rs m := by
  rw [h.fir] at hm
  obtain ⟨x, hx, s, hs, es⟩ := now_at hm
  have hlt := (List.getElem?_eq_some_iff.mp hx).1
  obtain ⟨c, hc⟩ : ∃ c, r.lanes[m.1]? = some c := ⟨_, List.getElem?_eq_getElem (by rw [h.ll]; exact hlt)⟩
  obtain ⟨hI, hws, hgo⟩ := h.lanes _ c x hc hx
  obtain ⟨bs, hb, hb1, hb5⟩ := rsR_at hrs hx
  rw [← hws] at hs hb hb1 hb5
  have hits : ∀ it ∈ r.kept, ThOk it.2 := fun e he => (h.kb e he).1
  have hr := reach_ways hb (by omega) hI.lots hits c.ws.length (Nat.le_refl _)
  rw [List.take_length] at hr
  obtain ⟨k, hk⟩ : ∃ k, c.ws.length = k + 1 := ⟨c.ws.length - 1, by omega⟩
  rw [hk] at hr
  obtain ⟨s1, q, h4, h5, h6, h7⟩ := reach_snoc.mp ((hr s).mpr hs)
  rw [Nat.zero_add] at h5
  have hq := (hI.inv.mem k q).mpr ⟨s1, h4, h5⟩
  unfold absL at hq
  rw [List.getD_eq_getElem?_getD, List.getElem?_map] at hq
  cases hl : c.levs[k]? with
  | none => rw [hl] at hq; cases hq
  | some l =>
    rw [hl] at hq
    obtain ⟨p, hp, e2⟩ := List.mem_map.mp hq
    have hlm := List.mem_of_getElem? hl
    have e3 : p.nums = q.nums := by rw [← e2]; rfl
    have e4 : p.known = q.known := by rw [← e2]; rfl
    refine ⟨c, l, p, hc, hb1, by rw [hk]; exact hl, hgo.w.keys l hlm, hp, hgo.w.pooled l hlm p hp, ?_, ?_⟩
    · rw [e3, ← es, h7]
    · have hwx : s ∈ ways r.kept [([], [])] (wsOf x) := by rw [← hws]; exact hs
      rw [known_is h.knd hx hwx es, e4, h7]
/-- the deed of a rule -/
def deedS (rs : List D) (m : Mt) (ws : List D) (kn : Kn) (S : RS) (q : D) : RS := match q with
  | .tup [.str z, x] => doS rs m ws z x kn S
  | _ => S
def markS (m : Mt) (S : RS) : RS := { S with fired := S.fired.map fun e => if e.1 = m then (e.1, true) else e, held := S.held ++ [(m, [])] }
def nameOf (x : D) : D := match x with
  | .tup (n :: _) => n
  | _ => .non
def deedsOf (x : D) : List D := match x with
  | .tup [_, _, _, .tup qs] => qs
  | _ => []
def fireS (rs : List D) (S : RS) : D × RS := match dueS rs S with
  | none => (.non, S)
  | some m => (.tup [nameOf (rs.getD m.1 .non), numsD m.2], (deedsOf (rs.getD m.1 .non)).foldl (deedS rs m (wsOf (rs.getD m.1 .non)) (knownS S.kept rs m)) (markS m S))
/-- what holds something has fired -/
def HeldF (S : RS) : Prop := ∀ e ∈ S.held, getF S.fired e.1 = true
theorem due_in {rs : List D} {S : RS} {m : Mt} (h : dueS rs S = some m) : m ∈ S.fired.map (·.1) ∧ ∃ e ∈ S.fired, e.1 = m ∧ e.2 = false := by
  unfold dueS at h
  split at h
  · cases h
  · rename_i hne
    cases h
    have hm := bestM_mem (rs := rs) (l := waitsS S) (fun e => hne (by rw [e]; rfl))
    obtain ⟨e, he, e2⟩ := List.mem_map.mp hm
    obtain ⟨h1, h2⟩ := List.mem_filter.mp he
    exact ⟨List.mem_map.mpr ⟨e, h1, e2⟩, e, h1, e2, by simpa using h2⟩
structure Keeps (rs : List D) (P : RS → Prop) : Prop where
  come : ∀ t S, P S → P (comeS rs t S).2
  go : ∀ n S, P S → P (goS rs n S)
  stand : ∀ n S, P S → P (standS n S)
  hold : ∀ m n S, P S → P (holdS m n S)
  say : ∀ t S, P S → P { S with said := S.said ++ [t] }
  mark : ∀ m S, dueS rs S = some m → P S → P (markS m S)
section
variable {rs : List D} {P : RS → Prop}
theorem Keeps.goAll (K : Keeps rs P) : ∀ (l : List Int) (S : RS), P S → P (goAll rs l S)
  | [], _, h => h
  | n :: l, S, h => K.goAll l _ (K.go n S h)
theorem Keeps.settle (K : Keeps rs P) {S : RS} (h : P S) : P (settleS rs S) := by
  suffices H : ∀ (k : Nat) (S : RS), P S → P (settleN rs k S) from H _ S h
  intro k
  induction k with
  | zero => intro S h; exact h
  | succ k ih =>
    intro S h
    unfold settleN
    split
    · exact h
    · exact ih _ (K.goAll _ _ h)
theorem Keeps.take (K : Keeps rs P) {S : RS} {n : Int} (h : P S) : P (takeS rs n S) := K.settle (K.go _ _ h)
theorem Keeps.deed (K : Keeps rs P) {S : RS} {m : Mt} {ws : List D} {kn : Kn} {q : D} (h : P S) : P (deedS rs m ws kn S q) := by
  unfold deedS
  split
  · rename_i z x
    unfold doS
    split
    · split
      · split
        · exact K.settle (K.go _ _ h)
        · exact K.settle h
      · exact h
    · split
      · split
        · exact h
        · split
          · exact h
          · split
            · exact K.say _ _ h
            · split
              · exact K.settle (K.stand _ _ (K.come _ _ h))
              · split
                · exact K.settle (K.hold _ _ _ (K.come _ _ h))
                · exact K.settle (K.come _ _ h)
      · exact h
  · exact h
theorem Keeps.deeds (K : Keeps rs P) {m : Mt} {ws : List D} {kn : Kn} : ∀ {qs : List D} {S : RS}, P S → P (qs.foldl (deedS rs m ws kn) S)
  | [], _, h => h
  | q :: qs, S, h => K.deeds (qs := qs) (K.deed (q := q) h)
theorem Keeps.fire (K : Keeps rs P) {S : RS} (h : P S) : P (fireS rs S).2 := by
  unfold fireS
  split
  · exact h
  · rename_i m hm
    exact K.deeds (K.mark m S hm h)
end
theorem getF_of {old : List (Mt × Bool)} {ms : List Mt} {m : Mt} (h : m ∈ ms) : getF (firedOf old ms) m = getF old m := by
  unfold firedOf
  induction ms with
  | nil => cases h
  | cons x ms ih =>
    by_cases e : x = m
    · subst e
      show ((List.find? (fun e => decide (e.1 = x)) ((x, getF old x) :: ms.map fun m => (m, getF old m))).map (·.2)).getD false = _
      rw [List.find?_cons, show decide ((x, getF old x).1 = x) = true from decide_eq_true rfl]
      rfl
    · have h2 : m ∈ ms := by rcases List.mem_cons.mp h with h | h; exact absurd h.symm e; exact h
      show ((List.find? (fun e => decide (e.1 = m)) ((x, getF old x) :: ms.map fun m => (m, getF old m))).map (·.2)).getD false = _
      rw [List.find?_cons, show decide ((x, getF old x).1 = m) = false from decide_eq_false e]
      exact ih h2
theorem heldF_look {rs : List D} {S : RS} (h : HeldF S) : HeldF (lookS rs S) := fun e he => by
  have he : e ∈ keepM (nowS rs S.kept) S.held := he
  obtain ⟨h1, h2⟩ := List.mem_filter.mp he
  show getF (firedOf S.fired (nowS rs S.kept)) e.1 = true
  rw [getF_of (by simpa using h2)]
  exact h e h1
theorem getF_mark {l : List (Mt × Bool)} {m x : Mt} : getF (l.map fun e : Mt × Bool => if e.1 = m then (e.1, true) else e) x = if x = m ∧ m ∈ l.map (·.1) then true else getF l x := by
  induction l with
  | nil => simp [getF]
  | cons e l ih =>
    unfold getF at ih ⊢
    rw [List.map_cons, List.find?_cons, List.find?_cons]
    have ek : (if e.1 = m then (e.1, true) else e).1 = e.1 := by split <;> rfl
    rw [ek]
    by_cases ex : e.1 = x
    · rw [show decide (e.1 = x) = true from decide_eq_true ex]
      by_cases em : e.1 = m
      · rw [if_pos em, if_pos ⟨by rw [← ex, em], by rw [← em]; simp⟩]; rfl
      · rw [if_neg em, if_neg (fun h => em (by rw [ex, h.1]))]
    · rw [show decide (e.1 = x) = false from decide_eq_false ex]
      rw [ih]
      by_cases hx : x = m
      · have : (m ∈ (e :: l).map (·.1)) ↔ m ∈ l.map (·.1) := by
          rw [List.map_cons, List.mem_cons]
          constructor
          · rintro (h | h)
            · exact absurd (h.symm.trans hx.symm) ex
            · exact h
          · exact .inr
        simp only [this]
      · rw [if_neg (fun h => hx h.1), if_neg (fun h => hx h.1)]
structure SI (S : RS) : Prop where
  hf : HeldF S
  ris : (numsOf S.kept).Pairwise (· < ·)
  lt : ∀ n ∈ numsOf S.kept, 0 ≤ n ∧ n < S.count
  dif : (S.kept.map (·.2)).Pairwise fun a b => D.eqv a b = false
theorem si_look {rs : List D} {S : RS} (h : SI S) : SI (lookS rs S) := ⟨heldF_look h.hf, h.ris, h.lt, h.dif⟩
theorem numFor_no {l : List (Int × D)} {t : D} (h : numFor l t = none) : ∀ e ∈ l, D.eqv e.2 t = false := fun e he => by
  unfold numFor at h
  rw [Option.map_eq_none_iff, List.find?_eq_none] at h
  simpa using h e he
theorem keeps_si {rs : List D} : Keeps rs SI := by
  refine ⟨fun t S h => ?_, fun n S h => ?_, fun n S h => ⟨h.hf, h.ris, h.lt, h.dif⟩, fun m n S h => ⟨fun e he => ?_, h.ris, h.lt, h.dif⟩, fun t S h => ⟨h.hf, h.ris, h.lt, h.dif⟩, fun m S hm h => ⟨fun e he => ?_, h.ris, h.lt, h.dif⟩⟩
  · unfold comeS
    cases hn : numFor S.kept t with
    | some n => exact h
    | none =>
      refine si_look ⟨h.hf, ?_, fun n hn => ?_, ?_⟩
      · show (numsOf (S.kept ++ [((S.count : Int), t)])).Pairwise _
        unfold numsOf
        rw [List.map_append, List.pairwise_append]
        refine ⟨h.ris, by simp, fun a ha b hb => ?_⟩
        rw [List.mem_singleton.mp hb]
        exact (h.lt a ha).2
      · have hn : n ∈ numsOf (S.kept ++ [((S.count : Int), t)]) := hn
        show 0 ≤ n ∧ n < ((S.count + 1 : Nat) : Int)
        unfold numsOf at hn
        rw [List.map_append, List.mem_append] at hn
        rcases hn with hn | hn
        · have := h.lt n hn; omega
        · rw [List.mem_singleton.mp hn]
          show 0 ≤ (S.count : Int) ∧ (S.count : Int) < _
          omega
      · show ((S.kept ++ [((S.count : Int), t)]).map (·.2)).Pairwise _
        rw [List.map_append, List.pairwise_append]
        refine ⟨h.dif, by simp, fun a ha b hb => ?_⟩
        rw [List.mem_singleton.mp hb]
        obtain ⟨e, he, rfl⟩ := List.mem_map.mp ha
        exact numFor_no hn e he
  · refine si_look ⟨fun e he => ?_, ?_, fun k hk => ?_, ?_⟩
    · have he : e ∈ S.held.map fun e => (e.1, dropI n e.2) := he
      obtain ⟨e', he', rfl⟩ := List.mem_map.mp he
      exact h.hf e' he'
    · show (numsOf (dropLot n S.kept)).Pairwise _
      exact h.ris.sublist (List.Sublist.map _ List.filter_sublist)
    · have hk : k ∈ numsOf (dropLot n S.kept) := hk
      exact h.lt k ((List.Sublist.map _ List.filter_sublist).subset hk)
    · show ((dropLot n S.kept).map (·.2)).Pairwise _
      exact h.dif.sublist (List.Sublist.map _ List.filter_sublist)
  · have he : e ∈ S.held.map fun e => if e.1 = m then (e.1, ownPut e.2 n) else e := he
    obtain ⟨e', he', rfl⟩ := List.mem_map.mp he
    have : (if e'.1 = m then (e'.1, ownPut e'.2 n) else e').1 = e'.1 := by split <;> rfl
    rw [this]
    exact h.hf e' he'
  · have he : e ∈ S.held ++ [(m, [])] := he
    show getF (S.fired.map fun e : Mt × Bool => if e.1 = m then (e.1, true) else e) e.1 = true
    rw [getF_mark]
    have hmf := (due_in hm).1
    rcases List.mem_append.mp he with he | he
    · split
      · rfl
      · exact h.hf e he
    · rw [List.mem_singleton.mp he, if_pos ⟨rfl, hmf⟩]
theorem SI.take {rs : List D} {S : RS} {n : Int} (h : SI S) : SI (takeS rs n S) := keeps_si.take h
theorem SI.fire {rs : List D} {S : RS} (h : SI S) : SI (fireS rs S).2 := keeps_si.fire h
def Lk : Nat → Cells → D → D → Prop
  | 0, _, x, y => x = y
  | n + 1, C, x, y => x = y ∨ (∃ l l', x = .tup l' ∧ y = .tup l ∧ l'.length = l.length ∧ ∀ (i : Nat) a b, l'[i]? = some a → l[i]? = some b → Lk n C a b) ∨
    ∃ l l', (x = .lst l' ∨ ∃ p, x = .ref p ∧ C p = some (.lst l')) ∧ y = .lst l ∧ l'.length = l.length ∧ ∀ (i : Nat) a b, l'[i]? = some a → l[i]? = some b → Lk n C a b
theorem Lk.refl {n : Nat} {C : Cells} {x : D} : Lk n C x x := by cases n <;> first | rfl | exact .inl rfl
theorem Lk.same {n : Nat} {C : Cells} {l : List D} : ∀ (i : Nat) a b, l[i]? = some a → l[i]? = some b → Lk n C a b := fun i a b h1 h2 => by
  rw [h1] at h2
  cases h2
  exact Lk.refl
theorem Lk.tup {n : Nat} {C : Cells} {x : D} {l : List D} (h : Lk (n + 1) C x (.tup l)) : ∃ l', x = .tup l' ∧ l'.length = l.length ∧ ∀ (i : Nat) a b, l'[i]? = some a → l[i]? = some b → Lk n C a b := by
  rcases h with rfl | ⟨_, l', rfl, e, h1, h2⟩ | ⟨_, l', _, e, _⟩
  · exact ⟨l, rfl, rfl, Lk.same⟩
  · cases e; exact ⟨l', rfl, h1, h2⟩
  · cases e
theorem Lk.lst {n : Nat} {C : Cells} {x : D} {l : List D} (h : Lk (n + 1) C x (.lst l)) : ∃ l', (x = .lst l' ∨ ∃ p, x = .ref p ∧ C p = some (.lst l')) ∧ l'.length = l.length ∧ ∀ (i : Nat) a b, l'[i]? = some a → l[i]? = some b → Lk n C a b := by
  rcases h with rfl | ⟨_, l', rfl, e, h1, h2⟩ | ⟨_, l', h0, e, h1, h2⟩
  · exact ⟨l, .inl rfl, rfl, Lk.same⟩
  · cases e
  · cases e; exact ⟨l', h0, h1, h2⟩
theorem Lk.flat {n : Nat} {C : Cells} {x y : D} (h : Lk n C x y) (h1 : ∀ l, y ≠ .tup l) (h2 : ∀ l, y ≠ .lst l) : x = y := by
  cases n with
  | zero => exact h
  | succ n =>
    rcases h with h | ⟨_, l', _, e, _⟩ | ⟨_, l', _, e, _⟩
    · exact h
    · exact absurd e (h1 _)
    · exact absurd e (h2 _)
def a__law_alike (n : Nat) : ASp := fun ds C R => ∃ x y v m, ds = [x, y] ∧ n = m + 1 ∧ n ≤ 50 ∧ datD m v = true ∧ Lk m C x v ∧ Lk m C y v ∧ R (.bl true) C
def al_c (a__law_alike : ASp) : DS := dSeq (dIfS (dTest (dOp oNe (dFn oLen (dCons (dVar 0) (dNil))) (dFn oLen (dCons (dVar 1) (dNil))))) (dRet (dC (.bl false))) (dNext)) (dRet (dOp oEq (dLc (diRng1 (dCons (dFn oLen (dCons (dVar 1) (dNil))) (dNil))) (gdName 3) (dNot (dTest (dCall a__law_alike [] (dCons (dOp oIx (dVar 0) (dVar 3)) (dCons (dOp oIx (dVar 1) (dVar 3)) (dNil)))))) (dVar 3) [3]) (dLst (dNil))))
def al_a (a__law_alike : ASp) : DS := dSeq (dIfS (dOr (dTest (dOp oNe (dFn oIsi (dCons (dVar 0) (dCons (dC (.ty "tuple")) (dNil)))) (dFn oIsi (dCons (dVar 1) (dCons (dC (.ty "tuple")) (dNil)))))) (dNot (dTest (dFn oIsi (dCons (dVar 0) (dCons (dTup (dCons (dC (.ty "tuple")) (dCons (dC (.ty "list")) (dNil)))) (dNil))))))) (dRet (dC (.bl false))) (dNext)) (al_c a__law_alike)
def al_b (a__law_alike : ASp) : DS := dSeq (dIfS (dOr (dTest (dOp oIs (dVar 1) (dC .non))) (dTest (dOp oIs (dVar 0) (dC .non)))) (dRet (dAndV (dOp oIs (dVar 1) (dC .non)) (dOp oIs (dVar 0) (dC .non)))) (dNext)) (dSeq (dAsg (dOp oEq (dFn oIsi (dCons (dVar 1) (dCons (dC (.ty "str")) (dNil)))) (dFn oIsi (dCons (dVar 0) (dCons (dC (.ty "str")) (dNil))))) (gdName 2)) (dRet (dAndV (dVar 2) (dAndV (dOp oEq (dFn oIsi (dCons (dVar 1) (dCons (dC (.ty "bool")) (dNil)))) (dFn oIsi (dCons (dVar 0) (dCons (dC (.ty "bool")) (dNil))))) (dOp oEq (dVar 0) (dVar 1))))))
theorem rd__law_alike (n : Nat) : ∀ ds C R, a__law_alike (n + 1) ds C R → t__law_alike (a__law_alike n) { nx := fun _ C' => R .non C', rt := R } (dstart ["_law_found_here", "_law_due", "_law_same_kind", "_law_k"] ds) C := by
  rintro ds C R ⟨x, y, v, m, rfl, hnm, hn, hy, hxy, hyv, h⟩
  obtain rfl : n = m := by omega
  unfold t__law_alike
  show dSeq (dIfS _ (al_a (a__law_alike n)) _) (al_b (a__law_alike n)) _ _ _
  have hml := ml
  walk_at "dl"
  by_cases hc : (∃ l, v = .tup l) ∨ ∃ l, v = .lst l
  · rcases hc with ⟨l, rfl⟩ | ⟨l, rfl⟩
    · obtain ⟨j, rfl⟩ : ∃ j, n = j + 1 := by cases n <;> first | (cases hy; done) | exact ⟨_, rfl⟩
      obtain ⟨l', rfl, hll, hlk⟩ := hxy.tup
      obtain ⟨l2, rfl, hll2, hlk2⟩ := hyv.tup
      simp only [datD, Bool.and_eq_true, decide_eq_true_eq] at hy
      obtain ⟨hall, hlen⟩ := hy
      rw [oIsi_kind2 (k := "tuple") rfl (by decide)]
      walk_at "dl"
      simp only [show (isiT "tuple" "tuple" || isiT "tuple" "list") = true by decide]
      walk_at "dl"
      unfold al_a
      walk_at "dl"
      rw [oIsi_kind (k := "tuple") (T := "tuple") rfl (by decide)]
      walk_at "dl"
      rw [oIsi_kind (k := "tuple") (T := "tuple") rfl (by decide)]
      walk_at "dl"
      rw [oNe_ok rfl rfl, show D.eqv (.bl (isiT "tuple" "tuple")) (.bl (isiT "tuple" "tuple")) = true by decide]
      walk_at "dl"
      rw [oIsi_kind2 (k := "tuple") rfl (by decide)]
      walk_at "dl"
      simp only [show (isiT "tuple" "tuple" || isiT "tuple" "list") = true by decide]
      walk_at "dl"
      unfold al_c
      walk_at "dl"
      simp only [hll, hll2, decide_true]
      walk_at "dl"
      refine ⟨by omega, by omega, ?_⟩
      refine lc_inv (n := ((l.length : Nat) : Int).toNat) (fun i acc C' => C' = C ∧ acc = []) (fun i _ hi => hi) (fun _ => Nat.le_refl _) ⟨rfl, rfl⟩ (fun i d acc C' hi hyl hv => ?_) (fun acc C' hv => ?_)
      · obtain ⟨rfl, rfl⟩ := hv
        have hyl : d = .int (0 + (i : Int)) := hyl
        subst hyl
        have hil : i < l.length := by omega
        walk_at "dl"
        simp only [Int.zero_add, atI_cast]
        refine ⟨l'[i], List.getElem?_eq_getElem (by omega), l2[i], List.getElem?_eq_getElem (by omega), l'[i], l2[i], l[i], j, rfl, rfl, by omega, List.all_eq_true.mp hall _ (List.getElem_mem hil), hlk i _ _ (List.getElem?_eq_getElem (by omega)) (List.getElem?_eq_getElem hil), hlk2 i _ _ (List.getElem?_eq_getElem (by omega)) (List.getElem?_eq_getElem hil), ?_⟩
        walk_at "dl"
      · obtain ⟨rfl, rfl⟩ := hv
        walk_at "dl"
        rw [oEq_ok (show okD 60 (D.lst []) = true from rfl) (show okD 60 (D.lst []) = true from rfl)]
        exact h
    · obtain ⟨j, rfl⟩ : ∃ j, n = j + 1 := by cases n <;> first | (cases hy; done) | exact ⟨_, rfl⟩
      obtain ⟨l', hx, hll, hlk⟩ := hxy.lst
      obtain ⟨l2, hx2, hll2, hlk2⟩ := hyv.lst
      simp only [datD, Bool.and_eq_true, decide_eq_true_eq] at hy
      obtain ⟨hall, hlen⟩ := hy
      have kk : ∀ {x : D} {l' : List D}, (x = .lst l' ∨ ∃ p, x = .ref p ∧ C p = some (.lst l')) → DL.kindOf C x = some "list" := fun hx => by
        rcases hx with rfl | ⟨p, rfl, hp⟩
        · rfl
        · show (C p).bind _ = _; rw [hp]; rfl
      have kl : ∀ {x : D} {l' : List D} {R : D → Cells → Prop}, (x = .lst l' ∨ ∃ p, x = .ref p ∧ C p = some (.lst l')) → l'.length = l.length → oLen [x] C R = R (.int (l.length : Nat)) C := fun hx hll => by
        rcases hx with rfl | ⟨p, rfl, hp⟩
        · rw [oLen_lst, hll]
        · rw [oLen_ref hp, hll]
      have ki : ∀ {x : D} {l' : List D} {i : Int} {R : D → Cells → Prop}, (x = .lst l' ∨ ∃ p, x = .ref p ∧ C p = some (.lst l')) → oIx x (.int i) C R = ∃ d, atI l' i = some d ∧ R d C := fun hx => by
        rcases hx with rfl | ⟨p, rfl, hp⟩
        · rw [oIx_lst]
        · rw [oIx_ref hp]
      have hkx := kk hx
      have hky := kk hx2
      rw [oIsi_kind2 (k := "list") hky (by decide)]
      walk_at "dl"
      simp only [show (isiT "list" "tuple" || isiT "list" "list") = true by decide]
      walk_at "dl"
      unfold al_a
      walk_at "dl"
      rw [oIsi_kind (k := "list") (T := "tuple") hkx (by decide)]
      walk_at "dl"
      rw [oIsi_kind (k := "list") (T := "tuple") hky (by decide)]
      walk_at "dl"
      rw [oNe_ok rfl rfl, show D.eqv (.bl (isiT "list" "tuple")) (.bl (isiT "list" "tuple")) = true by decide]
      walk_at "dl"
      rw [oIsi_kind2 (k := "list") hkx (by decide)]
      walk_at "dl"
      simp only [show (isiT "list" "tuple" || isiT "list" "list") = true by decide]
      walk_at "dl"
      unfold al_c
      walk_at "dl"
      rw [kl hx hll]
      walk_at "dl"
      rw [kl hx2 hll2]
      walk_at "dl"
      simp only [decide_true]
      walk_at "dl"
      rw [kl hx2 hll2]
      walk_at "dl"
      refine ⟨by omega, by omega, ?_⟩
      refine lc_inv (n := ((l.length : Nat) : Int).toNat) (fun i acc C' => C' = C ∧ acc = []) (fun i _ hi => hi) (fun _ => Nat.le_refl _) ⟨rfl, rfl⟩ (fun i d acc C' hi hyl hv => ?_) (fun acc C' hv => ?_)
      · obtain ⟨rfl, rfl⟩ := hv
        have hyl : d = .int (0 + (i : Int)) := hyl
        subst hyl
        have hil : i < l.length := by omega
        walk_at "dl"
        rw [ki hx]
        simp only [Int.zero_add, atI_cast]
        walk_at "dl"
        refine ⟨l'[i], List.getElem?_eq_getElem (by omega), ?_⟩
        rw [ki hx2]
        simp only [atI_cast]
        refine ⟨l2[i], List.getElem?_eq_getElem (by omega), ?_⟩
        refine ⟨l'[i], l2[i], l[i], j, rfl, rfl, by omega, List.all_eq_true.mp hall _ (List.getElem_mem hil), hlk i _ _ (List.getElem?_eq_getElem (by omega)) (List.getElem?_eq_getElem hil), hlk2 i _ _ (List.getElem?_eq_getElem (by omega)) (List.getElem?_eq_getElem hil), ?_⟩
        walk_at "dl"
      · obtain ⟨rfl, rfl⟩ := hv
        walk_at "dl"
        rw [oEq_ok (show okD 60 (D.lst []) = true from rfl) (show okD 60 (D.lst []) = true from rfl)]
        exact h
  · obtain rfl : x = v := hxy.flat (fun l e => hc (.inl ⟨l, e⟩)) (fun l e => hc (.inr ⟨l, e⟩))
    obtain rfl : y = x := hyv.flat (fun l e => hc (.inl ⟨l, e⟩)) (fun l e => hc (.inr ⟨l, e⟩))
    have hk : ∃ kx, DL.kindOf C y = some kx ∧ (isiT kx "tuple" || isiT kx "list") = false := by
      cases y <;> first | exact ⟨_, rfl, by decide⟩ | exact absurd (.inl ⟨_, rfl⟩) hc | exact absurd (.inr ⟨_, rfl⟩) hc | (simp [datD] at hy; done)
    obtain ⟨kx, hk1, hk2⟩ := hk
    rw [oIsi_kind2 hk1 (by decide), hk2]
    walk_at "dl"
    unfold al_b
    walk_at "dl"
    cases en : DL.isNon y with
    | true =>
      walk_at "dl"
      exact h
    | false =>
      walk_at "dl"
      simp only [oIsi_kind (T := "str") hk1 (by decide), oIsi_kind (T := "bool") hk1 (by decide), oEq_bl, beq_self_eq_true]
      walk_at "dl"
      rw [oEq_ok (datD_ok (datD_all (show n ≤ 60 by omega) hy)) (datD_ok (datD_all (show n ≤ 60 by omega) hy)), eqv_refl _ y hy]
      exact h
theorem del_ne {C : Cells} {p q : Addr} {x : Cell} (h : C q = some x) (hn : q ≠ p) : delC C p q = some x := by unfold delC; rw [if_neg hn]; exact h
def runN (rs : List D) : Nat → RS → List D × RS
  | 0, S => ([], S)
  | n + 1, S => match dueS rs S with
    | none => ([], S)
    | some _ => ((fireS rs S).1 :: (runN rs n (fireS rs S).2).1, (runN rs n (fireS rs S).2).2)
/-- the law's own place of a match -/
def plcD (rk : Int) (n : Nat) (m : Mt) : D := .lst [.int rk, .lst ((sortIR m.2).map .int), .int (n : Nat), .int (0 - (m.1 : Nat)), .lst ((m.2.map fun n => 0 - n).map .int)]
def rkOf (rs : List D) (m : Mt) : Int := match rs[m.1]? with
  | some (.tup [_, .int rk, _, _]) => rk
  | _ => 0
def plc (rs : List D) (m : Mt) : D := plcD (rkOf rs m) (wsOf (rs.getD m.1 .non)).length m
theorem SI.run {rs : List D} : ∀ {n : Nat} {S : RS}, SI S → SI (runN rs n S).2
  | 0, _, h => h
  | n + 1, S, h => by
    unfold runN
    split
    · exact h
    · exact SI.run (n := n) h.fire
def gtX (rs : List D) (a b : Mt) : Bool := PySem.W.dataLt (toPy (plc rs b)) (toPy (plc rs a))
def bestX (rs : List D) : List Mt → Mt
  | [] => (0, [])
  | m :: l => l.foldl (fun b m => if gtX rs m b = true then m else b) m
def dueX (rs : List D) (S : RS) : Option Mt := if (waitsS S).isEmpty = true then none else some (bestX rs (waitsS S))
def fireX (rs : List D) (S : RS) : D × RS := match dueX rs S with
  | none => (.non, S)
  | some m => (.tup [nameOf (rs.getD m.1 .non), numsD m.2], (deedsOf (rs.getD m.1 .non)).foldl (deedS rs m (wsOf (rs.getD m.1 .non)) (knownS S.kept rs m)) (markS m S))
/-- a run of which the kernel sees that it may go -/
def okX (rs : List D) : Nat → RS → Bool
  | 0, _ => true
  | n + 1, S => decide (rs.length * (S.kept.length + 5) ^ 5 ≤ 16000000) && decide (S.kept.length ≤ 21) && decide (S.said.length ≤ 900000) && (match dueX rs S with | none => true | some _ => okX rs n (fireX rs S).2)
/-- what g tells of things: the way back to those that stand by themselves; left: to be looked at, the last first -/
def dfsN (g : Int → Option (Option Mt)) : Nat → List Int → List Int → List Int → List Int
  | 0, _, _, found => found
  | k + 1, left, met, found => match left.getLast? with
    | none => found
    | some one => if one ∈ met then dfsN g k left.dropLast met found else match g one with
      | some none => dfsN g k left.dropLast (met ++ [one]) (found ++ [one])
      | some (some m) => dfsN g k (left.dropLast ++ m.2) (met ++ [one]) found
      | none => found
def rootsG (g : Int → Option (Option Mt)) (N : Nat) (n : Int) : List Int := dfsN g (6 * N + 2) [n] [] []
/-- every thing that a told match is of is told of, too -/
structure GClos (g : Int → Option (Option Mt)) (N : List Int) (rs : List D) : Prop where
  sub : ∀ n, g n ≠ none → n ∈ N
  cl : ∀ n m, g n = some (some m) → m.2.length ≤ 5 ∧ m.1 < rs.length ∧ ∀ x ∈ m.2, g x ≠ none
structure Dfs (g : Int → Option (Option Mt)) (N : List Int) (n : Int) (m : Nat) (left met found : List Int) : Prop where
  eq : rootsG g N.length n = dfsN g m left met found
  ms : 6 * (N.length - met.length) + left.length + 1 ≤ m
  mn : met.Nodup
  mi : ∀ x ∈ met, x ∈ N
  li : ∀ x ∈ left, g x ≠ none
  fi : ∀ x ∈ found, x ∈ met
  fn : found.Nodup
section
variable {g : Int → Option (Option Mt)} {N : List Int} {rs : List D} {n : Int} {m : Nat} {left met found : List Int} {one : Int}
theorem Dfs.own (c : GClos g N rs) (d : Dfs g N n m left met found) (hl : left.getLast? = some one) (hm : one ∉ met) (hg : g one = some none) : ∃ k, m = k + 1 ∧ Dfs g N n k left.dropLast (met ++ [one]) (found ++ [one]) := by
  have h := d.ms
  obtain ⟨k, rfl⟩ : ∃ k, m = k + 1 := ⟨m - 1, by omega⟩
  have hne : left ≠ [] := by rintro rfl; cases hl
  have hll : 0 < left.length := List.length_pos_iff.mpr hne
  have hmn : (met ++ [one]).Nodup := List.nodup_append.mpr ⟨d.mn, by simp, fun a ha b hb e => hm (by rw [List.mem_singleton.mp hb] at e; rw [← e]; exact ha)⟩
  have hmi : ∀ x ∈ met ++ [one], x ∈ N := fun x hx => by
    rcases List.mem_append.mp hx with hx | hx
    · exact d.mi x hx
    · rw [List.mem_singleton.mp hx]; exact c.sub _ (by rw [hg]; simp)
  have h2 := nodup_len hmn hmi
  rw [List.length_append] at h2
  have h3 : ([one] : List Int).length = 1 := rfl
  refine ⟨k, rfl, ?_, by rw [List.length_dropLast, List.length_append]; omega, hmn, hmi, fun x hx => d.li x (List.dropLast_subset _ hx), fun x hx => ?_, ?_⟩
  · rw [d.eq]
    conv => lhs; unfold dfsN
    rw [hl]
    dsimp only
    rw [if_neg hm, hg]
  · rcases List.mem_append.mp hx with hx | hx
    · exact List.mem_append.mpr (.inl (d.fi x hx))
    · exact List.mem_append.mpr (.inr hx)
  · exact List.nodup_append.mpr ⟨d.fn, by simp, fun a ha b hb e => hm (by rw [List.mem_singleton.mp hb] at e; rw [← e]; exact d.fi a ha)⟩
theorem Dfs.held {mt : Mt} (c : GClos g N rs) (d : Dfs g N n m left met found) (hl : left.getLast? = some one) (hm : one ∉ met) (hg : g one = some (some mt)) : ∃ k, m = k + 1 ∧ Dfs g N n k (left.dropLast ++ mt.2) (met ++ [one]) found := by
  have h := d.ms
  obtain ⟨k, rfl⟩ : ∃ k, m = k + 1 := ⟨m - 1, by omega⟩
  have hne : left ≠ [] := by rintro rfl; cases hl
  have hll : 0 < left.length := List.length_pos_iff.mpr hne
  have hmn : (met ++ [one]).Nodup := List.nodup_append.mpr ⟨d.mn, by simp, fun a ha b hb e => hm (by rw [List.mem_singleton.mp hb] at e; rw [← e]; exact ha)⟩
  have hmi : ∀ x ∈ met ++ [one], x ∈ N := fun x hx => by
    rcases List.mem_append.mp hx with hx | hx
    · exact d.mi x hx
    · rw [List.mem_singleton.mp hx]; exact c.sub _ (by rw [hg]; simp)
  have h2 := nodup_len hmn hmi
  rw [List.length_append] at h2
  have h3 : ([one] : List Int).length = 1 := rfl
  obtain ⟨g1, _, g2⟩ := c.cl one mt hg
  refine ⟨k, rfl, ?_, by simp only [List.length_append, List.length_dropLast]; omega, hmn, hmi, fun x hx => ?_, fun x hx => List.mem_append.mpr (.inl (d.fi x hx)), d.fn⟩
  · rw [d.eq]
    conv => lhs; unfold dfsN
    rw [hl]
    dsimp only
    rw [if_neg hm, hg]
  · rcases List.mem_append.mp hx with hx | hx
    · exact d.li x (List.dropLast_subset _ hx)
    · exact g2 x hx
end
open PySem.StrLaws (join_split split_free glued_eq_join)
abbrev cl (z : Str) : List Nat := z.cps.toList
theorem str_eq {a b : Str} (h : cl a = cl b) : a = b := PySem.Str.ext' (Array.toList_inj.mp h)
theorem zl_len (z : Str) : (cl z).length = z.length := by simp [Str.length]
theorem zl_app (a b : Str) : cl (a ++ b) = cl a ++ cl b := by
  show (a.cps ++ b.cps).toList = _
  rw [Array.toList_append]
def jl (c : Nat) : List (List Nat) → List Nat
  | [] => []
  | [x] => x
  | x :: y :: r => x ++ c :: jl c (y :: r)
theorem join_cl (c : Nat) : ∀ l : List Str, cl (Str.join ⟨#[c]⟩ l) = jl c (l.map cl)
  | [] => rfl
  | [x] => rfl
  | x :: y :: r => by
    show cl (x ++ ⟨#[c]⟩ ++ Str.join ⟨#[c]⟩ (y :: r)) = cl x ++ c :: jl c ((y :: r).map cl)
    rw [zl_app, zl_app, join_cl c (y :: r), List.append_assoc]
    rfl
theorem app_inj {c : Nat} : ∀ {x y r s : List Nat}, c ∉ x → c ∉ y → x ++ c :: r = y ++ c :: s → x = y ∧ r = s
  | [], [], _, _, _, _, h => ⟨rfl, (List.cons.inj h).2⟩
  | [], b :: y, _, _, _, hy, h => absurd ((List.cons.inj h).1 ▸ List.mem_cons_self) hy
  | a :: x, [], _, _, hx, _, h => absurd ((List.cons.inj h).1 ▸ List.mem_cons_self) hx
  | a :: x, b :: y, r, s, hx, hy, h => by
    obtain ⟨h1, h2⟩ := List.cons.inj h
    obtain ⟨e1, e2⟩ := app_inj (fun m => hx (List.mem_cons_of_mem _ m)) (fun m => hy (List.mem_cons_of_mem _ m)) h2
    exact ⟨by rw [h1, e1], e2⟩
theorem jl_inj {c : Nat} : ∀ {a b : List (List Nat)}, a ≠ [] → b ≠ [] → (∀ x ∈ a, c ∉ x) → (∀ x ∈ b, c ∉ x) → jl c a = jl c b → a = b
  | [], _, h, _, _, _, _ => absurd rfl h
  | _ :: _, [], _, h, _, _, _ => absurd rfl h
  | [x], [y], _, _, _, _, h => by
    have h : x = y := h
    rw [h]
  | [x], y :: z :: r, _, _, ha, _, h => by
    have h : x = y ++ c :: jl c (z :: r) := h
    exact absurd (by rw [h]; simp) (ha x (by simp))
  | x :: z :: r, [y], _, _, _, hb, h => by
    have h : x ++ c :: jl c (z :: r) = y := h
    exact absurd (by rw [← h]; simp) (hb y (by simp))
  | x :: z :: r, y :: u :: s, _, _, ha, hb, h => by
    have h : x ++ c :: jl c (z :: r) = y ++ c :: jl c (u :: s) := h
    obtain ⟨e1, e2⟩ := app_inj (ha x (by simp)) (hb y (by simp)) h
    rw [e1, jl_inj (a := z :: r) (b := u :: s) (by simp) (by simp) (fun w hw => ha w (List.mem_cons_of_mem _ hw)) (fun w hw => hb w (List.mem_cons_of_mem _ hw)) e2]
theorem split_ne (x y : Str) : Txt.split x y ≠ [] := fun e => by
  have := PyProof.Rows.split_pos x y
  rw [e] at this
  exact absurd this (by decide)
/-- what is joined is taken apart again -/
theorem split_join {c : Nat} {l : List Str} (hne : l ≠ []) (h : ∀ z ∈ l, c ∉ cl z) : Txt.split (Txt.join ⟨#[c]⟩ l) ⟨#[c]⟩ = l := by
  have e0 : Txt.join ⟨#[c]⟩ l = Str.join ⟨#[c]⟩ l := glued_eq_join _ _
  rw [e0]
  generalize hx : Str.join ⟨#[c]⟩ l = x
  have h1 : jl c ((Txt.split x ⟨#[c]⟩).map cl) = jl c (l.map cl) := by
    rw [← join_cl, ← join_cl, join_split, hx]
  have h2 := jl_inj (c := c) (by simp [split_ne]) (by simpa using hne) (fun y hy => by obtain ⟨z, hz, rfl⟩ := List.mem_map.mp hy; exact split_free x c z hz) (fun y hy => by obtain ⟨z, hz, rfl⟩ := List.mem_map.mp hy; exact h z hz) h1
  have : ∀ {a b : List Str}, a.map cl = b.map cl → a = b := by
    intro a
    induction a with
    | nil => intro b e; cases b <;> first | rfl | cases e
    | cons u a ih =>
      intro b e
      cases b with
      | nil => cases e
      | cons v b =>
        obtain ⟨e1, e2⟩ := List.cons.inj e
        rw [str_eq e1, ih e2]
  exact this h2
theorem join_len (c : Nat) : ∀ l : List Str, (Txt.join ⟨#[c]⟩ l).length ≤ (l.map (·.length)).sum + l.length := by
  intro l
  have e0 : Txt.join ⟨#[c]⟩ l = Str.join ⟨#[c]⟩ l := glued_eq_join _ _
  rw [e0, ← zl_len, join_cl]
  clear e0
  induction l with
  | nil => simp [jl]
  | cons x r ih =>
    cases r with
    | nil => show (cl x).length ≤ _; rw [zl_len]; simp
    | cons y r =>
      show (cl x ++ c :: jl c ((y :: r).map cl)).length ≤ _
      rw [List.length_append, List.length_cons, zl_len]
      have ih : (jl c ((y :: r).map cl)).length ≤ ((y :: r).map (·.length)).sum + (y :: r).length := ih
      generalize (jl c ((y :: r).map cl)).length = m at ih ⊢
      simp only [List.map_cons, List.sum_cons, List.length_cons] at ih ⊢
      omega
def intS (k : Int) : Str := ((toString k : String) : Str)
/-- the text of a part -/
def partT : D → Str
  | .str z => z
  | .int k => intS k
  | .tup [.str b, .int k] => b ++ (if 0 ≤ k then ("+" : Str) else ("" : Str)) ++ intS k
  | _ => ⟨#[]⟩
def figs (z : Str) : List Nat := match cl z with
  | 45 :: r => r
  | l => l
def isFig (c : Nat) : Bool := decide (48 ≤ c) && decide (c ≤ 57)
/-- the number that a word writes -/
def numOf (z : Str) : Option Int :=
  if (decide (1 ≤ (figs z).length) && decide ((figs z).length ≤ 2) && (figs z).all isFig) = true then
    (if (figs z).head? = some 48 ∧ z ≠ ("0" : Str) then none else PySem.intText? z)
  else none
/-- the part that a word writes -/
def partOf (z : Str) : D := match numOf z with
  | some n => .int n
  | none => match cl z with
    | a :: b :: c :: r => if isBlankD (.str ⟨#[a]⟩) = true ∧ (b = 43 ∨ b = 45) then
        (match numOf ⟨(if b = 43 then c :: r else b :: c :: r).toArray⟩ with
         | some k => if decide (b = 43) = decide (0 ≤ k) then .tup [.str ⟨#[a]⟩, .int k] else .str z
         | none => .str z)
      else .str z
    | _ => .str z
theorem nums_cl : ∀ n ∈ List.range 199, ((cl (intS ((n : Int) - 99))).all fun c => c == 45 || isFig c) = true ∧ 1 ≤ (intS ((n : Int) - 99)).length ∧ (intS ((n : Int) - 99)).length ≤ 3 ∧ ((n : Int) - 99 < 0 → (cl (intS ((n : Int) - 99))).head? = some 45 ∧ ("-" : Str) ++ intS (99 - (n : Int)) = intS ((n : Int) - 99)) := by decide +kernel
theorem num_at {k : Int} (h : -99 ≤ k ∧ k ≤ 99) : ∃ n ∈ List.range 199, (n : Int) - 99 = k := ⟨(k + 99).toNat, List.mem_range.mpr (by omega), by omega⟩
theorem num_cl {k : Int} (h : -99 ≤ k ∧ k ≤ 99) : ((cl (intS k)).all fun c => c == 45 || isFig c) = true ∧ 1 ≤ (intS k).length ∧ (intS k).length ≤ 3 ∧ (k < 0 → (cl (intS k)).head? = some 45 ∧ ("-" : Str) ++ intS (-k) = intS k) := by
  obtain ⟨n, hn, rfl⟩ := num_at h
  obtain ⟨h1, h2, h3, h4⟩ := nums_cl n hn
  refine ⟨h1, h2, h3, fun hk => ?_⟩
  have := h4 hk
  rw [show -((n : Int) - 99) = 99 - (n : Int) by omega]
  exact this
theorem small_cl : ∀ c ∈ cl SMALL, 97 ≤ c ∧ c ≤ 122 := by decide +kernel
theorem great_cl : ∀ c ∈ cl GREAT, 65 ≤ c ∧ c ≤ 90 := by decide +kernel
/-- a word of few small letters -/
def lowZ (z : Str) : Bool := decide (1 ≤ z.length) && decide (z.length ≤ 6) && z.cps.toList.all fun c => strIn ⟨#[c]⟩ SMALL
theorem word_cl {z : Str} (h : lowZ z = true) : 1 ≤ z.length ∧ z.length ≤ 6 ∧ ∀ c ∈ cl z, 97 ≤ c ∧ c ≤ 122 := by
  simp only [lowZ, Bool.and_eq_true, decide_eq_true_eq] at h
  exact ⟨h.1.1, h.1.2, fun c hc => small_cl c (strIn_one (List.all_eq_true.mp h.2 c hc))⟩
theorem blank_cl {z : Str} (h : isBlankD (.str z) = true) : ∃ c, z = ⟨#[c]⟩ ∧ 65 ≤ c ∧ c ≤ 90 := by
  simp only [isBlankD, Bool.and_eq_true, decide_eq_true_eq] at h
  obtain ⟨h1, h2⟩ := h
  have hl : (cl z).length = 1 := by rw [zl_len]; exact h1
  obtain ⟨c, hc⟩ := List.length_eq_one_iff.mp hl
  obtain rfl : z = ⟨#[c]⟩ := str_eq (by rw [hc])
  exact ⟨c, rfl, great_cl c (strIn_one h2)⟩
/-- a part that is written and read -/
def goodPart : D → Bool
  | .tup [.str b, .int k] => isBlankD (.str b) && (decide (-99 ≤ k) && decide (k ≤ 99))
  | .str z => lowZ z || (isBlankD (.str z) || z == ANYS)
  | .int k => decide (-99 ≤ k) && decide (k ≤ 99)
  | _ => false
theorem part_cl {d : D} (h : goodPart d = true) : 1 ≤ (partT d).length ∧ (partT d).length ≤ 6 ∧ ∀ c ∈ cl (partT d), 33 ≤ c ∧ c ≤ 122 := by
  have hi : ∀ k, (-99 ≤ k ∧ k ≤ 99) → 1 ≤ (intS k).length ∧ (intS k).length ≤ 3 ∧ ∀ c ∈ cl (intS k), 33 ≤ c ∧ c ≤ 122 := fun k hk => by
    obtain ⟨g1, g2, g3, g4⟩ := num_cl hk
    refine ⟨g2, g3, fun c hc => ?_⟩
    have := List.all_eq_true.mp g1 c hc
    simp only [isFig, Bool.or_eq_true, beq_iff_eq, Bool.and_eq_true, decide_eq_true_eq] at this
    omega
  unfold goodPart at h
  split at h
  · rename_i b k
    simp only [Bool.and_eq_true, decide_eq_true_eq] at h
    obtain ⟨hb, hk1, hk2⟩ := h
    obtain ⟨c, rfl, h1, h2⟩ := blank_cl hb
    obtain ⟨g1, g2, g3⟩ := hi k ⟨hk1, hk2⟩
    show 1 ≤ (⟨#[c]⟩ ++ (if 0 ≤ k then ("+" : Str) else ("" : Str)) ++ intS k).length ∧ (⟨#[c]⟩ ++ (if 0 ≤ k then ("+" : Str) else ("" : Str)) ++ intS k).length ≤ 6 ∧ ∀ x ∈ cl (⟨#[c]⟩ ++ (if 0 ≤ k then ("+" : Str) else ("" : Str)) ++ intS k), 33 ≤ x ∧ x ≤ 122
    have hs : (cl (if 0 ≤ k then ("+" : Str) else ("" : Str))).length ≤ 1 ∧ ∀ x ∈ cl (if 0 ≤ k then ("+" : Str) else ("" : Str)), x = 43 := by
      by_cases hk : 0 ≤ k
      · rw [if_pos hk]; decide +kernel
      · rw [if_neg hk]; decide +kernel
    generalize (if 0 ≤ k then ("+" : Str) else ("" : Str)) = s at hs
    have e : cl (⟨#[c]⟩ ++ s ++ intS k) = c :: (cl s ++ cl (intS k)) := by rw [zl_app, zl_app]; rfl
    have hl := zl_len (intS k)
    rw [← zl_len, e, List.length_cons, List.length_append]
    refine ⟨by omega, by omega, fun x hx => ?_⟩
    rcases List.mem_cons.mp hx with rfl | hx
    · omega
    · rcases List.mem_append.mp hx with hx | hx
      · have := hs.2 x hx; omega
      · exact g3 x hx
  · rename_i z
    rw [Bool.or_eq_true, Bool.or_eq_true] at h
    show 1 ≤ z.length ∧ z.length ≤ 6 ∧ ∀ c ∈ cl z, 33 ≤ c ∧ c ≤ 122
    rcases h with h | h | h
    · obtain ⟨h1, h2, h3⟩ := word_cl h
      exact ⟨h1, by omega, fun c hc => by have := h3 c hc; omega⟩
    · obtain ⟨c, rfl, h1, h2⟩ := blank_cl h
      refine ⟨show 1 ≤ 1 by omega, show 1 ≤ 6 by omega, fun x hx => ?_⟩
      have : x = c := by simpa using hx
      omega
    · obtain rfl : z = ANYS := by simpa using h
      decide +kernel
  · rename_i k
    simp only [Bool.and_eq_true, decide_eq_true_eq] at h
    obtain ⟨g1, g2, g3⟩ := hi k h
    exact ⟨g1, by show (intS k).length ≤ 6; omega, g3⟩
  · cases h
abbrev LF : Str := "\n"
abbrev SP : Str := " "
theorem lf_eq : LF = ⟨#[10]⟩ := by decide +kernel
theorem sp_eq : SP = ⟨#[32]⟩ := by decide +kernel
/-- a row of parts -/
structure RowOk (row : List D) : Prop where
  ne : 2 ≤ row.length
  len : row.length ≤ 10
  good : ∀ d ∈ row, goodPart d = true
def rowT (row : List D) : Str := Txt.join SP (row.map partT)
def textT (rows : List (List D)) : Str := Txt.join LF (rows.map rowT)
theorem row_split {row : List D} (h : RowOk row) : Txt.split (rowT row) SP = row.map partT := by
  unfold rowT
  rw [sp_eq]
  refine split_join (by have := h.ne; intro e; rw [List.map_eq_nil_iff] at e; rw [e] at this; simp at this) fun z hz => ?_
  obtain ⟨d, hd, rfl⟩ := List.mem_map.mp hz
  intro hc
  have := (part_cl (h.good d hd)).2.2 _ hc
  omega
theorem sum_le {α : Type} {l : List α} {f : α → Nat} {m : Nat} (h : ∀ x ∈ l, f x ≤ m) : (l.map f).sum ≤ l.length * m := by
  induction l with
  | nil => simp
  | cons a l ih =>
    have h1 := h a (by simp)
    have h2 := ih fun x hx => h x (by simp [hx])
    rw [List.map_cons, List.sum_cons, List.length_cons, Nat.add_mul, Nat.one_mul]
    omega
theorem row_len {row : List D} (h : RowOk row) : (rowT row).length ≤ 70 ∧ ((row.map partT).map (·.length)).sum + (row.map partT).length * SP.length ≤ 70 := by
  have h1 : ((row.map partT).map (·.length)).sum ≤ row.length * 6 := by
    rw [List.map_map]
    exact sum_le fun d hd => (part_cl (h.good d hd)).2.1
  have h2 := join_len 32 (row.map partT)
  have h3 := h.len
  unfold rowT
  rw [sp_eq]
  rw [List.length_map] at h2 ⊢
  refine ⟨by omega, ?_⟩
  show _ + row.length * 1 ≤ 70
  omega
theorem row_cl {row : List D} (h : RowOk row) : 10 ∉ cl (rowT row) := by
  unfold rowT
  intro hc
  rw [sp_eq, show Txt.join ⟨#[32]⟩ (row.map partT) = Str.join ⟨#[32]⟩ (row.map partT) from glued_eq_join _ _, join_cl] at hc
  have : ∀ l : List (List Nat), (∀ x ∈ l, 10 ∉ x) → 10 ∉ jl 32 l := by
    intro l
    induction l with
    | nil => intro _ h; cases h
    | cons x r ih =>
      intro hl
      cases r with
      | nil => exact hl x (by simp)
      | cons y r =>
        show 10 ∉ x ++ 32 :: jl 32 (y :: r)
        intro hm
        rcases List.mem_append.mp hm with hm | hm
        · exact hl x (by simp) hm
        · rcases List.mem_cons.mp hm with hm | hm
          · omega
          · exact ih (fun w hw => hl w (List.mem_cons_of_mem _ hw)) hm
  refine this _ (fun x hx => ?_) hc
  obtain ⟨z, hz, rfl⟩ := List.mem_map.mp hx
  obtain ⟨d, hd, rfl⟩ := List.mem_map.mp hz
  intro hm
  have := (part_cl (h.good d hd)).2.2 _ hm
  omega
theorem text_split {rows : List (List D)} (hne : rows ≠ []) (h : ∀ row ∈ rows, RowOk row) : Txt.split (textT rows) LF = rows.map rowT := by
  unfold textT
  rw [lf_eq]
  refine split_join (by intro e; exact hne (List.map_eq_nil_iff.mp e)) fun z hz => ?_
  obtain ⟨row, hr, rfl⟩ := List.mem_map.mp hz
  exact row_cl (h row hr)
theorem text_len {rows : List (List D)} (h : ∀ row ∈ rows, RowOk row) (hl : rows.length ≤ 1000) : (textT rows).length ≤ 71000 ∧ ((rows.map rowT).map (·.length)).sum + (rows.map rowT).length * LF.length ≤ 71000 := by
  have h1 : ((rows.map rowT).map (·.length)).sum ≤ rows.length * 70 := by
    rw [List.map_map]
    exact sum_le fun row hr => (row_len (h row hr)).1
  have h2 := join_len 10 (rows.map rowT)
  unfold textT
  rw [lf_eq]
  rw [List.length_map] at h2 ⊢
  refine ⟨by omega, ?_⟩
  show _ + rows.length * 1 ≤ 71000
  omega
abbrev RULES : Str := "rule"
abbrev THINGS : Str := "thing"
def itemsD : D → List D
  | .tup xs => xs
  | .lst xs => xs
  | _ => []
def isNotZ (z : Str) : Bool := z == ISS || z == NOTS
def rowW (w : D) : List D := match w with
  | .tup (.str z :: r) => .str z :: (if isNotZ z = true then itemsD (r.headD .non) else r)
  | _ => []
def rowQ (q : D) : List D := match q with
  | .tup [.str z, x] => .str z :: (if z == TAKES then [x] else itemsD x)
  | _ => []
def rowsR (r : D) : List (List D) := match r with
  | .tup [nm, m, .tup ws, .tup qs] => [.str RULES, nm, m] :: (ws.map rowW ++ qs.map rowQ)
  | _ => []
def rowTh (t : D) : List D := .str THINGS :: itemsD t
def rowsOf (rs ts : List D) : List (List D) := rs.flatMap rowsR ++ ts.map rowTh
theorem parts_good : ∀ d ∈ PARTS, goodPart d = true := by decide +kernel
theorem worths_good : ∀ d ∈ WORTHS, goodPart d = true := by decide +kernel
theorem sides_good : ∀ d ∈ SIDES, goodPart d = true := by decide +kernel
theorem heads_good : ∀ d ∈ HEADS, goodPart d = true := by decide +kernel
theorem rule_good : goodPart (.str RULES) = true ∧ goodPart (.str THINGS) = true ∧ goodPart (.str TAKES) = true ∧ goodPart (.str ISS) = true ∧ goodPart (.str NOTS) = true ∧ goodPart (.str LESSS) = true ∧ goodPart (.str SAMES) = true ∧ goodPart (.str UNLS) = true ∧ goodPart (.str "add") = true ∧ goodPart (.str "hold") = true ∧ goodPart (.str "say") = true := by decide +kernel
theorem word_good {d : D} (h : isWordD d = true) : goodPart d = true := by
  cases d <;> first | (cases h; done) | skip
  simp only [isWordD, Bool.and_eq_true, decide_eq_true_eq] at h
  show (lowZ _ || _) = true
  unfold lowZ
  rw [Bool.or_eq_true]
  left
  simp only [Bool.and_eq_true, decide_eq_true_eq]
  exact ⟨⟨h.1.1, by omega⟩, h.2⟩
theorem num_good {k lo hi : Int} (h : isNumD (.int k) lo hi = true) (h1 : -99 ≤ lo) (h2 : hi ≤ 99) : goodPart (.int k) = true := by
  simp only [isNumD, Bool.and_eq_true, decide_eq_true_eq] at h
  simp only [goodPart, Bool.and_eq_true, decide_eq_true_eq]
  omega
theorem place_good {bs : List D} {d : D} (h : isPlaceD bs d = true) : goodPart d = true := by
  have hs : ∀ d, isSideD d bs = true → goodPart d = true := fun d h => by
    unfold isSideD isWorthD at h
    rw [Bool.or_eq_true, Bool.or_eq_true, Bool.and_eq_true] at h
    rcases h with (h | h) | h
    · exact word_good h
    · cases d <;> first | (cases h; done) | exact num_good h (by omega) (by omega)
    · cases d <;> first | (cases h.1; done) | skip
      show (_ || (_ || _)) = true
      rw [h.1]
      simp
  unfold isPlaceD at h
  split at h
  · rename_i a b
    simp only [Bool.and_eq_true] at h
    obtain ⟨⟨h1, _⟩, h2⟩ := h
    cases a <;> first | (cases h1; done) | skip
    cases b <;> first | (cases h2; done) | skip
    show (_ && _) = true
    rw [h1]
    exact h2
  · cases h
  · rename_i h1 h2
    cases d <;> first | exact hs _ h | (exact absurd rfl (h2 _)) | skip
theorem want_row {w : D} (h : WantOk w) : RowOk (rowW w) := by
  rcases h with ⟨z, v, rfl, hz, hd, ps, rfl, hw, hl, hps⟩ | ⟨z, x, y, rfl, hz, hx, hy⟩
  · have e : rowW (.tup [.str z, .tup (hd :: ps)]) = .str z :: hd :: ps := by
      have : isNotZ z = true := by rcases hz with rfl | rfl <;> decide +kernel
      show _ :: (if isNotZ z = true then _ else _) = _
      rw [if_pos this]
      rfl
    rw [e]
    refine ⟨by simp, by simp; omega, fun d hm => ?_⟩
    rcases List.mem_cons.mp hm with rfl | hm
    · rcases hz with rfl | rfl
      · exact rule_good.2.2.2.1
      · exact rule_good.2.2.2.2.1
    · rcases List.mem_cons.mp hm with rfl | hm
      · exact heads_good _ hw
      · exact parts_good _ (hps d hm)
  · have e : rowW (.tup [.str z, x, y]) = [.str z, x, y] := by
      have : isNotZ z = false := by rcases hz with rfl | rfl | rfl <;> decide +kernel
      show _ :: (if isNotZ z = true then _ else _) = _
      rw [this]
      rfl
    rw [e]
    refine ⟨by simp, by simp, fun d hm => ?_⟩
    simp only [List.mem_cons, List.not_mem_nil, or_false] at hm
    rcases hm with rfl | rfl | rfl
    · rcases hz with rfl | rfl | rfl
      · exact rule_good.2.2.2.2.2.1
      · exact rule_good.2.2.2.2.2.2.1
      · exact rule_good.2.2.2.2.2.2.2.1
    · exact sides_good _ hx
    · exact sides_good _ hy
/-- a deed as rows tell it -/
def DeedOk (q : D) : Prop := (∃ k : Int, q = .tup [.str TAKES, .int k] ∧ 0 ≤ k ∧ k ≤ 99) ∨ ∃ z w ps, q = .tup [.str z, .tup (w :: ps)] ∧ tellerD z = true ∧ isWordD w = true ∧ ps.length ≤ 4 ∧ (∀ x ∈ ps, goodPart x = true)
theorem deed_ok {q : D} {ws kn : List D} (h : isDeedD q ws kn = true) (hl : ws.length ≤ 5) : DeedOk q := by
  unfold isDeedD at h
  split at h
  · rename_i z x
    split at h
    · rename_i hz
      obtain rfl : z = TAKES := by simpa using hz
      rw [Bool.and_eq_true] at h
      cases x <;> first | (cases h.1; done) | skip
      simp only [isNumD, Bool.and_eq_true, decide_eq_true_eq] at h
      exact .inl ⟨_, rfl, by omega, by omega⟩
    · rw [Bool.and_eq_true] at h
      obtain ⟨h1, h2⟩ := h
      unfold isTemplateD at h2
      split at h2
      · rename_i w ps
        simp only [Bool.and_eq_true, decide_eq_true_eq] at h2
        exact .inr ⟨z, w, ps, rfl, h1, h2.1.2, h2.1.1, fun x hx => place_good (List.all_eq_true.mp h2.2 x hx)⟩
      · cases h2
  · cases h
theorem teller_z {z : Str} (h : tellerD z = true) : (z = "add" ∨ z = "hold" ∨ z = "say") ∧ (z == TAKES) = false := by
  simp only [tellerD, Bool.or_eq_true, beq_iff_eq] at h
  refine ⟨by rcases h with (h | h) | h <;> simp [h], ?_⟩
  rcases h with (rfl | rfl) | rfl <;> decide +kernel
theorem rowQ_take {x : D} : rowQ (.tup [.str TAKES, x]) = [.str TAKES, x] := by
  show _ :: (if _ then _ else _) = _
  rw [if_pos (by decide +kernel)]
theorem rowQ_tell {z : Str} {w : D} {ps : List D} (h : tellerD z = true) : rowQ (.tup [.str z, .tup (w :: ps)]) = .str z :: w :: ps := by
  show _ :: (if _ then _ else _) = _
  rw [if_neg (by rw [(teller_z h).2]; simp)]
  rfl
theorem deed_row {q : D} (h : DeedOk q) : RowOk (rowQ q) := by
  rcases h with ⟨k, rfl, h1, h2⟩ | ⟨z, w, ps, rfl, hz, hw, hl, hps⟩
  · rw [rowQ_take]
    refine ⟨by simp, by simp, fun d hm => ?_⟩
    simp only [List.mem_cons, List.not_mem_nil, or_false] at hm
    rcases hm with rfl | rfl
    · exact rule_good.2.2.1
    · exact num_good (lo := 0) (hi := 99) (by simp [isNumD, h1, h2]) (by omega) (by omega)
  · rw [rowQ_tell hz]
    refine ⟨by simp, by simp; omega, fun d hm => ?_⟩
    rcases List.mem_cons.mp hm with rfl | hm
    · rcases (teller_z hz).1 with rfl | rfl | rfl
      · exact rule_good.2.2.2.2.2.2.2.2.1
      · exact rule_good.2.2.2.2.2.2.2.2.2.1
      · exact rule_good.2.2.2.2.2.2.2.2.2.2
    · rcases List.mem_cons.mp hm with rfl | hm
      · exact word_good hw
      · exact hps d hm
theorem thing_row {t : D} (h : ThingOk t) : RowOk (rowTh t) := by
  obtain ⟨w, ps, rfl, hw, hl, hps⟩ := h
  show RowOk (.str THINGS :: w :: ps)
  refine ⟨by simp, by simp; omega, fun d hm => ?_⟩
  rcases List.mem_cons.mp hm with rfl | hm
  · exact rule_good.2.1
  · rcases List.mem_cons.mp hm with rfl | hm
    · exact heads_good _ hw
    · exact worths_good _ (hps d hm)
/-- a rule as rows tell it -/
structure RuleRow (r : D) : Prop where
  sh : ∃ (nm : Str) (m : Int) (ws qs : List D), r = .tup [.str nm, .int m, .tup ws, .tup qs] ∧ isWordD (.str nm) = true ∧ -9 ≤ m ∧ m ≤ 9 ∧ ws.length ≤ 5 ∧ qs.length ≤ 4 ∧ (∀ w ∈ ws, WantOk w) ∧ ∀ q ∈ qs, DeedOk q
theorem rule_row {nm : Str} {r : D} (hn : isWordD (.str nm) = true) (h : RuleGood nm r) : RuleRow r := by
  obtain ⟨m, ws, qs, kn, rfl, h1, h2, h3, h4, h5, h6, h7, h8⟩ := h.sh
  exact ⟨nm, m, ws, qs, rfl, hn, h1, h2, h5, h7, h3.all, fun q hq => deed_ok (h8 q hq) h5⟩
theorem rules_row {rs : List D} (h : RulesGood rs) : ∀ r ∈ rs, RuleRow r := by
  intro r hr
  obtain ⟨i, hi⟩ := List.getElem?_of_mem hr
  obtain ⟨nm, hn, hg⟩ := h.2.2 i r hi
  exact rule_row (names_ok nm (List.mem_of_getElem? hn)).2 hg
theorem rule_rows {r : D} (h : RuleRow r) : (rowsR r).length ≤ 10 ∧ rowsR r ≠ [] ∧ ∀ row ∈ rowsR r, RowOk row := by
  obtain ⟨nm, m, ws, qs, rfl, hn, h1, h2, h3, h4, h5, h6⟩ := h.sh
  refine ⟨by simp [rowsR]; omega, by simp [rowsR], fun row hr => ?_⟩
  rcases List.mem_cons.mp hr with rfl | hr
  · refine ⟨by simp, by simp, fun d hm => ?_⟩
    simp only [List.mem_cons, List.not_mem_nil, or_false] at hm
    rcases hm with rfl | rfl | rfl
    · exact rule_good.1
    · exact word_good hn
    · exact num_good (lo := -9) (hi := 9) (by simp [isNumD, h1, h2]) (by omega) (by omega)
  · rcases List.mem_append.mp hr with hr | hr
    · obtain ⟨w, hw, rfl⟩ := List.mem_map.mp hr
      exact want_row (h5 w hw)
    · obtain ⟨q, hq, rfl⟩ := List.mem_map.mp hr
      exact deed_row (h6 q hq)
theorem rows_ok {rs ts : List D} (hr : ∀ r ∈ rs, RuleRow r) (hl : rs.length ≤ 8) (ht : ∀ t ∈ ts, ThingOk t) (htl : ts.length ≤ 30) : (∀ row ∈ rowsOf rs ts, RowOk row) ∧ (rs.flatMap rowsR).length ≤ 80 ∧ (rowsOf rs ts).length ≤ 110 ∧ (rs ≠ [] → rowsOf rs ts ≠ []) := by
  have h1 : (rs.flatMap rowsR).length ≤ rs.length * 10 := by
    rw [List.length_flatMap]
    exact sum_le fun r hm => (rule_rows (hr r hm)).1
  refine ⟨fun row hm => ?_, by omega, by unfold rowsOf; rw [List.length_append, List.length_map]; omega, fun hne e => ?_⟩
  · rcases List.mem_append.mp hm with hm | hm
    · obtain ⟨r, hrm, hm⟩ := List.mem_flatMap.mp hm
      exact (rule_rows (hr r hrm)).2.2 row hm
    · obtain ⟨t, htm, rfl⟩ := List.mem_map.mp hm
      exact thing_row (ht t htm)
  · cases rs with
    | nil => exact hne rfl
    | cons r rs =>
      have := (rule_rows (hr r (by simp))).2.1
      unfold rowsOf at e
      rw [List.flatMap_cons, List.append_eq_nil_iff, List.append_eq_nil_iff] at e
      exact this e.1.1
theorem oAdd_str {a b : Str} {C : Cells} {R : D → Cells → Prop} (h : a.length + b.length ≤ sizeLine) : oAdd (.str a) (.str b) C R = R (.str (a ++ b)) C := by simp [oAdd, h]
theorem oStr_int {k : Int} {C : Cells} {R : D → Cells → Prop} (h : k.natAbs < 1000) : oStr [.int k] C R = R (.str (intS k)) C := by
  have : k.natAbs.log2 < 1920 := Nat.lt_of_le_of_lt (Nat.log2_le_self _) (by omega)
  show (_ ∧ R (.str (intS k)) C) = _
  simp [this]
theorem good_inv {d : D} (h : goodPart d = true) : (∃ c k, d = .tup [.str ⟨#[c]⟩, .int k] ∧ -99 ≤ k ∧ k ≤ 99) ∨ (∃ z, d = .str z) ∨ ∃ k, d = .int k ∧ -99 ≤ k ∧ k ≤ 99 := by
  unfold goodPart at h
  split at h
  · rename_i b k
    simp only [Bool.and_eq_true, decide_eq_true_eq] at h
    obtain ⟨c, rfl, _, _⟩ := blank_cl h.1
    exact .inl ⟨c, k, rfl, h.2.1, h.2.2⟩
  · exact .inr (.inl ⟨_, rfl⟩)
  · simp only [Bool.and_eq_true, decide_eq_true_eq] at h
    exact .inr (.inr ⟨_, rfl, h.1, h.2⟩)
  · cases h
theorem plus_len : (("+" : Str)).length = 1 ∧ (("" : Str)).length = 0 ∧ (("-" : Str)).length = 1 := by decide +kernel
theorem str_len (a b : Str) : (a ++ b).length = a.length + b.length := by rw [← zl_len, zl_app, List.length_append, zl_len, zl_len]
theorem sl20 : 20 ≤ sizeLine := by have := ml; omega
def a_part_text : ASp := fun ds C R => ∃ d, ds = [d] ∧ goodPart d = true ∧ R (.str (partT d)) C
theorem rd_part_text : ∀ ds C R, a_part_text ds C R → t_part_text { nx := fun _ C' => R .non C', rt := R } (dstart ["part"] ds) C := by
  rintro ds C R ⟨d, rfl, hd, h⟩
  unfold t_part_text
  walk_at "dl"
  have hs := sl20
  obtain ⟨p1, p2, _⟩ := plus_len
  rcases good_inv hd with ⟨c, k, rfl, h1, h2⟩ | ⟨z, rfl⟩ | ⟨k, rfl, h1, h2⟩
  · rw [oIsi_tuple rfl]
    simp only [isTupD]
    walk_at "dl"
    have hl : (⟨#[c]⟩ : Str).length = 1 := rfl
    have hi := (num_cl ⟨h1, h2⟩).2.2.1
    by_cases hk : 0 ≤ k
    · have h : R (.str (⟨#[c]⟩ ++ (if 0 ≤ k then ("+" : Str) else ("" : Str)) ++ intS k)) C := h
      rw [if_pos hk] at h
      rw [if_pos (by simpa using hk), oAdd_str (by omega), oStr_int (by omega), oAdd_str (by rw [str_len]; omega)]
      exact h
    · have h : R (.str (⟨#[c]⟩ ++ (if 0 ≤ k then ("+" : Str) else ("" : Str)) ++ intS k)) C := h
      rw [if_neg hk] at h
      rw [if_neg (by simpa using hk), oAdd_str (by omega), oStr_int (by omega), oAdd_str (by rw [str_len]; omega)]
      exact h
  · rw [oIsi_tuple rfl]
    simp only [isTupD]
    walk_at "dl"
    exact h
  · rw [oIsi_tuple rfl]
    simp only [isTupD]
    walk_at "dl"
    rw [oStr_int (by omega)]
    exact h
def lstS (rows : List (List D)) : List D := rows.map .lst
theorem lstS_len (rows : List (List D)) : (lstS rows).length = rows.length := List.length_map _
theorem thing_th {ts : List D} (h : ∀ t ∈ ts, ThingOk t) : ∀ t ∈ ts, ThOk t := fun t ht => thing_ok (h t ht)
def a_written : ASp := fun ds C R => ∃ rs ts, ds = [.tup rs, .lst ts] ∧ RulesGood rs ∧ (∀ t ∈ ts, ThingOk t) ∧ ts.length ≤ 30 ∧ R (.str (textT (rowsOf rs ts))) C
theorem rd_written : ∀ ds C R, a_written ds C R → t_written a_need_rules a_need_things a_part_text { nx := fun _ C' => lss R .non C', rt := lss R } (dstart ["rules", "things", "rows", "name", "rank", "wants", "deeds", "want", "word", "what", "thing", "row", "part"] ds) C := by
  rintro ds C R ⟨rs, ts, rfl, hrs, hts, htl, h⟩
  unfold t_written
  have hrr := rules_row hrs
  have hlen := hrs.2.1
  have hml := ml
  obtain ⟨g1, g2, g3, g4⟩ := rows_ok hrr (by omega) hts htl
  walk_at "dl"
  have hgood := rules_good hrs
  refine ⟨rs, rfl, hgood.2, hrs.1, by omega, hgood.1, ?_⟩
  walk_at "dl"
  refine ⟨_, ts, rfl, .inl rfl, thing_th hts, by omega, ?_⟩
  walk_at "dl"
  intro q hq
  obtain ⟨Pv, hPv⟩ : ∃ Pv : Nat → DSt → Cells → Prop, ∀ i δ C', Pv i δ C' ↔ ∃ o3 o4 o5 o6 o7 o8 o9, δ = [some (.tup rs), some (.lst ts), some (.ref q), o3, o4, o5, o6, o7, o8, o9, none, none, none] ∧ C' = updC C q (.lst (lstS ((rs.take i).flatMap rowsR))) := ⟨_, fun _ _ _ => Iff.rfl⟩
  refine for_fix Pv ((hPv _ _ _).mpr ⟨none, none, none, none, none, none, none, rfl, rfl⟩) (fun i r δ C' hi hv => ?_) (fun δ C' hv => ?_)
  · obtain ⟨o3, o4, o5, o6, o7, o8, o9, rfl, rfl⟩ := (hPv _ _ _).mp hv
    have hri := hrr r (List.mem_of_getElem? hi)
    obtain ⟨nm, m, ws, qs, rfl, hn, h1, h2, h3, h4, h5, h6⟩ := hri.sh
    have hacc : ((rs.take i).flatMap rowsR).length ≤ 80 := by
      have e : rs = rs.take i ++ rs.drop i := (List.take_append_drop i rs).symm
      rw [e, List.flatMap_append, List.length_append] at g2
      omega
    generalize hA : (rs.take i).flatMap rowsR = acc at hacc
    have hfin : (rs.take (i + 1)).flatMap rowsR = acc ++ ([.str RULES, .str nm, .int m] :: (ws.map rowW ++ qs.map rowQ)) := by
      rw [take_snoc hi, List.flatMap_append, hA]
      simp [rowsR]
    walk_at "dl"
    refine ⟨by rw [lstS_len]; omega, ?_⟩
    obtain ⟨Pw, hPw⟩ : ∃ Pw : Nat → DSt → Cells → Prop, ∀ j δ C', Pw j δ C' ↔ ∃ o7 o8 o9, δ = [some (.tup rs), some (.lst ts), some (.ref q), some (.str nm), some (.int m), some (.tup ws), some (.tup qs), o7, o8, o9, none, none, none] ∧ C' = updC C q (.lst (lstS (acc ++ ([.str RULES, .str nm, .int m] :: (ws.take j).map rowW)))) := ⟨_, fun _ _ _ => Iff.rfl⟩
    refine for_fix Pw ((hPw _ _ _).mpr ⟨o7, o8, o9, rfl, by simp [lstS]⟩) (fun j w δ C' hj hv => ?_) (fun δ C' hv => ?_)
    · obtain ⟨o7, o8, o9, rfl, rfl⟩ := (hPw _ _ _).mp hv
      have hw := h5 w (List.mem_of_getElem? hj)
      have hjl := (List.getElem?_eq_some_iff.mp hj).1
      have fin : ∀ row, row = rowW w → ∀ o8 o9, (lstS (acc ++ ([.str RULES, .str nm, .int m] :: (ws.take j).map rowW))).length < sizeLine ∧ Pw (j + 1) [some (.tup rs), some (.lst ts), some (.ref q), some (.str nm), some (.int m), some (.tup ws), some (.tup qs), some w, o8, o9, none, none, none] (updC C q (.lst (lstS (acc ++ ([.str RULES, .str nm, .int m] :: (ws.take j).map rowW)) ++ [.lst row]))) := fun row e o8 o9 => by
        subst e
        refine ⟨by rw [lstS_len, List.length_append, List.length_cons, List.length_map, List.length_take]; omega, (hPw _ _ _).mpr ⟨_, _, _, rfl, ?_⟩⟩
        rw [take_snoc hj]
        simp [lstS]
      walk_at "dl"
      rcases hw with ⟨z, v, rfl, hz, hd, ps, rfl, hwd, hl, hps⟩ | ⟨z, x, y, rfl, hz, hx, hy⟩
      · have ez : (ISS == z || NOTS == z) = true ∧ isNotZ z = true := by rcases hz with rfl | rfl <;> decide +kernel
        walk_at "dl"
        rw [oIn_tup rfl rfl]
        walk_at "dl"
        simp only [List.any, D.eqv, Bool.or_false, ez.1]
        walk_at "dl"
        rw [oList_def]
        refine ⟨hd :: ps, rfl, ?_⟩
        rw [oAdd_lst (by simp; omega), app_upd]
        exact fin _ (by show _ = _ :: (if isNotZ z = true then _ else _); rw [if_pos ez.2]; rfl) _ _
      · have ez : (ISS == z || NOTS == z) = false ∧ isNotZ z = false := by rcases hz with rfl | rfl | rfl <;> decide +kernel
        walk_at "dl"
        rw [oIn_tup rfl rfl]
        walk_at "dl"
        simp only [List.any, D.eqv, Bool.or_false, ez.1]
        walk_at "dl"
        rw [oList_def]
        refine ⟨[x, y], rfl, ?_⟩
        rw [oAdd_lst (by simp; omega), app_upd]
        exact fin _ (by show _ = _ :: (if isNotZ z = true then _ else _); rw [ez.2]; rfl) _ _
    · obtain ⟨o7, o8, o9, rfl, rfl⟩ := (hPw _ _ _).mp hv
      rw [List.take_length]
      walk_at "dl"
      obtain ⟨Pq, hPq⟩ : ∃ Pq : Nat → DSt → Cells → Prop, ∀ j δ C', Pq j δ C' ↔ ∃ o8 o9, δ = [some (.tup rs), some (.lst ts), some (.ref q), some (.str nm), some (.int m), some (.tup ws), some (.tup qs), o7, o8, o9, none, none, none] ∧ C' = updC C q (.lst (lstS (acc ++ ([.str RULES, .str nm, .int m] :: (ws.map rowW ++ (qs.take j).map rowQ))))) := ⟨_, fun _ _ _ => Iff.rfl⟩
      refine for_fix Pq ((hPq _ _ _).mpr ⟨o8, o9, rfl, by simp⟩) (fun j d δ C' hj hv => ?_) (fun δ C' hv => ?_)
      · obtain ⟨o8, o9, rfl, rfl⟩ := (hPq _ _ _).mp hv
        have hd := h6 d (List.mem_of_getElem? hj)
        have hjl := (List.getElem?_eq_some_iff.mp hj).1
        have fin : ∀ row, row = rowQ d → ∀ o8 o9, (lstS (acc ++ ([.str RULES, .str nm, .int m] :: (ws.map rowW ++ (qs.take j).map rowQ)))).length < sizeLine ∧ Pq (j + 1) [some (.tup rs), some (.lst ts), some (.ref q), some (.str nm), some (.int m), some (.tup ws), some (.tup qs), o7, o8, o9, none, none, none] (updC C q (.lst (lstS (acc ++ ([.str RULES, .str nm, .int m] :: (ws.map rowW ++ (qs.take j).map rowQ))) ++ [.lst row]))) := fun row e o8 o9 => by
          subst e
          refine ⟨by rw [lstS_len, List.length_append, List.length_cons, List.length_append, List.length_map, List.length_map, List.length_take]; omega, (hPq _ _ _).mpr ⟨_, _, rfl, ?_⟩⟩
          rw [take_snoc hj]
          simp [lstS]
        rcases hd with ⟨k, rfl, hk1, hk2⟩ | ⟨z, w, ps, rfl, hz, hw, hl, hps⟩
        · walk_at "dl"
          rw [oNe_ok (show okD 60 (D.str TAKES) = true by decide +kernel) (show okD 60 (D.str TAKES) = true by decide +kernel), show D.eqv (.str TAKES) (.str TAKES) = true by decide +kernel]
          walk_at "dl"
          rw [oAdd_lst (by simp; omega), app_upd]
          exact fin _ rowQ_take.symm _ _
        · walk_at "dl"
          have hzz := teller_z hz
          have ok : okD 60 (.str z) = true := by rcases hzz.1 with rfl | rfl | rfl <;> decide +kernel
          rw [oNe_ok ok (show okD 60 (D.str TAKES) = true by decide +kernel), show D.eqv (.str z) (.str TAKES) = false from hzz.2]
          walk_at "dl"
          rw [oList_def]
          refine ⟨w :: ps, rfl, ?_⟩
          rw [oAdd_lst (by simp; omega), app_upd]
          exact fin _ (rowQ_tell hz).symm _ _
      · obtain ⟨o8, o9, rfl, rfl⟩ := (hPq _ _ _).mp hv
        rw [List.take_length]
        exact (hPv _ _ _).mpr ⟨_, _, _, _, _, _, _, rfl, by rw [hfin]⟩
  · obtain ⟨o3, o4, o5, o6, o7, o8, o9, rfl, rfl⟩ := (hPv _ _ _).mp hv
    rw [List.take_length]
    walk_at "dl"
    refine lc_map (fun t => .lst (rowTh t)) (by omega) (fun t ht K hK => ?_) ?_
    · obtain ⟨w, ps, rfl, hw, hl, hps⟩ := hts t ht
      walk_at "dl"
      rw [oList_def]
      refine ⟨w :: ps, rfl, ?_⟩
      rw [oAdd_lst (by simp; omega)]
      exact hK
    · refine ⟨q, _, _, _, rfl, rfl, updC_at, rfl, by rw [lstS_len, List.length_map]; omega, ⟨_, rfl⟩, ?_⟩
      rw [DL.updC_upd, itOf_ref updC_at]
      have eR : lstS (rs.flatMap rowsR) ++ ts.map (fun t => D.lst (rowTh t)) = lstS (rowsOf rs ts) := by
        unfold lstS rowsOf
        rw [List.map_append, List.map_map]
        rfl
      rw [eR]
      refine ⟨_, rfl, ?_⟩
      generalize rowsOf rs ts = rows at *
      refine lc_liveP (fun i acc C' => C' = updC C q (.lst (lstS rows)) ∧ acc = ((rows.take i).map rowT).map .str) (fun i acc C' hv => by rw [hv.1]; exact updC_at) ⟨rfl, by simp⟩ (fun i d acc C' hi hv => ?_) (fun acc C' hv => ?_)
      · obtain ⟨rfl, rfl⟩ := hv
        unfold lstS at hi
        rw [List.getElem?_map] at hi
        obtain ⟨row, hrow, rfl⟩ := Option.map_eq_some_iff.mp hi
        have hrok := g1 row (List.mem_of_getElem? hrow)
        walk_at "dl"
        refine ⟨⟨_, rfl⟩, lc_map (fun d => .str (partT d)) (by have := hrok.len; omega) (fun d hd K hK => ?_) ?_⟩
        · walk_at "dl"
          exact ⟨d, rfl, hrok.good d hd, hK⟩
        · have hlr := (row_len hrok).2
          refine ⟨SP, _, row.map partT, rfl, rfl, by show some _ = some _; rw [List.map_map]; rfl, by omega, ?_⟩
          have htk := List.length_take_le' i rows
          refine ⟨by rw [List.length_map, List.length_map]; omega, rfl, ?_⟩
          rw [take_snoc hrow]
          simp [rowT]
      · obtain ⟨rfl, rfl⟩ := hv
        have hll := text_len g1 (by omega)
        have e : lstS rows = rows.map D.lst := rfl
        rw [show (lstS rows).length = rows.length from lstS_len _, List.take_length]
        exact ⟨LF, _, rows.map rowT, rfl, rfl, rfl, by omega, lss_upd hq h⟩
theorem low_ok {l : List Nat} (h : ∀ c ∈ l, c ≤ 122) : PyData.strOk ⟨l.toArray⟩ = true := by
  show (l.toArray).all (· < 0x110000) = true
  rw [← Array.all_toList]
  exact List.all_eq_true.mpr fun c hc => decide_eq_true (by have := h c hc; omega)
theorem cutS_drop (z : Str) (k : Nat) : cutS z (some (k : Int)) none = ⟨((cl z).drop k).toArray⟩ := by
  have h := cutL_drop (cl z) k
  unfold cutL at h
  rw [zl_len] at h
  unfold cutS
  rw [h]
theorem starts_minus (z : Str) : Txt.startswith z ("-" : Str) = decide ((cl z).head? = some 45) := by
  have e : cl ("-" : Str) = [45] := by decide +kernel
  have el : ("-" : Str).length = 1 := by decide +kernel
  unfold Txt.startswith
  rw [PySem.StrLaws.subAt_eq, el, ← zl_len]
  show (decide (0 + 1 ≤ (cl z).length) && (((cl z).drop 0).take 1 == cl ("-" : Str))) = _
  rw [e]
  cases cl z with
  | nil => rfl
  | cons a l =>
    rw [Bool.eq_iff_iff]
    simp
theorem figs_mk (z : Str) : (⟨(figs z).toArray⟩ : Str) = if (cl z).head? = some 45 then ⟨((cl z).drop 1).toArray⟩ else z := by
  unfold figs
  split
  · rename_i r e
    rw [e]; rfl
  · rename_i h
    rw [if_neg]
    intro e
    cases hc : cl z with
    | nil => rw [hc] at e; cases e
    | cons a l =>
      rw [hc] at e
      have : a = 45 := by simpa using e
      subst this
      exact h l hc
theorem figs_mem {z : Str} {c : Nat} (h : c ∈ figs z) : c ∈ cl z := by
  unfold figs at h
  split at h
  · rename_i r e
    rw [e]
    exact List.mem_cons_of_mem _ h
  · exact h
theorem figs_len (z : Str) : (figs z).length ≤ z.length := by
  rw [← zl_len]
  unfold figs
  split
  · rename_i r e
    rw [e]; simp
  · exact Nat.le_refl _
theorem fig_in : ∀ c ∈ List.range 123, strIn ⟨#[c]⟩ ("0123456789" : Str) = isFig c := by decide +kernel
def numD (z : Str) : D := match numOf z with
  | some n => .int n
  | none => .non
theorem num_val {z : Str} (h1 : 1 ≤ (figs z).length) (hl : z.length ≤ 100) (h : (figs z).all isFig = true) : ∃ n, PySem.intText? z = some n := by
  have hd : PySem.NumText.AllDigits (figs z) := fun c hc => by
    have := List.all_eq_true.mp h c hc
    simpa [isFig] using this
  have hne : figs z ≠ [] := by intro e; rw [e] at h1; simp at h1
  by_cases e : ∃ r, cl z = 45 :: r
  · obtain ⟨r, e⟩ := e
    have ef : figs z = r := by unfold figs; rw [e]; rfl
    rw [ef] at hd hne
    exact ⟨_, PySem.intText_neg e hd hne (by omega)⟩
  · have ef : figs z = cl z := by
      unfold figs
      split
      · rename_i r e2
        exact absurd ⟨r, e2⟩ e
      · rfl
    rw [ef] at hd hne
    exact ⟨_, PySem.intText_digits hd hne (by omega)⟩
def a_number_of : ASp := fun ds C R => ∃ z, ds = [.str z] ∧ z.length ≤ 100 ∧ (∀ c ∈ cl z, c ≤ 122) ∧ R (numD z) C
def t_number_rest : DS := (dSeq (dIfS (dOr (dNot (dTest (dChain oLe oLe (dC (.int 1)) (dFn oLen (dCons (dVar 1) (dNil))) (dC (.int 2))))) (dNot (dTest (dFn oAll (dCons (dLc (diSeq (dVar 1)) (gdName 2) (dYes) (dOp oIn (dVar 2) (dC (.str "0123456789"))) [2]) (dNil)))))) (dRet (dC .non)) (dNext)) (dSeq (dIfS (dAnd (dTest (dOp oEq (dOp oIx (dVar 1) (dC (.int 0))) (dC (.str "0")))) (dTest (dOp oNe (dVar 0) (dC (.str "0"))))) (dRet (dC .non)) (dNext)) (dRet (dFn oIntS (dCons (dVar 0) (dNil))))))
theorem rd_number_of : ∀ ds C R, a_number_of ds C R → t_number_of { nx := fun _ C' => R .non C', rt := R } (dstart ["word", "figures", "sign"] ds) C := by
  rintro ds C R ⟨z, rfl, hl, hz, h⟩
  have hml := ml
  have key : ∀ F : Str, F = ⟨(figs z).toArray⟩ → t_number_rest { nx := fun _ C' => R .non C', rt := R } [some (.str z), some (.str F), none] C := by
    rintro F rfl
    unfold t_number_rest
    have hfl := figs_len z
    have eF : (⟨(figs z).toArray⟩ : Str).length = (figs z).length := rfl
    walk_at "dl"
    rw [oLen_str (by rw [eF]; omega), eF]
    walk_at "dl"
    unfold numD numOf at h
    by_cases h1 : 1 ≤ (figs z).length
    · rw [if_pos (by rw [decide_eq_true_eq]; omega)]
      by_cases h2 : (figs z).length ≤ 2
      · rw [if_neg (by simp; omega)]
        refine lc_all (fun d => match d with | .str c => strIn c ("0123456789" : Str) | _ => false) (by rw [chars_len, eF]; omega) (fun d hd K hK => ?_) ?_
        · unfold chars at hd
          obtain ⟨c, _, rfl⟩ := List.mem_map.mp hd
          walk_at "dl"
          exact hK
        · have ea : ((chars ⟨(figs z).toArray⟩).all fun d => match d with | .str c => strIn c ("0123456789" : Str) | _ => false) = (figs z).all isFig := by
            unfold chars
            rw [List.all_map]
            have : ∀ l : List Nat, (∀ c ∈ l, c ≤ 122) → l.all ((fun d => match d with | D.str c => strIn c ("0123456789" : Str) | _ => false) ∘ fun c => D.str ⟨#[c]⟩) = l.all isFig := fun l hl => by
              induction l with
              | nil => rfl
              | cons a l ih =>
                rw [List.all_cons, List.all_cons, ih fun c hc => hl c (by simp [hc])]
                congr 1
                exact fig_in a (List.mem_range.mpr (by have := hl a (by simp); omega))
            exact this _ fun c hc => hz c (figs_mem hc)
          rw [ea]
          cases ef : (figs z).all isFig with
          | false =>
            rw [ef] at h
            walk_at "dl"
            simp only [h1, h2, decide_true, Bool.true_and, Bool.false_eq_true, if_false, Bool.and_false] at h
            exact h
          | true =>
            rw [ef] at h
            simp only [h1, h2, decide_true, Bool.true_and, if_true, Bool.and_true] at h
            obtain ⟨n, hn⟩ := num_val h1 hl ef
            rw [hn] at h
            walk_at "dl"
            rw [oIx_str (by rw [eF]; omega)]
            cases ec : figs z with
            | nil => rw [ec] at h1; simp at h1
            | cons a l =>
              rw [ec] at h
              have ha : a ≤ 122 := hz a (figs_mem (by rw [ec]; simp))
              refine ⟨.str ⟨#[a]⟩, by show (atI (a :: l) 0).map _ = _; rw [atI_0]; rfl, ?_⟩
              have ok0 : okD 60 (.str ("0" : Str)) = true := by decide +kernel
              have okz : okD 60 (.str z) = true := low_ok hz
              have oka : okD 60 (.str ⟨#[a]⟩) = true := low_ok (l := [a]) (by simpa using ha)
              rw [oEq_ok oka ok0, oNe_ok okz ok0]
              have e0 : D.eqv (.str ⟨#[a]⟩) (.str ("0" : Str)) = decide (a = 48) := by
                have e48 : ("0" : Str) = ⟨#[48]⟩ := by decide +kernel
                rw [e48]
                show ((⟨#[a]⟩ : Str) == ⟨#[48]⟩) = _
                rw [Bool.eq_iff_iff, beq_iff_eq, decide_eq_true_eq]
                exact ⟨fun e => by simpa using e, fun e => by rw [e]⟩
              have e1 : D.eqv (.str z) (.str ("0" : Str)) = decide (z = ("0" : Str)) := by
                show (z == ("0" : Str)) = _
                rw [Bool.eq_iff_iff, beq_iff_eq, decide_eq_true_eq]
              rw [e0, e1]
              have fin : oIntS [.str z] C R ↔ R (.int n) C := ⟨by rintro ⟨a, m, e, hm, _, q⟩; cases e; rw [hn] at hm; cases hm; exact q, fun q => ⟨z, n, rfl, hn, by omega, q⟩⟩
              by_cases ha : a = 48
              · subst ha
                by_cases hz0 : z = ("0" : Str)
                · rw [if_neg (by simp [hz0])] at h
                  simp only [hz0, decide_true] at h ⊢
                  walk_at "dl"
                  rw [← hz0]
                  exact fin.mpr h
                · rw [if_pos ⟨rfl, hz0⟩] at h
                  simp only [hz0, decide_true, decide_false]
                  walk_at "dl"
                  exact h
              · rw [if_neg (by simp [ha])] at h
                simp only [ha, decide_false]
                walk_at "dl"
                exact fin.mpr h
      · rw [if_pos (by simp; omega)]
        simp only [h2, decide_false, Bool.and_false, Bool.false_and, Bool.false_eq_true, if_false] at h
        exact h
    · rw [if_neg (by rw [decide_eq_true_eq]; omega)]
      simp only [h1, decide_false, Bool.false_and, Bool.false_eq_true, if_false] at h
      exact h
  show dSeq (dAsg _ _) t_number_rest _ _ _
  walk_at "dl"
  refine ⟨⟨_, rfl⟩, z, _, rfl, rfl, ?_⟩
  rw [starts_minus]
  have hm := figs_mk z
  by_cases hs : (cl z).head? = some 45
  · rw [if_pos hs] at hm
    simp only [hs, decide_true]
    walk_at "dl"
    refine ⟨_, if_pos (by omega), ?_⟩
    rw [show (some 1 : Option Int) = some ((1 : Nat) : Int) from rfl, cutS_drop]
    exact key _ hm.symm
  · rw [if_neg hs] at hm
    simp only [hs, decide_false]
    walk_at "dl"
    exact key _ hm.symm
def a_part_of : ASp := fun ds C R => ∃ z, ds = [.str z] ∧ 1 ≤ z.length ∧ z.length ≤ 100 ∧ (∀ c ∈ cl z, c ≤ 122) ∧ R (partOf z) C
theorem rd_part_of : ∀ ds C R, a_part_of ds C R → t_part_of a_number_of a_is_blank { nx := fun _ C' => R .non C', rt := R } (dstart ["word", "number", "more"] ds) C := by
  rintro ds C R ⟨z, rfl, hl1, hl, hz, h⟩
  unfold t_part_of
  have hml := ml
  walk_at "dl"
  refine ⟨z, rfl, hl, hz, ?_⟩
  unfold partOf at h
  unfold numD
  have okz : okD 60 (.str z) = true := low_ok hz
  cases en : numOf z with
  | some n =>
    rw [en] at h
    simp only [DL.isNon]
    walk_at "dl"
    exact h
  | none =>
    rw [en] at h
    simp only [DL.isNon]
    walk_at "dl"
    rw [oLen_str (by omega)]
    walk_at "dl"
    have hll := zl_len z
    by_cases h3 : 2 < z.length
    · rw [if_pos (by simp; omega)]
      obtain ⟨a, b, c, r, ec⟩ : ∃ a b c r, cl z = a :: b :: c :: r := by
        cases e1 : cl z with
        | nil => rw [e1] at hll; simp at hll; omega
        | cons a l =>
          cases l with
          | nil => rw [e1] at hll; simp at hll; omega
          | cons b l =>
            cases l with
            | nil => rw [e1] at hll; simp at hll; omega
            | cons c r => exact ⟨a, b, c, r, rfl⟩
      rw [ec] at h
      dsimp only at h
      have ec' : z.cps.toList = a :: b :: c :: r := ec
      have hz' : ∀ x ∈ a :: b :: c :: r, x ≤ 122 := fun x hx => hz x (by rw [ec]; exact hx)
      have oka : ∀ x ∈ a :: b :: c :: r, datD 50 (.str ⟨#[x]⟩) = true := fun x hx => by
        show (PyData.strOk ⟨#[x]⟩ && decide ((⟨#[x]⟩ : Str).length ≤ 6000000)) = true
        rw [low_ok (l := [x]) (by simpa using hz' x hx)]
        rfl
      have i0 : ∀ {C : Cells} {R : D → Cells → Prop}, oIx (.str z) (.int 0) C R = R (.str ⟨#[a]⟩) C := fun {C R} => by
        rw [oIx_str (by omega), ec', atI_0]
        exact propext ⟨by rintro ⟨d, e, q⟩; cases e; exact q, fun q => ⟨_, rfl, q⟩⟩
      have i1 : ∀ {C : Cells} {R : D → Cells → Prop}, oIx (.str z) (.int 1) C R = R (.str ⟨#[b]⟩) C := fun {C R} => by
        rw [oIx_str (by omega), ec', atI_1]
        exact propext ⟨by rintro ⟨d, e, q⟩; cases e; exact q, fun q => ⟨_, rfl, q⟩⟩
      have ok1 : okD 60 (.str ("+" : Str)) = true ∧ okD 60 (.str ("-" : Str)) = true := by decide +kernel
      have okb : okD 60 (.str ⟨#[b]⟩) = true := dat_ok (oka b (by simp))
      have ep : ("+" : Str) = ⟨#[43]⟩ ∧ ("-" : Str) = ⟨#[45]⟩ := by decide +kernel
      have ev : ∀ x y : Nat, D.eqv (.str ⟨#[x]⟩) (.str ⟨#[y]⟩) = decide (x = y) := fun x y => by
        show ((⟨#[x]⟩ : Str) == ⟨#[y]⟩) = _
        rw [Bool.eq_iff_iff, beq_iff_eq, decide_eq_true_eq]
        exact ⟨fun e => by simpa using e, fun e => by rw [e]⟩
      have e43 : ∀ {C : Cells} {R : D → Cells → Prop}, oEq (.str ⟨#[b]⟩) (.str ("+" : Str)) C R = R (.bl (decide (b = 43))) C := fun {C R} => by
        rw [oEq_ok okb ok1.1, ep.1, ev]
      have edrop : ∀ k : Nat, (∃ d, (if z.length ≤ sizeLine then some (D.str (cutS z (some (k : Int)) none)) else none) = some d ∧ d = D.str ⟨((a :: b :: c :: r).drop k).toArray⟩) := fun k => ⟨_, if_pos (by omega), by rw [cutS_drop, ec]⟩
      rw [i0]
      refine ⟨_, rfl, oka a (by simp), ?_⟩
      cases eb : isBlankD (.str ⟨#[a]⟩) with
      | false =>
        rw [eb] at h
        walk_at "dl"
        rw [if_neg (by simp)] at h
        exact h
      | true =>
        rw [eb] at h
        walk_at "dl"
        rw [i1, oIn_tup rfl rfl]
        have ein : ([D.str ("+" : Str), D.str ("-" : Str)].any fun y => D.eqv y (.str ⟨#[b]⟩)) = decide (b = 43 ∨ b = 45) := by
          rw [ep.1, ep.2]
          simp only [List.any, ev, Bool.or_false]
          rw [Bool.eq_iff_iff]
          simp only [Bool.or_eq_true, decide_eq_true_eq]
          omega
        rw [ein]
        by_cases hb : b = 43 ∨ b = 45
        · rw [if_pos ⟨rfl, hb⟩] at h
          simp only [hb, decide_true]
          walk_at "dl"
          rw [i1, e43]
          have tail : ∀ w : Str, w = ⟨(if b = 43 then c :: r else b :: c :: r).toArray⟩ → a_number_of [.str w] C fun x C1 => (if (!DL.isNon x) = true then oIx (.str z) (.int 1) C1 fun x_1 C1 => oEq x_1 (.str ("+" : Str)) C1 fun x_2 C1 => oGe x (.int 0) C1 fun y C2 => oEq x_2 y C2 fun d C1 => ∃ b, d = .bl b ∧ if b = true then oIx (.str z) (.int 0) C1 fun x_1 C1 => R (.tup [x_1, x]) C1 else R (.str z) C1 else R (.str z) C1) := fun w ew => by
            subst ew
            have hmem : ∀ x ∈ (if b = 43 then c :: r else b :: c :: r), x ∈ a :: b :: c :: r := fun x hx => by
              split at hx
              · exact List.mem_cons_of_mem _ (List.mem_cons_of_mem _ hx)
              · exact List.mem_cons_of_mem _ hx
            have hln : (if b = 43 then c :: r else b :: c :: r).length ≤ 100 := by
              rw [ec] at hll
              simp only [List.length_cons] at hll
              split <;> simp only [List.length_cons] <;> omega
            refine ⟨_, rfl, hln, fun x hx => hz' x (hmem x hx), ?_⟩
            unfold numD
            cases en2 : numOf ⟨(if b = 43 then c :: r else b :: c :: r).toArray⟩ with
            | none =>
              rw [en2] at h
              simp only [DL.isNon]
              walk_at "dl"
              exact h
            | some k =>
              rw [en2] at h
              simp only [DL.isNon]
              walk_at "dl"
              rw [i1, e43]
              walk_at "dl"
              have eqb : (decide (b = 43) == decide (0 ≤ k)) = decide (decide (b = 43) = decide (0 ≤ k)) := by
                rw [Bool.eq_iff_iff, beq_iff_eq, decide_eq_true_eq]
              rw [eqb]
              by_cases hk : decide (b = 43) = decide (0 ≤ k)
              · have h : R (if decide (b = 43) = decide (0 ≤ k) then D.tup [D.str ⟨#[a]⟩, D.int k] else D.str z) C := h
                rw [if_pos hk] at h
                rw [if_pos (decide_eq_true hk), i0]
                exact h
              · have h : R (if decide (b = 43) = decide (0 ≤ k) then D.tup [D.str ⟨#[a]⟩, D.int k] else D.str z) C := h
                rw [if_neg hk] at h
                rw [if_neg (by simpa using hk)]
                exact h
          by_cases hb43 : b = 43
          · simp only [hb43, decide_true]
            walk_at "dl"
            obtain ⟨d, e1, e2⟩ := edrop 2
            refine ⟨d, e1, ?_⟩
            rw [e2]
            exact tail _ (by rw [if_pos hb43]; rfl)
          · simp only [hb43, decide_false]
            walk_at "dl"
            obtain ⟨d, e1, e2⟩ := edrop 1
            refine ⟨d, e1, ?_⟩
            rw [e2]
            exact tail _ (by rw [if_neg hb43]; rfl)
        · rw [if_neg (by simp [hb])] at h
          simp only [hb, decide_false]
          walk_at "dl"
          exact h
    · rw [if_neg (by simp; omega)]
      cases ec : cl z with
      | nil => rw [ec] at h; exact h
      | cons a l =>
        cases l with
        | nil => rw [ec] at h; exact h
        | cons b l =>
          cases l with
          | nil => rw [ec] at h; exact h
          | cons c r => rw [ec] at hll; simp only [List.length_cons] at hll; omega
theorem eqO_nil {C : Cells} {x y : D} {xs : List D} (hx : lstOf C x = some xs) (hy : lstOf C y = some []) : eqO C x y = some xs.isEmpty := by
  unfold eqO
  split
  · rename_i h
    obtain ⟨h1, h2⟩ := h
    have hx' : x = .lst xs := by cases x <;> first | (cases hx; rfl) | (cases hx; done) | (cases h1; done)
    have hy' : y = .lst [] := by cases y <;> first | (cases hy; rfl) | (cases hy; done) | (cases h2; done)
    rw [hx', hy', eqv_lst_nil]
  · rw [hx, hy]
    cases xs <;> rfl
theorem oEq_nil {C : Cells} {R : D → Cells → Prop} {x y : D} {xs : List D} (hx : lstOf C x = some xs) (hy : lstOf C y = some []) : oEq x y C R = R (.bl xs.isEmpty) C := by
  unfold oEq
  rw [eqO_nil hx hy]
  simp only [Option.some.injEq, exists_eq_left']
theorem oNe_nil {C : Cells} {R : D → Cells → Prop} {x y : D} {xs : List D} (hx : lstOf C x = some xs) (hy : lstOf C y = some []) : oNe x y C R = R (.bl (!xs.isEmpty)) C := by
  unfold oNe
  rw [eqO_nil hx hy]
  simp only [Option.some.injEq, exists_eq_left']
structure Ent where
  nm : D
  rank : D
  wa : Addr
  ws : List D
  qa : Addr
  qs : List D
def Ent.d (e : Ent) : D := .lst [e.nm, e.rank, .ref e.wa, .ref e.qa]
def Ent.cells (e : Ent) : List Asn := [at_ e.wa (.lst e.ws), at_ e.qa (.lst e.qs)]
abbrev RE := D × D × List D × List D
def Ent.p (e : Ent) : RE := (e.nm, e.rank, e.ws, e.qs)
structure PR where
  rl : List RE
  ts : List D
abbrev RFd : Str := "rules"
abbrev SFd : Str := "some"
theorem sf_rf : (SFd == RFd) = false ∧ (RFd = SFd) = False := by decide +kernel
def rdL (cls r p q : Addr) (es : List Ent) (ts : List D) : List Asn := at_ r (.ins cls [(RFd, .ref p), (SFd, .ref q)]) :: at_ p (.lst (es.map Ent.d)) :: at_ q (.lst ts) :: es.reverse.flatMap Ent.cells
def rdA (cls r p q : Addr) (es : List Ent) (ts : List D) (F : Asn) : Asn := star (bigS (rdL cls r p q es ts)) F
section
variable {cls r p q : Addr} {es es0 : List Ent} {e : Ent} {ts : List D} {F : Asn} {C : Cells}
theorem rdA_r (h : rdA cls r p q es ts F C) : C r = some (.ins cls [(RFd, .ref p), (SFd, .ref q)]) := has_l (has_l has_at) C h
theorem rdA_p (h : rdA cls r p q es ts F C) : C p = some (.lst (es.map Ent.d)) := has_l (has_r (has_l has_at)) C h
theorem rdA_q (h : rdA cls r p q es ts F C) : C q = some (.lst ts) := has_l (has_r (has_r (has_l has_at))) C h
theorem rdA_ts {ts' : List D} (h : rdA cls r p q es ts F C) : rdA cls r p q es ts' F (updC C q (.lst ts')) := own_up h (own_l (own_r (own_r (own_l own_at))))
theorem rdA_grow {x : Addr} {c : Cell} (h : rdA cls r p q es ts F C) (hx : C x = none) : rdA cls r p q es ts F (updC C x c) := star_grow h hx
theorem rdL_snoc : rdL cls r p q (es0 ++ [e]) ts = at_ r (.ins cls [(RFd, .ref p), (SFd, .ref q)]) :: at_ p (.lst ((es0 ++ [e]).map Ent.d)) :: at_ q (.lst ts) :: at_ e.wa (.lst e.ws) :: at_ e.qa (.lst e.qs) :: es0.reverse.flatMap Ent.cells := by
  unfold rdL
  rw [List.reverse_append, List.reverse_singleton, List.flatMap_append, List.flatMap_singleton]
  rfl
theorem rdA_w (h : rdA cls r p q (es0 ++ [e]) ts F C) : C e.wa = some (.lst e.ws) := by
  unfold rdA at h
  rw [rdL_snoc] at h
  exact has_l (has_r (has_r (has_r (has_l has_at)))) C h
theorem rdA_d (h : rdA cls r p q (es0 ++ [e]) ts F C) : C e.qa = some (.lst e.qs) := by
  unfold rdA at h
  rw [rdL_snoc] at h
  exact has_l (has_r (has_r (has_r (has_r (has_l has_at))))) C h
theorem rdA_setw {w : List D} (h : rdA cls r p q (es0 ++ [e]) ts F C) : rdA cls r p q (es0 ++ [{ e with ws := w }]) ts F (updC C e.wa (.lst w)) := by
  unfold rdA at h ⊢
  rw [rdL_snoc] at h ⊢
  have := own_up h (own_l (Q := F) (own_r (own_r (own_r (own_l (own_at (c' := .lst w)))))))
  rw [List.map_append] at this ⊢
  exact this
theorem rdA_setd {w : List D} (h : rdA cls r p q (es0 ++ [e]) ts F C) : rdA cls r p q (es0 ++ [{ e with qs := w }]) ts F (updC C e.qa (.lst w)) := by
  unfold rdA at h ⊢
  rw [rdL_snoc] at h ⊢
  have := own_up h (own_l (Q := F) (own_r (own_r (own_r (own_r (own_l (own_at (c' := .lst w))))))))
  rw [List.map_append] at this ⊢
  exact this
theorem rdA_new {nm rank : D} {wa qa : Addr} {ds : List D} (h : rdA cls r p q es ts F C) (h1 : C wa = none) (h2 : updC C wa (.lst []) qa = none) (hd : ds = (es ++ [(⟨nm, rank, wa, [], qa, []⟩ : Ent)]).map Ent.d) :
    rdA cls r p q (es ++ [(⟨nm, rank, wa, [], qa, []⟩ : Ent)]) ts F (updC (updC (updC C wa (.lst [])) qa (.lst [])) p (.lst ds)) := by
  subst hd
  unfold rdA rdL at h
  have k := star_new (c := .lst []) (star_new (c := .lst []) h h1) h2
  have k2 := own_up k (own_r (own_r (own_l (own_r (own_l (own_at (c' := .lst ((es ++ [(⟨nm, rank, wa, [], qa, []⟩ : Ent)]).map Ent.d))))))))
  unfold rdA
  rw [rdL_snoc]
  refine Eq.mp (congrFun ?_ _) k2
  simp only [bigS]
  ac_rfl
theorem rdA_all (h : rdA cls r p q es ts F C) : ∀ e ∈ es, C e.wa = some (.lst e.ws) ∧ C e.qa = some (.lst e.qs) := by
  intro e he
  have hm : ∀ P ∈ e.cells, P ∈ rdL cls r p q es ts := fun P hP => by
    unfold rdL
    refine List.mem_cons_of_mem _ (List.mem_cons_of_mem _ (List.mem_cons_of_mem _ (List.mem_flatMap.mpr ⟨e, List.mem_reverse.mpr he, hP⟩)))
  exact ⟨has_l (has_big (hm _ (by simp [Ent.cells])) has_at) C h, has_l (has_big (hm _ (by simp [Ent.cells])) has_at) C h⟩
end
theorem look_rf {a b : D} : List.lookup RFd [(RFd, a), (SFd, b)] = some a := by rw [List.lookup_cons, beq_self_eq_true]
theorem look_sf {a b : D} : List.lookup SFd [(RFd, a), (SFd, b)] = some b := by
  rw [List.lookup_cons, sf_rf.1]
  show List.lookup SFd [(SFd, b)] = _
  rw [List.lookup_cons, beq_self_eq_true]
theorem tests_in {z : Str} {C : Cells} {R : D → Cells → Prop} : oIn (.str z) (.tup [.str LESSS, .str SAMES, .str UNLS]) C R = R (.bl (testZ z)) C := by
  rw [oIn_tup rfl rfl]
  simp only [List.any, D.eqv, Bool.or_false]
  have e1 : (LESSS == z || (SAMES == z || UNLS == z)) = testZ z := by
    unfold testZ
    rw [Bool.beq_comm (a := LESSS), Bool.beq_comm (a := SAMES), Bool.beq_comm (a := UNLS), Bool.or_assoc]
  rw [e1]
theorem isnot_in {z : Str} {C : Cells} {R : D → Cells → Prop} : oIn (.str z) (.tup [.str ISS, .str NOTS]) C R = R (.bl (isNotZ z)) C := by
  rw [oIn_tup rfl rfl]
  simp only [List.any, D.eqv, Bool.or_false]
  have e1 : (ISS == z || NOTS == z) = isNotZ z := by
    unfold isNotZ
    rw [Bool.beq_comm (a := ISS), Bool.beq_comm (a := NOTS)]
  rw [e1]
theorem tell_in {z : Str} {C : Cells} {R : D → Cells → Prop} : oIn (.str z) (.tup [.str "add", .str "hold", .str "say"]) C R = R (.bl (tellerD z)) C := by
  rw [oIn_tup rfl rfl]
  simp only [List.any, D.eqv, Bool.or_false]
  have e1 : (("add" : Str) == z || (("hold" : Str) == z || ("say" : Str) == z)) = tellerD z := by
    unfold tellerD
    rw [Bool.beq_comm (a := ("add" : Str)), Bool.beq_comm (a := ("hold" : Str)), Bool.beq_comm (a := ("say" : Str)), Bool.or_assoc]
  rw [e1]
def a_Reader___init__ (cls : Addr) : ASp := fun ds C R => ∃ r F, ds = [.ref r] ∧ star (at_ r (.ins cls [])) F C ∧ ∀ p q C', rdA cls r p q [] [] F C' → R .non C'
theorem rd_Reader___init__ (cls : Addr) : ∀ ds C R, a_Reader___init__ cls ds C R → t_Reader___init__ cls { nx := fun _ C' => lss R .non C', rt := lss R } (dstart ["self"] ds) C := by
  rintro ds C R ⟨r, F, rfl, hr, h⟩
  unfold t_Reader___init__
  walk_at "dl"
  intro p hp
  have hr0 : C r = some (.ins cls []) := has_l has_at C hr
  have hrp : r ≠ p := by rintro rfl; rw [hp] at hr0; cases hr0
  have e1 : putFD RFd (.ref p) [] = [(RFd, D.ref p)] := rfl
  have e2 : ∀ q, putFD SFd (.ref q) [(RFd, D.ref p)] = [(RFd, D.ref p), (SFd, .ref q)] := fun q => by
    show (if RFd = SFd then _ else _) = _
    rw [if_neg (by decide +kernel)]
    rfl
  refine ⟨r, [], rfl, by rw [DL.updC_ne hrp]; exact hr0, by decide, fun q hq => ?_⟩
  rw [e1] at hq ⊢
  have hrq : r ≠ q := by rintro rfl; rw [DL.updC_at] at hq; cases hq
  refine ⟨r, _, rfl, by rw [DL.updC_ne hrq]; exact DL.updC_at, by show 1 < 1000; omega, ?_⟩
  rw [e2]
  have s1 := star_new (c := .lst []) hr hp
  have s2 := own_up s1 (own_r (own_l (own_at (c' := .ins cls [(RFd, D.ref p)]))))
  have s3 := star_new (c := .lst []) s2 hq
  have s4 := own_up s3 (own_r (own_r (own_l (own_at (c' := .ins cls [(RFd, D.ref p), (SFd, .ref q)])))))
  refine lss_of (h p q _ ?_)
  have s5 : star (star (at_ r (.ins cls [(RFd, D.ref p), (SFd, .ref q)])) (star (at_ p (.lst [])) (at_ q (.lst [])))) F _ := Eq.mp (congrFun (by ac_rfl) _) s4
  exact star_imp s5 (fun C k => star_imp k (fun _ k => k) fun C k => star_imp k (fun _ k => k) fun C k => star_emp k) fun _ k => k
theorem gdStar21 {t : DGs} {x : D} {rest : List D} {δ : DSt} {C : Cells} {R : DSt → Cells → Prop} (h : rest.length ≤ 1000) (k : t [x, .lst rest] δ C R) : gdStar 2 1 t (.lst (x :: rest)) δ C R := by
  refine ⟨x :: rest, rfl, by simp, by simp; omega, ?_⟩
  have e : (x :: rest).take 1 ++ [D.lst (((x :: rest).drop 1).take ((x :: rest).length + 1 - 2))] ++ ((x :: rest).drop 1).drop ((x :: rest).length + 1 - 2) = [x, .lst rest] := by
    simp
  rw [e]
  exact k
def wordOk (w : Str) : Prop := w.length ≤ 100 ∧ ∀ c ∈ cl w, c ≤ 122
def takeIn (e : RE) (h : Str) (ps : List D) : Option RE :=
  if isNotZ h = true then (if e.2.2.2.isEmpty = true then some (e.1, e.2.1, e.2.2.1 ++ [.tup [.str h, .tup ps]], e.2.2.2) else none)
  else if testZ h = true then (if e.2.2.2.isEmpty = true ∧ ps.length = 2 then some (e.1, e.2.1, e.2.2.1 ++ [.tup (.str h :: ps)], e.2.2.2) else none)
  else if h = TAKES then (match ps with
    | [.int k] => if 0 ≤ k then some (e.1, e.2.1, e.2.2.1, e.2.2.2 ++ [.tup [.str TAKES, .int k]]) else none
    | _ => none)
  else if tellerD h = true then some (e.1, e.2.1, e.2.2.1, e.2.2.2 ++ [.tup [.str h, .tup ps]]) else none
def ruleOf (tl : List Str) : Option RE := match tl, tl.map partOf with
  | [nm, _], [_, .int k] => some (.str nm, .int k, [], [])
  | _, _ => none
def rtakeS (s : PR) : List Str → Option PR
  | [] => none
  | h :: tl => if tl.isEmpty = true ∨ ("" : Str) ∈ tl then none
    else if h = THINGS then some ⟨s.rl, s.ts ++ [.tup (tl.map partOf)]⟩
    else if s.ts.isEmpty = false then none
    else if h = RULES then (ruleOf tl).map fun e => ⟨s.rl ++ [e], s.ts⟩
    else match s.rl.getLast? with
      | none => none
      | some e => (takeIn e h (tl.map partOf)).map fun e' => ⟨s.rl.dropLast ++ [e'], s.ts⟩
def runS (s : PR) (i : Nat) : List (List Str) → PR ⊕ Nat
  | [] => .inl s
  | ws :: r => match rtakeS s ws with
    | none => .inr i
    | some s1 => runS s1 (i + 1) r
def reD (e : RE) : D := .tup [e.1, e.2.1, .tup e.2.2.1, .tup e.2.2.2]
def rowsZ (z : Str) : List (List Str) := (Txt.split z LF).map fun l => Txt.split l SP
structure TextOk (z : Str) : Prop where
  len : z.length ≤ 1000000
  rows : (Txt.split z LF).length ≤ 500
  row : ∀ l ∈ Txt.split z LF, l.length ≤ 10000 ∧ (Txt.split l SP).length ≤ 500 ∧ ∀ w ∈ Txt.split l SP, wordOk w
def startS : PR := ⟨[], []⟩
theorem log_small {i : Nat} (h : i ≤ 100000) : ((i : Nat) : Int).natAbs.log2 < 64 := by
  rw [Int.natAbs_natCast]
  by_cases h0 : i = 0
  · subst h0; decide
  · exact (Nat.log2_lt h0).mpr (by omega)
def fineAt (i : Nat) (t : D) : Prop := i ≠ 30 ∧ isThingD t = true
def a_need_thingsX (CT : Addr) : ASpX := fun ds C R RX => ∃ y ts, ds = [y] ∧ SeqY C y ts ∧ (∀ t ∈ ts, datD 50 t = true) ∧ ts.length ≤ 100000 ∧ ((∀ i t, ts[i]? = some t → fineAt i t) → R .non C) ∧
  ∀ i t, ts[i]? = some t → ¬ fineAt i t → (∀ j t', j < i → ts[j]? = some t' → fineAt j t') → RX (CT, [("number", .int (i : Nat))]) C
theorem rd_need_thingsX (CT : Addr) : ∀ ds C R RX, a_need_thingsX CT ds C R RX → t_need_thingsX CT a_is_thing (fun xd _ C' => RX xd C') { nx := fun _ C' => R .non C', rt := R } (dstart ["things", "number", "thing"] ds) C := by
  rintro ds C R RX ⟨y, ts, rfl, hy, hts, hl, h1, h2⟩
  unfold t_need_thingsX
  have hk : DL.kindOf C y = some "list" := by
    rcases hy with rfl | ⟨p, rfl, hp⟩
    · rfl
    · show (C p).bind _ = _; rw [hp]; rfl
  have hq : seqOf C y = some ts := by
    rcases hy with rfl | ⟨p, rfl, hp⟩
    · rfl
    · show (C p).bind _ = _; rw [hp]; rfl
  walk_at "dl"
  rw [oIsi_kind (k := "list") (T := "list") hk (by decide)]
  simp only [show isiT "list" "list" = true by decide, D.bl.injEq, exists_eq_left']
  walk_at "dl"
  obtain ⟨Pv, hPv⟩ : ∃ Pv : Nat → DSt → Cells → Prop, ∀ i δ C', Pv i δ C' ↔ ∃ o1 o2, δ = [some y, o1, o2] ∧ C' = C ∧ ∀ j t', j < i → ts[j]? = some t' → fineAt j t' := ⟨_, fun _ _ _ => Iff.rfl⟩
  refine ⟨by rw [hq]; rfl, for_enumP (x := y) (ds := ts) Pv (fun i δ C' hv => by obtain ⟨_, _, _, rfl, _⟩ := (hPv _ _ _).mp hv; exact hq) ((hPv _ _ _).mpr ⟨none, none, rfl, rfl, fun j t' hj => absurd hj (by omega)⟩) (fun i t δ C' hi hv => ?_) (fun δ C' hv => ?_)⟩
  · obtain ⟨o1, o2, rfl, rfl, hf⟩ := (hPv _ _ _).mp hv
    have hil : i < ts.length := (List.getElem?_eq_some_iff.mp hi).1
    have hd := hts t (List.mem_of_getElem? hi)
    have rz : ¬ fineAt i t → ∀ N : DEnds, dRaise1 CT "number" (dCons (dVar 1) dNil) (fun xd _ C' => RX xd C') N [some y, some (.int (i : Nat)), some t] C' := fun hn N => by
      unfold dRaise1
      walk_at "dl"
      exact ⟨log_small (by omega), h2 i t hi hn hf⟩
    have go : fineAt i t → Pv (i + 1) [some y, some (.int (i : Nat)), some t] C' := fun hfi => (hPv _ _ _).mpr ⟨_, _, rfl, rfl, fun j t' hj ht' => by
      rcases Nat.lt_or_ge j i with h | h
      · exact hf j t' h ht'
      · have e : j = i := by omega
        subst e
        rw [hi] at ht'
        cases ht'
        exact hfi⟩
    walk_at "dl"
    by_cases h30 : (i : Int) = 30
    · rw [decide_eq_true h30]
      walk_at "dl"
      exact rz (fun hc => hc.1 (by omega)) _
    · rw [decide_eq_false h30]
      walk_at "dl"
      refine ⟨t, rfl, hd, ?_⟩
      cases ht : isThingD t with
      | true =>
        walk_at "dl"
        exact go ⟨by omega, ht⟩
      | false =>
        walk_at "dl"
        exact rz (fun hc => by rw [hc.2] at ht; cases ht) _
  · obtain ⟨o1, o2, rfl, rfl, hf⟩ := (hPv _ _ _).mp hv
    exact h1 fun i t hi => hf i t (List.getElem?_eq_some_iff.mp hi).1 hi
theorem bad_int (r : D) (ns : List D) : badPartD r ns = .non ∨ ∃ j : Int, badPartD r ns = .int j ∧ -1 ≤ j ∧ j ≤ 3 := by
  unfold badPartD
  repeat' split
  all_goals first | exact .inl rfl | exact .inr ⟨_, rfl, by decide, by decide⟩
def badRulesN : List D → Nat → List D → Option (Int × Int)
  | _, _, [] => none
  | ns, i, r :: rs => if i = 8 then some (8, -1) else match badPartD r ns with
    | .int j => some ((i : Nat), j)
    | _ => match r with
      | .tup (n :: _) => badRulesN (ns ++ [n]) (i + 1) rs
      | _ => none
def badRules (rs : List D) : Option (Int × Int) := if rs = [] then some (0, -1) else badRulesN [] 0 rs
def a_need_rulesX (CT : Addr) : ASpX := fun ds C R RX => ∃ rs, ds = [.tup rs] ∧ datD 50 (.tup rs) = true ∧ rs.length ≤ 100000 ∧ match badRules rs with
  | none => R .non C
  | some ij => RX (CT, [("part", .int ij.2), ("number", .int ij.1)]) C
theorem rd_need_rulesX (CT : Addr) : ∀ ds C R RX, a_need_rulesX CT ds C R RX → t_need_rulesX CT a_bad_part (fun xd _ C' => lssX RX xd C') { nx := fun _ C' => lss R .non C', rt := lss R } (dstart ["rules", "names", "number", "rule", "part"] ds) C := by
  rintro ds C R RX ⟨rs, rfl, hd, hl, h⟩
  unfold t_need_rulesX
  walk_at "dl"
  simp only [oIsi_tuple (datD_dat hd), D.bl.injEq, exists_eq_left', isTupD]
  walk_at "dl"
  rw [oEq_ok (dat_ok hd) (show okD 60 (D.tup []) = true from rfl)]
  unfold badRules at h
  cases rs with
  | nil =>
    rw [show D.eqv (.tup []) (.tup []) = true by decide +kernel]
    walk_at "dl"
    unfold dRaise2
    walk_at "dl"
    exact ⟨_, _, ⟨rfl, rfl⟩, by decide, C, fun _ _ e => e, h⟩
  | cons r0 rs0 =>
  rw [if_neg (by simp)] at h
  rw [show D.eqv (.tup (r0 :: rs0)) (.tup []) = false by simp [D.eqv, D.eqvL]]
  generalize hrs : r0 :: rs0 = rs at hd hl h ⊢
  obtain ⟨tg, htg⟩ : ∃ tg, badRulesN [] 0 rs = tg := ⟨_, rfl⟩
  rw [htg] at h
  walk_at "dl"
  intro q hq
  have fin : ∀ nm x, tg = x → (match x with | none => lss R .non (updC C q (.lst nm)) | some ij => lssX RX (CT, [("part", .int ij.2), ("number", .int ij.1)]) (updC C q (.lst nm))) := fun nm x e => by
    subst e
    have sub : ∀ a c, C a = some c → updC C q (.lst nm) a = some c := fun a c e => by
      by_cases ha : a = q
      · rw [ha, hq] at e; cases e
      · rw [DL.updC_ne ha]; exact e
    cases tg with
    | none => exact ⟨C, sub, h⟩
    | some ij => exact ⟨C, sub, h⟩
  obtain ⟨Pv, hPv⟩ : ∃ Pv : Nat → DSt → Cells → Prop, ∀ i δ C', Pv i δ C' ↔ ∃ o1 o2 o3 nm, δ = [some (.tup rs), some (.ref q), o1, o2, o3] ∧ C' = updC C q (.lst nm) ∧ badRulesN nm i (rs.drop i) = tg ∧ nm.length = i ∧ allDat nm = true := ⟨_, fun _ _ _ => Iff.rfl⟩
  refine ⟨rfl, for_enum (x := .tup rs) (ds := rs) (fun _ => rfl) Pv ((hPv _ _ _).mpr ⟨none, none, none, [], rfl, rfl, htg, rfl, rfl⟩) (fun i r δ C' hi hv => ?_) (fun δ C' hv => ?_)⟩
  · obtain ⟨o1, o2, o3, nm, rfl, rfl, hb, hn, hnd⟩ := (hPv _ _ _).mp hv
    have hi8 : i < rs.length := (List.getElem?_eq_some_iff.mp hi).1
    have hrd := datD_item hd (List.mem_of_getElem? hi)
    have ed : rs.drop i = r :: rs.drop (i + 1) := by
      rw [List.drop_eq_getElem_cons hi8]
      rw [List.getElem?_eq_getElem hi8] at hi
      rw [Option.some.inj hi]
    rw [ed] at hb
    unfold badRulesN at hb
    have rz : ∀ j : Int, tg = some (((i : Nat) : Int), j) → ∀ N : DEnds, dRaise2 CT "number" "part" (dCons (dVar 2) (dCons (dVar 4) dNil)) (fun xd _ C' => lssX RX xd C') N [some (.tup rs), some (.ref q), some (.int (i : Nat)), some r, some (.int j)] (updC C q (.lst nm)) := fun j e N => by
      unfold dRaise2
      walk_at "dl"
      exact ⟨_, _, ⟨rfl, rfl⟩, log_small (by omega), fin nm _ e⟩
    walk_at "dl"
    by_cases h8 : i = 8
    · rw [if_pos h8] at hb
      rw [decide_eq_true (show (i : Int) = 8 by omega)]
      walk_at "dl"
      exact rz (-1) (by rw [← hb, h8]; rfl) { nx := fun _ _ => False, rt := fun _ _ => False }
    · rw [if_neg h8] at hb
      rw [decide_eq_false (show ¬ (i : Int) = 8 by omega)]
      walk_at "dl"
      refine ⟨_, .ref q, nm, rfl, hrd, lstOf_upd, hnd, ?_⟩
      rcases bad_int r nm with e | ⟨j, e, j1, j2⟩
      · obtain ⟨nm0, rk, ws, qs, bs, er, _⟩ := (bad_full (r := r) (ns := nm) (by rw [e]; rfl)).sh
        subst er
        rw [e] at hb ⊢
        walk_at "dl"
        rw [show (!DL.isNon D.non) = false from rfl]
        walk_at "dl"
        refine ⟨by rw [sizeLine_eq]; omega, (hPv _ _ _).mpr ⟨_, _, _, _, rfl, rfl, hb, by simp [hn], ?_⟩⟩
        rw [allDat, List.all_append, Bool.and_eq_true]
        exact ⟨hnd, by simp only [List.all_cons, List.all_nil, Bool.and_true]; exact datD_item hrd List.mem_cons_self⟩
      · rw [e] at hb ⊢
        walk_at "dl"
        rw [show (!DL.isNon (D.int j)) = true from rfl]
        walk_at "dl"
        exact rz j hb.symm { nx := fun _ _ => False, rt := fun _ _ => False }
  · obtain ⟨o1, o2, o3, nm, rfl, rfl, hb, hn, _⟩ := (hPv _ _ _).mp hv
    rw [List.drop_length] at hb
    walk_at "dl"
    exact fin nm none hb.symm
def a_Reader_take_within (cls : Addr) : ASp := fun ds C R => ∃ r p q es0 e h ps ts F, ds = [.ref r, .str h, .tup ps] ∧ okD 60 (.str h) = true ∧ ps.length ≤ 1000 ∧ (∀ d ∈ ps, dat d = true) ∧ (∀ k : Int, D.int k ∈ ps → k ≤ 99) ∧ e.ws.length ≤ 1000 ∧ e.qs.length ≤ 1000 ∧ rdA cls r p q (es0 ++ [e]) ts F C ∧
  match takeIn e.p h ps with
  | none => ∀ C', rdA cls r p q (es0 ++ [e]) ts F C' → R (.bl false) C'
  | some e' => ∀ e2 : Ent, e2.p = e' → ∀ C', rdA cls r p q (es0 ++ [e2]) ts F C' → R (.bl true) C'
def a_Reader_take (cls : Addr) : ASp := fun ds C R => ∃ r p q es ts ws F, ds = [.ref r, .lst (ws.map .str)] ∧ ws ≠ [] ∧ ws.length ≤ 500 ∧ (∀ w ∈ ws, wordOk w) ∧ es.length ≤ 1000 ∧ ts.length ≤ 1000 ∧ (∀ e ∈ es, e.ws.length ≤ 1000 ∧ e.qs.length ≤ 1000) ∧ rdA cls r p q es ts F C ∧
  match rtakeS ⟨es.map Ent.p, ts⟩ ws with
  | none => ∀ C', rdA cls r p q es ts F C' → R (.bl false) C'
  | some st => ∀ es' C', es'.map Ent.p = st.rl → rdA cls r p q es' st.ts F C' → R (.bl true) C'
def a_readX (CD CT CH CR : Addr) : ASpX := fun ds C R RX => ∃ z, ds = [.str z] ∧ TextOk z ∧ match runS startS 0 (rowsZ z) with
  | .inr i => RX (CT, [("row", .int (i : Nat))]) C
  | .inl s => (∀ i j : Int, RX (CR, [("part", .int j), ("number", .int i)]) C) ∧ (∀ i : Nat, RX (CH, [("number", .int (i : Nat))]) C) ∧ ∀ q, C q = none → R (.tup [.tup (s.rl.map reD), .ref q]) (updC C q (.lst s.ts))
def a__law_number_of : ASp := fun ds C R => ∃ z, ds = [.str z] ∧ z.length ≤ 100 ∧ (∀ c ∈ cl z, c ≤ 122) ∧ R (numD z) C
def a__law_part_of : ASp := fun ds C R => ∃ z, ds = [.str z] ∧ z.length ≤ 100 ∧ (∀ c ∈ cl z, c ≤ 122) ∧ R (partOf z) C
def PartD (d : D) : Prop := (∃ n, d = .int n) ∨ (∃ l, d = .tup l) ∨ ∃ z, d = .str z
def a__law_more : ASp := fun ds C R => ∃ e h ps, ds = [reD e, .str h, .tup ps] ∧ okD 60 (.str h) = true ∧ ps.length ≤ 1000 ∧ e.2.2.1.length ≤ 1000 ∧ e.2.2.2.length ≤ 1000 ∧ okD 60 (.tup e.2.2.2) = true ∧ (∀ d ∈ ps, PartD d) ∧ R (match takeIn e h ps with | none => .non | some e' => reD e') C
def a__law_read : ASp := fun ds C R => ∃ z, ds = [.str z] ∧ TextOk z ∧ match runS startS 0 (rowsZ z) with
  | .inr i => R (.tup [.str "text", .int (i : Nat)]) C
  | .inl s => ∀ q, C q = none → R (.tup [.str "", .tup [.tup (s.rl.map reD), .ref q]]) (updC C q (.lst s.ts))
def wordX (CT CH CR : Addr) (R : D → Cells → Prop) (xd : XcD) (C' : Cells) : Prop :=
  (xd.1 = CT ∧ ∃ v, xd.2.lookup ("row" : Str) = some v ∧ R (.tup [.str "text", v]) C') ∨ (xd.1 = CH ∧ ∃ v, xd.2.lookup ("number" : Str) = some v ∧ R (.tup [.str "thing", v]) C') ∨
  (xd.1 = CR ∧ ∃ v u, xd.2.lookup ("number" : Str) = some v ∧ xd.2.lookup ("part" : Str) = some u ∧ R (.tup [.str "rules", .tup [v, u]]) C')
def a_word (CT CH CR : Addr) (al : AL) (C : Cells) (R : D → Cells → Prop) : Prop := ∀ q, C q = none → ∀ (R1 : D → Cells → Prop) (RX1 : XcD → Cells → Prop), (∀ d C', C' q = some (.lst []) → R (.tup [.str "", d]) (updC C' q (.lst [d])) → R1 d C') → (∀ xd C', wordX CT CH CR R xd C' → RX1 xd C') → al (updC C q (.lst [])) R1 RX1
structure RowW (n : Nat) (ws : List Str) : Prop where
  len : ws.length ≤ n
  w : ∀ w ∈ ws, w.length ≤ 8 ∧ ∀ c ∈ cl w, 33 ≤ c ∧ c ≤ 122
def rowL (ws : List Str) : D := .lst (ws.map .str)
def a__law_spoilt : ASp := fun ds C R => ∃ p c, ∃ rows : List (List Str), ds = [.ref p, .lst (rows.map rowL)] ∧ rows.length ≤ 200 ∧ (∀ ws ∈ rows, RowW 30 ws) ∧ C p = some (.lst c) ∧ RowSt c ∧ ∀ z c', TextOk z → RowSt c' → R (.str z) (updC C p (.lst c'))
theorem notz_test {z : Str} (h : isNotZ z = true) : testZ z = false := by
  unfold isNotZ at h
  rw [Bool.or_eq_true, beq_iff_eq, beq_iff_eq] at h
  rcases h with rfl | rfl <;> decide +kernel
theorem rd_Reader_take_within (cls : Addr) : ∀ ds C R, a_Reader_take_within cls ds C R → t_Reader_take_within cls a_is_number { nx := fun _ C' => lss R .non C', rt := lss R } (dstart ["self", "head", "parts", "name", "rank", "wants", "deeds"] ds) C := by
  rintro ds C R ⟨r, p, q, es0, e, h0, ps, ts, F, rfl, hok, hpl, hpd, hpi, hw, hq, hA, h⟩
  unfold t_Reader_take_within
  walk_at "dl"
  have hml := ml
  refine ⟨r, _, .ref p, rfl, rdA_r hA, look_rf, ?_⟩
  rw [oNeg_int, oIx_ref (rdA_p hA)]
  refine ⟨e.d, by rw [show (-1 : Int) = -1 from rfl, atI_m1]; simp, ?_⟩
  unfold Ent.d
  walk_at "dl"
  have hwa := rdA_w hA
  have hqa := rdA_d hA
  unfold takeIn at h
  have eqq : e.p.2.2.2 = e.qs := rfl
  rw [eqq] at h
  have ez : ∀ w : Str, okD 60 (.str w) = true → ∀ {C : Cells} {R : D → Cells → Prop}, oEq (.str h0) (.str w) C R = R (.bl (h0 == w)) C := fun w hw C R => by
    rw [oEq_ok hok hw]
    rfl
  have okT : okD 60 (.str TAKES) = true := by decide +kernel
  rw [isnot_in]
  cases ei : isNotZ h0 with
  | true =>
    rw [if_pos ei] at h
    walk_at "dl"
    rw [oNe_nil (lstOf_ref hqa) rfl]
    cases hqe : e.qs.isEmpty with
    | false =>
      rw [if_neg (by rw [hqe]; simp)] at h
      walk_at "dl"
      exact lss_of (h C hA)
    | true =>
      rw [if_pos hqe] at h
      walk_at "dl"
      rw [tests_in, notz_test ei]
      walk_at "dl"
      refine ⟨isLst_of hwa, ?_⟩
      rw [isnot_in, ei]
      walk_at "dl"
      rw [app_of hwa]
      exact ⟨by omega, lss_of (h _ (by rfl) _ (rdA_setw hA))⟩
  | false =>
    rw [if_neg (by rw [ei]; simp)] at h
    walk_at "dl"
    rw [tests_in]
    cases et : testZ h0 with
    | true =>
      rw [if_pos et] at h
      walk_at "dl"
      rw [oNe_nil (lstOf_ref hqa) rfl]
      cases hqe : e.qs.isEmpty with
      | false =>
        rw [if_neg (by rw [hqe]; simp)] at h
        walk_at "dl"
        exact lss_of (h C hA)
      | true =>
        walk_at "dl"
        rw [tests_in, et]
        walk_at "dl"
        by_cases hl2 : ps.length = 2
        · rw [if_pos ⟨hqe, hl2⟩] at h
          rw [if_neg (by simp [hl2])]
          refine ⟨isLst_of hwa, ?_⟩
          rw [isnot_in, ei]
          walk_at "dl"
          rw [oAdd_tup (by simp; omega), app_of hwa]
          exact ⟨by omega, lss_of (h _ (by rfl) _ (rdA_setw hA))⟩
        · rw [if_neg (fun k => hl2 k.2)] at h
          rw [if_pos (by simp; omega)]
          exact lss_of (h C hA)
    | false =>
      rw [if_neg (by rw [et]; simp)] at h
      walk_at "dl"
      rw [ez _ okT]
      by_cases hT : h0 = TAKES
      · rw [if_pos hT] at h
        subst hT
        rw [beq_self_eq_true]
        walk_at "dl"
        by_cases hl1 : ps.length = 1
        · obtain ⟨d, rfl⟩ := List.length_eq_one_iff.mp hl1
          rw [if_neg (by simp)]
          walk_at "dl"
          refine ⟨d, 0, 99, rfl, hpd d (by simp), ?_⟩
          cases en : isNumD d 0 99 with
          | false =>
            have hn : ∀ C', rdA cls r p q (es0 ++ [e]) ts F C' → R (.bl false) C' := by
              cases d <;> first | exact h | skip
              rename_i k
              have hk := hpi k (by simp)
              have : ¬ 0 ≤ k := fun h0 => by
                simp only [isNumD, Bool.and_eq_false_iff, decide_eq_false_iff_not] at en
                omega
              dsimp only at h
              rw [if_neg this] at h
              exact h
            walk_at "dl"
            exact lss_of (hn C hA)
          | true =>
            obtain ⟨k, rfl⟩ : ∃ k, d = .int k := by cases d <;> first | exact ⟨_, rfl⟩ | (cases en; done)
            have hk : 0 ≤ k := by
              simp only [isNumD, Bool.and_eq_true, decide_eq_true_eq] at en
              exact en.1
            dsimp only at h
            rw [if_pos hk] at h
            walk_at "dl"
            refine ⟨isLst_of hqa, ?_⟩
            rw [app_of hqa]
            exact ⟨by omega, lss_of (h _ (by rfl) _ (rdA_setd hA))⟩
        · rw [if_pos (by simp; omega)]
          have hn : ∀ C', rdA cls r p q (es0 ++ [e]) ts F C' → R (.bl false) C' := by
            match ps, hl1 with
            | [], _ => exact h
            | [d], hl1 => exact absurd rfl hl1
            | a :: b :: l, _ => cases a <;> exact h
          exact lss_of (hn C hA)
      · rw [if_neg hT] at h
        rw [show (h0 == TAKES) = false by simpa using hT]
        walk_at "dl"
        rw [tell_in]
        cases etl : tellerD h0 with
        | true =>
          rw [if_pos etl] at h
          walk_at "dl"
          refine ⟨isLst_of hqa, ?_⟩
          rw [app_of hqa]
          exact ⟨by omega, lss_of (h _ (by rfl) _ (rdA_setd hA))⟩
        | false =>
          rw [if_neg (by rw [etl]; simp)] at h
          walk_at "dl"
          exact lss_of (h C hA)
theorem numS_bd : ∀ a ∈ List.range 10, ((numOf ⟨#[48 + a]⟩).all fun n => decide (n ≤ 99)) = true ∧ ((numOf ⟨#[45, 48 + a]⟩).all fun n => decide (n ≤ 99)) = true ∧ ∀ b ∈ List.range 10, ((numOf ⟨#[48 + a, 48 + b]⟩).all fun n => decide (n ≤ 99)) = true ∧ ((numOf ⟨#[45, 48 + a, 48 + b]⟩).all fun n => decide (n ≤ 99)) = true := by decide +kernel
theorem numS_lo : ∀ a ∈ List.range 10, ((numOf ⟨#[48 + a]⟩).all fun n => decide (0 ≤ n)) = true ∧ ((numOf ⟨#[45, 48 + a]⟩).all fun n => decide (-99 ≤ n ∧ n < 0)) = true ∧ ∀ b ∈ List.range 10, ((numOf ⟨#[48 + a, 48 + b]⟩).all fun n => decide (0 ≤ n)) = true ∧ ((numOf ⟨#[45, 48 + a, 48 + b]⟩).all fun n => decide (-99 ≤ n ∧ n < 0)) = true := by decide +kernel
theorem fig_rng {c : Nat} (h : isFig c = true) : ∃ a ∈ List.range 10, c = 48 + a := by
  simp only [isFig, Bool.and_eq_true, decide_eq_true_eq] at h
  exact ⟨c - 48, List.mem_range.mpr (by omega), by omega⟩
/-- the words that write numbers -/
theorem num_shape {z : Str} {n : Int} (h : numOf z = some n) : ∃ a ∈ List.range 10, (z = ⟨#[48 + a]⟩ ∨ z = ⟨#[45, 48 + a]⟩) ∨ ∃ b ∈ List.range 10, z = ⟨#[48 + a, 48 + b]⟩ ∨ z = ⟨#[45, 48 + a, 48 + b]⟩ := by
  have h0 := h
  unfold numOf at h
  split at h
  · rename_i hc
    simp only [Bool.and_eq_true, decide_eq_true_eq] at hc
    obtain ⟨⟨h1, h2⟩, h3⟩ := hc
    have hz : cl z = figs z ∨ cl z = 45 :: figs z := by
      unfold figs
      split
      · rename_i r e; exact .inr e
      · exact .inl rfl
    have hall := List.all_eq_true.mp h3
    match hf : figs z, h1, h2 with
    | [x], _, _ =>
      rw [hf] at hz hall
      obtain ⟨a, ha, rfl⟩ := fig_rng (hall x (by simp))
      exact ⟨a, ha, .inl (hz.imp (fun e => str_eq e) fun e => str_eq e)⟩
    | [x, y], _, _ =>
      rw [hf] at hz hall
      obtain ⟨a, ha, rfl⟩ := fig_rng (hall x (by simp))
      obtain ⟨b, hb, rfl⟩ := fig_rng (hall y (by simp))
      exact ⟨a, ha, .inr ⟨b, hb, hz.imp (fun e => str_eq e) fun e => str_eq e⟩⟩
    | [], h1, _ => exact absurd h1 (by decide)
    | _ :: _ :: _ :: _, _, h2 => exact absurd h2 (by simp)
  · cases h
theorem num_bd {z : Str} {n : Int} (h : numOf z = some n) : -99 ≤ n ∧ n ≤ 99 := by
  obtain ⟨a, ha, hz⟩ := num_shape h
  obtain ⟨u1, u2, u3⟩ := numS_bd a ha
  obtain ⟨l1, l2, l3⟩ := numS_lo a ha
  rcases hz with (rfl | rfl) | ⟨b, hb, rfl | rfl⟩
  · rw [h] at u1 l1
    simp only [Option.all_some, decide_eq_true_eq] at u1 l1
    omega
  · rw [h] at u2 l2
    simp only [Option.all_some, decide_eq_true_eq] at u2 l2
    omega
  · obtain ⟨u4, _⟩ := u3 b hb
    obtain ⟨l4, _⟩ := l3 b hb
    rw [h] at u4 l4
    simp only [Option.all_some, decide_eq_true_eq] at u4 l4
    omega
  · obtain ⟨_, u4⟩ := u3 b hb
    obtain ⟨_, l4⟩ := l3 b hb
    rw [h] at u4 l4
    simp only [Option.all_some, decide_eq_true_eq] at u4 l4
    omega
theorem part_shape (z : Str) : (∃ n, partOf z = .int n ∧ -99 ≤ n ∧ n ≤ 99) ∨ (∃ a n, partOf z = .tup [.str ⟨#[a]⟩, .int n] ∧ a ∈ cl z) ∨ partOf z = .str z := by
  unfold partOf
  cases en : numOf z with
  | some n => exact .inl ⟨n, rfl, num_bd en⟩
  | none =>
    dsimp only
    split
    · rename_i a b c r hc
      split
      · split
        · rename_i k hk
          split
          · exact .inr (.inl ⟨a, k, rfl, by rw [hc]; simp⟩)
          · exact .inr (.inr rfl)
        · exact .inr (.inr rfl)
      · exact .inr (.inr rfl)
    · exact .inr (.inr rfl)
theorem part_dat {z : Str} (h : wordOk z) : datD 1 (partOf z) = true := by
  rcases part_shape z with ⟨n, e, _⟩ | ⟨a, n, e, ha⟩ | e
  · rw [e]; rfl
  · rw [e]
    have : PyData.strOk ⟨#[a]⟩ = true := low_ok (l := [a]) (by simpa using h.2 a ha)
    show (([D.str ⟨#[a]⟩, .int n].all (datD 0)) && decide (([D.str ⟨#[a]⟩, .int n] : List D).length ≤ 6000000)) = true
    simp only [List.all_cons, List.all_nil, datD, this]
    rfl
  · rw [e]
    show (PyData.strOk z && decide (z.length ≤ 6000000)) = true
    rw [show PyData.strOk z = true from low_ok (l := cl z) h.2, Bool.true_and, decide_eq_true_eq]
    have := h.1
    omega
theorem part_le {z : Str} {k : Int} (h : partOf z = .int k) : -99 ≤ k ∧ k ≤ 99 := by
  rcases part_shape z with ⟨n, e, h1⟩ | ⟨a, n, e, ha⟩ | e
  · rw [e] at h; cases h; exact h1
  · rw [e] at h; cases h
  · rw [e] at h; cases h
theorem word_ok {w : Str} (h : wordOk w) : okD 60 (.str w) = true := low_ok h.2
theorem rd_Reader_take (cls : Addr) : ∀ ds C R, a_Reader_take cls ds C R → t_Reader_take cls a_part_of a_is_number (a_Reader_take_within cls) { nx := fun _ C' => lss R .non C', rt := lss R } (dstart ["self", "words", "head", "rest", "parts", "word"] ds) C := by
  rintro ds C R ⟨r, p, q, es, ts, ws, F, rfl, hne, hwl, hw, hel, htl, hsz, hA, h⟩
  have hml := ml
  obtain ⟨z, tl, rfl⟩ : ∃ z tl, ws = z :: tl := by cases ws with | nil => exact absurd rfl hne | cons z tl => exact ⟨z, tl, rfl⟩
  have hz := word_ok (hw z (by simp))
  have htw : ∀ w ∈ tl, wordOk w := fun w hm => hw w (by simp [hm])
  have htlen : tl.length ≤ 500 := by rw [List.length_cons] at hwl; omega
  unfold rtakeS at h
  dsimp only at h
  unfold t_Reader_take
  show dSeq (dAsg _ (gdStar _ _ _)) _ _ _ _
  rw [List.map_cons]
  walk_at "dl"
  refine gdStar21 (by rw [List.length_map]; omega) ?_
  walk_at "dl"
  rw [oIn_lst (show okD 60 (.str ("" : Str)) = true by decide +kernel) (List.all_eq_true.mpr fun x hx => by
    obtain ⟨d, hd, rfl⟩ := List.mem_map.mp hx
    exact word_ok (htw d hd))]
  have e0 : ((tl.map D.str).any fun z => D.eqv z (.str ("" : Str))) = decide (("" : Str) ∈ tl) := by
    rw [Bool.eq_iff_iff, List.any_eq_true, decide_eq_true_eq]
    constructor
    · rintro ⟨x, hx, e⟩
      obtain ⟨d, hd, rfl⟩ := List.mem_map.mp hx
      have : (d == ("" : Str)) = true := e
      rw [beq_iff_eq] at this
      exact this ▸ hd
    · intro hm
      exact ⟨_, List.mem_map.mpr ⟨_, hm, rfl⟩, by decide +kernel⟩
  rw [e0]
  have no : ∀ C', rdA cls r p q es ts F C' → (tl.isEmpty = true ∨ ("" : Str) ∈ tl) → lss R (.bl false) C' := fun C' hA' hc => by
    rw [if_pos hc] at h
    exact lss_of (h C' hA')
  by_cases he : ("" : Str) ∈ tl
  · rw [decide_eq_true he]
    walk_at "dl"
    exact no C hA (.inr he)
  rw [decide_eq_false he]
  walk_at "dl"
  intro x0 hx0
  have hA0 := rdA_grow (c := .lst []) hA hx0
  rw [oEq_nil (xs := tl.map D.str) rfl (lstOf_ref DL.updC_at)]
  generalize updC C x0 (.lst []) = C0 at hA0
  rw [List.isEmpty_map]
  cases hem : tl.isEmpty with
  | true =>
    walk_at "dl"
    exact no C0 hA0 (.inl hem)
  | false =>
  rw [if_neg (by rw [hem]; simp [he])] at h
  walk_at "dl"
  have ez : ∀ w : Str, okD 60 (.str w) = true → ∀ {C : Cells} {R : D → Cells → Prop}, oEq (.str z) (.str w) C R = R (.bl (z == w)) C := fun w hw C R => by
    rw [oEq_ok hz hw]
    rfl
  have okT : okD 60 (.str THINGS) = true ∧ okD 60 (.str RULES) = true := by decide +kernel
  refine lc_map (fun d => match d with | .str w => partOf w | _ => .non) (by rw [List.length_map]; omega) (fun d hd K hK => ?_) ?_
  · obtain ⟨w, hwm, rfl⟩ := List.mem_map.mp hd
    have hwo := htw w hwm
    walk_at "dl"
    refine ⟨w, rfl, ?_, hwo.1, hwo.2, hK⟩
    rcases Nat.eq_zero_or_pos w.length with h0 | h0
    · exfalso
      have : w = ("" : Str) := str_eq (by
        have hl := zl_len w
        rw [h0] at hl
        rw [List.length_eq_zero_iff.mp hl]
        decide +kernel)
      exact he (this ▸ hwm)
    · exact h0
  · have eR : (tl.map D.str).map (fun d => match d with | .str w => partOf w | _ => .non) = tl.map partOf := by
      rw [List.map_map]
      rfl
    rw [eR, oTuple_def]
    refine ⟨tl.map partOf, rfl, ?_⟩
    rw [ez _ okT.1]
    by_cases hT : z = THINGS
    · rw [if_pos hT] at h
      rw [show (z == THINGS) = true by simpa using hT]
      walk_at "dl"
      refine ⟨r, _, .ref q, rfl, rdA_r hA0, look_sf, isLst_of (rdA_q hA0), ?_⟩
      rw [app_of (rdA_q hA0)]
      exact ⟨by omega, lss_of (h es _ rfl (rdA_ts hA0))⟩
    · rw [if_neg hT] at h
      rw [show (z == THINGS) = false by simpa using hT]
      walk_at "dl"
      refine ⟨r, _, .ref q, rfl, rdA_r hA0, look_sf, fun x1 hx1 => ?_⟩
      have hA1 := rdA_grow (c := .lst []) hA0 hx1
      rw [oNe_nil (lstOf_ref (rdA_q hA1)) (lstOf_ref DL.updC_at)]
      generalize updC C0 x1 (.lst []) = C1 at hA1
      cases hte : ts.isEmpty with
      | false =>
        rw [if_pos hte] at h
        walk_at "dl"
        exact lss_of (h C1 hA1)
      | true =>
        rw [if_neg (by rw [hte]; simp)] at h
        walk_at "dl"
        rw [ez _ okT.2]
        by_cases hR : z = RULES
        · rw [if_pos hR] at h
          rw [show (z == RULES) = true by simpa using hR]
          walk_at "dl"
          by_cases hl2 : tl.length = 2
          · obtain ⟨nm, kz, rfl⟩ : ∃ nm kz, tl = [nm, kz] := match tl, hl2 with | [a, b], _ => ⟨a, b, rfl⟩
            rw [if_neg (by simp)]
            refine ⟨partOf kz, rfl, ?_⟩
            rw [oNeg_int]
            refine ⟨partOf kz, -99, 99, rfl, datD_dat (part_dat (htw kz (by simp))), ?_⟩
            rcases part_shape kz with ⟨k, e, hk⟩ | ⟨a, n, e, ha⟩ | e
            · rw [e, show isNumD (.int k) (-99) 99 = true by simp only [isNumD, Bool.and_eq_true, decide_eq_true_eq]; exact hk]
              have e2 : ruleOf [nm, kz] = some (.str nm, .int k, [], []) := by
                show (match [nm, kz], [partOf nm, partOf kz] with | [nm, _], [_, .int k] => some _ | _, _ => none) = _
                rw [e]
              rw [e2] at h
              walk_at "dl"
              refine ⟨r, _, .ref p, rfl, rdA_r hA1, look_rf, isLst_of (rdA_p hA1), ?_⟩
              rw [e]
              intro wa hwa qa hqa
              have hp2 : updC (updC C1 wa (.lst [])) qa (.lst []) p = some (.lst (es.map Ent.d)) := rdA_p (rdA_grow (rdA_grow hA1 hwa) hqa)
              rw [app_of hp2]
              have hel2 : (es.map Ent.d).length = es.length := List.length_map _
              refine ⟨by omega, lss_of (h (es ++ [⟨.str nm, .int k, wa, [], qa, []⟩]) _ ?_ (rdA_new hA1 hwa hqa (by rw [List.map_append]; rfl)))⟩
              rw [List.map_append]
              rfl
            · have en : isNumD (partOf kz) (-99) 99 = false := by rw [e]; rfl
              have e2 : ruleOf [nm, kz] = none := by
                show (match [nm, kz], [partOf nm, partOf kz] with | [nm, _], [_, .int k] => some _ | _, _ => none) = _
                rw [e]
              rw [e2] at h
              rw [en]
              walk_at "dl"
              exact lss_of (h C1 hA1)
            · have en : isNumD (partOf kz) (-99) 99 = false := by rw [e]; rfl
              have e2 : ruleOf [nm, kz] = none := by
                show (match [nm, kz], [partOf nm, partOf kz] with | [nm, _], [_, .int k] => some _ | _, _ => none) = _
                rw [e]
              rw [e2] at h
              rw [en]
              walk_at "dl"
              exact lss_of (h C1 hA1)
          · rw [if_pos (by rw [List.length_map]; simp; omega)]
            have e2 : ruleOf tl = none := by
              match tl, hl2 with
              | [], _ => rfl
              | [_], _ => rfl
              | [_, _], hl2 => exact absurd rfl hl2
              | a :: b :: c :: l, _ => rfl
            rw [e2] at h
            exact lss_of (h C1 hA1)
        · rw [if_neg hR] at h
          rw [show (z == RULES) = false by simpa using hR]
          walk_at "dl"
          refine ⟨r, _, .ref p, rfl, rdA_r hA1, look_rf, fun x2 hx2 => ?_⟩
          have hA2 := rdA_grow (c := .lst []) hA1 hx2
          rw [oNe_nil (lstOf_ref (rdA_p hA2)) (lstOf_ref DL.updC_at)]
          generalize updC C1 x2 (.lst []) = C2 at hA2
          rcases List.eq_nil_or_concat es with rfl | ⟨es0, e1, rfl⟩
          · walk_at "dl"
            exact lss_of (h C2 hA2)
          · rw [List.concat_eq_append] at *
            rw [show ((es0 ++ [e1]).map Ent.d).isEmpty = false by simp]
            walk_at "dl"
            have e3 : (List.map Ent.p (es0 ++ [e1])).getLast? = some e1.p := by simp
            have e4 : (List.map Ent.p (es0 ++ [e1])).dropLast = es0.map Ent.p := by simp
            rw [e3, e4] at h
            dsimp only at h
            refine ⟨r, _, rfl, rdA_r hA2, ?_, r, p, q, es0, e1, z, tl.map partOf, ts, F, rfl, hz, by rw [List.length_map]; omega, fun d hd => ?_, fun k hk => ?_, (hsz e1 (by simp)).1, (hsz e1 (by simp)).2, hA2, ?_⟩
            · rw [List.lookup_cons, show (("take_within" : Str) == RFd) = false by decide +kernel]
              show List.lookup _ [(SFd, _)] = _
              rw [List.lookup_cons, show (("take_within" : Str) == SFd) = false by decide +kernel]
              rfl
            · obtain ⟨w, hwm, rfl⟩ := List.mem_map.mp hd
              exact datD_dat (part_dat (htw w hwm))
            · obtain ⟨w, hwm, e⟩ := List.mem_map.mp hk
              exact (part_le e).2
            · cases et : takeIn e1.p z (tl.map partOf) with
              | none =>
                rw [et] at h
                exact fun C' hC' => lss_of (h C' hC')
              | some e' =>
                rw [et] at h
                exact fun e2 he2 C' hC' => lss_of (h (es0 ++ [e2]) C' (by rw [List.map_append]; show _ ++ [e2.p] = _; rw [he2]) hC')
def Sz (n : Nat) (s : PR) : Prop := s.rl.length ≤ n ∧ s.ts.length ≤ n ∧ ∀ e ∈ s.rl, e.2.2.1.length ≤ n ∧ e.2.2.2.length ≤ n
structure GoodE (e : RE) : Prop where
  n : datD 1 e.1 = true
  r : datD 1 e.2.1 = true
  w : ∀ d ∈ e.2.2.1, datD 3 d = true
  q : ∀ d ∈ e.2.2.2, datD 3 d = true
structure GoodS (s : PR) : Prop where
  e : ∀ e ∈ s.rl, GoodE e
  t : ∀ t ∈ s.ts, datD 2 t = true
theorem mem_sn {α : Type} {l : List α} {P : α → Prop} {a : α} (h : ∀ x ∈ l, P x) (ha : P a) : ∀ x ∈ l ++ [a], P x := fun x hx => by
  rcases List.mem_append.mp hx with hx | hx
  · exact h x hx
  · rw [List.mem_singleton.mp hx]; exact ha
theorem in_sz {n : Nat} {e e' : RE} {h : Str} {ps : List D} (h1 : takeIn e h ps = some e') (hs : e.2.2.1.length ≤ n ∧ e.2.2.2.length ≤ n) : e'.2.2.1.length ≤ n + 1 ∧ e'.2.2.2.length ≤ n + 1 := by
  unfold takeIn at h1
  repeat' split at h1
  all_goals first | (cases h1; done) | (simp only [Option.some.injEq] at h1; subst h1; simp only [List.length_append, List.length_cons, List.length_nil]; omega)
theorem tup_dat {n : Nat} {ds : List D} (h : ∀ d ∈ ds, datD n d = true) (hl : ds.length ≤ 6000000) : datD (n + 1) (.tup ds) = true := by
  show (ds.all (datD n) && decide (ds.length ≤ 6000000)) = true
  rw [Bool.and_eq_true, decide_eq_true_eq]
  exact ⟨List.all_eq_true.mpr h, hl⟩
theorem word_dat {w : Str} (h : wordOk w) : datD 0 (.str w) = true := by
  show (PyData.strOk w && decide (w.length ≤ 6000000)) = true
  rw [show PyData.strOk w = true from low_ok (l := cl w) h.2, Bool.true_and, decide_eq_true_eq]
  have := h.1
  omega
theorem partsT_dat {tl : List Str} (hw : ∀ w ∈ tl, wordOk w) (hl : tl.length ≤ 500) : datD 2 (.tup (tl.map partOf)) = true :=
  tup_dat (fun d hd => by obtain ⟨w, hm, rfl⟩ := List.mem_map.mp hd; exact part_dat (hw w hm)) (by rw [List.length_map]; omega)
theorem in_good {e e' : RE} {h : Str} {tl : List Str} (hh : wordOk h) (hw : ∀ w ∈ tl, wordOk w) (hl : tl.length ≤ 500) (h1 : takeIn e h (tl.map partOf) = some e') (g : GoodE e) : GoodE e' := by
  have hd := word_dat hh
  have hp := partsT_dat hw hl
  have d3 : datD 3 (.tup [.str h, .tup (tl.map partOf)]) = true := tup_dat (fun d hm => by
    simp only [List.mem_cons, List.not_mem_nil, or_false] at hm
    rcases hm with rfl | rfl
    · exact datD_all (show 0 ≤ 2 by omega) hd
    · exact hp) (by simp)
  have d4 : datD 3 (.tup (.str h :: tl.map partOf)) = true := datD_all (show 2 ≤ 3 by omega) (tup_dat (n := 1) (fun d hm => by
    rcases List.mem_cons.mp hm with rfl | hm
    · exact datD_all (show 0 ≤ 1 by omega) hd
    · obtain ⟨w, hm2, rfl⟩ := List.mem_map.mp hm
      exact part_dat (hw w hm2)) (by rw [List.length_cons, List.length_map]; omega))
  unfold takeIn at h1
  split at h1
  · split at h1
    · simp only [Option.some.injEq] at h1; subst h1
      exact ⟨g.n, g.r, mem_sn g.w d3, g.q⟩
    · cases h1
  · split at h1
    · split at h1
      · simp only [Option.some.injEq] at h1; subst h1
        exact ⟨g.n, g.r, mem_sn g.w d4, g.q⟩
      · cases h1
    · split at h1
      · split at h1
        · split at h1
          · rename_i k _ _
            simp only [Option.some.injEq] at h1; subst h1
            exact ⟨g.n, g.r, g.w, mem_sn g.q (tup_dat (fun d hm => by
              simp only [List.mem_cons, List.not_mem_nil, or_false] at hm
              rcases hm with rfl | rfl
              · decide +kernel
              · rfl) (by simp))⟩
          · cases h1
        · cases h1
      · split at h1
        · simp only [Option.some.injEq] at h1; subst h1
          exact ⟨g.n, g.r, g.w, mem_sn g.q d3⟩
        · cases h1
theorem rule_some {tl : List Str} {e : RE} (h : ruleOf tl = some e) : ∃ nm kz k, tl = [nm, kz] ∧ partOf kz = .int k ∧ e = (.str nm, .int k, [], []) := by
  match tl, h with
  | [nm, kz], h =>
    have h : (match [nm, kz], [partOf nm, partOf kz] with | [nm, _], [_, .int k] => some ((.str nm, .int k, [], []) : RE) | _, _ => none) = some e := h
    rcases part_shape kz with ⟨k, e1, _⟩ | ⟨a, n, e1, _⟩ | e1
    · rw [e1] at h
      simp only [Option.some.injEq] at h
      exact ⟨nm, kz, k, rfl, e1, h.symm⟩
    · rw [e1] at h; cases h
    · rw [e1] at h; cases h
  | [], h => cases h
  | [_], h => cases h
  | a :: b :: c :: l, h => cases h
theorem take_good {n : Nat} {s s1 : PR} {ws : List Str} (hw : ∀ w ∈ ws, wordOk w) (hl : ws.length ≤ 500) (h : rtakeS s ws = some s1) (hs : Sz n s) (g : GoodS s) : Sz (n + 1) s1 ∧ GoodS s1 := by
  obtain ⟨h1, h2, h3⟩ := hs
  have mono : ∀ e ∈ s.rl, e.2.2.1.length ≤ n + 1 ∧ e.2.2.2.length ≤ n + 1 := fun e he => by have := h3 e he; omega
  cases ws with
  | nil => cases h
  | cons z tl =>
    have hz := hw z (by simp)
    have htw : ∀ w ∈ tl, wordOk w := fun w hm => hw w (by simp [hm])
    have hlt : tl.length ≤ 500 := by rw [List.length_cons] at hl; omega
    unfold rtakeS at h
    dsimp only at h
    split at h
    · cases h
    · split at h
      · simp only [Option.some.injEq] at h; subst h
        refine ⟨⟨by show s.rl.length ≤ _; omega, by show (s.ts ++ _).length ≤ _; rw [List.length_append]; simp; omega, mono⟩, g.e, mem_sn g.t (partsT_dat htw hlt)⟩
      · split at h
        · cases h
        · split at h
          · obtain ⟨e, he, rfl⟩ := Option.map_eq_some_iff.mp h
            obtain ⟨nm, kz, k, rfl, e1, rfl⟩ := rule_some he
            refine ⟨⟨by show (s.rl ++ _).length ≤ _; rw [List.length_append]; simp; omega, by show s.ts.length ≤ _; omega, mem_sn mono (by simp)⟩, mem_sn g.e ⟨datD_all (show 0 ≤ 1 by omega) (word_dat (htw nm (by simp))), rfl, by simp, by simp⟩, g.t⟩
          · split at h
            · cases h
            · rename_i e hlast
              obtain ⟨e', he, rfl⟩ := Option.map_eq_some_iff.mp h
              have hmem : e ∈ s.rl := List.mem_of_getLast? hlast
              have hne : s.rl ≠ [] := fun h0 => by rw [h0] at hmem; cases hmem
              have hlen : s.rl.dropLast.length + 1 = s.rl.length := by
                rw [List.length_dropLast]
                have := List.length_pos_iff.mpr hne
                omega
              refine ⟨⟨by show (s.rl.dropLast ++ _).length ≤ _; rw [List.length_append]; simp at hlen ⊢; omega, by show s.ts.length ≤ _; omega, mem_sn (fun e0 h0 => mono e0 (List.dropLast_subset _ h0)) (in_sz he (h3 e hmem))⟩, mem_sn (fun e0 h0 => g.e e0 (List.dropLast_subset _ h0)) (in_good hz htw hlt he (g.e e hmem)), g.t⟩
theorem good_reD {e : RE} (g : GoodE e) (h : e.2.2.1.length ≤ 1000 ∧ e.2.2.2.length ≤ 1000) : datD 5 (reD e) = true := tup_dat (fun d hd => by
  simp only [List.mem_cons, List.not_mem_nil, or_false] at hd
  rcases hd with rfl | rfl | rfl | rfl
  · exact datD_all (show 1 ≤ 4 by omega) g.n
  · exact datD_all (show 1 ≤ 4 by omega) g.r
  · exact tup_dat g.w (by omega)
  · exact tup_dat g.q (by omega)) (by simp)
theorem rdA_sub {cls r p q : Addr} {es : List Ent} {ts : List D} {C C' : Cells} (h : rdA cls r p q es ts (subC C) C') : ∀ a c, C a = some c → C' a = some c := by
  obtain ⟨A, B, k1, k2, k3, k4, k5⟩ := h
  exact fun a c e => k3 _ _ (k5 _ _ e)
theorem rows_at {z : Str} {i : Nat} {d : D} (h : ((Txt.split z LF).map D.str)[i]? = some d) : ∃ l, d = .str l ∧ l ∈ Txt.split z LF ∧ (rowsZ z).drop i = Txt.split l SP :: (rowsZ z).drop (i + 1) ∧ i < (Txt.split z LF).length := by
  rw [List.getElem?_map] at h
  obtain ⟨l, hl, rfl⟩ := Option.map_eq_some_iff.mp h
  have hi := (List.getElem?_eq_some_iff.mp hl).1
  refine ⟨l, rfl, List.mem_of_getElem? hl, ?_, hi⟩
  unfold rowsZ
  rw [List.drop_eq_getElem_cons (by rw [List.length_map]; exact hi)]
  rw [List.getElem_map]
  rw [List.getElem?_eq_getElem hi] at hl
  rw [Option.some.inj hl]
theorem rd_readX (CD CT CH CR : Addr) : ∀ ds C R RX, a_readX CD CT CH CR ds C R RX → t_readX CD CT (a_Reader___init__ CD) (a_Reader_take CD) (a_need_rulesX CR) (a_need_thingsX CH) (fun xd _ C' => lssX RX xd C') { nx := fun _ C' => lss R .non C', rt := lss R } (dstart ["text", "reader", "row", "line", "rules", "name", "rank", "wants", "deeds"] ds) C := by
  rintro ds C R RX ⟨z, rfl, hz, h⟩
  have hml := ml
  have hrows := hz.rows
  generalize htg : runS startS 0 (rowsZ z) = tg at h
  unfold t_readX
  walk_at "dl"
  intro r hr
  refine ⟨r, subC C, rfl, star_new (subC.refl C) hr, fun p q C1 hA => ⟨rfl, ?_⟩⟩
  walk_at "dl"
  have lfl : (LF.length == 0) = false := by decide +kernel
  have spl : (SP.length == 0) = false := by decide +kernel
  have hzl := hz.len
  refine ⟨⟨_, rfl⟩, _, LF, rfl, rfl, lfl, by omega, ?_⟩
  refine ⟨rfl, ?_⟩
  obtain ⟨Pv, hPv⟩ : ∃ Pv : Nat → DSt → Cells → Prop, ∀ i δ C', Pv i δ C' ↔ ∃ o2 o3 es ts, δ = [some (.str z), some (.ref r), o2, o3, none, none, none, none, none] ∧ rdA CD r p q es ts (subC C) C' ∧ runS ⟨es.map Ent.p, ts⟩ i ((rowsZ z).drop i) = tg ∧ Sz i ⟨es.map Ent.p, ts⟩ ∧ GoodS ⟨es.map Ent.p, ts⟩ := ⟨_, fun _ _ _ => Iff.rfl⟩
  refine for_enum (x := .lst ((Txt.split z LF).map .str)) (ds := (Txt.split z LF).map .str) (fun _ => rfl) Pv ((hPv _ _ _).mpr ⟨none, none, [], [], rfl, hA, htg, ⟨Nat.le_refl _, Nat.le_refl _, by simp⟩, ⟨by simp, by simp⟩⟩) (fun i d δ C' hi hv => ?_) (fun δ C' hv => ?_)
  · obtain ⟨o2, o3, es, ts, rfl, hA1, hrun, hsz, hg⟩ := (hPv _ _ _).mp hv
    obtain ⟨l, rfl, hlm, hdr, hil⟩ := rows_at hi
    obtain ⟨hl1, hl2, hl3⟩ := hz.row l hlm
    rw [hdr] at hrun
    unfold runS at hrun
    obtain ⟨s1, s2, s3⟩ := id hsz
    have s1 : es.length ≤ i := by rw [List.length_map] at s1; exact s1
    show gdTup 2 _ _ _ _ _
    walk_at "dl"
    refine ⟨r, _, rfl, rdA_r hA1, ?_, ⟨_, rfl⟩, l, SP, rfl, rfl, spl, by omega, ?_⟩
    · rw [List.lookup_cons, show (("take" : Str) == RFd) = false by decide +kernel]
      show List.lookup _ [(SFd, _)] = _
      rw [List.lookup_cons, show (("take" : Str) == SFd) = false by decide +kernel]
      rfl
    · refine ⟨r, p, q, es, ts, Txt.split l SP, subC C, rfl, split_ne _ _, hl2, hl3, by omega, by have : ts.length ≤ i := s2; omega, fun e he => by have := s3 e.p (List.mem_map.mpr ⟨e, he, rfl⟩); exact ⟨Nat.le_trans this.1 (by omega), Nat.le_trans this.2 (by omega)⟩, hA1, ?_⟩
      cases ht : rtakeS ⟨es.map Ent.p, ts⟩ (Txt.split l SP) with
      | none =>
        rw [ht] at hrun
        intro C2 hA2
        walk_at "dl"
        unfold dRaise1
        walk_at "dl"
        refine ⟨log_small (by omega), C, rdA_sub hA2, ?_⟩
        dsimp only at hrun
        rw [← hrun] at h
        exact h
      | some st =>
        rw [ht] at hrun
        dsimp only at hrun ⊢
        intro es' C2 he' hA2
        walk_at "dl"
        obtain ⟨hs', hg'⟩ := take_good hl3 hl2 ht hsz hg
        have est : (⟨es'.map Ent.p, st.ts⟩ : PR) = st := by rw [he']
        exact (hPv _ _ _).mpr ⟨_, _, es', st.ts, rfl, hA2, by rw [est]; exact hrun, by rw [est]; exact hs', by rw [est]; exact hg'⟩
  · obtain ⟨o2, o3, es, ts, rfl, hA1, hrun, hsz, hg⟩ := (hPv _ _ _).mp hv
    have hl : ((Txt.split z LF).map D.str).length = (Txt.split z LF).length := List.length_map _
    rw [hl] at hrun hsz
    rw [List.drop_of_length_le (by unfold rowsZ; rw [List.length_map]; exact Nat.le_refl _)] at hrun
    have hrun : Sum.inl (⟨es.map Ent.p, ts⟩ : PR) = tg := hrun
    rw [← hrun] at h
    obtain ⟨h1, h2, h3⟩ := h
    obtain ⟨s1, s2, s3⟩ := hsz
    have s1 : es.length ≤ 500 := by rw [List.length_map] at s1; omega
    have s2 : ts.length ≤ 500 := by have : ts.length ≤ (Txt.split z LF).length := s2; omega
    generalize hn : (Txt.split z LF).length = n at *
    walk_at "dl"
    refine ⟨r, _, .ref p, rfl, rdA_r hA1, look_rf, ?_⟩
    rw [itOf_ref (rdA_p hA1)]
    refine ⟨_, rfl, ?_⟩
    have hall := rdA_all hA1
    refine lc_liveP (ds := es.map Ent.d) (fun i acc C2 => C2 = C' ∧ acc = ((es.take i).map Ent.p).map reD) (fun i acc C2 hv => by rw [hv.1]; exact rdA_p hA1) ⟨rfl, by simp⟩ (fun i d acc C2 hi hv => ?_) (fun acc C2 hv => ?_)
    · obtain ⟨rfl, rfl⟩ := hv
      rw [List.getElem?_map] at hi
      obtain ⟨e, he, rfl⟩ := Option.map_eq_some_iff.mp hi
      obtain ⟨w1, w2⟩ := hall e (List.mem_of_getElem? he)
      have hil := (List.getElem?_eq_some_iff.mp he).1
      unfold Ent.d
      walk_at "dl"
      rw [oTuple_def]
      refine ⟨e.ws, by rw [lstOf_ref w1], ?_⟩
      rw [oTuple_def]
      refine ⟨e.qs, by rw [lstOf_ref w2], ?_⟩
      walk_at "dl"
      refine ⟨by rw [List.length_map, List.length_map, List.length_take]; omega, ?_⟩
      rw [take_snoc he, List.map_append, List.map_append]
      rfl
    · obtain ⟨rfl, rfl⟩ := hv
      rw [show (es.map Ent.d).length = es.length from List.length_map _, List.take_length, oTuple_def]
      refine ⟨(es.map Ent.p).map reD, rfl, ?_⟩
      have hdat : datD 50 (.tup ((es.map Ent.p).map reD)) = true := datD_all (show 6 ≤ 50 by omega) (tup_dat (fun d hd => by
        obtain ⟨e, he, rfl⟩ := List.mem_map.mp hd
        have := s3 e he
        exact good_reD (hg.e e he) ⟨by omega, by omega⟩) (by rw [List.length_map, List.length_map]; omega))
      have hsub := rdA_sub hA1
      walk_at "dl"
      refine ⟨_, rfl, hdat, by rw [List.length_map, List.length_map]; omega, ?_⟩
      cases badRules ((es.map Ent.p).map reD) with
      | some ij =>
        exact ⟨C, hsub, h1 ij.1 ij.2⟩
      | none =>
        walk_at "dl"
        refine ⟨r, _, .ref q, rfl, rdA_r hA1, look_sf, ?_⟩
        refine ⟨_, ts, rfl, .inr ⟨q, rfl, rdA_q hA1⟩, fun t ht => datD_all (show 2 ≤ 50 by omega) (hg.t t ht), by omega, fun _ => ?_, fun i t _ _ _ => ⟨C, hsub, h2 i⟩⟩
        walk_at "dl"
        refine ⟨r, _, .ref q, rfl, rdA_r hA1, look_sf, ?_⟩
        have hq0 : C q = none := star_frame (has_r (has_r (has_l has_at))) hA1
        obtain ⟨A, B, k1, k2, k3, k4, k5⟩ := hA1
        refine ⟨updC C q (.lst ts), fun a c e => ?_, h3 q hq0⟩
        by_cases ha : a = q
        · subst ha
          rw [DL.updC_at] at e
          rw [← e]
          exact k2 _ _ (has_r (has_r (has_l has_at)) A k4)
        · rw [DL.updC_ne ha] at e
          exact k3 _ _ (k5 _ _ e)
theorem dIsX_c {K : PySem.W.Frag} {xd : XcD} {a c T : Addr} {b : Bool} {δ : DSt} {C : Cells} {R : D → Cells → Prop} (e : xd.1 = T) (hd : δ[2]? = some (some (.ref a))) (hk : PySem.W.kitOne K (.ref T) (.ref c) = some b) (h : R (.bl b) C) : dIsX K xd a (aE (.ref c)) δ C R := by
  subst e
  unfold dIsX aE
  simp only [dCons, dNil, dVar, hd, dC]
  exact ⟨_, _, b, rfl, rfl, hk, h⟩
theorem dIsX_v {K : PySem.W.Frag} {xd : XcD} {a T : Addr} {b : Bool} {δ : DSt} {C : Cells} {R : D → Cells → Prop} (e : xd.1 = T) (hd : δ[2]? = some (some (.ref a))) (hk : PySem.W.kitOne K (.ref T) (.type "ValueError") = some b) (h : R (.bl b) C) : dIsX K xd a (aE (.ty "ValueError")) δ C R := by
  subst e
  unfold dIsX aE
  simp only [dCons, dNil, dVar, hd, dC]
  exact ⟨_, _, b, rfl, rfl, hk, h⟩
theorem eqS {a b : Str} {C : Cells} {R : D → Cells → Prop} (ha : okD 60 (.str a) = true) (hb : okD 60 (.str b) = true) : oEq (.str a) (.str b) C R = R (.bl (a == b)) C := by
  rw [oEq_ok ha hb]
  rfl
theorem dXf_v {i : Nat} {a : Addr} {xd : XcD} {f : Str} {v : D} {δ : DSt} {C : Cells} {R : D → Cells → Prop} (hd : δ[i]? = some (some (.ref a))) (hv : xd.2.lookup f = some v) (h : R v C) : dXf i a xd f δ C R := ⟨hd, v, hv, h⟩
theorem rd_word {K : PySem.W.Frag} {C : Str → Addr} (h0 : XKr K (C "BadText") (C "BadThing") (C "BadRules") (C "BadCount") (C "NotThere") (C "NoRule") (C "BadDeed") (C "Halted") (C "BadText") false false false false false false false true)
    (h1 : XKr K (C "BadThing") (C "BadThing") (C "BadRules") (C "BadCount") (C "NotThere") (C "NoRule") (C "BadDeed") (C "Halted") (C "BadText") true false false false false false false false)
    (h2 : XKr K (C "BadRules") (C "BadThing") (C "BadRules") (C "BadCount") (C "NotThere") (C "NoRule") (C "BadDeed") (C "Halted") (C "BadText") false true false false false false false false)
    {al : AL} {Cs : Cells} {R : D → Cells → Prop} (f : Addr) (h : a_word (C "BadText") (C "BadThing") (C "BadRules") al Cs R) : t_word K C f al { nx := fun _ C' => R .non C', rt := R } (dstart ["_law_work", "_law_found", "e", "_law_kinds", "_law_words", "_law_word_here"] [.ref f]) Cs := by
  unfold t_word
  walk_at "dl"
  intro q hq
  unfold dTry
  walk_at "dl"
  refine ⟨rfl, h q hq _ _ (fun d C' hc hr => ?_) (fun xd C' hx => ?_)⟩
  · rw [app_of hc]
    refine ⟨by have := ml; simp; omega, ?_⟩
    rw [oIx_ref DL.updC_at]
    exact ⟨d, rfl, hr⟩
  · rcases hx with ⟨e, v, hv, hr⟩ | ⟨e, v, hv, hr⟩ | ⟨e, v, u, hv, hu, hr⟩
    · refine ⟨⟨"BadText", by simp, e⟩, fun a ha => ?_⟩
      unfold t_word_s
      walk_at "dl"
      refine dIsX_c e rfl h0.k0 (dIsX_c e rfl h0.k1 (dIsX_c e rfl h0.k2 (dIsX_c e rfl h0.k3 (dIsX_c e rfl h0.k4 (dIsX_c e rfl h0.k5 (dIsX_c e rfl h0.k6 (dIsX_c e rfl h0.k7 ?_)))))))
      rw [oAdd_lst (by have := ml; simp; omega)]
      simp only [List.cons_append, List.nil_append]
      refine ⟨rfl, [false, false, false, false, false, false, false, true], true, rfl, rfl, ?_⟩
      rw [show ((([false, false, false, false, false, false, false, true] : List Bool).count true : Nat) : Int) = 1 by decide +kernel]
      walk_at "dl"
      rw [if_neg (by simp)]
      refine dIsX_v e rfl h0.kv ?_
      walk_at "dl"
      refine ⟨rfl, .bl true, _, 7, .bl true, rfl, rfl, rfl, by decide +kernel, rfl, rfl, fun m z' hm hz' => (match m, hm, hz' with | 0, _, e2 => (by cases e2; rfl) | 1, _, e2 => (by cases e2; rfl) | 2, _, e2 => (by cases e2; rfl) | 3, _, e2 => (by cases e2; rfl) | 4, _, e2 => (by cases e2; rfl) | 5, _, e2 => (by cases e2; rfl) | 6, _, e2 => (by cases e2; rfl) | n + 7, hm, _ => absurd hm (by omega)), ?_⟩
      walk_at "dl"
      rw [eqS (by decide +kernel) (by decide +kernel), show (("text" : Str) == ("rules" : Str)) = false by decide +kernel]
      walk_at "dl"
      rw [eqS (by decide +kernel) (by decide +kernel), show (("text" : Str) == ("halted" : Str)) = false by decide +kernel]
      walk_at "dl"
      rw [eqS (by decide +kernel) (by decide +kernel), show (("text" : Str) == ("text" : Str)) = true by decide +kernel]
      walk_at "dl"
      exact dXf_v rfl hv hr
    · refine ⟨⟨"BadThing", by simp, e⟩, fun a ha => ?_⟩
      unfold t_word_s
      walk_at "dl"
      refine dIsX_c e rfl h1.k0 (dIsX_c e rfl h1.k1 (dIsX_c e rfl h1.k2 (dIsX_c e rfl h1.k3 (dIsX_c e rfl h1.k4 (dIsX_c e rfl h1.k5 (dIsX_c e rfl h1.k6 (dIsX_c e rfl h1.k7 ?_)))))))
      rw [oAdd_lst (by have := ml; simp; omega)]
      simp only [List.cons_append, List.nil_append]
      refine ⟨rfl, [true, false, false, false, false, false, false, false], true, rfl, rfl, ?_⟩
      rw [show ((([true, false, false, false, false, false, false, false] : List Bool).count true : Nat) : Int) = 1 by decide +kernel]
      walk_at "dl"
      rw [if_neg (by simp)]
      refine dIsX_v e rfl h1.kv ?_
      walk_at "dl"
      refine ⟨rfl, .bl true, _, 0, .bl true, rfl, rfl, rfl, by decide +kernel, rfl, rfl, fun m z' hm hz' => (match m, hm, hz' with | n + 0, hm, _ => absurd hm (by omega)), ?_⟩
      walk_at "dl"
      rw [eqS (by decide +kernel) (by decide +kernel), show (("thing" : Str) == ("rules" : Str)) = false by decide +kernel]
      walk_at "dl"
      rw [eqS (by decide +kernel) (by decide +kernel), show (("thing" : Str) == ("halted" : Str)) = false by decide +kernel]
      walk_at "dl"
      rw [eqS (by decide +kernel) (by decide +kernel), show (("thing" : Str) == ("text" : Str)) = false by decide +kernel]
      walk_at "dl"
      rw [oIn_tup rfl rfl, show ([D.str ("thing" : Str), D.str ("deed" : Str)].any fun y => D.eqv y (.str ("thing" : Str))) = true by decide +kernel]
      walk_at "dl"
      exact dXf_v rfl hv hr
    · refine ⟨⟨"BadRules", by simp, e⟩, fun a ha => ?_⟩
      unfold t_word_s
      walk_at "dl"
      refine dIsX_c e rfl h2.k0 (dIsX_c e rfl h2.k1 (dIsX_c e rfl h2.k2 (dIsX_c e rfl h2.k3 (dIsX_c e rfl h2.k4 (dIsX_c e rfl h2.k5 (dIsX_c e rfl h2.k6 (dIsX_c e rfl h2.k7 ?_)))))))
      rw [oAdd_lst (by have := ml; simp; omega)]
      simp only [List.cons_append, List.nil_append]
      refine ⟨rfl, [false, true, false, false, false, false, false, false], true, rfl, rfl, ?_⟩
      rw [show ((([false, true, false, false, false, false, false, false] : List Bool).count true : Nat) : Int) = 1 by decide +kernel]
      walk_at "dl"
      rw [if_neg (by simp)]
      refine dIsX_v e rfl h2.kv ?_
      walk_at "dl"
      refine ⟨rfl, .bl true, _, 1, .bl true, rfl, rfl, rfl, by decide +kernel, rfl, rfl, fun m z' hm hz' => (match m, hm, hz' with | 0, _, e2 => (by cases e2; rfl) | n + 1, hm, _ => absurd hm (by omega)), ?_⟩
      walk_at "dl"
      rw [eqS (by decide +kernel) (by decide +kernel), show (("rules" : Str) == ("rules" : Str)) = true by decide +kernel]
      walk_at "dl"
      exact dXf_v rfl hv (dXf_v rfl hu hr)
theorem cutS_one (z : Str) : cutS z none (some 1) = ⟨((cl z).take 1).toArray⟩ := by
  have h := cutL_take (cl z) 1
  unfold cutL at h
  rw [zl_len] at h
  unfold cutS
  rw [show (some 1 : Option Int) = some ((1 : Nat) : Int) from rfl, h]
theorem one_minus (z : Str) : ((⟨((cl z).take 1).toArray⟩ : Str) == ("-" : Str)) = decide ((cl z).head? = some 45) := by
  have e : ("-" : Str) = ⟨#[45]⟩ := by decide +kernel
  rw [e, Bool.eq_iff_iff, beq_iff_eq, decide_eq_true_eq]
  cases cl z with
  | nil => constructor <;> intro h <;> simp at h
  | cons a l =>
    rw [List.take_succ_cons, List.take_zero]
    constructor
    · intro h
      have : a = 45 := by simpa using h
      rw [this]; rfl
    · intro h
      have : a = 45 := by simpa using h
      rw [this]
theorem neS {a b : Str} {C : Cells} {R : D → Cells → Prop} (ha : okD 60 (.str a) = true) (hb : okD 60 (.str b) = true) : oNe (.str a) (.str b) C R = R (.bl (!(a == b))) C := by
  rw [oNe_ok ha hb]
  rfl
def t_lnum_rest : DS := (dSeq (dIfS (dOr (dNot (dTest (dChain oLe oLe (dC (.int 1)) (dFn oLen (dCons (dVar 1) (dNil))) (dC (.int 2))))) (dTest (dOp oNe (dLc (diSeq (dVar 1)) (gdName 2) (dTest (dOp oNotIn (dVar 2) (dC (.str "0123456789")))) (dVar 2) [2]) (dLst (dNil))))) (dRet (dC .non)) (dNext)) (dRet (dIf (dAnd (dTest (dOp oEq (dOp oIx (dVar 1) (dC (.int 0))) (dC (.str "0")))) (dTest (dOp oNe (dVar 0) (dC (.str "0"))))) (dC .non) (dFn oIntS (dCons (dVar 0) (dNil))))))
theorem rd__law_number_of : ∀ ds C R, a__law_number_of ds C R → t__law_number_of { nx := fun _ C' => R .non C', rt := R } (dstart ["_law_word_here", "_law_figures", "_law_sign"] ds) C := by
  rintro ds C R ⟨z, rfl, hl, hz, h⟩
  have hml := ml
  have okz : okD 60 (.str z) = true := low_ok hz
  have ok0 : okD 60 (.str ("0" : Str)) = true := by decide +kernel
  have okm : okD 60 (.str ("-" : Str)) = true := by decide +kernel
  have key : ∀ F : Str, F = ⟨(figs z).toArray⟩ → t_lnum_rest { nx := fun _ C' => R .non C', rt := R } [some (.str z), some (.str F), none] C := by
    rintro F rfl
    unfold t_lnum_rest
    have hfl := figs_len z
    have eF : (⟨(figs z).toArray⟩ : Str).length = (figs z).length := rfl
    walk_at "dl"
    rw [oLen_str (by rw [eF]; omega), eF]
    walk_at "dl"
    unfold numD numOf at h
    by_cases h1 : 1 ≤ (figs z).length
    · rw [if_pos (by rw [decide_eq_true_eq]; omega)]
      by_cases h2 : (figs z).length ≤ 2
      · rw [if_neg (by simp; omega)]
        refine lc_filter (fun d => match d with | .str c => !strIn c ("0123456789" : Str) | _ => false) id (by rw [chars_len, eF]; omega) (fun d hd K hK => ?_) ?_
        · unfold chars at hd
          obtain ⟨c, _, rfl⟩ := List.mem_map.mp hd
          walk_at "dl"
          refine ⟨strIn ⟨#[c]⟩ ("0123456789" : Str), by simp [inO, DL.strOf], ?_⟩
          dsimp only [id] at hK ⊢
          cases hs : strIn ⟨#[c]⟩ ("0123456789" : Str) with
          | true =>
            simp only [hs, Bool.not_true, Bool.false_eq_true, if_false] at hK ⊢
            exact ⟨_, rfl, hK⟩
          | false =>
            simp only [hs, Bool.not_false, if_true] at hK ⊢
            exact ⟨_, rfl, hK⟩
        · rw [List.map_id]
          have ea : ((chars ⟨(figs z).toArray⟩).filter fun d => match d with | .str c => !strIn c ("0123456789" : Str) | _ => false).isEmpty = (figs z).all isFig := by
            unfold chars
            have : ∀ l : List Nat, (∀ c ∈ l, c ≤ 122) → ((l.map fun c => D.str ⟨#[c]⟩).filter fun d => match d with | D.str c => !strIn c ("0123456789" : Str) | _ => false).isEmpty = l.all isFig := fun l hl => by
              induction l with
              | nil => rfl
              | cons a l ih =>
                have ih := ih fun c hc => hl c (by simp [hc])
                have ea := fig_in a (List.mem_range.mpr (by have := hl a (by simp); omega))
                rw [List.map_cons, List.filter_cons, List.all_cons, ← ih]
                cases hs : isFig a with
                | true =>
                  rw [hs] at ea
                  simp only [ea, Bool.not_true, Bool.false_eq_true, if_false, Bool.true_and]
                | false =>
                  rw [hs] at ea
                  simp only [ea, Bool.not_false, if_true, Bool.false_and, List.isEmpty_cons]
            exact this _ fun c hc => hz c (figs_mem hc)
          generalize ((chars ⟨(figs z).toArray⟩).filter fun d => match d with | .str c => !strIn c ("0123456789" : Str) | _ => false) = bad at ea
          rw [oNe_nil (C := C) (x := .lst bad) (y := .lst []) rfl rfl, ea]
          cases ef : (figs z).all isFig with
          | false =>
            rw [ef] at h
            walk_at "dl"
            simp only [h1, h2, decide_true, Bool.true_and, Bool.false_eq_true, if_false, Bool.and_false] at h
            exact h
          | true =>
            rw [ef] at h
            simp only [h1, h2, decide_true, Bool.true_and, if_true, Bool.and_true] at h
            obtain ⟨n, hn⟩ := num_val h1 hl ef
            rw [hn] at h
            walk_at "dl"
            rw [oIx_str (by rw [eF]; omega)]
            cases ec : figs z with
            | nil => rw [ec] at h1; simp at h1
            | cons a l =>
              rw [ec] at h
              have ha : a ≤ 122 := hz a (figs_mem (by rw [ec]; simp))
              refine ⟨.str ⟨#[a]⟩, by show (atI (a :: l) 0).map _ = _; rw [atI_0]; rfl, ?_⟩
              have oka : okD 60 (.str ⟨#[a]⟩) = true := low_ok (l := [a]) (by simpa using ha)
              rw [eqS oka ok0]
              have e0 : ((⟨#[a]⟩ : Str) == ("0" : Str)) = decide (a = 48) := by
                have e48 : ("0" : Str) = ⟨#[48]⟩ := by decide +kernel
                rw [e48, Bool.eq_iff_iff, beq_iff_eq, decide_eq_true_eq]
                exact ⟨fun e => by simpa using e, fun e => by rw [e]⟩
              rw [e0]
              have fin : oIntS [.str z] C R ↔ R (.int n) C := ⟨by rintro ⟨a, m, e, hm, _, q⟩; cases e; rw [hn] at hm; cases hm; exact q, fun q => ⟨z, n, rfl, hn, by omega, q⟩⟩
              by_cases ha : a = 48
              · subst ha
                rw [decide_eq_true rfl]
                walk_at "dl"
                rw [neS okz ok0]
                by_cases hz0 : z = ("0" : Str)
                · rw [if_neg (by simp [hz0])] at h
                  rw [show (z == ("0" : Str)) = true by simpa using hz0]
                  walk_at "dl"
                  exact fin.mpr h
                · rw [if_pos ⟨rfl, hz0⟩] at h
                  rw [show (z == ("0" : Str)) = false by simpa using hz0]
                  walk_at "dl"
                  exact h
              · rw [if_neg (by simp [ha])] at h
                rw [decide_eq_false ha]
                walk_at "dl"
                exact fin.mpr h
      · rw [if_pos (by simp; omega)]
        simp only [h2, decide_false, Bool.and_false, Bool.false_and, Bool.false_eq_true, if_false] at h
        exact h
    · rw [if_neg (by rw [decide_eq_true_eq]; omega)]
      simp only [h1, decide_false, Bool.false_and, Bool.false_eq_true, if_false] at h
      exact h
  show dSeq (dAsg _ _) t_lnum_rest _ _ _
  walk_at "dl"
  refine ⟨.str (cutS z none (some 1)), if_pos (by omega), ?_⟩
  rw [cutS_one, eqS (low_ok fun c hc => hz c (List.mem_of_mem_take hc)) okm, one_minus]
  have hm := figs_mk z
  by_cases hs : (cl z).head? = some 45
  · rw [if_pos hs] at hm
    rw [decide_eq_true hs]
    walk_at "dl"
    refine ⟨_, if_pos (by omega), ?_⟩
    rw [show (some 1 : Option Int) = some ((1 : Nat) : Int) from rfl, cutS_drop]
    exact key _ hm.symm
  · rw [if_neg hs] at hm
    rw [decide_eq_false hs]
    walk_at "dl"
    exact key _ hm.symm
theorem let_in : ∀ a ∈ List.range 123, ((!decide ([a] < cl ("A" : Str))) && (!decide (cl ("Z" : Str) < [a]))) = isBlankD (.str ⟨#[a]⟩) := by decide +kernel
theorem pm_in : ∀ b ∈ List.range 123, strIn ⟨#[b]⟩ ("+-" : Str) = decide (b = 43 ∨ b = 45) := by decide +kernel
def negM (l : List Nat) : Option Int := match numOf ⟨(45 :: l).toArray⟩ with
  | some k => if k < 0 then some k else none
  | none => none
def posM (l : List Nat) : Option Int := match numOf ⟨l.toArray⟩ with
  | some k => if 0 < k then some (0 - k) else none
  | none => none
theorem negT : ∀ a ∈ List.range 10, negM [48 + a] = posM [48 + a] ∧ negM [45, 48 + a] = posM [45, 48 + a] ∧ ∀ b ∈ List.range 10, negM [48 + a, 48 + b] = posM [48 + a, 48 + b] ∧ negM [45, 48 + a, 48 + b] = posM [45, 48 + a, 48 + b] := by decide +kernel
theorem neg_pos (l : List Nat) : negM l = posM l := by
  have lst : ∀ {l m : List Nat}, (⟨l.toArray⟩ : Str) = ⟨m.toArray⟩ → l = m := fun h => by
    have := congrArg cl h
    exact this
  cases e1 : numOf ⟨l.toArray⟩ with
  | some k =>
    obtain ⟨a, ha, hz⟩ := num_shape e1
    rcases hz with (h | h) | ⟨b, hb, h | h⟩
    · rw [lst (m := [48 + a]) h]; exact (negT a ha).1
    · rw [lst (m := [45, 48 + a]) h]; exact (negT a ha).2.1
    · rw [lst (m := [48 + a, 48 + b]) h]; exact ((negT a ha).2.2 b hb).1
    · rw [lst (m := [45, 48 + a, 48 + b]) h]; exact ((negT a ha).2.2 b hb).2
  | none =>
    cases e2 : numOf ⟨(45 :: l).toArray⟩ with
    | none => unfold negM posM; rw [e1, e2]
    | some k =>
      obtain ⟨a, ha, hz⟩ := num_shape e2
      rcases hz with (h | h) | ⟨b, hb, h | h⟩
      · have := lst (m := [48 + a]) h
        have := (List.cons.inj this).1
        omega
      · obtain rfl := (List.cons.inj (lst (m := [45, 48 + a]) h)).2
        exact (negT a ha).1
      · have := lst (m := [48 + a, 48 + b]) h
        have := (List.cons.inj this).1
        omega
      · obtain rfl := (List.cons.inj (lst (m := [45, 48 + a, 48 + b]) h)).2
        exact ((negT a ha).2.2 b hb).1
theorem ite2 {p q : Bool} {X Y : Prop} : (if (!p) = true then (if (!q) = true then X else Y) else Y) ↔ (if ((!p) && (!q)) = true then X else Y) := by
  cases p <;> cases q <;> simp
theorem rd__law_part_of : ∀ ds C R, a__law_part_of ds C R → t__law_part_of a__law_number_of { nx := fun _ C' => R .non C', rt := R } (dstart ["_law_word_here", "_law_number", "_law_more_here"] ds) C := by
  rintro ds C R ⟨z, rfl, hl, hz, h⟩
  unfold t__law_part_of
  have hml := ml
  walk_at "dl"
  refine ⟨z, rfl, hl, hz, ?_⟩
  unfold partOf at h
  unfold numD
  have okz : okD 60 (.str z) = true := low_ok hz
  cases en : numOf z with
  | some n =>
    rw [en] at h
    simp only [DL.isNon]
    walk_at "dl"
    exact h
  | none =>
    rw [en] at h
    simp only [DL.isNon]
    walk_at "dl"
    rw [oLen_str (by omega)]
    walk_at "dl"
    have hll := zl_len z
    by_cases h3 : 2 < z.length
    · rw [if_pos (by simp; omega)]
      obtain ⟨a, b, c, r, ec⟩ : ∃ a b c r, cl z = a :: b :: c :: r := by
        cases e1 : cl z with
        | nil => rw [e1] at hll; simp at hll; omega
        | cons a l =>
          cases l with
          | nil => rw [e1] at hll; simp at hll; omega
          | cons b l =>
            cases l with
            | nil => rw [e1] at hll; simp at hll; omega
            | cons c r => exact ⟨a, b, c, r, rfl⟩
      rw [ec] at h
      dsimp only at h
      have ec' : z.cps.toList = a :: b :: c :: r := ec
      have hz' : ∀ x ∈ a :: b :: c :: r, x ≤ 122 := fun x hx => hz x (by rw [ec]; exact hx)
      have i0 : ∀ {C : Cells} {R : D → Cells → Prop}, oIx (.str z) (.int 0) C R = R (.str ⟨#[a]⟩) C := fun {C R} => by
        rw [oIx_str (by omega), ec', atI_0]
        exact propext ⟨by rintro ⟨d, e, q⟩; cases e; exact q, fun q => ⟨_, rfl, q⟩⟩
      have i1 : ∀ {C : Cells} {R : D → Cells → Prop}, oIx (.str z) (.int 1) C R = R (.str ⟨#[b]⟩) C := fun {C R} => by
        rw [oIx_str (by omega), ec', atI_1]
        exact propext ⟨by rintro ⟨d, e, q⟩; cases e; exact q, fun q => ⟨_, rfl, q⟩⟩
      have okb : okD 60 (.str ⟨#[b]⟩) = true := low_ok (l := [b]) (by simpa using hz' b (by simp))
      have okp : okD 60 (.str ("+" : Str)) = true := by decide +kernel
      have e43 : ((⟨#[b]⟩ : Str) == ("+" : Str)) = decide (b = 43) := by
        have ep : ("+" : Str) = ⟨#[43]⟩ := by decide +kernel
        rw [ep, Bool.eq_iff_iff, beq_iff_eq, decide_eq_true_eq]
        exact ⟨fun e => by simpa using e, fun e => by rw [e]⟩
      have la := let_in a (List.mem_range.mpr (by have := hz' a (by simp); omega))
      have lb := pm_in b (List.mem_range.mpr (by have := hz' b (by simp); omega))
      rw [i0]
      simp only [oLe_str]
      walk_at "dl"
      refine ite2.mpr ?_
      rw [show ((!decide ([a] < ("A" : Str).cps.toList)) && (!decide (("Z" : Str).cps.toList < [a]))) = isBlankD (.str ⟨#[a]⟩) from la]
      cases eb : isBlankD (.str ⟨#[a]⟩) with
      | false =>
        rw [if_neg (by rw [eb]; simp)] at h
        rw [if_neg (by simp)]
        exact h
      | true =>
        rw [if_pos rfl, i1, oIn_str, lb]
        by_cases hb : b = 43 ∨ b = 45
        · rw [if_pos ⟨eb, hb⟩] at h
          rw [decide_eq_true hb]
          walk_at "dl"
          refine ⟨_, if_pos (by omega), ?_⟩
          rw [show (some 2 : Option Int) = some ((2 : Nat) : Int) from rfl, cutS_drop, ec, show (a :: b :: c :: r).drop 2 = c :: r from rfl]
          refine ⟨_, rfl, ?_, fun x hx => hz' x (by have hx : x ∈ c :: r := hx; simp at hx ⊢; exact .inr (.inr hx)), ?_⟩
          · show (c :: r).length ≤ 100
            rw [ec] at hll
            simp only [List.length_cons] at hll ⊢
            omega
          show (fun x C1 => _) (numD ⟨(c :: r).toArray⟩) C
          unfold numD
          by_cases hb43 : b = 43
          · rw [if_pos hb43] at h
            cases en2 : numOf ⟨(c :: r).toArray⟩ with
            | none =>
              rw [en2] at h
              simp only [DL.isNon]
              walk_at "dl"
              exact h
            | some k =>
              rw [en2] at h
              simp only [DL.isNon]
              walk_at "dl"
              have h : R (if decide (b = 43) = decide (0 ≤ k) then D.tup [D.str ⟨#[a]⟩, D.int k] else D.str z) C := h
              by_cases hk : 0 ≤ k
              · rw [if_pos (by rw [decide_eq_true hb43, decide_eq_true hk])] at h
                rw [decide_eq_true hk]
                walk_at "dl"
                rw [i1, eqS okb okp, e43, decide_eq_true hb43]
                walk_at "dl"
                rw [i0, i1, eqS okb okp, e43, decide_eq_true hb43]
                walk_at "dl"
                exact h
              · rw [if_neg (by rw [decide_eq_true hb43, decide_eq_false hk]; simp)] at h
                rw [decide_eq_false hk]
                walk_at "dl"
                exact h
          · have hb45 : b = 45 := by omega
            subst hb45
            rw [if_neg hb43] at h
            have hn := neg_pos (c :: r)
            have h : R (match negM (c :: r) with | some k => .tup [.str ⟨#[a]⟩, .int k] | none => .str z) C := by
              unfold negM
              cases e3 : numOf ⟨(45 :: c :: r).toArray⟩ with
              | none => rw [e3] at h; exact h
              | some k =>
                rw [e3] at h
                have h : R (if decide ((45 : Nat) = 43) = decide (0 ≤ k) then D.tup [D.str ⟨#[a]⟩, D.int k] else D.str z) C := h
                dsimp only
                by_cases hk : k < 0
                · rw [if_pos hk]
                  rw [if_pos (by rw [decide_eq_false (show ¬ 0 ≤ k by omega)]; rfl)] at h
                  exact h
                · rw [if_neg hk]
                  rw [if_neg (by rw [decide_eq_true (show 0 ≤ k by omega)]; decide)] at h
                  exact h
            rw [hn] at h
            unfold posM at h
            cases en2 : numOf ⟨(c :: r).toArray⟩ with
            | none =>
              rw [en2] at h
              simp only [DL.isNon]
              walk_at "dl"
              exact h
            | some k =>
              rw [en2] at h
              simp only [DL.isNon]
              dsimp only at h
              walk_at "dl"
              by_cases hk0 : 0 ≤ k
              · rw [decide_eq_true hk0]
                walk_at "dl"
                rw [i1, eqS okb okp, e43, decide_eq_false (by decide)]
                walk_at "dl"
                by_cases hk : 0 < k
                · rw [if_pos hk] at h
                  rw [decide_eq_true hk]
                  walk_at "dl"
                  rw [i0, i1, eqS okb okp, e43, decide_eq_false (by decide)]
                  walk_at "dl"
                  exact h
                · rw [if_neg hk] at h
                  rw [decide_eq_false hk]
                  walk_at "dl"
                  exact h
              · rw [if_neg (by omega)] at h
                rw [decide_eq_false hk0]
                walk_at "dl"
                exact h
        · rw [if_neg (fun k => hb k.2)] at h
          rw [decide_eq_false hb]
          walk_at "dl"
          exact h
    · rw [if_neg (by simp; omega)]
      cases e1 : cl z with
      | nil => rw [e1] at h; exact h
      | cons a l =>
        cases l with
        | nil => rw [e1] at h; exact h
        | cons b l =>
          cases l with
          | nil => rw [e1] at h; exact h
          | cons c r => rw [e1] at hll; simp at hll; omega
theorem eqv_tnil (qs : List D) : D.eqv (.tup qs) (.tup []) = qs.isEmpty := by
  cases qs with
  | nil => decide +kernel
  | cons a l => simp [D.eqv, D.eqvL]
theorem notz_all {z : Str} (h : isNotZ z = true) : testZ z = false ∧ (z == TAKES) = false ∧ tellerD z = false := by
  unfold isNotZ at h
  rw [Bool.or_eq_true, beq_iff_eq, beq_iff_eq] at h
  rcases h with rfl | rfl <;> decide +kernel
theorem test_all {z : Str} (h : testZ z = true) : isNotZ z = false ∧ (z == TAKES) = false ∧ tellerD z = false := by
  unfold testZ at h
  rw [Bool.or_eq_true, Bool.or_eq_true, beq_iff_eq, beq_iff_eq, beq_iff_eq] at h
  rcases h with (rfl | rfl) | rfl <;> decide +kernel
theorem rd__law_more : ∀ ds C R, a__law_more ds C R → t__law_more { nx := fun _ C' => R .non C', rt := R } (dstart ["_law_rule_here", "_law_head", "_law_parts", "_law_name", "_law_rank", "_law_wants", "_law_deeds"] ds) C := by
  rintro ds C R ⟨⟨nm, rk, ws, qs⟩, h0, ps, rfl, hok, hpl, hw, hq, hqo, hpd, h⟩
  dsimp only at hw hq hqo
  have hml := ml
  unfold t__law_more
  show dSeq (dAsg _ (gdTup 4 _)) _ _ _ _
  unfold reD
  walk_at "dl"
  unfold takeIn at h
  dsimp only at h
  have okT : okD 60 (.str TAKES) = true := by decide +kernel
  have okn : okD 60 (D.tup []) = true := rfl
  have eqn : ∀ {C : Cells} {R : D → Cells → Prop}, oEq (.tup qs) (.tup []) C R = R (.bl qs.isEmpty) C := fun {C R} => by
    rw [oEq_ok hqo okn, eqv_tnil]
  rw [isnot_in]
  walk_at "dl"
  cases ei : isNotZ h0 with
  | true =>
    obtain ⟨et, ek, el⟩ := notz_all ei
    rw [if_pos ei] at h
    rw [if_pos rfl, eqn]
    cases hqe : qs.isEmpty with
    | true =>
      rw [if_pos hqe] at h
      walk_at "dl"
      rw [oAdd_tup (by simp; omega)]
      exact h
    | false =>
      rw [if_neg (by rw [hqe]; simp)] at h
      walk_at "dl"
      rw [tests_in, et]
      walk_at "dl"
      rw [eqS hok okT, ek]
      walk_at "dl"
      rw [tell_in, el]
      walk_at "dl"
      exact h
  | false =>
    rw [if_neg (by rw [ei]; simp)] at h
    rw [if_neg (by simp), tests_in]
    walk_at "dl"
    cases et : testZ h0 with
    | true =>
      obtain ⟨_, ek, el⟩ := test_all et
      rw [if_pos et] at h
      rw [if_pos rfl, eqn]
      cases hqe : qs.isEmpty with
      | true =>
        walk_at "dl"
        by_cases hl2 : ps.length = 2
        · rw [if_pos ⟨hqe, hl2⟩] at h
          rw [if_pos (by simp [hl2])]
          rw [oAdd_tup (by simp; omega), oAdd_tup (by simp; omega)]
          exact h
        · rw [if_neg (fun k => hl2 k.2)] at h
          rw [if_neg (by simp; omega)]
          rw [eqS hok okT, ek]
          walk_at "dl"
          rw [tell_in, el]
          walk_at "dl"
          exact h
      | false =>
        rw [if_neg (fun k => by rw [hqe] at k; cases k.1)] at h
        walk_at "dl"
        rw [eqS hok okT, ek]
        walk_at "dl"
        rw [tell_in, el]
        walk_at "dl"
        exact h
    | false =>
      rw [if_neg (by rw [et]; simp)] at h
      rw [if_neg (by simp), eqS hok okT]
      walk_at "dl"
      by_cases hT : h0 = TAKES
      · rw [if_pos hT] at h
        subst hT
        have el : tellerD TAKES = false := by decide +kernel
        rw [if_pos (by rw [beq_self_eq_true])]
        by_cases hl1 : ps.length = 1
        · obtain ⟨d, rfl⟩ := List.length_eq_one_iff.mp hl1
          rw [if_pos (by simp)]
          refine ⟨d, rfl, ?_⟩
          rcases hpd d (by simp) with ⟨k, rfl⟩ | ⟨l, rfl⟩ | ⟨z, rfl⟩
          · rw [oIsi_int rfl]
            refine ⟨true, rfl, ?_⟩
            rw [if_pos rfl]
            refine ⟨.int k, rfl, ?_⟩
            walk_at "dl"
            dsimp only at h
            by_cases hk : 0 ≤ k
            · rw [if_pos hk] at h
              rw [if_pos (by simpa using hk)]
              walk_at "dl"
              rw [oAdd_tup (by simp; omega)]
              exact h
            · rw [if_neg hk] at h
              rw [if_neg (by simpa using hk), tell_in, el]
              walk_at "dl"
              exact h
          · rw [oIsi_int rfl]
            refine ⟨false, rfl, ?_⟩
            rw [if_neg (by simp), tell_in, el]
            walk_at "dl"
            exact h
          · rw [oIsi_int rfl]
            refine ⟨false, rfl, ?_⟩
            rw [if_neg (by simp), tell_in, el]
            walk_at "dl"
            exact h
        · rw [if_neg (by simp; omega), tell_in, el]
          walk_at "dl"
          have hn : R .non C := by
            match ps, hl1 with
            | [], _ => exact h
            | [d], hl1 => exact absurd rfl hl1
            | a :: b :: l, _ => cases a <;> exact h
          exact hn
      · rw [if_neg hT] at h
        rw [if_neg (by simpa using hT), tell_in]
        walk_at "dl"
        cases etl : tellerD h0 with
        | true =>
          rw [if_pos etl] at h
          rw [if_pos rfl, oAdd_tup (by simp; omega)]
          exact h
        | false =>
          rw [if_neg (by rw [etl]; simp)] at h
          rw [if_neg (by simp)]
          exact h
def CU (u v : Addr) (xs ys : List D) (C : Cells) : Cells := updC (updC C u (.lst xs)) v (.lst ys)
theorem cu_u {u v : Addr} {xs ys : List D} {C : Cells} (h : u ≠ v) : CU u v xs ys C u = some (.lst xs) := by
  unfold CU
  rw [DL.updC_ne h, DL.updC_at]
theorem cu_v {u v : Addr} {xs ys : List D} {C : Cells} : CU u v xs ys C v = some (.lst ys) := DL.updC_at
theorem cu_su {u v : Addr} {xs ys zs : List D} {C : Cells} (h : u ≠ v) : updC (CU u v xs ys C) u (.lst zs) = CU u v zs ys C := by
  funext a
  unfold CU
  by_cases hu : a = u
  · subst hu
    rw [DL.updC_at, DL.updC_ne h, DL.updC_at]
  · rw [DL.updC_ne hu]
    by_cases hv : a = v
    · subst hv
      rw [DL.updC_at, DL.updC_at]
    · rw [DL.updC_ne hv, DL.updC_ne hv, DL.updC_ne hu, DL.updC_ne hu]
theorem cu_sv {u v : Addr} {xs ys zs : List D} {C : Cells} : updC (CU u v xs ys C) v (.lst zs) = CU u v xs zs C := DL.updC_upd
theorem cu_sub {u v : Addr} {xs ys : List D} {C : Cells} (hu : C u = none) (hv : C v = none) : ∀ a c, C a = some c → CU u v xs ys C a = some c := fun a c e => by
  unfold CU
  rw [DL.updC_ne (by rintro rfl; rw [hv] at e; cases e), DL.updC_ne (by rintro rfl; rw [hu] at e; cases e)]
  exact e
def t_rd_c (a__law_more : ASp) : DS := (dIfS (dAnd (dTest (dVar 8)) (dAnd (dTest (dOp oNe (dVar 1) (dLst (dNil)))) (dTest (dOp oNe (dVar 5) (dC (.str "rule")))))) (dSeq (dAsg (dCall a__law_more [] (dCons (dOp oIx (dVar 1) (dUn oNeg (dC (.int 1)))) (dCons (dVar 5) (dCons (dVar 7) (dNil))))) (gdSubL (dVar 1) (dUn oNeg (dC (.int 1))))) (dAsg (dOp oIsNot (dOp oIx (dVar 1) (dUn oNeg (dC (.int 1)))) (dC .non)) (gdName 8))) (dAsg (dC (.bl false)) (gdName 8)))
def t_rd_b (a__law_more : ASp) : DS := (dIfS (dAnd (dTest (dVar 8)) (dAnd (dTest (dOp oEq (dVar 5) (dC (.str "rule")))) (dAnd (dTest (dOp oEq (dFn oLen (dCons (dVar 6) (dNil))) (dC (.int 2)))) (dTest (dFn oIsi (dCons (dOp oIx (dVar 7) (dC (.int 1))) (dCons (dC (.ty "int")) (dNil)))))))) (dDrop (dMtL omAppend (dVar 1) (dCons (dTup (dCons (dOp oIx (dVar 6) (dC (.int 0))) (dCons (dOp oIx (dVar 7) (dC (.int 1))) (dCons (dTup (dNil)) (dCons (dTup (dNil)) (dNil)))))) (dNil)))) (t_rd_c a__law_more))
def t_rd_a (a__law_more : ASp) : DS := (dIfS (dAnd (dTest (dVar 8)) (dTest (dOp oEq (dVar 5) (dC (.str "thing"))))) (dDrop (dMtL omAppend (dVar 2) (dCons (dVar 7) (dNil)))) (t_rd_b a__law_more))
def t_rd_e : DS := (dIfS (dNot (dTest (dVar 8))) (dRet (dTup (dCons (dC (.str "text")) (dCons (dVar 4) (dNil))))) (dNext))
theorem slice1 {C : Cells} {x : D} {xs : List D}   : slOk C (.lst (x :: xs)) (some 1) none = some (.lst xs) := by
  simp [slOk, lstOf, cutL_1]
theorem any_empty {tl : List Str} : ((tl.map D.str).any fun z => D.eqv z (.str ("" : Str))) = decide (("" : Str) ∈ tl) := by
  rw [Bool.eq_iff_iff, List.any_eq_true, decide_eq_true_eq]
  constructor
  · rintro ⟨x, hx, e⟩
    obtain ⟨d, hd, rfl⟩ := List.mem_map.mp hx
    have : (d == ("" : Str)) = true := e
    rw [beq_iff_eq] at this
    exact this ▸ hd
  · intro hm
    exact ⟨_, List.mem_map.mpr ⟨_, hm, rfl⟩, by decide +kernel⟩
theorem rd__law_read : ∀ ds C R, a__law_read ds C R → t__law_read a__law_part_of a__law_more { nx := fun _ C' => lss R .non C', rt := lss R } (dstart ["_law_text", "_law_rules_here", "_law_things", "_law_lines", "_law_k", "_law_head", "_law_rest", "_law_parts", "_law_good", "_law_word_here"] ds) C := by
  rintro ds C R ⟨z, rfl, hz, h⟩
  have hml := ml
  have hrows := hz.rows
  generalize htg : runS startS 0 (rowsZ z) = tg at h
  unfold t__law_read
  walk_at "dl"
  intro u hu v hv
  have huv : u ≠ v := by rintro rfl; rw [DL.updC_at] at hv; cases hv
  have hv0 : C v = none := by rw [DL.updC_ne huv.symm] at hv; exact hv
  show _ ∧ _
  walk_at "dl"
  have lfl : (LF.length == 0) = false := by decide +kernel
  have spl : (SP.length == 0) = false := by decide +kernel
  have hzl := hz.len
  refine ⟨⟨_, rfl⟩, _, LF, rfl, rfl, lfl, by omega, ?_⟩
  walk_at "dl"
  rw [List.length_map]
  refine ⟨by omega, by omega, ?_⟩
  obtain ⟨Pv, hPv⟩ : ∃ Pv : Nat → DSt → Cells → Prop, ∀ i δ C', Pv i δ C' ↔ ∃ o4 o5 o6 o7 o8 s, δ = [some (.str z), some (.ref u), some (.ref v), some (.lst ((Txt.split z LF).map .str)), o4, o5, o6, o7, o8, none] ∧ C' = CU u v (s.rl.map reD) s.ts C ∧ runS s i ((rowsZ z).drop i) = tg ∧ Sz i s ∧ GoodS s := ⟨_, fun _ _ _ => Iff.rfl⟩
  refine for_rng Pv ((hPv _ _ _).mpr ⟨none, none, none, none, none, startS, rfl, rfl, htg, ⟨Nat.le_refl _, Nat.le_refl _, by simp [startS]⟩, ⟨by simp [startS], by simp [startS]⟩⟩) (fun i δ C' hi hv => ?_) (fun δ C' hv => ?_)
  · obtain ⟨o4, o5, o6, o7, o8, s, rfl, rfl, hrun, hsz, hg⟩ := (hPv _ _ _).mp hv
    have hi : i < (Txt.split z LF).length := by omega
    obtain ⟨l, el, hlm, hdr, hil⟩ := rows_at (z := z) (i := i) (d := .str (Txt.split z LF)[i]) (by rw [List.getElem?_map, List.getElem?_eq_getElem hi]; rfl)
    obtain ⟨hl1, hl2, hl3⟩ := hz.row l hlm
    have eli : ((Txt.split z LF).map D.str)[i]? = some (.str l) := by rw [List.getElem?_map, List.getElem?_eq_getElem hi, ← el]; rfl
    rw [hdr] at hrun
    unfold runS at hrun
    obtain ⟨s1, s2, s3⟩ := id hsz
    generalize hws : Txt.split l SP = ws at *
    obtain ⟨h0, tl, rfl⟩ : ∃ h0 tl, ws = h0 :: tl := by cases ws with | nil => exact absurd hws (split_ne _ _) | cons a b => exact ⟨a, b, rfl⟩
    have hz0 := word_ok (hl3 h0 (by simp))
    have htw : ∀ w ∈ tl, wordOk w := fun w hm => hl3 w (by simp [hm])
    have htlen : tl.length ≤ 500 := by rw [List.length_cons] at hl2; omega
    generalize hC1 : CU u v (s.rl.map reD) s.ts C = C1 at *
    have okT : okD 60 (.str THINGS) = true ∧ okD 60 (.str RULES) = true := by decide +kernel
    have hsub : ∀ a c, C a = some c → C1 a = some c := hC1 ▸ cu_sub hu hv0
    have no : ∀ N : DEnds, N.nx = Pv (i + 1) → N.rt = lss R → rtakeS s (h0 :: tl) = none → ∀ o5 o6 o7 C2, (∀ a c, C a = some c → C2 a = some c) → t_rd_e N [some (.str z), some (.ref u), some (.ref v), some (.lst ((Txt.split z LF).map .str)), some (.int (0 + (i : Int))), o5, o6, o7, some (.bl false), none] C2 := fun N n1 n2 hn o5 o6 o7 C2 hs => by
      unfold t_rd_e
      walk_at "dl"
      rw [n2, Int.zero_add]
      rw [hn] at hrun
      dsimp only at hrun
      rw [← hrun] at h
      exact ⟨C, hs, h⟩
    have yes : ∀ N : DEnds, N.nx = Pv (i + 1) → ∀ s1, rtakeS s (h0 :: tl) = some s1 → ∀ o5 o6 o7 C2, C2 = CU u v (s1.rl.map reD) s1.ts C → t_rd_e N [some (.str z), some (.ref u), some (.ref v), some (.lst ((Txt.split z LF).map .str)), some (.int (0 + (i : Int))), o5, o6, o7, some (.bl true), none] C2 := fun N n1 s1 hn o5 o6 o7 C2 hs => by
      unfold t_rd_e
      walk_at "dl"
      rw [n1]
      rw [hn] at hrun
      dsimp only at hrun
      obtain ⟨hs', hg'⟩ := take_good hl3 hl2 hn hsz hg
      exact (hPv _ _ _).mpr ⟨_, _, _, _, _, s1, rfl, hs, hrun, hs', hg'⟩
    have tail : ∀ (N : DEnds), N.nx = Pv (i + 1) → N.rt = lss R → ∀ b : Bool, (b = true ↔ (tl.isEmpty = false ∧ ("" : Str) ∉ tl ∧ (s.ts.isEmpty = true ∨ h0 = THINGS))) →
        dSeq (t_rd_a a__law_more) t_rd_e N [some (.str z), some (.ref u), some (.ref v), some (.lst ((Txt.split z LF).map .str)), some (.int (0 + (i : Int))), some (.str h0), some (.lst (tl.map .str)), some (.tup (tl.map partOf)), some (.bl b), none] C1 := by
      intro N n1 n2 b hb
      unfold t_rd_a t_rd_b
      cases b with
      | false =>
        unfold t_rd_c
        walk_at "dl"
        refine no N n1 n2 ?_ _ _ _ C1 hsub
        unfold rtakeS
        dsimp only
        have hb : ¬ (tl.isEmpty = false ∧ ("" : Str) ∉ tl ∧ (s.ts.isEmpty = true ∨ h0 = THINGS)) := fun k => by have := hb.mpr k; cases this
        by_cases h1 : tl.isEmpty = true ∨ ("" : Str) ∈ tl
        · rw [if_pos h1]
        · rw [if_neg h1]
          have h2 : ¬ (s.ts.isEmpty = true ∨ h0 = THINGS) := fun k => hb ⟨by cases e : tl.isEmpty with | false => rfl | true => exact absurd (.inl e) h1, fun k2 => h1 (.inr k2), k⟩
          rw [if_neg (fun k => h2 (.inr k)), if_pos (by cases e : s.ts.isEmpty with | false => rfl | true => exact absurd (.inl e) h2)]
      | true =>
        obtain ⟨hem, hne, hor⟩ := hb.mp rfl
        have hgd : ¬ (tl.isEmpty = true ∨ ("" : Str) ∈ tl) := by rw [hem]; simp [hne]
        walk_at "dl"
        rw [eqS hz0 okT.1]
        by_cases hT : h0 = THINGS
        · rw [show (h0 == THINGS) = true by simpa using hT]
          walk_at "dl"
          refine ⟨isLst_of (hC1 ▸ cu_v), ?_⟩
          rw [app_of (hC1 ▸ cu_v)]
          refine ⟨by omega, yes N n1 ⟨s.rl, s.ts ++ [.tup (tl.map partOf)]⟩ ?_ _ _ _ _ ?_⟩
          · unfold rtakeS
            dsimp only
            rw [if_neg hgd, if_pos hT]
          · rw [← hC1, cu_sv]
        · rw [show (h0 == THINGS) = false by simpa using hT]
          walk_at "dl"
          have hts : s.ts.isEmpty = true := hor.elim id fun k => absurd k hT
          rw [eqS hz0 okT.2]
          have ert : rtakeS s (h0 :: tl) = if h0 = RULES then (ruleOf tl).map fun e => ⟨s.rl ++ [e], s.ts⟩ else match s.rl.getLast? with
              | none => none
              | some e => (takeIn e h0 (tl.map partOf)).map fun e' => ⟨s.rl.dropLast ++ [e'], s.ts⟩ := by
            unfold rtakeS
            dsimp only
            rw [if_neg hgd, if_neg hT, if_neg (by rw [hts]; simp)]
            all_goals (by_cases hR : h0 = RULES
                       · simp only [hR, if_true]
                       · simp only [hR, if_false]
                         cases s.rl.getLast? <;> rfl)
          have hfu : C1 u = some (.lst (s.rl.map reD)) := hC1 ▸ cu_u huv
          by_cases hR : h0 = RULES
          · rw [if_pos hR] at ert
            rw [show (h0 == RULES) = true by simpa using hR]
            have third : ruleOf tl = none → t_rd_c a__law_more { N with nx := t_rd_e N } [some (.str z), some (.ref u), some (.ref v), some (.lst ((Txt.split z LF).map .str)), some (.int (0 + (i : Int))), some (.str h0), some (.lst (tl.map .str)), some (.tup (tl.map partOf)), some (.bl true), none] C1 := fun hn => by
              rw [hn] at ert
              unfold t_rd_c
              walk_at "dl"
              rw [oNe_nil (lstOf_ref hfu) (rfl : lstOf C1 (.lst []) = some [])]
              cases hre : (s.rl.map reD).isEmpty with
              | true =>
                walk_at "dl"
                exact no N n1 n2 ert _ _ _ C1 hsub
              | false =>
                walk_at "dl"
                rw [neS hz0 okT.2, show (h0 == RULES) = true by simpa using hR]
                walk_at "dl"
                exact no N n1 n2 ert _ _ _ C1 hsub
            walk_at "dl"
            rw [List.length_map]
            by_cases hl2 : tl.length = 2
            · obtain ⟨nm, kz, rfl⟩ : ∃ nm kz, tl = [nm, kz] := match tl, hl2 with | [a, b], _ => ⟨a, b, rfl⟩
              rw [if_pos (by simp)]
              refine ⟨partOf kz, rfl, ?_⟩
              rw [oIsi_int (datD_dat (part_dat (htw kz (by simp))))]
              rcases part_shape kz with ⟨k, e, hk⟩ | ⟨a, n, e, ha⟩ | e
              · have e2 : ruleOf [nm, kz] = some (.str nm, .int k, [], []) := by
                  show (match [nm, kz], [partOf nm, partOf kz] with | [nm, _], [_, .int k] => some _ | _, _ => none) = _
                  rw [e]
                rw [e2] at ert
                rw [e]
                refine ⟨true, rfl, ?_⟩
                rw [if_pos rfl]
                refine ⟨isLst_of hfu, ?_⟩
                walk_at "dl"
                rw [e, app_of hfu]
                refine ⟨by rw [List.length_map]; omega, yes N n1 _ ert _ _ _ _ ?_⟩
                rw [← hC1, cu_su huv]
                show CU u v (s.rl.map reD ++ [reD (.str nm, .int k, [], [])]) _ C = CU u v ((s.rl ++ [_]).map reD) _ C
                rw [List.map_append]
                rfl
              · rw [e]
                refine ⟨false, rfl, ?_⟩
                rw [if_neg (by simp)]
                exact third (by show (match [nm, kz], [partOf nm, partOf kz] with | [nm, _], [_, .int k] => some _ | _, _ => none) = _; rw [e])
              · rw [e]
                refine ⟨false, rfl, ?_⟩
                rw [if_neg (by simp)]
                exact third (by show (match [nm, kz], [partOf nm, partOf kz] with | [nm, _], [_, .int k] => some _ | _, _ => none) = _; rw [e])
            · rw [if_neg (by simp; omega)]
              exact third (by
                match tl, hl2 with
                | [], _ => rfl
                | [_], _ => rfl
                | [_, _], hl2 => exact absurd rfl hl2
                | a :: b :: c :: l, _ => rfl)
          · rw [if_neg hR] at ert
            rw [show (h0 == RULES) = false by simpa using hR]
            walk_at "dl"
            unfold t_rd_c
            walk_at "dl"
            rw [oNe_nil (lstOf_ref hfu) (rfl : lstOf C1 (.lst []) = some [])]
            rcases List.eq_nil_or_concat s.rl with hnil | ⟨rl0, e1, hcon⟩
            · rw [hnil] at ert hfu ⊢
              walk_at "dl"
              exact no N n1 n2 ert _ _ _ C1 hsub
            · rw [List.concat_eq_append] at hcon
              have hmem : e1 ∈ s.rl := by rw [hcon]; simp
              have hge := hg.e e1 hmem
              have hse := s3 e1 hmem
              rw [hcon] at ert
              have e3 : (rl0 ++ [e1]).getLast? = some e1 := by simp
              have e4 : (rl0 ++ [e1]).dropLast = rl0 := by simp
              rw [e3, e4] at ert
              dsimp only at ert
              rw [show (s.rl.map reD).isEmpty = false by rw [hcon]; simp]
              walk_at "dl"
              rw [neS hz0 okT.2, show (h0 == RULES) = false by simpa using hR]
              walk_at "dl"
              have hfu2 : C1 u = some (.lst (rl0.map reD ++ [reD e1])) := by rw [hfu, hcon, List.map_append]; rfl
              rw [oNeg_int, oIx_ref hfu2]
              refine ⟨reD e1, by rw [show (-1 : Int) = -1 from rfl, atI_m1]; simp, ?_⟩
              refine ⟨e1, h0, tl.map partOf, rfl, hz0, by rw [List.length_map]; omega, by omega, by omega, datD_ok (datD_all (show 4 ≤ 60 by omega) (tup_dat hge.q (by omega))), fun d hd => ?_, ?_⟩
              · obtain ⟨w, hwm, rfl⟩ := List.mem_map.mp hd
                rcases part_shape w with ⟨n, e, _⟩ | ⟨a, n, e, _⟩ | e
                · exact .inl ⟨n, e⟩
                · exact .inr (.inl ⟨_, e⟩)
                · exact .inr (.inr ⟨_, e⟩)
              have hlen : (rl0.map reD ++ [reD e1]).length = rl0.length + 1 := by simp
              have hset : ∀ x : D, (rl0.map reD ++ [reD e1]).set rl0.length x = rl0.map reD ++ [x] := fun x => by
                rw [List.set_append_right _ _ (by simp)]
                simp
              have hix : ixN (rl0.map reD ++ [reD e1]).length (-1 : Int) = some rl0.length := by
                rw [hlen]
                unfold ixN
                simp
                omega
              have hC2 : ∀ x : D, updC C1 u (.lst (rl0.map reD ++ [x])) = CU u v (rl0.map reD ++ [x]) s.ts C := fun x => by rw [← hC1, cu_su huv]
              have go : ∀ x : D, (∀ C2, C2 = CU u v (rl0.map reD ++ [x]) s.ts C → t_rd_e N [some (.str z), some (.ref u), some (.ref v), some (.lst ((Txt.split z LF).map .str)), some (.int (0 + (i : Int))), some (.str h0), some (.lst (tl.map .str)), some (.tup (tl.map partOf)), some (.bl (!DL.isNon x)), none] C2) →
                  gdSubL (dVar 1) (dUn oNeg (dC (.int 1))) x [some (.str z), some (.ref u), some (.ref v), some (.lst ((Txt.split z LF).map .str)), some (.int (0 + (i : Int))), some (.str h0), some (.lst (tl.map .str)), some (.tup (tl.map partOf)), some (.bl true), none] C1
                    (dAsg (dOp oIsNot (dOp oIx (dVar 1) (dUn oNeg (dC (.int 1)))) (dC .non)) (gdName 8) { nx := t_rd_e N, rt := N.rt, bk := N.bk, ct := N.ct }) := fun x hx => by
                unfold gdSubL
                walk_at "dl"
                rw [oNeg_int]
                refine ⟨u, _, -1, _, rfl, rfl, hfu2, hix, ?_⟩
                rw [hset, hC2]
                walk_at "dl"
                rw [oNeg_int, oIx_ref (cu_u huv)]
                refine ⟨x, by rw [show (-1 : Int) = -1 from rfl, atI_m1]; simp, ?_⟩
                walk_at "dl"
                exact hx _ rfl
              refine go _ ?_
              cases hin : takeIn e1 h0 (tl.map partOf) with
              | none =>
                rw [hin] at ert
                intro C2 hC2'
                exact no N n1 n2 ert _ _ _ C2 (hC2' ▸ cu_sub hu hv0)
              | some e' =>
                rw [hin] at ert
                intro C2 hC2'
                refine yes N n1 _ ert _ _ _ C2 ?_
                rw [hC2']
                show _ = CU u v ((rl0 ++ [e']).map reD) _ C
                rw [List.map_append]
                rfl
    show gdName 4 _ _ _ fun δ2 C2 => dSeq _ (dSeq _ (dSeq _ (dSeq (t_rd_a a__law_more) t_rd_e))) _ δ2 C2
    walk_at "dl"
    have eat : atI ((Txt.split z LF).map D.str) (0 + (i : Int)) = some (.str l) := by rw [Int.zero_add, atI_nat]; exact eli
    refine ⟨.str l, eat, ⟨_, rfl⟩, l, SP, rfl, rfl, spl, by omega, ?_⟩
    rw [hws, List.map_cons]
    walk_at "dl"
    refine ⟨.str l, eat, ⟨_, rfl⟩, l, SP, rfl, rfl, spl, by omega, ?_⟩
    rw [hws, List.map_cons]
    walk_at "dl"
    refine ⟨.lst (tl.map .str), slice1, ?_⟩
    refine ⟨_, rfl, lc_map (fun d => match d with | .str w => partOf w | _ => .non) (by rw [List.length_map]; omega) (fun d hd K hK => ?_) ?_⟩
    · obtain ⟨w, hwm, rfl⟩ := List.mem_map.mp hd
      have hwo := htw w hwm
      walk_at "dl"
      exact ⟨w, rfl, hwo.1, hwo.2, hK⟩
    have eR : (tl.map D.str).map (fun d => match d with | .str w => partOf w | _ => .non) = tl.map partOf := by
      rw [List.map_map]
      rfl
    rw [eR, oTuple_def]
    refine ⟨tl.map partOf, rfl, ?_⟩
    rw [oNe_nil (C := C1) (x := .lst (tl.map .str)) (y := .lst []) rfl rfl, List.isEmpty_map]
    cases hem : tl.isEmpty with
    | true =>
      walk_at "dl"
      refine tail _ rfl rfl false ?_
      exact ⟨fun e => (by cases e), fun e => by rw [hem] at e; cases e.1⟩
    | false =>
      walk_at "dl"
      rw [oNotIn_eq, oIn_lst (show okD 60 (.str ("" : Str)) = true by decide +kernel) (List.all_eq_true.mpr fun x hx => by
        obtain ⟨d, hd, rfl⟩ := List.mem_map.mp hx
        exact word_ok (htw d hd)), any_empty]
      refine ⟨_, rfl, ?_⟩
      by_cases he : ("" : Str) ∈ tl
      · rw [decide_eq_true he]
        walk_at "dl"
        refine tail _ rfl rfl false ?_
        exact ⟨fun e => (by cases e), fun e => absurd he e.2.1⟩
      · rw [decide_eq_false he]
        walk_at "dl"
        rw [oEq_nil (lstOf_ref (hC1 ▸ cu_v)) (rfl : lstOf C1 (.lst []) = some [])]
        cases hte : s.ts.isEmpty with
        | true =>
          walk_at "dl"
          refine tail _ rfl rfl true ?_
          exact ⟨fun _ => ⟨hem, he, .inl hte⟩, fun _ => rfl⟩
        | false =>
          walk_at "dl"
          rw [eqS hz0 okT.1]
          refine tail _ rfl rfl (h0 == THINGS) ?_
          rw [beq_iff_eq]
          exact ⟨fun e => ⟨hem, he, .inr e⟩, fun e => e.2.2.elim (fun k => by rw [hte] at k; cases k) id⟩
  · obtain ⟨o4, o5, o6, o7, o8, s, rfl, rfl, hrun, hsz, hg⟩ := (hPv _ _ _).mp hv
    rw [List.drop_of_length_le (by unfold rowsZ; rw [List.length_map]; omega)] at hrun
    have hrun : Sum.inl s = tg := hrun
    rw [← hrun] at h
    walk_at "dl"
    rw [oTuple_def]
    refine ⟨s.rl.map reD, lstOf_ref (cu_u huv), ?_⟩
    exact ⟨updC C v (.lst s.ts), fun a c e => by
      unfold CU
      by_cases ha : a = v
      · subst ha
        rw [DL.updC_at] at e ⊢
        exact e
      · rw [DL.updC_ne ha] at e ⊢
        rw [DL.updC_ne (by rintro rfl; rw [hu] at e; cases e)]
        exact e, h v hv0⟩
theorem sumN_le : ∀ {l : List Nat} {m : Nat}, (∀ x ∈ l, x ≤ m) → l.sum ≤ l.length * m
  | [], m, _ => by simp
  | a :: l, m, h => by
    have h1 := h a (by simp)
    have h2 := sumN_le (l := l) (m := m) fun x hx => h x (by simp [hx])
    rw [List.sum_cons, List.length_cons, Nat.succ_mul]
    omega
theorem jl_mem {s c : Nat} : ∀ {l : List (List Nat)}, c ∈ jl s l → c = s ∨ ∃ x ∈ l, c ∈ x
  | [], h => by cases h
  | [x], h => .inr ⟨x, by simp, h⟩
  | x :: y :: r, h => by
    have h : c ∈ x ++ s :: jl s (y :: r) := h
    rcases List.mem_append.mp h with h | h
    · exact .inr ⟨x, by simp, h⟩
    · rcases List.mem_cons.mp h with h | h
      · exact .inl h
      · rcases jl_mem h with h | ⟨z, hz, h⟩
        · exact .inl h
        · exact .inr ⟨z, List.mem_cons_of_mem _ hz, h⟩
def lineT (ws : List Str) : Str := Txt.join SP ws
def textR (rows : List (List Str)) : Str := Txt.join LF (rows.map lineT)
theorem line_len {n : Nat} {ws : List Str} (h : RowW n ws) : (lineT ws).length ≤ 9 * n := by
  have := join_len 32 ws
  have e : lineT ws = Txt.join ⟨#[32]⟩ ws := by unfold lineT; rw [sp_eq]
  rw [e]
  have h1 := sumN_le (l := ws.map (·.length)) (m := 8) fun x hx => by
    obtain ⟨w, hw, rfl⟩ := List.mem_map.mp hx
    exact (h.w w hw).1
  rw [List.length_map] at h1
  have := h.len
  omega
theorem line_chars {n : Nat} {ws : List Str} (h : RowW n ws) : ∀ c ∈ cl (lineT ws), c = 32 ∨ 33 ≤ c ∧ c ≤ 122 := fun c hc => by
  have e : lineT ws = Txt.join ⟨#[32]⟩ ws := by unfold lineT; rw [sp_eq]
  rw [e, show Txt.join ⟨#[32]⟩ ws = Str.join ⟨#[32]⟩ ws from PySem.StrLaws.glued_eq_join _ _, join_cl] at hc
  rcases jl_mem hc with h1 | ⟨x, hx, h1⟩
  · exact .inl h1
  · obtain ⟨w, hw, rfl⟩ := List.mem_map.mp hx
    exact .inr ((h.w w hw).2 c h1)
theorem line_split {n : Nat} {ws : List Str} (h : RowW n ws) : Txt.split (lineT ws) SP = if ws = [] then [("" : Str)] else ws := by
  have e : lineT ws = Txt.join ⟨#[32]⟩ ws := by unfold lineT; rw [sp_eq]
  by_cases hw : ws = []
  · subst hw
    rw [if_pos rfl]
    decide +kernel
  · rw [if_neg hw, e, sp_eq]
    exact split_join hw fun w hm hc => by have := (h.w w hm).2 32 hc; omega
theorem text_splitR {n : Nat} {rows : List (List Str)} (h : ∀ ws ∈ rows, RowW n ws) : Txt.split (textR rows) LF = if rows = [] then [("" : Str)] else rows.map lineT := by
  have e : textR rows = Txt.join ⟨#[10]⟩ (rows.map lineT) := by unfold textR; rw [lf_eq]
  by_cases hw : rows = []
  · subst hw
    rw [if_pos rfl]
    decide +kernel
  · rw [if_neg hw, e, lf_eq]
    refine split_join (by simpa using hw) fun w hm hc => ?_
    obtain ⟨ws, hws, rfl⟩ := List.mem_map.mp hm
    rcases line_chars (h ws hws) 10 hc with h1 | h1 <;> omega
theorem text_ok {rows : List (List Str)} (hl : rows.length ≤ 210) (h : ∀ ws ∈ rows, RowW 40 ws) : TextOk (textR rows) := by
  have hs := text_splitR h
  have em : wordOk ("" : Str) := ⟨by decide +kernel, by decide +kernel⟩
  have es : Txt.split ("" : Str) SP = [("" : Str)] := by decide +kernel
  refine ⟨?_, ?_, fun l hl2 => ?_⟩
  · have e : textR rows = Txt.join ⟨#[10]⟩ (rows.map lineT) := by unfold textR; rw [lf_eq]
    have := join_len 10 (rows.map lineT)
    rw [e]
    have h1 := sumN_le (l := (rows.map lineT).map (·.length)) (m := 360) fun x hx => by
      rw [List.map_map] at hx
      obtain ⟨w, hw, rfl⟩ := List.mem_map.mp hx
      exact line_len (h w hw)
    rw [List.length_map, List.length_map] at h1
    rw [List.length_map] at this
    omega
  · rw [hs]
    split
    · decide
    · rw [List.length_map]; omega
  · rw [hs] at hl2
    split at hl2
    · rw [List.mem_singleton.mp hl2, es]
      exact ⟨by decide +kernel, by decide, fun w hw => by rw [List.mem_singleton.mp hw]; exact em⟩
    · obtain ⟨ws, hws, rfl⟩ := List.mem_map.mp hl2
      have hw := h ws hws
      have := line_len hw
      rw [line_split hw]
      refine ⟨by omega, ?_, fun w hm => ?_⟩
      · split
        · decide
        · have := hw.len; omega
      · split at hm
        · rw [List.mem_singleton.mp hm]; exact em
        · have := hw.w w hm
          exact ⟨by omega, fun c hc => (this.2 c hc).2⟩
def W27 : List Str := ["rule", "is", "not", "less", "take", "add", "say", "hold", "thing", "X", "_", "5", "-3", "05", "-0", "a", "r", "X+1", "X-2", "X+05", "X--1", "x+1", "100", "", "On", "same", "123"]
theorem w27 : ∀ w ∈ W27, w.length ≤ 8 ∧ ∀ c ∈ cl w, 33 ≤ c ∧ c ≤ 122 := by decide +kernel
theorem slice_to {C : Cells} {rows : List (List Str)} {k : Nat} : slOk C (.lst (rows.map rowL)) none (some (k : Int)) = some (.lst ((rows.take k).map rowL)) := by
  show some (D.lst (cutL _ _ _)) = _
  rw [cutL_take, List.map_take]
theorem slice_from {C : Cells} {rows : List (List Str)} {k : Nat} : slOk C (.lst (rows.map rowL)) (some (k : Int)) none = some (.lst ((rows.drop k).map rowL)) := by
  show some (D.lst (cutL _ _ _)) = _
  rw [cutL_drop, List.map_drop]
theorem sliceW_to {C : Cells} {ws : List Str} {k : Nat} : slOk C (rowL ws) none (some (k : Int)) = some (rowL (ws.take k)) := by
  show some (D.lst (cutL _ _ _)) = _
  rw [cutL_take]
  unfold rowL
  rw [List.map_take]
theorem sliceW_from {C : Cells} {ws : List Str} {k : Nat} : slOk C (rowL ws) (some (k : Int)) none = some (rowL (ws.drop k)) := by
  show some (D.lst (cutL _ _ _)) = _
  rw [cutL_drop]
  unfold rowL
  rw [List.map_drop]
theorem RowW.mono {n m : Nat} {ws : List Str} (h : RowW n ws) (hn : n ≤ m) : RowW m ws := ⟨by have := h.len; omega, h.w⟩
def joinD : D → D
  | .lst l => .str (lineT (l.map fun d => match d with | .str z => z | _ => ("" : Str)))
  | _ => .non
theorem joinD_row {ws : List Str} : joinD (rowL ws) = .str (lineT ws) := by
  show D.str (lineT ((ws.map D.str).map _)) = _
  rw [List.map_map]
  congr 2
  exact List.map_id _
theorem slice_mid {C : Cells} {rows : List (List Str)} {k : Nat} : ∃ mid : List (List Str), slOk C (.lst (rows.map rowL)) (some (k : Int)) (some ((k + 2 : Nat) : Int)) = some (.lst (mid.map rowL)) ∧ mid.length ≤ min 2 (rows.length - k) ∧ ∀ ws ∈ mid, ws ∈ rows := by
  refine ⟨cutL rows (some (k : Int)) (some ((k + 2 : Nat) : Int)), ?_, ?_, fun ws hm => ?_⟩
  · show some (D.lst (cutL _ _ _)) = _
    unfold cutL
    rw [List.map_take, List.map_drop, List.length_map]
  · unfold cutL
    rw [HT.sIx_nat, HT.sIx_nat, List.length_take, List.length_drop]
    omega
  · unfold cutL at hm
    exact List.mem_of_mem_drop (List.mem_of_mem_take hm)
def t_sp_el (a__law_taken : ASp) : DS := (dSeq (dAsg (dCall a__law_taken [] (dCons (dVar 0) (dCons (dOp oAdd (dFn oLen (dCons (dOp oIx (dVar 1) (dVar 4)) (dNil))) (dC (.int 1))) (dNil)))) (gdName 8)) (dSeq (dAsg (dSlice (dOp oIx (dVar 1) (dVar 4)) (dPart (dOp oAdd (dVar 8) (dOp oMod (dVar 5) (dC (.int 2))))) (dNoPart)) (gdName 9)) (dSeq (dAsg (dOp oAdd (dOp oAdd (dSlice (dOp oIx (dVar 1) (dVar 4)) (dNoPart) (dPart (dVar 8))) (dOp oMul (dLst (dCons (dVar 6) (dNil))) (dOp oDiv (dVar 5) (dC (.int 5))))) (dVar 9)) (gdName 10)) (dAsg (dOp oAdd (dOp oAdd (dSlice (dVar 1) (dNoPart) (dPart (dVar 4))) (dLst (dCons (dVar 10) (dNil)))) (dSlice (dVar 1) (dPart (dOp oAdd (dVar 4) (dC (.int 1)))) (dNoPart))) (gdName 1)))))
def t_sp_if (a__law_taken : ASp) : DS := (dIfS (dOr (dTest (dOp oEq (dVar 1) (dLst (dNil)))) (dTest (dOp oEq (dVar 5) (dC (.int 0))))) (dAsg (dOp oAdd (dOp oAdd (dSlice (dVar 1) (dNoPart) (dPart (dVar 4))) (dLst (dCons (dLst (dCons (dVar 6) (dNil))) (dNil)))) (dSlice (dVar 1) (dPart (dVar 4)) (dNoPart))) (gdName 1)) (dIfS (dTest (dOp oEq (dVar 5) (dC (.int 1)))) (dSeq (dAsg (dLst (dCons (dOp oAdd (dSlice (dVar 1) (dNoPart) (dPart (dVar 4))) (dSlice (dVar 1) (dPart (dOp oAdd (dVar 4) (dC (.int 1)))) (dNoPart))) (dCons (dOp oAdd (dSlice (dVar 1) (dPart (dVar 4)) (dNoPart)) (dSlice (dVar 1) (dNoPart) (dPart (dVar 4)))) (dCons (dOp oAdd (dSlice (dVar 1) (dNoPart) (dPart (dOp oAdd (dVar 4) (dC (.int 1))))) (dSlice (dVar 1) (dPart (dVar 4)) (dNoPart))) (dNil))))) (gdName 7)) (dAsg (dOp oIx (dVar 7) (dCall a__law_taken [] (dCons (dVar 0) (dCons (dC (.int 3)) (dNil))))) (gdName 1))) (dIfS (dTest (dOp oEq (dVar 5) (dC (.int 2)))) (dAsg (dOp oAdd (dOp oAdd (dSlice (dVar 1) (dNoPart) (dPart (dVar 4))) (dRev (dSlice (dVar 1) (dPart (dVar 4)) (dPart (dOp oAdd (dVar 4) (dC (.int 2))))))) (dSlice (dVar 1) (dPart (dOp oAdd (dVar 4) (dC (.int 2)))) (dNoPart))) (gdName 1)) (t_sp_el a__law_taken))))
def t_sp_rest (a__law_taken : ASp) : DS := (dSeq (dPar 5 6 (dCons (dCall a__law_taken [] (dCons (dVar 0) (dCons (dC (.int 9)) (dNil)))) (dCons (dOp oIx (dVar 2) (dCall a__law_taken [] (dCons (dVar 0) (dCons (dFn oLen (dCons (dVar 2) (dNil))) (dNil))))) (dNil)))) (t_sp_if a__law_taken))
theorem rd__law_spoilt : ∀ ds C R, a__law_spoilt ds C R → t__law_spoilt a__law_taken { nx := fun _ C' => R .non C', rt := R } (dstart ["_law_row_here", "_law_rows", "_law_words", "_law_turn", "_law_k", "_law_way", "_law_word_here", "_law_some", "_law_at", "_law_rest", "_law_told", "_law_line"] ds) C := by
  rintro ds C R ⟨p, c0, rows0, rfl, hrl, hrw, hp, hc0, h⟩
  have hml := ml
  unfold t__law_spoilt
  walk_at "dl"
  rw [oAdd_lst (by simp; omega)]
  generalize hW : ([D.str ("rule" : Str), D.str ("is" : Str), D.str ("not" : Str), D.str ("less" : Str), D.str ("take" : Str), D.str ("add" : Str), D.str ("say" : Str), D.str ("hold" : Str), D.str ("thing" : Str), D.str ("X" : Str), D.str ("_" : Str), D.str ("5" : Str), D.str ("-3" : Str), D.str ("05" : Str), D.str ("-0" : Str)] ++ [D.str ("a" : Str), D.str ("r" : Str), D.str ("X+1" : Str), D.str ("X-2" : Str), D.str ("X+05" : Str), D.str ("X--1" : Str), D.str ("x+1" : Str), D.str ("100" : Str), D.str ("" : Str), D.str ("On" : Str), D.str ("same" : Str), D.str ("123" : Str)] : List D) = W
  have hW : W = W27.map D.str := hW ▸ rfl
  refine ⟨by omega, p, 5, c0, rfl, by omega, by omega, hp, hc0, fun r c1 h0 h1 hc1 => ?_⟩
  walk_at "dl"
  refine ⟨by omega, by omega, ?_⟩
  obtain ⟨Pv, hPv⟩ : ∃ Pv : Nat → DSt → Cells → Prop, ∀ i δ C', Pv i δ C' ↔ ∃ o3 o4 o5 o6 o7 o8 o9 o10 c, ∃ rows : List (List Str), δ = [some (.ref p), some (.lst (rows.map rowL)), some (.lst W), o3, o4, o5, o6, o7, o8, o9, o10, none] ∧ C' = updC C p (.lst c) ∧ RowSt c ∧ rows.length ≤ 200 + i ∧ ∀ ws ∈ rows, RowW (30 + i) ws := ⟨_, fun _ _ _ => Iff.rfl⟩
  refine for_rng Pv ((hPv _ _ _).mpr ⟨none, none, none, none, none, none, none, none, c1, rows0, rfl, rfl, hc1, by omega, fun ws hws => hrw ws hws⟩) (fun i δ C' hi hv => ?_) (fun δ C' hv => ?_)
  · obtain ⟨o3, o4, o5, o6, o7, o8, o9, o10, c, rows, rfl, rfl, hc, hl, hw⟩ := (hPv _ _ _).mp hv
    have hi5 : i < 5 := by omega
    have key : ∀ (N : DEnds), N.nx = Pv (i + 1) → ∀ (k : Nat) c2, RowSt c2 → (rows = [] ∨ k < rows.length) → t_sp_rest a__law_taken N [some (.ref p), some (.lst (rows.map rowL)), some (.lst W), some (.int (0 + (i : Int))), some (.int (k : Int)), o5, o6, o7, o8, o9, o10, none] (updC C p (.lst c2)) := by
      intro N n1 k c2 hc2 hk
      have fin : ∀ (rows' : List (List Str)) o5 o6 o7 o8 o9 o10 c3, RowSt c3 → rows'.length ≤ rows.length + 1 → (∀ ws ∈ rows', ws ∈ rows ∨ RowW (31 + i) ws) → N.nx [some (.ref p), some (.lst (rows'.map rowL)), some (.lst W), some (.int (0 + (i : Int))), some (.int (k : Int)), o5, o6, o7, o8, o9, o10, none] (updC C p (.lst c3)) := fun rows' o5 o6 o7 o8 o9 o10 c3 hc3 h1 h2 => by
        rw [n1]
        exact (hPv _ _ _).mpr ⟨_, _, _, _, _, _, _, _, c3, rows', rfl, rfl, hc3, by omega, fun ws hm => (h2 ws hm).elim (fun h3 => (hw ws h3).mono (by omega)) fun h3 => h3.mono (by omega)⟩
      unfold t_sp_rest
      show dSeq _ (t_sp_if a__law_taken) _ _ _
      walk_at "dl"
      have hW27 : W.length = 27 := by rw [hW, List.length_map]; rfl
      refine ⟨p, 9, c2, rfl, by omega, by omega, DL.updC_at, hc2, fun way c3 w0 w1 hc3 => ?_⟩
      rw [DL.updC_upd]
      walk_at "dl"
      refine ⟨p, _, c3, rfl, by omega, by omega, DL.updC_at, hc3, fun wi c4 v0 v1 hc4 => ?_⟩
      rw [DL.updC_upd]
      obtain ⟨wn, rfl⟩ : ∃ wn : Nat, wi = (wn : Int) := ⟨wi.toNat, by omega⟩
      have hwn : wn < W27.length := by show wn < 27; omega
      have hwg := w27 W27[wn] (List.getElem_mem hwn)
      rw [oIx_lst, atI_cast, hW, List.getElem?_map, List.getElem?_eq_getElem hwn]
      refine ⟨_, rfl, ?_⟩
      rw [← hW]
      generalize W27[wn] = w at hwg ⊢
      have r1 : RowW (31 + i) [w] := ⟨by simp; omega, fun x hx => by rw [List.mem_singleton.mp hx]; exact hwg⟩
      show t_sp_if a__law_taken N [some (.ref p), some (.lst (rows.map rowL)), some (.lst W), some (.int (0 + (i : Int))), some (.int (k : Int)), some (.int way), some (.str w), o7, o8, o9, o10, none] (updC C p (.lst c4))
      unfold t_sp_if
      walk_at "dl"
      rw [oEq_nil (C := updC C p (.lst c4)) (x := .lst (rows.map rowL)) (y := .lst []) rfl rfl, List.isEmpty_map]
      have ins : ∀ K : D → Cells → Prop, K (.lst ((rows.take k ++ [[w]] ++ rows.drop k).map rowL)) (updC C p (.lst c4)) → ∃ d, slOk (updC C p (.lst c4)) (.lst (rows.map rowL)) none (some (k : Int)) = some d ∧ oAdd d (.lst [.lst [.str w]]) (updC C p (.lst c4)) fun x C1 => ∃ d, slOk C1 (.lst (rows.map rowL)) (some (k : Int)) none = some d ∧ oAdd x d C1 K := fun K hK => by
        refine ⟨_, slice_to, ?_⟩
        rw [oAdd_lst (by simp; omega)]
        refine ⟨_, slice_from, ?_⟩
        rw [oAdd_lst (by simp; omega)]
        rw [List.map_append, List.map_append] at hK
        exact hK
      have tk : ∀ {m : Nat} {ws : List Str}, ws ∈ rows.take m → ws ∈ rows ∨ RowW (31 + i) ws := fun h => .inl (List.mem_of_mem_take h)
      have dr : ∀ {m : Nat} {ws : List Str}, ws ∈ rows.drop m → ws ∈ rows ∨ RowW (31 + i) ws := fun h => .inl (List.mem_of_mem_drop h)
      have mp : ∀ {a b : List (List Str)}, (∀ ws ∈ a, ws ∈ rows ∨ RowW (31 + i) ws) → (∀ ws ∈ b, ws ∈ rows ∨ RowW (31 + i) ws) → ∀ ws ∈ a ++ b, ws ∈ rows ∨ RowW (31 + i) ws := fun ha hb ws hm => (List.mem_append.mp hm).elim (ha ws) (hb ws)
      have one : ∀ ws ∈ [[w]], ws ∈ rows ∨ RowW (31 + i) ws := fun ws hm => by rw [List.mem_singleton.mp hm]; exact .inr r1
      have hin : ∀ o7 o8 o9 o10, N.nx [some (.ref p), some (.lst ((rows.take k ++ [[w]] ++ rows.drop k).map rowL)), some (.lst W), some (.int (0 + (i : Int))), some (.int (k : Int)), some (.int way), some (.str w), o7, o8, o9, o10, none] (updC C p (.lst c4)) := fun o7 o8 o9 o10 =>
        fin _ _ _ _ _ _ _ _ hc4 (by simp only [List.length_append, List.length_take, List.length_drop, List.length_cons, List.length_nil]; omega) (mp (mp (fun ws hm => tk hm) one) fun ws hm => dr hm)
      cases hre : rows.isEmpty with
      | true =>
        walk_at "dl"
        exact ins _ (hin _ _ _ _)
      | false =>
        have hkl : k < rows.length := hk.elim (fun e => by rw [e] at hre; cases hre) id
        walk_at "dl"
        by_cases h0 : way = 0
        · rw [if_pos (by simpa using h0)]
          exact ins _ (hin _ _ _ _)
        · rw [if_neg (by simpa using h0)]
          by_cases h1 : way = 1
          · rw [if_pos (by simpa using h1)]
            have ek : (k : Int) + 1 = ((k + 1 : Nat) : Int) := by omega
            rw [ek]
            refine ⟨_, slice_to, _, slice_from, ?_⟩
            rw [oAdd_lst (by simp; omega)]
            refine ⟨_, slice_from, _, slice_to, ?_⟩
            rw [oAdd_lst (by simp; omega)]
            refine ⟨_, slice_to, _, slice_from, ?_⟩
            rw [oAdd_lst (by simp; omega)]
            refine ⟨p, 3, c4, rfl, by omega, by omega, DL.updC_at, hc4, fun j c5 j0 j1 hc5 => ?_⟩
            rw [DL.updC_upd, ← List.map_append, ← List.map_append, ← List.map_append]
            have h3 : j = 0 ∨ j = 1 ∨ j = 2 := by omega
            rcases h3 with rfl | rfl | rfl
            · show oIx (.lst _) (.int _) _ _
              rw [oIx_lst, atI_0]
              refine ⟨_, rfl, fin _ _ _ _ _ _ _ _ hc5 (by simp only [List.length_append, List.length_take, List.length_drop]; omega) (mp (fun ws hm => tk hm) fun ws hm => dr hm)⟩
            · show oIx (.lst _) (.int _) _ _
              rw [oIx_lst, atI_1]
              refine ⟨_, rfl, fin _ _ _ _ _ _ _ _ hc5 (by simp only [List.length_append, List.length_take, List.length_drop]; omega) (mp (fun ws hm => dr hm) fun ws hm => tk hm)⟩
            · show oIx (.lst _) (.int _) _ _
              rw [oIx_lst, atI_2]
              refine ⟨_, rfl, fin _ _ _ _ _ _ _ _ hc5 (by simp only [List.length_append, List.length_take, List.length_drop]; omega) (mp (fun ws hm => tk hm) fun ws hm => dr hm)⟩
          · rw [if_neg (by simpa using h1)]
            by_cases h2 : way = 2
            · rw [if_pos (by simpa using h2)]
              have ek : (k : Int) + 2 = ((k + 2 : Nat) : Int) := by omega
              rw [ek]
              obtain ⟨mid, hm1, hm2, hm3⟩ := slice_mid (C := updC C p (.lst c4)) (rows := rows) (k := k)
              refine ⟨_, slice_to, _, hm1, _, rfl, ?_⟩
              rw [oAdd_lst (by simp; omega)]
              refine ⟨_, slice_from, ?_⟩
              rw [oAdd_lst (by simp; omega), ← List.map_reverse, ← List.map_append, ← List.map_append]
              exact fin _ _ _ _ _ _ _ _ hc4 (by simp only [List.length_append, List.length_take, List.length_drop, List.length_reverse]; omega) (mp (mp (fun ws hm => tk hm) fun ws hm => .inl (hm3 ws (List.mem_reverse.mp hm))) fun ws hm => dr hm)
            · rw [if_neg (by simpa using h2)]
              unfold t_sp_el
              walk_at "dl"
              obtain ⟨wy, rfl⟩ : ∃ wy : Nat, way = (wy : Int) := ⟨way.toNat, by omega⟩
              have erow : (rows.map rowL)[k]? = some (rowL rows[k]) := by rw [List.getElem?_map, List.getElem?_eq_getElem hkl]; rfl
              have hws : rows[k] ∈ rows := List.getElem_mem hkl
              have hwr := hw _ hws
              generalize rows[k] = ws at erow hws hwr
              have hwl := hwr.len
              have ek : (k : Int) + 1 = ((k + 1 : Nat) : Int) := by omega
              refine ⟨rowL ws, erow, ?_⟩
              show oLen [.lst (ws.map .str)] _ _
              walk_at "dl"
              rw [List.length_map]
              refine ⟨p, _, c4, rfl, by omega, by omega, DL.updC_at, hc4, fun at' c5 a0 a1 hc5 => ?_⟩
              rw [DL.updC_upd]
              obtain ⟨a, rfl⟩ : ∃ a : Nat, at' = (a : Int) := ⟨at'.toNat, by omega⟩
              refine ⟨rowL ws, erow, ?_⟩
              simp only [oMod_int]
              refine ⟨by omega, ?_⟩
              walk_at "dl"
              rw [show (a : Int) + (wy : Int) % 2 = ((a + wy % 2 : Nat) : Int) by omega]
              refine ⟨_, sliceW_from, rowL ws, erow, ?_⟩
              refine ⟨_, sliceW_to, ?_⟩
              simp only [oDiv_int]
              refine ⟨⟨by omega, by omega⟩, ?_⟩
              rw [show (wy : Int) / 5 = ((wy / 5 : Nat) : Int) by omega]
              refine ⟨[.str w], rfl, by omega, by omega, by simp, ?_⟩
              have erep : (List.replicate ((wy / 5 : Nat) : Int).toNat [D.str w]).flatten = (List.replicate (wy / 5) w).map D.str := by
                rw [Int.toNat_natCast]
                generalize wy / 5 = m
                induction m with
                | zero => rfl
                | succ m ih => rw [List.replicate_succ, List.replicate_succ, List.flatten_cons, ih]; rfl
              rw [erep]
              show oAdd (.lst ((ws.take a).map .str)) (.lst _) _ _
              rw [oAdd_lst (by simp; omega)]
              show oAdd (.lst _) (.lst ((ws.drop (a + wy % 2)).map .str)) _ _
              rw [oAdd_lst (by simp; omega), ← List.map_append, ← List.map_append]
              have hm2 : wy / 5 ≤ 1 := by omega
              have rt : RowW (31 + i) (ws.take a ++ List.replicate (wy / 5) w ++ ws.drop (a + wy % 2)) := ⟨by
                  simp only [List.length_append, List.length_take, List.length_drop, List.length_replicate]
                  omega, fun x hx => by
                  rcases List.mem_append.mp hx with hx | hx
                  · rcases List.mem_append.mp hx with hx | hx
                    · exact hwr.w x (List.mem_of_mem_take hx)
                    · rw [List.eq_of_mem_replicate hx]; exact hwg
                  · exact hwr.w x (List.mem_of_mem_drop hx)⟩
              generalize ws.take a ++ List.replicate (wy / 5) w ++ ws.drop (a + wy % 2) = told at rt ⊢
              refine ⟨_, slice_to, ?_⟩
              rw [oAdd_lst (by simp; omega), ek]
              refine ⟨_, slice_from, ?_⟩
              rw [oAdd_lst (by simp; omega), show ([D.lst (told.map D.str)] : List D) = [told].map rowL from rfl, ← List.map_append, ← List.map_append]
              exact fin _ _ _ _ _ _ _ _ hc5 (by simp only [List.length_append, List.length_take, List.length_drop, List.length_cons, List.length_nil]; omega) (mp (mp (fun ws hm => tk hm) fun ws hm => by rw [List.mem_singleton.mp hm]; exact .inr rt) fun ws hm => dr hm)
    show gdName 3 _ _ _ fun δ2 C2 => dSeq _ (t_sp_rest a__law_taken) _ δ2 C2
    walk_at "dl"
    rw [oNe_nil (C := updC C p (.lst c)) (x := .lst (rows.map rowL)) (y := .lst []) rfl rfl, List.isEmpty_map]
    cases hre : rows.isEmpty with
    | true =>
      walk_at "dl"
      exact key _ rfl 0 c hc (.inl (List.isEmpty_iff.mp hre))
    | false =>
      walk_at "dl"
      have hpos : 0 < rows.length := List.length_pos_iff.mpr (by intro e; rw [e] at hre; cases hre)
      rw [List.length_map]
      refine ⟨p, _, c, rfl, by omega, by omega, DL.updC_at, hc, fun r c2 h0 h1 hc2 => ?_⟩
      rw [DL.updC_upd]
      obtain ⟨k, rfl⟩ : ∃ k : Nat, r = (k : Int) := ⟨r.toNat, by omega⟩
      walk_at "dl"
      exact key _ rfl k c2 hc2 (.inr (by omega))
  · obtain ⟨o3, o4, o5, o6, o7, o8, o9, o10, c, rows, rfl, rfl, hc, hl, hw⟩ := (hPv _ _ _).mp hv
    walk_at "dl"
    refine ⟨⟨_, rfl⟩, lc_map joinD (by rw [List.length_map]; omega) (fun d hd K hK => ?_) ?_⟩
    · obtain ⟨ws, hws, rfl⟩ := List.mem_map.mp hd
      have hwr := hw ws hws
      have hwl := hwr.len
      have h1 := sumN_le (l := ws.map (·.length)) (m := 8) fun x hx => by
        obtain ⟨w, hw, rfl⟩ := List.mem_map.mp hx
        exact (hwr.w w hw).1
      rw [List.length_map] at h1
      rw [joinD_row] at hK
      walk_at "dl"
      refine ⟨⟨_, rfl⟩, SP, _, ws, rfl, rfl, rfl, ?_, hK⟩
      have : SP.length = 1 := by decide +kernel
      rw [this]
      omega
    · have eJ : (rows.map rowL).map joinD = (rows.map lineT).map D.str := by
        rw [List.map_map, List.map_map]
        exact List.map_congr_left fun ws _ => joinD_row
      rw [eJ]
      have h1 := sumN_le (l := (rows.map lineT).map (·.length)) (m := 400) fun x hx => by
        rw [List.map_map] at hx
        obtain ⟨w, hw2, rfl⟩ := List.mem_map.mp hx
        have := line_len (hw w hw2)
        show (lineT w).length ≤ 400
        omega
      rw [List.length_map, List.length_map] at h1
      refine ⟨LF, _, rows.map lineT, rfl, rfl, rfl, ?_, ?_⟩
      · have : LF.length = 1 := by decide +kernel
        rw [this, List.length_map]
        omega
      · exact h (textR rows) c (text_ok (by omega) fun ws hws => (hw ws hws).mono (by omega)) hc
theorem run_good : ∀ {rows : List (List Str)} {i n : Nat} {s0 s : PR}, (∀ ws ∈ rows, ws.length ≤ 500 ∧ ∀ w ∈ ws, wordOk w) → Sz n s0 → GoodS s0 → runS s0 i rows = .inl s → Sz (n + rows.length) s ∧ GoodS s
  | [], i, n, s0, s, _, hs, hg, h => by
    unfold runS at h
    cases h
    exact ⟨hs, hg⟩
  | ws :: r, i, n, s0, s, hw, hs, hg, h => by
    unfold runS at h
    cases ht : rtakeS s0 ws with
    | none => rw [ht] at h; cases h
    | some s1 =>
      rw [ht] at h
      obtain ⟨h1, h2⟩ := take_good (hw ws (by simp)).2 (hw ws (by simp)).1 ht hs hg
      obtain ⟨h3, h4⟩ := run_good (fun x hx => hw x (by simp [hx])) h1 h2 h
      refine ⟨?_, h4⟩
      rw [List.length_cons]
      rw [show n + (r.length + 1) = n + 1 + r.length by omega]
      exact h3
theorem text_rows {z : Str} (h : TextOk z) : ∀ ws ∈ rowsZ z, ws.length ≤ 500 ∧ ∀ w ∈ ws, wordOk w := fun ws hm => by
  obtain ⟨l, hl, rfl⟩ := List.mem_map.mp hm
  exact (h.row l hl).2
theorem run_dat {z : Str} {s : PR} (h : TextOk z) (hr : runS startS 0 (rowsZ z) = .inl s) : datD 7 (.tup [.tup (s.rl.map reD), .lst s.ts]) = true := by
  obtain ⟨⟨h1, h2, h3⟩, hg⟩ := run_good (text_rows h) (n := 0) ⟨Nat.le_refl _, Nat.le_refl _, by simp [startS]⟩ ⟨by simp [startS], by simp [startS]⟩ hr
  have hl : (rowsZ z).length ≤ 500 := by unfold rowsZ; rw [List.length_map]; exact h.rows
  refine tup_dat (fun d hd => ?_) (by simp)
  simp only [List.mem_cons, List.not_mem_nil, or_false] at hd
  rcases hd with rfl | rfl
  · exact tup_dat (n := 5) (fun r hr => by
      obtain ⟨e, he, rfl⟩ := List.mem_map.mp hr
      have := h3 e he
      exact good_reD (hg.e e he) ⟨by omega, by omega⟩) (by rw [List.length_map]; omega)
  · show (s.ts.all (datD 5) && decide (s.ts.length ≤ 6000000)) = true
    rw [Bool.and_eq_true, decide_eq_true_eq]
    exact ⟨List.all_eq_true.mpr fun t ht => datD_all (show 2 ≤ 5 by omega) (hg.t t ht), by omega⟩
def splitD : D → D
  | .str l => rowL (Txt.split l SP)
  | _ => .non
theorem splitD_row {row : List D} (h : RowOk row) : splitD (.str (rowT row)) = rowL (row.map partT) := by
  show rowL (Txt.split (rowT row) SP) = _
  rw [row_split h]
theorem rd_law (CD CT CH CR P : Addr) : ∀ ds C R, a_law P ds C R → t_law P (a_word CT CH CR) (a_readX CD CT CH CR) a__law_row a__law_rules a__law_taken a__law_thing a_written a__law_spoilt a__law_read (a__law_alike 8) { nx := fun _ C' => lss R .non C', rt := lss R } (dstart ["_law_script", "_law_row_here", "_law_turn", "_law_rules_here", "_law_things", "_law_text", "_law_due", "_law_found", "_law_k", "_law_line"] ds) C := by
  rintro ds C R ⟨s, rfl, hs, hP, h⟩
  have hml := ml
  unfold t_law
  walk_at "dl"
  refine ⟨s, rfl, hs, fun p c hp hc => ?_⟩
  have hpP : P ≠ p := by rintro rfl; rw [hP] at hp; cases hp
  walk_at "dl"
  refine ⟨by omega, by omega, ?_⟩
  obtain ⟨Pv, hPv⟩ : ∃ Pv : Nat → DSt → Cells → Prop, ∀ i δ C', Pv i δ C' ↔ ∃ o2 o3 o4 o5 o6 o7 c, δ = [some (.lst (s.map .int)), some (.ref p), o2, o3, o4, o5, o6, o7, none, none] ∧ C' p = some (.lst c) ∧ RowSt c ∧ C' P = some (.tab "law.<locals>.<lambda>") := ⟨_, fun _ _ _ => Iff.rfl⟩
  refine for_rng Pv ((hPv _ _ _).mpr ⟨none, none, none, none, none, none, c, rfl, updC_at, hc, by rw [DL.updC_ne hpP]; exact hP⟩) (fun tn δ C' hi hv => ?_) (fun δ C' hv => ?_)
  · obtain ⟨o2, o3, o4, o5, o6, o7, c, rfl, hp1, hc1, hP1⟩ := (hPv _ _ _).mp hv
    walk_at "dl"
    refine ⟨p, c, 3, rfl, by omega, by omega, hp1, hc1, fun rs c2 hrs hc2 => ?_⟩
    walk_at "dl"
    refine ⟨p, 4, c2, rfl, by omega, by omega, updC_at, hc2, fun r c3 h0 h1 hc3 => ?_⟩
    walk_at "dl"
    refine ⟨by omega, by omega, ?_⟩
    obtain ⟨Pl, hPl⟩ : ∃ Pl : Nat → List D → Cells → Prop, ∀ i acc C2, Pl i acc C2 ↔ ∃ c', C2 = updC C' p (.lst c') ∧ RowSt c' ∧ acc.length = i ∧ ∀ t ∈ acc, ThingOk t := ⟨_, fun _ _ _ => Iff.rfl⟩
    refine lc_inv (n := r.toNat) Pl (fun i _ hi => hi) (fun _ => Nat.le_refl _) ((hPl _ _ _).mpr ⟨c3, rfl, hc3, rfl, by simp⟩) (fun i d acc C2 hi hy hv => ?_) (fun acc C2 hv => ?_)
    · obtain ⟨c4, rfl, hc4, hal, hat⟩ := (hPl _ _ _).mp hv
      walk_at "dl"
      refine ⟨p, c4, rfl, updC_at, hc4, fun v c5 hv5 hc5 => ?_⟩
      rw [DL.updC_upd]
      exact ⟨by omega, (hPl _ _ _).mpr ⟨c5, rfl, hc5, by simp [hal], mem_snoc hat hv5⟩⟩
    · obtain ⟨c4, rfl, hc4, htl, hts⟩ := (hPl _ _ _).mp hv
      have htl5 : acc.length ≤ 30 := by omega
      generalize acc = ts at htl hts htl5
      have hrr := rules_row hrs
      have hlen := hrs.2.1
      obtain ⟨g1, g2, g3, g4⟩ := rows_ok hrr (by omega) hts htl5
      walk_at "dl"
      have g4 := g4 hrs.1
      have hsp := text_split g4 g1
      have htx := (text_len g1 (by omega)).1
      refine ⟨rs, ts, rfl, hrs, hts, htl5, ?_⟩
      generalize hrows : rowsOf rs ts = rows at *
      have lfl : (LF.length == 0) = false := by decide +kernel
      have spl : (SP.length == 0) = false := by decide +kernel
      refine ⟨⟨_, rfl⟩, _, LF, rfl, rfl, lfl, by omega, ?_⟩
      rw [hsp]
      refine ⟨_, rfl, lc_map splitD (by rw [List.length_map, List.length_map]; omega) (fun d hd K hK => ?_) ?_⟩
      · obtain ⟨l, hl, rfl⟩ := List.mem_map.mp hd
        obtain ⟨row, hrow, rfl⟩ := List.mem_map.mp hl
        have hrok := g1 row hrow
        rw [splitD_row hrok] at hK
        walk_at "dl"
        refine ⟨⟨_, rfl⟩, rowT row, SP, rfl, rfl, spl, by have := (row_len hrok).1; omega, ?_⟩
        rw [row_split hrok]
        exact hK
      · have eS : ((rows.map rowT).map D.str).map splitD = (rows.map fun row => row.map partT).map rowL := by
          rw [List.map_map, List.map_map, List.map_map]
          exact List.map_congr_left fun row hrow => splitD_row (g1 row hrow)
        rw [eS]
        refine ⟨p, c4, _, rfl, by rw [List.length_map]; omega, fun ws hws => ?_, updC_at, hc4, fun z c5 hz hc5 => ?_⟩
        · obtain ⟨row, hrow, rfl⟩ := List.mem_map.mp hws
          have hrok := g1 row hrow
          refine ⟨by have := hrok.len; rw [List.length_map]; omega, fun w hw => ?_⟩
          obtain ⟨d, hd, rfl⟩ := List.mem_map.mp hw
          have := part_cl (hrok.good d hd)
          exact ⟨by omega, this.2.2⟩
        rw [DL.updC_upd]
        have hC1p : updC C' p (.lst c5) p = some (.lst c5) := updC_at
        have hC1P : updC C' p (.lst c5) P = some (.tab "law.<locals>.<lambda>") := by rw [DL.updC_ne hpP]; exact hP1
        generalize updC C' p (.lst c5) = C1 at hC1p hC1P
        have fin : ∀ x y C2, C2 p = some (.lst c5) → C2 P = some (.tab "law.<locals>.<lambda>") → Pv (tn + 1) [some (.lst (s.map .int)), some (.ref p), some (.int (0 + (tn : Int))), some (.tup rs), some (.lst ts), some (.str z), some x, some y, none, none] C2 := fun x y C2 h1 h2 => (hPv _ _ _).mpr ⟨_, _, _, _, _, _, c5, rfl, h1, hc5, h2⟩
        cases hrun : runS startS 0 (rowsZ z) with
        | inr k =>
          refine ⟨z, rfl, hz, ?_⟩
          rw [hrun]
          refine ⟨hC1P, ?_⟩
          intro q hq R1 RX1 hr hx
          refine ⟨z, rfl, hz, ?_⟩
          rw [hrun]
          have hqp : p ≠ q := by rintro rfl; rw [hC1p] at hq; cases hq
          have hqP : P ≠ q := by rintro rfl; rw [hC1P] at hq; cases hq
          refine hx _ _ (.inl ⟨rfl, .int (k : Nat), rfl, ?_⟩)
          walk_at "dl"
          rw [eqS (by decide +kernel) (by decide +kernel), show (("text" : Str) == ("text" : Str)) = true by decide +kernel]
          walk_at "dl"
          have htd : datD 7 (.tup [.str ("text" : Str), .int (k : Nat)]) = true := tup_dat (n := 6) (fun d hd => by
            simp only [List.mem_cons, List.not_mem_nil, or_false] at hd
            rcases hd with rfl | rfl
            · decide +kernel
            · rfl) (by simp)
          refine ⟨_, _, _, 7, rfl, rfl, by omega, htd, Lk.refl, Lk.refl, ?_⟩
          walk_at "dl"
          exact fin _ _ _ (by rw [DL.updC_ne hqp]; exact hC1p) (by rw [DL.updC_ne hqP]; exact hC1P)
        | inl st =>
          have hdat := run_dat hz hrun
          refine ⟨z, rfl, hz, ?_⟩
          rw [hrun]
          intro u hu
          have hup : p ≠ u := by rintro rfl; rw [hC1p] at hu; cases hu
          have huP : P ≠ u := by rintro rfl; rw [hC1P] at hu; cases hu
          have hC2p : updC C1 u (.lst st.ts) p = some (.lst c5) := by rw [DL.updC_ne hup]; exact hC1p
          have hC2P : updC C1 u (.lst st.ts) P = some (.tab "law.<locals>.<lambda>") := by rw [DL.updC_ne huP]; exact hC1P
          have hC2u : updC C1 u (.lst st.ts) u = some (.lst st.ts) := DL.updC_at
          generalize updC C1 u (.lst st.ts) = C2 at hC2p hC2P hC2u
          refine ⟨hC2P, ?_⟩
          intro q hq R1 RX1 hr hx
          have hqp : p ≠ q := by rintro rfl; rw [hC2p] at hq; cases hq
          have hqP : P ≠ q := by rintro rfl; rw [hC2P] at hq; cases hq
          have hqu : u ≠ q := by rintro rfl; rw [hC2u] at hq; cases hq
          refine ⟨z, rfl, hz, ?_⟩
          rw [hrun]
          have hC3p : updC C2 q (.lst []) p = some (.lst c5) := by rw [DL.updC_ne hqp]; exact hC2p
          have hC3P : updC C2 q (.lst []) P = some (.tab "law.<locals>.<lambda>") := by rw [DL.updC_ne hqP]; exact hC2P
          refine ⟨fun i j => hx _ _ (.inr (.inr ⟨rfl, .int i, .int j, rfl, rfl, ?_⟩)), fun i => hx _ _ (.inr (.inl ⟨rfl, .int (i : Nat), rfl, ?_⟩)), fun q2 hq2 => ?_⟩
          · walk_at "dl"
            rw [eqS (by decide +kernel) (by decide +kernel), show (("" : Str) == ("text" : Str)) = false by decide +kernel]
            walk_at "dl"
            rw [oNotIn_eq, oIn_tup rfl rfl, show ([D.str ("" : Str), D.str ("rules" : Str), D.str ("thing" : Str)].any fun y => D.eqv y (.str ("rules" : Str))) = true by decide +kernel]
            walk_at "dl"
            rw [eqS (by decide +kernel) (by decide +kernel), show (("rules" : Str) == ("" : Str)) = false by decide +kernel]
            walk_at "dl"
            exact fin _ _ _ hC3p hC3P
          · walk_at "dl"
            rw [eqS (by decide +kernel) (by decide +kernel), show (("" : Str) == ("text" : Str)) = false by decide +kernel]
            walk_at "dl"
            rw [oNotIn_eq, oIn_tup rfl rfl, show ([D.str ("" : Str), D.str ("rules" : Str), D.str ("thing" : Str)].any fun y => D.eqv y (.str ("thing" : Str))) = true by decide +kernel]
            walk_at "dl"
            rw [eqS (by decide +kernel) (by decide +kernel), show (("thing" : Str) == ("" : Str)) = false by decide +kernel]
            walk_at "dl"
            exact fin _ _ _ hC3p hC3P
          · have hq2q : q ≠ q2 := by rintro rfl; rw [DL.updC_at] at hq2; cases hq2
            have hq2p : p ≠ q2 := by rintro rfl; rw [hC3p] at hq2; cases hq2
            have hq2P : P ≠ q2 := by rintro rfl; rw [hC3P] at hq2; cases hq2
            have hq2u : u ≠ q2 := by rintro rfl; rw [DL.updC_ne hqu, hC2u] at hq2; cases hq2
            refine hr _ _ (by rw [DL.updC_ne hq2q]; exact DL.updC_at) ?_
            walk_at "dl"
            rw [eqS (by decide +kernel) (by decide +kernel), show (("" : Str) == ("text" : Str)) = false by decide +kernel]
            walk_at "dl"
            rw [oNotIn_eq, oIn_tup rfl rfl, show ([D.str ("" : Str), D.str ("rules" : Str), D.str ("thing" : Str)].any fun y => D.eqv y (.str ("" : Str))) = true by decide +kernel]
            walk_at "dl"
            rw [eqS (by decide +kernel) (by decide +kernel), show (("" : Str) == ("" : Str)) = true by decide +kernel]
            walk_at "dl"
            have lk : ∀ (C4 : Cells) (a : Addr), C4 a = some (.lst st.ts) → Lk 7 C4 (.tup [.tup (st.rl.map reD), .ref a]) (.tup [.tup (st.rl.map reD), .lst st.ts]) := fun C4 a ha => .inr (.inl ⟨_, _, rfl, rfl, rfl, fun i x y hx hy => (match i, hx, hy with
              | 0, hx, hy => (by cases hx; cases hy; exact Lk.refl)
              | 1, hx, hy => (by cases hx; cases hy; exact .inr (.inr ⟨st.ts, st.ts, .inr ⟨a, rfl, ha⟩, rfl, rfl, Lk.same⟩))
              | n + 2, hx, hy => (by cases hx))⟩)
            refine ⟨_, _, _, 7, rfl, rfl, by omega, hdat, lk _ _ ?_, lk _ _ ?_, ?_⟩
            · rw [DL.updC_ne hq2q.symm]
              exact DL.updC_at
            · rw [DL.updC_ne hqu, DL.updC_ne hq2u, DL.updC_ne hqu]
              exact hC2u
            · walk_at "dl"
              exact fin _ _ _ (by rw [DL.updC_ne hqp, DL.updC_ne hq2p]; exact hC3p) (by rw [DL.updC_ne hqP, DL.updC_ne hq2P]; exact hC3P)
  · obtain ⟨o2, o3, o4, o5, o6, o7, c, rfl, hp1, hc1, hP1⟩ := (hPv _ _ _).mp hv
    walk_at "dl"
    exact lss_of (h C')
end RR
namespace RR
open PySem PySem.Spec L2 DL
open PyProof.Rows hiding St
section
variable {P : Program} {w : World} {K : PySem.W.Frag} {mg : Str → Option Value} {base : Heap}
theorem dv__law_row (T : Pk K mg) {k : Nat} {cdv : Value} {A : Around} {outer : List Env} {s : Shared} {H : Hp} {E : XK} {f : Addr} (hr : Room k (A.deeper (envOfC "_law_row" (defScope s__law_row) s.heap.objs.size f cdv))) :
    PSs (cxOf CX0 P w K mg base N__law_row "_law_row" (defScope s__law_row) f cdv A outer s H E).nox (defBody s__law_row) (liftS K (t__law_row)) := by
  have hu := hr.units
  have hu5 := hu5_of hr
  exact dss_cons (ds_set (i := 1) sc__law_row.nd rfl (Or.inl rfl) (de_int)) (dss_cons (ds_for PassesOwn.never rfl (di_seq (dv 0)) (dg_name (i := 2) sc__law_row.nd rfl (Or.inl rfl)) (dss_one (ds_set (i := 1) sc__law_row.nd rfl (Or.inl rfl) (de_mod (de_add (de_add (de_mul (dv 1) (de_int)) (dv 2)) (de_int)) (de_int))))) (dss_one (ds_ret (de_lstC (da_cons (dv 0) (da_cons (de_int) (da_cons (de_int) (da_cons (dv 1) (da_nil)))))))))
theorem fn__law_row (T : Pk K mg) {k : Nat} {a : ASp} (len : ∀ ds C R, a ds C R → ds.length = 1) (rd : ∀ ds C R, a ds C R → t__law_row { nx := fun _ C' => lss R .non C', rt := lss R } (dstart N__law_row ds) C) : FnOk P w K mg base CX0 (k + 1) T.f__law_row T.fd__law_row ["_law_script"] (liftF K a) :=
  fnDL T.F__law_row sc__law_row len fun cdv A outer s H E hr => ⟨_, dv__law_row T hr, rd⟩
theorem dv__law_taken (T : Pk K mg) {k : Nat} {cdv : Value} {A : Around} {outer : List Env} {s : Shared} {H : Hp} {E : XK} {f : Addr} (hr : Room k (A.deeper (envOfC "_law_taken" (defScope s__law_taken) s.heap.objs.size f cdv))) :
    PSs (cxOf CX0 P w K mg base N__law_taken "_law_taken" (defScope s__law_taken) f cdv A outer s H E).nox (defBody s__law_taken) (liftS K (t__law_taken)) := by
  have hu := hr.units
  have hu5 := hu5_of hr
  exact dss_cons (ds_if (dt_cm cd_gt (de_ix hu (dv 0) (de_int)) (de_int)) (dss_cons (ds_set (i := 2) sc__law_taken.nd rfl (Or.inl rfl) (de_mod (de_ix hu (dv 0) (de_int)) (dv 1))) (dss_cons (ds_asg (de_div (de_ix hu (dv 0) (de_int)) (dv 1)) (dg_subL (dv 0) (de_int))) (dss_one (ds_ret (dv 2))))) (dss_nil)) (dss_cons (ds_if (dt_cm cd_lt (de_ix hu (dv 0) (de_int)) (de_cb cl_len (by rfl) T.n_len PySem.boot_len (da_cons (de_ix hu (dv 0) (de_int)) (da_nil)))) (dss_cons (ds_set (i := 3) sc__law_taken.nd rfl (Or.inl rfl) (de_ix hu (de_ix hu (dv 0) (de_int)) (de_ix hu (dv 0) (de_int)))) (dss_cons (ds_asg (de_add (de_ix hu (dv 0) (de_int)) (de_int)) (dg_subL (dv 0) (de_int))) (dss_cons (ds_if (dt_cm cd_ge (dv 3) (de_pow (de_int) (de_int))) (dss_one (ds_asg (de_div (dv 3) (dv 1)) (dg_subL (dv 0) (de_int)))) (dss_nil)) (dss_one (ds_ret (de_mod (dv 3) (dv 1))))))) (dss_nil)) (dss_cons (ds_asg (de_mod (de_add (de_mul (de_ix hu (dv 0) (de_int)) (de_int)) (de_int)) (de_int)) (dg_subL (dv 0) (de_int))) (dss_one (ds_ret (de_mod (de_div (de_ix hu (dv 0) (de_int)) (de_int)) (dv 1))))))
theorem fn__law_taken (T : Pk K mg) {k : Nat} {a : ASp} (len : ∀ ds C R, a ds C R → ds.length = 2) (rd : ∀ ds C R, a ds C R → t__law_taken { nx := fun _ C' => R .non C', rt := R } (dstart N__law_taken ds) C) : FnOk P w K mg base CX0 (k + 1) T.f__law_taken T.fd__law_taken ["_law_row_here", "_law_many"] (liftF K a) :=
  fnD T.F__law_taken sc__law_taken len fun cdv A outer s H E hr => ⟨_, dv__law_taken T hr, rd⟩
theorem dv__law_worth (T : Pk K mg) {k : Nat} {a__law_taken : ASp} {l__law_taken : Nat} (G__law_taken : FnOk P w K mg base CX0 l__law_taken T.f__law_taken T.fd__law_taken ["_law_row_here", "_law_many"] (liftF K a__law_taken)) (h__law_taken : l__law_taken ≤ k) {cdv : Value} {A : Around} {outer : List Env} {s : Shared} {H : Hp} {E : XK} {f : Addr} (hr : Room k (A.deeper (envOfC "_law_worth" (defScope s__law_worth) s.heap.objs.size f cdv))) :
    PSs (cxOf CX0 P w K mg base N__law_worth "_law_worth" (defScope s__law_worth) f cdv A outer s H E).nox (defBody s__law_worth) (liftS K (t__law_worth a__law_taken)) := by
  have hu := hr.units
  have hu5 := hu5_of hr
  exact dss_one (ds_ret (de_ix hu (de_lst (da_cons (de_str) (da_cons (de_str) (da_cons (de_int) (da_cons (de_int) (da_cons (de_int) (da_cons (de_str) (da_cons (de_int) (da_cons (de_sub (de_int) (de_int)) (da_nil)))))))))) (de_ix hu (de_lst (da_cons (de_int) (da_cons (de_int) (da_cons (de_int) (da_cons (de_int) (da_cons (de_int) (da_cons (de_int) (da_cons (de_int) (da_cons (de_int) (da_cons (de_int) (da_cons (de_int) (da_cons (de_int) (da_cons (de_int) (da_nil)))))))))))))) (de_cf T.d__law_taken G__law_taken (hr.mono (by omega)) (by rfl) (da_cons (dv 0) (da_cons (de_int) (da_nil)))))))
theorem fn__law_worth (T : Pk K mg) {k : Nat} {a__law_taken : ASp} {l__law_taken : Nat} (G__law_taken : FnOk P w K mg base CX0 l__law_taken T.f__law_taken T.fd__law_taken ["_law_row_here", "_law_many"] (liftF K a__law_taken)) (h__law_taken : l__law_taken ≤ k) {a : ASp} (len : ∀ ds C R, a ds C R → ds.length = 1) (rd : ∀ ds C R, a ds C R → t__law_worth a__law_taken { nx := fun _ C' => R .non C', rt := R } (dstart N__law_worth ds) C) : FnOk P w K mg base CX0 (k + 1) T.f__law_worth T.fd__law_worth ["_law_row_here"] (liftF K a) :=
  fnD T.F__law_worth sc__law_worth len fun cdv A outer s H E hr => ⟨_, dv__law_worth T G__law_taken h__law_taken hr, rd⟩
theorem dv__law_dense_rule (T : Pk K mg) {k : Nat} {a__law_taken : ASp} {l__law_taken : Nat} (G__law_taken : FnOk P w K mg base CX0 l__law_taken T.f__law_taken T.fd__law_taken ["_law_row_here", "_law_many"] (liftF K a__law_taken)) (h__law_taken : l__law_taken ≤ k) {a__law_worth : ASp} {l__law_worth : Nat} (G__law_worth : FnOk P w K mg base CX0 l__law_worth T.f__law_worth T.fd__law_worth ["_law_row_here"] (liftF K a__law_worth)) (h__law_worth : l__law_worth ≤ k) {cdv : Value} {A : Around} {outer : List Env} {s : Shared} {H : Hp} {E : XK} {f : Addr} (hr : Room k (A.deeper (envOfC "_law_dense_rule" (defScope s__law_dense_rule) s.heap.objs.size f cdv))) :
    PSs (cxOf CX0 P w K mg base N__law_dense_rule "_law_dense_rule" (defScope s__law_dense_rule) f cdv A outer s H E).nox (defBody s__law_dense_rule) (liftS K (t__law_dense_rule a__law_taken a__law_worth)) := by
  have hu := hr.units
  have hu5 := hu5_of hr
  exact dss_cons (ds_asg (de_tup (da_cons (de_lstC (da_cons (de_str) (da_nil))) (da_cons (de_lstC (da_cons (de_tup (da_cons (de_str) (da_cons (de_tup (da_cons (de_ix hu (de_lst (da_cons (de_str) (da_cons (de_str) (da_nil)))) (de_cf T.d__law_taken G__law_taken (hr.mono (by omega)) (by rfl) (da_cons (dv 0) (da_cons (de_int) (da_nil))))) (da_cons (de_str) (da_nil)))) (da_nil)))) (da_nil))) (da_nil)))) (dg_tup rfl (dgs_cons (dg_name (i := 2) sc__law_dense_rule.nd rfl (Or.inl rfl)) (dgs_cons (dg_name (i := 3) sc__law_dense_rule.nd rfl (Or.inr rfl)) (dgs_nil))))) (dss_cons (ds_for PassesOwn.never rfl (di_range1 (by rfl) T.n_range (da_cons (de_cf T.d__law_taken G__law_taken (hr.mono (by omega)) (by rfl) (da_cons (dv 0) (da_cons (de_int) (da_nil)))) (da_nil))) (dg_name (i := 4) sc__law_dense_rule.nd rfl (Or.inl rfl)) (dss_cons (ds_set (i := 5) sc__law_dense_rule.nd rfl (Or.inl rfl) (de_ix hu (de_str) (de_cf T.d__law_taken G__law_taken (hr.mono (by omega)) (by rfl) (da_cons (dv 0) (da_cons (de_int) (da_nil)))))) (dss_cons (ds_set (i := 6) sc__law_dense_rule.nd rfl (Or.inl rfl) (de_cf T.d__law_taken G__law_taken (hr.mono (by omega)) (by rfl) (da_cons (dv 0) (da_cons (de_int) (da_nil))))) (dss_one (ds_if (dt_cm cd_lt (dv 6) (de_int)) (dss_cons (ds_expr (de_append (dv 3) (da_cons (de_tup (da_cons (de_str) (da_cons (de_tup (da_cons (de_ix hu (de_lst (da_cons (de_str) (da_cons (de_str) (da_cons (de_str) (da_nil))))) (dv 6)) (da_cons (dv 5) (da_nil)))) (da_nil)))) (da_nil)))) (dss_one (ds_expr (de_append (dv 2) (da_cons (dv 5) (da_nil)))))) (dss_one (ds_if (dt_cm cd_lt (dv 6) (de_int)) (dss_cons (ds_set (i := 7) sc__law_dense_rule.nd rfl (Or.inl rfl) (de_ix hu (de_lst (da_cons (dv 5) (da_cons (dv 5) (da_cons (de_cf T.d__law_worth G__law_worth (hr.mono (by omega)) (by rfl) (da_cons (dv 0) (da_nil))) (da_nil))))) (de_cf T.d__law_taken G__law_taken (hr.mono (by omega)) (by rfl) (da_cons (dv 0) (da_cons (de_int) (da_nil)))))) (dss_one (ds_expr (de_append (dv 3) (da_cons (de_tup (da_cons (de_str) (da_cons (de_tup (da_cons (de_ix hu (de_lst (da_cons (de_str) (da_cons (de_str) (da_cons (de_str) (da_nil))))) (de_sub (dv 6) (de_int))) (da_cons (dv 7) (da_nil)))) (da_nil)))) (da_nil)))))) (dss_cons (ds_set (i := 8) sc__law_dense_rule.nd rfl (Or.inl rfl) (de_ix hu (dv 2) (de_cf T.d__law_taken G__law_taken (hr.mono (by omega)) (by rfl) (da_cons (dv 0) (da_cons (de_cb cl_len (by rfl) T.n_len PySem.boot_len (da_cons (dv 2) (da_nil))) (da_nil)))))) (dss_one (ds_expr (de_append (dv 3) (da_cons (de_tup (da_cons (de_ix hu (de_lst (da_cons (de_str) (da_cons (de_str) (da_nil)))) (de_sub (dv 6) (de_int))) (da_cons (dv 8) (da_cons (de_ix hu (de_lst (da_cons (de_cf T.d__law_worth G__law_worth (hr.mono (by omega)) (by rfl) (da_cons (dv 0) (da_nil))) (da_cons (de_str) (da_nil)))) (de_sub (dv 6) (de_int))) (da_nil))))) (da_nil))))))))))))) (dss_cons (ds_setLc (i := 9) (own := [("_law_k", 4)]) (gd := gdName 4) rfl sc__law_dense_rule.nd rfl rfl (sw_true rfl rfl rfl (by decide +kernel)) (tg_name) (di_range1 (by rfl) T.n_range (da_cons (de_cb cl_len (by rfl) T.n_len PySem.boot_len (da_cons (dv 3) (da_nil))) (da_nil))) (blkOk_by (N := N__law_dense_rule) (sc := defScope s__law_dense_rule) (by decide +kernel)) (fun _ _ _ _ _ => pg_name (i := 4) sc__law_dense_rule.nd rfl (Or.inl rfl)) (fun _ _ _ _ _ => dts_one (dt_cm (cd_eq hu) (de_ix hu (de_ix hu (dv 3) (dv 4)) (de_int)) (de_str))) (fun _ _ _ _ _ => dv 4)) (dss_cons (ds_set (i := 10) sc__law_dense_rule.nd rfl (Or.inl rfl) (de_lstC (da_nil))) (dss_cons (ds_for PassesOwn.never rfl (di_range1 (by rfl) T.n_range (da_cons (de_add (de_int) (de_cf T.d__law_taken G__law_taken (hr.mono (by omega)) (by rfl) (da_cons (dv 0) (da_cons (de_int) (da_nil))))) (da_nil))) (dg_name (i := 4) sc__law_dense_rule.nd rfl (Or.inl rfl)) (dss_cons (ds_set (i := 7) sc__law_dense_rule.nd rfl (Or.inl rfl) (de_ix hu (de_lst (da_cons (de_ix hu (dv 2) (de_cf T.d__law_taken G__law_taken (hr.mono (by omega)) (by rfl) (da_cons (dv 0) (da_cons (de_cb cl_len (by rfl) T.n_len PySem.boot_len (da_cons (dv 2) (da_nil))) (da_nil))))) (da_cons (de_cf T.d__law_worth G__law_worth (hr.mono (by omega)) (by rfl) (da_cons (dv 0) (da_nil))) (da_nil)))) (de_cf T.d__law_taken G__law_taken (hr.mono (by omega)) (by rfl) (da_cons (dv 0) (da_cons (de_int) (da_nil)))))) (dss_cons (ds_set (i := 11) sc__law_dense_rule.nd rfl (Or.inl rfl) (de_tup (da_cons (de_ix hu (de_lst (da_cons (de_str) (da_cons (de_str) (da_cons (de_str) (da_nil))))) (de_cf T.d__law_taken G__law_taken (hr.mono (by omega)) (by rfl) (da_cons (dv 0) (da_cons (de_int) (da_nil))))) (da_cons (dv 7) (da_nil))))) (dss_cons (ds_expr (de_append (dv 10) (da_cons (de_tup (da_cons (de_ix hu (de_lst (da_cons (de_str) (da_cons (de_str) (da_cons (de_str) (da_cons (de_str) (da_cons (de_str) (da_cons (de_str) (da_nil)))))))) (de_cf T.d__law_taken G__law_taken (hr.mono (by omega)) (by rfl) (da_cons (dv 0) (da_cons (de_int) (da_nil))))) (da_cons (dv 11) (da_nil)))) (da_nil)))) (dss_one (ds_if (dt_cm (cd_eq hu) (de_ix hu (de_ix hu (dv 10) (de_neg (de_int))) (de_int)) (de_str)) (dss_one (ds_asg (de_tup (da_cons (de_str) (da_cons (de_ix hu (dv 9) (de_cf T.d__law_taken G__law_taken (hr.mono (by omega)) (by rfl) (da_cons (dv 0) (da_cons (de_cb cl_len (by rfl) T.n_len PySem.boot_len (da_cons (dv 9) (da_nil))) (da_nil))))) (da_nil)))) (dg_subL (dv 10) (de_neg (de_int))))) (dss_nil))))))) (dss_one (ds_ret (de_tup (da_cons (dv 1) (da_cons (de_sub (de_cf T.d__law_taken G__law_taken (hr.mono (by omega)) (by rfl) (da_cons (dv 0) (da_cons (de_int) (da_nil)))) (de_int)) (da_cons (de_ct cl_tuple (by rfl) T.n_tuple PyProof.Rows.boot_tuple (da_cons (dv 3) (da_nil))) (da_cons (de_ct cl_tuple (by rfl) T.n_tuple PyProof.Rows.boot_tuple (da_cons (dv 10) (da_nil))) (da_nil))))))))))))
theorem fn__law_dense_rule (T : Pk K mg) {k : Nat} {a__law_taken : ASp} {l__law_taken : Nat} (G__law_taken : FnOk P w K mg base CX0 l__law_taken T.f__law_taken T.fd__law_taken ["_law_row_here", "_law_many"] (liftF K a__law_taken)) (h__law_taken : l__law_taken ≤ k) {a__law_worth : ASp} {l__law_worth : Nat} (G__law_worth : FnOk P w K mg base CX0 l__law_worth T.f__law_worth T.fd__law_worth ["_law_row_here"] (liftF K a__law_worth)) (h__law_worth : l__law_worth ≤ k) {a : ASp} (len : ∀ ds C R, a ds C R → ds.length = 2) (rd : ∀ ds C R, a ds C R → t__law_dense_rule a__law_taken a__law_worth { nx := fun _ C' => lss R .non C', rt := lss R } (dstart N__law_dense_rule ds) C) : FnOk P w K mg base CX0 (k + 1) T.f__law_dense_rule T.fd__law_dense_rule ["_law_row_here", "_law_name"] (liftF K a) :=
  fnDL T.F__law_dense_rule sc__law_dense_rule len fun cdv A outer s H E hr => ⟨_, dv__law_dense_rule T G__law_taken h__law_taken G__law_worth h__law_worth hr, rd⟩
theorem dv__law_pattern (T : Pk K mg) {k : Nat} {a__law_taken : ASp} {l__law_taken : Nat} (G__law_taken : FnOk P w K mg base CX0 l__law_taken T.f__law_taken T.fd__law_taken ["_law_row_here", "_law_many"] (liftF K a__law_taken)) (h__law_taken : l__law_taken ≤ k) {a__law_worth : ASp} {l__law_worth : Nat} (G__law_worth : FnOk P w K mg base CX0 l__law_worth T.f__law_worth T.fd__law_worth ["_law_row_here"] (liftF K a__law_worth)) (h__law_worth : l__law_worth ≤ k) {cdv : Value} {A : Around} {outer : List Env} {s : Shared} {H : Hp} {E : XK} {f : Addr} (hr : Room k (A.deeper (envOfC "_law_pattern" (defScope s__law_pattern) s.heap.objs.size f cdv))) :
    PSs (cxOf CX0 P w K mg base N__law_pattern "_law_pattern" (defScope s__law_pattern) f cdv A outer s H E).nox (defBody s__law_pattern) (liftS K (t__law_pattern a__law_taken a__law_worth)) := by
  have hu := hr.units
  have hu5 := hu5_of hr
  exact dss_cons (ds_set (i := 2) sc__law_pattern.nd rfl (Or.inl rfl) (de_tup (da_cons (de_ix hu (de_lst (da_cons (de_str) (da_cons (de_str) (da_cons (de_str) (da_nil))))) (de_cf T.d__law_taken G__law_taken (hr.mono (by omega)) (by rfl) (da_cons (dv 0) (da_cons (de_int) (da_nil))))) (da_nil)))) (dss_cons (ds_for PassesOwn.never rfl (di_range1 (by rfl) T.n_range (da_cons (de_ix hu (de_lst (da_cons (de_int) (da_cons (de_int) (da_cons (de_int) (da_cons (de_int) (da_cons (de_int) (da_nil))))))) (de_cf T.d__law_taken G__law_taken (hr.mono (by omega)) (by rfl) (da_cons (dv 0) (da_cons (de_int) (da_nil))))) (da_nil))) (dg_name (i := 3) sc__law_pattern.nd rfl (Or.inl rfl)) (dss_cons (ds_set (i := 4) sc__law_pattern.nd rfl (Or.inl rfl) (de_lst (da_cons (de_cf T.d__law_worth G__law_worth (hr.mono (by omega)) (by rfl) (da_cons (dv 0) (da_nil))) (da_cons (de_str) (da_cons (de_ix hu (dv 1) (de_cf T.d__law_taken G__law_taken (hr.mono (by omega)) (by rfl) (da_cons (dv 0) (da_cons (de_int) (da_nil))))) (da_cons (de_ix hu (dv 1) (de_cf T.d__law_taken G__law_taken (hr.mono (by omega)) (by rfl) (da_cons (dv 0) (da_cons (de_int) (da_nil))))) (da_nil))))))) (dss_one (ds_set (i := 2) sc__law_pattern.nd rfl (Or.inl rfl) (de_add (dv 2) (de_tup (da_cons (de_ix hu (dv 4) (de_cf T.d__law_taken G__law_taken (hr.mono (by omega)) (by rfl) (da_cons (dv 0) (da_cons (de_int) (da_nil))))) (da_nil)))))))) (dss_one (ds_ret (dv 2))))
theorem fn__law_pattern (T : Pk K mg) {k : Nat} {a__law_taken : ASp} {l__law_taken : Nat} (G__law_taken : FnOk P w K mg base CX0 l__law_taken T.f__law_taken T.fd__law_taken ["_law_row_here", "_law_many"] (liftF K a__law_taken)) (h__law_taken : l__law_taken ≤ k) {a__law_worth : ASp} {l__law_worth : Nat} (G__law_worth : FnOk P w K mg base CX0 l__law_worth T.f__law_worth T.fd__law_worth ["_law_row_here"] (liftF K a__law_worth)) (h__law_worth : l__law_worth ≤ k) {a : ASp} (len : ∀ ds C R, a ds C R → ds.length = 2) (rd : ∀ ds C R, a ds C R → t__law_pattern a__law_taken a__law_worth { nx := fun _ C' => R .non C', rt := R } (dstart N__law_pattern ds) C) : FnOk P w K mg base CX0 (k + 1) T.f__law_pattern T.fd__law_pattern ["_law_row_here", "_law_letters_here"] (liftF K a) :=
  fnD T.F__law_pattern sc__law_pattern len fun cdv A outer s H E hr => ⟨_, dv__law_pattern T G__law_taken h__law_taken G__law_worth h__law_worth hr, rd⟩
theorem dv__law_letters (T : Pk K mg) {k : Nat} {cdv : Value} {A : Around} {outer : List Env} {s : Shared} {H : Hp} {E : XK} {f : Addr} (hr : Room k (A.deeper (envOfC "_law_letters" (defScope s__law_letters) s.heap.objs.size f cdv))) :
    PSs (cxOf CX0 P w K mg base N__law_letters "_law_letters" (defScope s__law_letters) f cdv A outer s H E).nox (defBody s__law_letters) (liftS K (t__law_letters)) := by
  have hu := hr.units
  have hu5 := hu5_of hr
  exact dss_one (ds_ret (de_lc (own := [("_law_part", 1)]) (gd := gdName 1) rfl sc__law_letters.nd (tg_name) (di_seq (de_slice (dv 0) (dp_some (de_int)) (dp_none))) (blkOk_by (N := N__law_letters) (sc := defScope s__law_letters) (by decide +kernel)) (fun _ _ _ _ _ => pg_name (i := 1) sc__law_letters.nd rfl (Or.inl rfl)) (fun _ _ _ _ _ => dts_one ((dw_and (dt_val (de_cb cl_isi (by rfl) T.n_isinstance PyProof.Rows.boot_isinstance (da_cons (dv 1) (da_cons (de_bltn (by rfl) T.n_str PyProof.Rows.boot_str) (da_nil))))) (dw_and (dt_ch cd_le cd_le (de_str) (dv 1) (de_str)) (dw_and1 (dt_cm (cd_eq hu) (de_cb cl_len (by rfl) T.n_len PySem.boot_len (da_cons (dv 1) (da_nil))) (de_int))))).pt)) (fun _ _ _ _ _ => dv 1)))
theorem fn__law_letters (T : Pk K mg) {k : Nat} {a : ASp} (len : ∀ ds C R, a ds C R → ds.length = 1) (rd : ∀ ds C R, a ds C R → t__law_letters { nx := fun _ C' => R .non C', rt := R } (dstart N__law_letters ds) C) : FnOk P w K mg base CX0 (k + 1) T.f__law_letters T.fd__law_letters ["_law_pattern_here"] (liftF K a) :=
  fnD T.F__law_letters sc__law_letters len fun cdv A outer s H E hr => ⟨_, dv__law_letters T hr, rd⟩
theorem dv__law_template (T : Pk K mg) {k : Nat} {a__law_taken : ASp} {l__law_taken : Nat} (G__law_taken : FnOk P w K mg base CX0 l__law_taken T.f__law_taken T.fd__law_taken ["_law_row_here", "_law_many"] (liftF K a__law_taken)) (h__law_taken : l__law_taken ≤ k) {a__law_worth : ASp} {l__law_worth : Nat} (G__law_worth : FnOk P w K mg base CX0 l__law_worth T.f__law_worth T.fd__law_worth ["_law_row_here"] (liftF K a__law_worth)) (h__law_worth : l__law_worth ≤ k) {cdv : Value} {A : Around} {outer : List Env} {s : Shared} {H : Hp} {E : XK} {f : Addr} (hr : Room k (A.deeper (envOfC "_law_template" (defScope s__law_template) s.heap.objs.size f cdv))) :
    PSs (cxOf CX0 P w K mg base N__law_template "_law_template" (defScope s__law_template) f cdv A outer s H E).nox (defBody s__law_template) (liftS K (t__law_template a__law_taken a__law_worth)) := by
  have hu := hr.units
  have hu5 := hu5_of hr
  exact dss_cons (ds_set (i := 2) sc__law_template.nd rfl (Or.inl rfl) (de_tup (da_cons (de_ix hu (de_lst (da_cons (de_str) (da_cons (de_str) (da_cons (de_str) (da_nil))))) (de_cf T.d__law_taken G__law_taken (hr.mono (by omega)) (by rfl) (da_cons (dv 0) (da_cons (de_int) (da_nil))))) (da_nil)))) (dss_cons (ds_for PassesOwn.never rfl (di_range1 (by rfl) T.n_range (da_cons (de_ix hu (de_lst (da_cons (de_int) (da_cons (de_int) (da_cons (de_int) (da_cons (de_int) (da_nil)))))) (de_cf T.d__law_taken G__law_taken (hr.mono (by omega)) (by rfl) (da_cons (dv 0) (da_cons (de_int) (da_nil))))) (da_nil))) (dg_name (i := 3) sc__law_template.nd rfl (Or.inl rfl)) (dss_cons (ds_set (i := 4) sc__law_template.nd rfl (Or.inl rfl) (de_cf T.d__law_worth G__law_worth (hr.mono (by omega)) (by rfl) (da_cons (dv 0) (da_nil)))) (dss_cons (ds_if ((dw_and (dt_cm (cd_ne hu) (dv 1) (de_lst (da_nil))) (dw_and1 (dt_cm cd_gt (de_cf T.d__law_taken G__law_taken (hr.mono (by omega)) (by rfl) (da_cons (dv 0) (da_cons (de_int) (da_nil)))) (de_int)))).pt) (dss_cons (ds_set (i := 4) sc__law_template.nd rfl (Or.inl rfl) (de_ix hu (dv 1) (de_cf T.d__law_taken G__law_taken (hr.mono (by omega)) (by rfl) (da_cons (dv 0) (da_cons (de_cb cl_len (by rfl) T.n_len PySem.boot_len (da_cons (dv 1) (da_nil))) (da_nil)))))) (dss_one (ds_if (dt_cm (cd_eq hu) (de_cf T.d__law_taken G__law_taken (hr.mono (by omega)) (by rfl) (da_cons (dv 0) (da_cons (de_int) (da_nil)))) (de_int)) (dss_one (ds_set (i := 4) sc__law_template.nd rfl (Or.inl rfl) (de_tup (da_cons (dv 4) (da_cons (de_ix hu (de_lst (da_cons (de_int) (da_cons (de_sub (de_int) (de_int)) (da_cons (de_int) (da_cons (de_int) (da_nil)))))) (de_cf T.d__law_taken G__law_taken (hr.mono (by omega)) (by rfl) (da_cons (dv 0) (da_cons (de_int) (da_nil))))) (da_nil)))))) (dss_nil)))) (dss_nil)) (dss_one (ds_set (i := 2) sc__law_template.nd rfl (Or.inl rfl) (de_add (dv 2) (de_tup (da_cons (dv 4) (da_nil))))))))) (dss_one (ds_ret (dv 2))))
theorem fn__law_template (T : Pk K mg) {k : Nat} {a__law_taken : ASp} {l__law_taken : Nat} (G__law_taken : FnOk P w K mg base CX0 l__law_taken T.f__law_taken T.fd__law_taken ["_law_row_here", "_law_many"] (liftF K a__law_taken)) (h__law_taken : l__law_taken ≤ k) {a__law_worth : ASp} {l__law_worth : Nat} (G__law_worth : FnOk P w K mg base CX0 l__law_worth T.f__law_worth T.fd__law_worth ["_law_row_here"] (liftF K a__law_worth)) (h__law_worth : l__law_worth ≤ k) {a : ASp} (len : ∀ ds C R, a ds C R → ds.length = 2) (rd : ∀ ds C R, a ds C R → t__law_template a__law_taken a__law_worth { nx := fun _ C' => R .non C', rt := R } (dstart N__law_template ds) C) : FnOk P w K mg base CX0 (k + 1) T.f__law_template T.fd__law_template ["_law_row_here", "_law_known"] (liftF K a) :=
  fnD T.F__law_template sc__law_template len fun cdv A outer s H E hr => ⟨_, dv__law_template T G__law_taken h__law_taken G__law_worth h__law_worth hr, rd⟩
theorem dv__law_rule (T : Pk K mg) {k : Nat} {a__law_taken : ASp} {l__law_taken : Nat} (G__law_taken : FnOk P w K mg base CX0 l__law_taken T.f__law_taken T.fd__law_taken ["_law_row_here", "_law_many"] (liftF K a__law_taken)) (h__law_taken : l__law_taken ≤ k) {a__law_pattern : ASp} {l__law_pattern : Nat} (G__law_pattern : FnOk P w K mg base CX0 l__law_pattern T.f__law_pattern T.fd__law_pattern ["_law_row_here", "_law_letters_here"] (liftF K a__law_pattern)) (h__law_pattern : l__law_pattern ≤ k) {a__law_letters : ASp} {l__law_letters : Nat} (G__law_letters : FnOk P w K mg base CX0 l__law_letters T.f__law_letters T.fd__law_letters ["_law_pattern_here"] (liftF K a__law_letters)) (h__law_letters : l__law_letters ≤ k) {a__law_worth : ASp} {l__law_worth : Nat} (G__law_worth : FnOk P w K mg base CX0 l__law_worth T.f__law_worth T.fd__law_worth ["_law_row_here"] (liftF K a__law_worth)) (h__law_worth : l__law_worth ≤ k) {a__law_template : ASp} {l__law_template : Nat} (G__law_template : FnOk P w K mg base CX0 l__law_template T.f__law_template T.fd__law_template ["_law_row_here", "_law_known"] (liftF K a__law_template)) (h__law_template : l__law_template ≤ k) {cdv : Value} {A : Around} {outer : List Env} {s : Shared} {H : Hp} {E : XK} {f : Addr} (hr : Room k (A.deeper (envOfC "_law_rule" (defScope s__law_rule) s.heap.objs.size f cdv))) :
    PSs (cxOf CX0 P w K mg base N__law_rule "_law_rule" (defScope s__law_rule) f cdv A outer s H E).nox (defBody s__law_rule) (liftS K (t__law_rule a__law_taken a__law_pattern a__law_letters a__law_worth a__law_template)) := by
  have hu := hr.units
  have hu5 := hu5_of hr
  exact dss_cons (ds_asg (de_tup (da_cons (de_lst (da_nil)) (da_cons (de_lstC (da_nil)) (da_nil)))) (dg_tup rfl (dgs_cons (dg_name (i := 2) sc__law_rule.nd rfl (Or.inl rfl)) (dgs_cons (dg_name (i := 3) sc__law_rule.nd rfl (Or.inr rfl)) (dgs_nil))))) (dss_cons (ds_for PassesOwn.never rfl (di_range1 (by rfl) T.n_range (da_cons (de_ix hu (de_lst (da_cons (de_int) (da_cons (de_int) (da_cons (de_int) (da_cons (de_int) (da_cons (de_int) (da_nil))))))) (de_cf T.d__law_taken G__law_taken (hr.mono (by omega)) (by rfl) (da_cons (dv 0) (da_cons (de_int) (da_nil))))) (da_nil))) (dg_name (i := 4) sc__law_rule.nd rfl (Or.inl rfl)) (dss_cons (ds_set (i := 5) sc__law_rule.nd rfl (Or.inl rfl) (de_ifExp (dt_cm cd_gt (dv 4) (de_int)) (de_cf T.d__law_taken G__law_taken (hr.mono (by omega)) (by rfl) (da_cons (dv 0) (da_cons (de_int) (da_nil)))) (de_int))) (dss_one (ds_if ((dw_or (dt_cm cd_lt (dv 5) (de_int)) (dw_or1 ((dw_and (dt_cm cd_gt (dv 5) (de_int)) (dw_and1 (dt_cm (cd_eq hu) (dv 2) (de_lst (da_nil))))).pt))).pt) (dss_cons (ds_expr (de_append (dv 3) (da_cons (de_tup (da_cons (de_str) (da_cons (de_cf T.d__law_pattern G__law_pattern (hr.mono (by omega)) (by rfl) (da_cons (dv 0) (da_cons (de_str) (da_nil)))) (da_nil)))) (da_nil)))) (dss_one (ds_set (i := 2) sc__law_rule.nd rfl (Or.inl rfl) (de_add (dv 2) (de_cf T.d__law_letters G__law_letters (hr.mono (by omega)) (by rfl) (da_cons (de_ix hu (de_ix hu (dv 3) (de_neg (de_int))) (de_int)) (da_nil))))))) (dss_one (ds_if (dt_cm cd_lt (dv 5) (de_int)) (dss_one (ds_expr (de_append (dv 3) (da_cons (de_tup (da_cons (de_str) (da_cons (de_cf T.d__law_pattern G__law_pattern (hr.mono (by omega)) (by rfl) (da_cons (dv 0) (da_cons (de_str) (da_nil)))) (da_nil)))) (da_nil))))) (dss_cons (ds_set (i := 6) sc__law_rule.nd rfl (Or.inl rfl) (de_ix hu (dv 2) (de_cf T.d__law_taken G__law_taken (hr.mono (by omega)) (by rfl) (da_cons (dv 0) (da_cons (de_cb cl_len (by rfl) T.n_len PySem.boot_len (da_cons (dv 2) (da_nil))) (da_nil)))))) (dss_cons (ds_set (i := 7) sc__law_rule.nd rfl (Or.inl rfl) (de_ix hu (de_lst (da_cons (de_cf T.d__law_worth G__law_worth (hr.mono (by omega)) (by rfl) (da_cons (dv 0) (da_nil))) (da_cons (de_ix hu (dv 2) (de_cf T.d__law_taken G__law_taken (hr.mono (by omega)) (by rfl) (da_cons (dv 0) (da_cons (de_cb cl_len (by rfl) T.n_len PySem.boot_len (da_cons (dv 2) (da_nil))) (da_nil))))) (da_nil)))) (de_cf T.d__law_taken G__law_taken (hr.mono (by omega)) (by rfl) (da_cons (dv 0) (da_cons (de_int) (da_nil)))))) (dss_cons (ds_set (i := 8) sc__law_rule.nd rfl (Or.inl rfl) (de_ifExp (dt_cm (cd_eq hu) (de_cf T.d__law_taken G__law_taken (hr.mono (by omega)) (by rfl) (da_cons (dv 0) (da_cons (de_int) (da_nil)))) (de_int)) (de_tup (da_cons (dv 6) (da_cons (dv 7) (da_nil)))) (de_tup (da_cons (dv 7) (da_cons (dv 6) (da_nil)))))) (dss_one (ds_expr (de_append (dv 3) (da_cons (de_add (de_tup (da_cons (de_ix hu (de_lst (da_cons (de_str) (da_cons (de_str) (da_cons (de_str) (da_nil))))) (de_cf T.d__law_taken G__law_taken (hr.mono (by omega)) (by rfl) (da_cons (dv 0) (da_cons (de_int) (da_nil))))) (da_nil))) (dv 8)) (da_nil)))))))))))))) (dss_cons (ds_setLc (i := 9) (own := [("_law_k", 4)]) (gd := gdName 4) rfl sc__law_rule.nd rfl rfl (sw_true rfl rfl rfl (by decide +kernel)) (tg_name) (di_range1 (by rfl) T.n_range (da_cons (de_cb cl_len (by rfl) T.n_len PySem.boot_len (da_cons (dv 3) (da_nil))) (da_nil))) (blkOk_by (N := N__law_rule) (sc := defScope s__law_rule) (by decide +kernel)) (fun _ _ _ _ _ => pg_name (i := 4) sc__law_rule.nd rfl (Or.inl rfl)) (fun _ _ _ _ _ => dts_one (dt_cm (cd_eq hu) (de_ix hu (de_ix hu (dv 3) (dv 4)) (de_int)) (de_str))) (fun _ _ _ _ _ => dv 4)) (dss_cons (ds_set (i := 10) sc__law_rule.nd rfl (Or.inl rfl) (de_lstC (da_nil))) (dss_cons (ds_for PassesOwn.never rfl (di_range1 (by rfl) T.n_range (da_cons (de_ix hu (de_lst (da_cons (de_int) (da_cons (de_int) (da_cons (de_int) (da_cons (de_int) (da_nil)))))) (de_cf T.d__law_taken G__law_taken (hr.mono (by omega)) (by rfl) (da_cons (dv 0) (da_cons (de_int) (da_nil))))) (da_nil))) (dg_name (i := 4) sc__law_rule.nd rfl (Or.inl rfl)) (dss_cons (ds_set (i := 5) sc__law_rule.nd rfl (Or.inl rfl) (de_cf T.d__law_taken G__law_taken (hr.mono (by omega)) (by rfl) (da_cons (dv 0) (da_cons (de_int) (da_nil))))) (dss_one (ds_if (dt_cm (cd_eq hu) (dv 5) (de_int)) (dss_one (ds_expr (de_append (dv 10) (da_cons (de_tup (da_cons (de_str) (da_cons (de_ix hu (dv 9) (de_cf T.d__law_taken G__law_taken (hr.mono (by omega)) (by rfl) (da_cons (dv 0) (da_cons (de_cb cl_len (by rfl) T.n_len PySem.boot_len (da_cons (dv 9) (da_nil))) (da_nil))))) (da_nil)))) (da_nil))))) (dss_one (ds_expr (de_append (dv 10) (da_cons (de_tup (da_cons (de_ix hu (de_lst (da_cons (de_str) (da_cons (de_str) (da_cons (de_str) (da_cons (de_str) (da_cons (de_str) (da_cons (de_str) (da_cons (de_str) (da_nil))))))))) (de_sub (dv 5) (de_int))) (da_cons (de_cf T.d__law_template G__law_template (hr.mono (by omega)) (by rfl) (da_cons (dv 0) (da_cons (dv 2) (da_nil)))) (da_nil)))) (da_nil))))))))) (dss_one (ds_ret (de_tup (da_cons (dv 1) (da_cons (de_sub (de_cf T.d__law_taken G__law_taken (hr.mono (by omega)) (by rfl) (da_cons (dv 0) (da_cons (de_int) (da_nil)))) (de_int)) (da_cons (de_ct cl_tuple (by rfl) T.n_tuple PyProof.Rows.boot_tuple (da_cons (dv 3) (da_nil))) (da_cons (de_ct cl_tuple (by rfl) T.n_tuple PyProof.Rows.boot_tuple (da_cons (dv 10) (da_nil))) (da_nil))))))))))))
theorem fn__law_rule (T : Pk K mg) {k : Nat} {a__law_taken : ASp} {l__law_taken : Nat} (G__law_taken : FnOk P w K mg base CX0 l__law_taken T.f__law_taken T.fd__law_taken ["_law_row_here", "_law_many"] (liftF K a__law_taken)) (h__law_taken : l__law_taken ≤ k) {a__law_pattern : ASp} {l__law_pattern : Nat} (G__law_pattern : FnOk P w K mg base CX0 l__law_pattern T.f__law_pattern T.fd__law_pattern ["_law_row_here", "_law_letters_here"] (liftF K a__law_pattern)) (h__law_pattern : l__law_pattern ≤ k) {a__law_letters : ASp} {l__law_letters : Nat} (G__law_letters : FnOk P w K mg base CX0 l__law_letters T.f__law_letters T.fd__law_letters ["_law_pattern_here"] (liftF K a__law_letters)) (h__law_letters : l__law_letters ≤ k) {a__law_worth : ASp} {l__law_worth : Nat} (G__law_worth : FnOk P w K mg base CX0 l__law_worth T.f__law_worth T.fd__law_worth ["_law_row_here"] (liftF K a__law_worth)) (h__law_worth : l__law_worth ≤ k) {a__law_template : ASp} {l__law_template : Nat} (G__law_template : FnOk P w K mg base CX0 l__law_template T.f__law_template T.fd__law_template ["_law_row_here", "_law_known"] (liftF K a__law_template)) (h__law_template : l__law_template ≤ k) {a : ASp} (len : ∀ ds C R, a ds C R → ds.length = 2) (rd : ∀ ds C R, a ds C R → t__law_rule a__law_taken a__law_pattern a__law_letters a__law_worth a__law_template { nx := fun _ C' => lss R .non C', rt := lss R } (dstart N__law_rule ds) C) : FnOk P w K mg base CX0 (k + 1) T.f__law_rule T.fd__law_rule ["_law_row_here", "_law_name"] (liftF K a) :=
  fnDL T.F__law_rule sc__law_rule len fun cdv A outer s H E hr => ⟨_, dv__law_rule T G__law_taken h__law_taken G__law_pattern h__law_pattern G__law_letters h__law_letters G__law_worth h__law_worth G__law_template h__law_template hr, rd⟩
theorem dv__law_rules (T : Pk K mg) {k : Nat} {a__law_taken : ASp} {l__law_taken : Nat} (G__law_taken : FnOk P w K mg base CX0 l__law_taken T.f__law_taken T.fd__law_taken ["_law_row_here", "_law_many"] (liftF K a__law_taken)) (h__law_taken : l__law_taken ≤ k) {a__law_dense_rule : ASp} {l__law_dense_rule : Nat} (G__law_dense_rule : FnOk P w K mg base CX0 l__law_dense_rule T.f__law_dense_rule T.fd__law_dense_rule ["_law_row_here", "_law_name"] (liftF K a__law_dense_rule)) (h__law_dense_rule : l__law_dense_rule ≤ k) {a__law_rule : ASp} {l__law_rule : Nat} (G__law_rule : FnOk P w K mg base CX0 l__law_rule T.f__law_rule T.fd__law_rule ["_law_row_here", "_law_name"] (liftF K a__law_rule)) (h__law_rule : l__law_rule ≤ k) {cdv : Value} {A : Around} {outer : List Env} {s : Shared} {H : Hp} {E : XK} {f : Addr} (hr : Room k (A.deeper (envOfC "_law_rules" (defScope s__law_rules) s.heap.objs.size f cdv))) :
    PSs (cxOf CX0 P w K mg base N__law_rules "_law_rules" (defScope s__law_rules) f cdv A outer s H E).nox (defBody s__law_rules) (liftS K (t__law_rules a__law_taken a__law_dense_rule a__law_rule)) := by
  have hu := hr.units
  have hu5 := hu5_of hr
  exact dss_cons (ds_par (i := 2) (j := 3) rfl sc__law_rules.nd rfl rfl (by decide) rfl rfl (da_cons (de_lst (da_cons (de_str) (da_cons (de_str) (da_cons (de_str) (da_cons (de_str) (da_nil)))))) (da_cons (de_cm (cd_eq hu) (de_cf T.d__law_taken G__law_taken (hr.mono (by omega)) (by rfl) (da_cons (dv 0) (da_cons (de_int) (da_nil)))) (de_int)) (da_nil))) rfl) (dss_cons (ds_set (i := 4) sc__law_rules.nd rfl (Or.inl rfl) (de_lstC (da_nil))) (dss_cons (ds_for PassesOwn.never rfl (di_range1 (by rfl) T.n_range (da_cons (de_add (de_int) (de_cf T.d__law_taken G__law_taken (hr.mono (by omega)) (by rfl) (da_cons (dv 0) (da_cons (dv 1) (da_nil))))) (da_nil))) (dg_name (i := 5) sc__law_rules.nd rfl (Or.inl rfl)) (dss_one (ds_expr (de_append (dv 4) (da_cons (de_ifExp (dt_val (dv 3)) (de_cf T.d__law_dense_rule G__law_dense_rule (hr.mono (by omega)) (by rfl) (da_cons (dv 0) (da_cons (de_ix hu (dv 2) (dv 5)) (da_nil)))) (de_cf T.d__law_rule G__law_rule (hr.mono (by omega)) (by rfl) (da_cons (dv 0) (da_cons (de_ix hu (dv 2) (dv 5)) (da_nil))))) (da_nil)))))) (dss_one (ds_ret (de_ct cl_tuple (by rfl) T.n_tuple PyProof.Rows.boot_tuple (da_cons (dv 4) (da_nil)))))))
theorem fn__law_rules (T : Pk K mg) {k : Nat} {a__law_taken : ASp} {l__law_taken : Nat} (G__law_taken : FnOk P w K mg base CX0 l__law_taken T.f__law_taken T.fd__law_taken ["_law_row_here", "_law_many"] (liftF K a__law_taken)) (h__law_taken : l__law_taken ≤ k) {a__law_dense_rule : ASp} {l__law_dense_rule : Nat} (G__law_dense_rule : FnOk P w K mg base CX0 l__law_dense_rule T.f__law_dense_rule T.fd__law_dense_rule ["_law_row_here", "_law_name"] (liftF K a__law_dense_rule)) (h__law_dense_rule : l__law_dense_rule ≤ k) {a__law_rule : ASp} {l__law_rule : Nat} (G__law_rule : FnOk P w K mg base CX0 l__law_rule T.f__law_rule T.fd__law_rule ["_law_row_here", "_law_name"] (liftF K a__law_rule)) (h__law_rule : l__law_rule ≤ k) {a : ASp} (len : ∀ ds C R, a ds C R → ds.length = 2) (rd : ∀ ds C R, a ds C R → t__law_rules a__law_taken a__law_dense_rule a__law_rule { nx := fun _ C' => lss R .non C', rt := lss R } (dstart N__law_rules ds) C) : FnOk P w K mg base CX0 (k + 1) T.f__law_rules T.fd__law_rules ["_law_row_here", "_law_wished"] (liftF K a) :=
  fnDL T.F__law_rules sc__law_rules len fun cdv A outer s H E hr => ⟨_, dv__law_rules T G__law_taken h__law_taken G__law_dense_rule h__law_dense_rule G__law_rule h__law_rule hr, rd⟩
theorem dv__law_thing (T : Pk K mg) {k : Nat} {a__law_taken : ASp} {l__law_taken : Nat} (G__law_taken : FnOk P w K mg base CX0 l__law_taken T.f__law_taken T.fd__law_taken ["_law_row_here", "_law_many"] (liftF K a__law_taken)) (h__law_taken : l__law_taken ≤ k) {a__law_worth : ASp} {l__law_worth : Nat} (G__law_worth : FnOk P w K mg base CX0 l__law_worth T.f__law_worth T.fd__law_worth ["_law_row_here"] (liftF K a__law_worth)) (h__law_worth : l__law_worth ≤ k) {cdv : Value} {A : Around} {outer : List Env} {s : Shared} {H : Hp} {E : XK} {f : Addr} (hr : Room k (A.deeper (envOfC "_law_thing" (defScope s__law_thing) s.heap.objs.size f cdv))) :
    PSs (cxOf CX0 P w K mg base N__law_thing "_law_thing" (defScope s__law_thing) f cdv A outer s H E).nox (defBody s__law_thing) (liftS K (t__law_thing a__law_taken a__law_worth)) := by
  have hu := hr.units
  have hu5 := hu5_of hr
  exact dss_cons (ds_set (i := 1) sc__law_thing.nd rfl (Or.inl rfl) (de_ix hu (de_lst (da_cons (de_str) (da_cons (de_str) (da_cons (de_str) (da_nil))))) (de_cf T.d__law_taken G__law_taken (hr.mono (by omega)) (by rfl) (da_cons (dv 0) (da_cons (de_int) (da_nil)))))) (dss_one (ds_ret (de_add (de_tup (da_cons (dv 1) (da_nil))) (de_ct cl_tuple (by rfl) T.n_tuple PyProof.Rows.boot_tuple (da_cons (de_lc (own := [("_law_k", 2)]) (gd := gdName 2) rfl sc__law_thing.nd (tg_name) (di_range1 (by rfl) T.n_range (da_cons (de_ix hu (de_lst (da_cons (de_int) (da_cons (de_int) (da_cons (de_int) (da_cons (de_int) (da_cons (de_int) (da_cons (de_int) (da_nil)))))))) (de_cf T.d__law_taken G__law_taken (hr.mono (by omega)) (by rfl) (da_cons (dv 0) (da_cons (de_int) (da_nil))))) (da_nil))) (blkOk_by (N := N__law_thing) (sc := defScope s__law_thing) (by decide +kernel)) (fun _ _ _ _ _ => pg_name (i := 2) sc__law_thing.nd rfl (Or.inl rfl)) (fun _ _ _ _ _ => dts_nil) (fun _ _ _ _ _ => de_cf T.d__law_worth G__law_worth (hr.mono (by omega)) (by rfl) (da_cons (dv 0) (da_nil)))) (da_nil))))))
theorem fn__law_thing (T : Pk K mg) {k : Nat} {a__law_taken : ASp} {l__law_taken : Nat} (G__law_taken : FnOk P w K mg base CX0 l__law_taken T.f__law_taken T.fd__law_taken ["_law_row_here", "_law_many"] (liftF K a__law_taken)) (h__law_taken : l__law_taken ≤ k) {a__law_worth : ASp} {l__law_worth : Nat} (G__law_worth : FnOk P w K mg base CX0 l__law_worth T.f__law_worth T.fd__law_worth ["_law_row_here"] (liftF K a__law_worth)) (h__law_worth : l__law_worth ≤ k) {a : ASp} (len : ∀ ds C R, a ds C R → ds.length = 1) (rd : ∀ ds C R, a ds C R → t__law_thing a__law_taken a__law_worth { nx := fun _ C' => R .non C', rt := R } (dstart N__law_thing ds) C) : FnOk P w K mg base CX0 (k + 1) T.f__law_thing T.fd__law_thing ["_law_row_here"] (liftF K a) :=
  fnD T.F__law_thing sc__law_thing len fun cdv A outer s H E hr => ⟨_, dv__law_thing T G__law_taken h__law_taken G__law_worth h__law_worth hr, rd⟩
theorem dv_is_word (T : Pk K mg) {k : Nat} {cdv : Value} {A : Around} {outer : List Env} {s : Shared} {H : Hp} {E : XK} {f : Addr} (hr : Room k (A.deeper (envOfC "is_word" (defScope s_is_word) s.heap.objs.size f cdv))) :
    PSs (cxOf CX0 P w K mg base N_is_word "is_word" (defScope s_is_word) f cdv A outer s H E).nox (defBody s_is_word) (liftS K (t_is_word)) := by
  have hu := hr.units
  have hu5 := hu5_of hr
  exact dss_cons (ds_if ((dw_or (dt_not (dt_val (de_cb cl_isi (by rfl) T.n_isinstance PyProof.Rows.boot_isinstance (da_cons (dv 0) (da_cons (de_bltn (by rfl) T.n_str PyProof.Rows.boot_str) (da_nil)))))) (dw_or1 (dt_not (dt_ch cd_le cd_le (de_int) (de_cb cl_len (by rfl) T.n_len PySem.boot_len (da_cons (dv 0) (da_nil))) (de_glob (by rfl) T.c_MOST_LETTERS))))).pt) (dss_one (ds_ret (de_bl))) (dss_nil)) (dss_one (ds_ret (de_cb (cl_all rfl) (by rfl) T.n_all PyProof.Rows.boot_all (da_cons (de_lc (own := [("sign", 1)]) (gd := gdName 1) rfl sc_is_word.nd (tg_name) (di_seq (dv 0)) (blkOk_by (N := N_is_word) (sc := defScope s_is_word) (by decide +kernel)) (fun _ _ _ _ _ => pg_name (i := 1) sc_is_word.nd rfl (Or.inl rfl)) (fun _ _ _ _ _ => dts_nil) (fun _ _ _ _ _ => de_cm (cd_in hu5) (dv 1) (de_glob (by rfl) T.c_SMALL))) (da_nil)))))
theorem fn_is_word (T : Pk K mg) {k : Nat} {a : ASp} (len : ∀ ds C R, a ds C R → ds.length = 1) (rd : ∀ ds C R, a ds C R → t_is_word { nx := fun _ C' => R .non C', rt := R } (dstart N_is_word ds) C) : FnOk P w K mg base CX0 (k + 1) T.f_is_word T.fd_is_word ["part"] (liftF K a) :=
  fnD T.F_is_word sc_is_word len fun cdv A outer s H E hr => ⟨_, dv_is_word T hr, rd⟩
theorem dv_is_number (T : Pk K mg) {k : Nat} {cdv : Value} {A : Around} {outer : List Env} {s : Shared} {H : Hp} {E : XK} {f : Addr} (hr : Room k (A.deeper (envOfC "is_number" (defScope s_is_number) s.heap.objs.size f cdv))) :
    PSs (cxOf CX0 P w K mg base N_is_number "is_number" (defScope s_is_number) f cdv A outer s H E).nox (defBody s_is_number) (liftS K (t_is_number)) := by
  have hu := hr.units
  have hu5 := hu5_of hr
  exact dss_one (ds_ret (de_and (de_cb cl_isi (by rfl) T.n_isinstance PyProof.Rows.boot_isinstance (da_cons (dv 0) (da_cons (de_bltn (by rfl) T.n_int PyProof.Rows.boot_int) (da_nil)))) (de_and (de_not (de_cb cl_isi (by rfl) T.n_isinstance PyProof.Rows.boot_isinstance (da_cons (dv 0) (da_cons (de_bltn (by rfl) T.n_bool PyProof.Rows.boot_bool) (da_nil))))) (de_one (de_ch cd_le cd_le (dv 1) (dv 0) (dv 2))))))
theorem fn_is_number (T : Pk K mg) {k : Nat} {a : ASp} (len : ∀ ds C R, a ds C R → ds.length = 3) (rd : ∀ ds C R, a ds C R → t_is_number { nx := fun _ C' => R .non C', rt := R } (dstart N_is_number ds) C) : FnOk P w K mg base CX0 (k + 1) T.f_is_number T.fd_is_number ["part", "low", "high"] (liftF K a) :=
  fnD T.F_is_number sc_is_number len fun cdv A outer s H E hr => ⟨_, dv_is_number T hr, rd⟩
theorem dv_is_worth (T : Pk K mg) {k : Nat} {a_is_word : ASp} {l_is_word : Nat} (G_is_word : FnOk P w K mg base CX0 l_is_word T.f_is_word T.fd_is_word ["part"] (liftF K a_is_word)) (h_is_word : l_is_word ≤ k) {a_is_number : ASp} {l_is_number : Nat} (G_is_number : FnOk P w K mg base CX0 l_is_number T.f_is_number T.fd_is_number ["part", "low", "high"] (liftF K a_is_number)) (h_is_number : l_is_number ≤ k) {cdv : Value} {A : Around} {outer : List Env} {s : Shared} {H : Hp} {E : XK} {f : Addr} (hr : Room k (A.deeper (envOfC "is_worth" (defScope s_is_worth) s.heap.objs.size f cdv))) :
    PSs (cxOf CX0 P w K mg base N_is_worth "is_worth" (defScope s_is_worth) f cdv A outer s H E).nox (defBody s_is_worth) (liftS K (t_is_worth a_is_word a_is_number)) := by
  have hu := hr.units
  have hu5 := hu5_of hr
  exact dss_one (ds_ret (de_or (de_cf T.d_is_word G_is_word (hr.mono (by omega)) (by rfl) (da_cons (dv 0) (da_nil))) (de_one (de_cf T.d_is_number G_is_number (hr.mono (by omega)) (by rfl) (da_cons (dv 0) (da_cons (de_sub (de_int) (de_glob (by rfl) T.c_MOST_NUMBER)) (da_cons (de_glob (by rfl) T.c_MOST_NUMBER) (da_nil))))))))
theorem fn_is_worth (T : Pk K mg) {k : Nat} {a_is_word : ASp} {l_is_word : Nat} (G_is_word : FnOk P w K mg base CX0 l_is_word T.f_is_word T.fd_is_word ["part"] (liftF K a_is_word)) (h_is_word : l_is_word ≤ k) {a_is_number : ASp} {l_is_number : Nat} (G_is_number : FnOk P w K mg base CX0 l_is_number T.f_is_number T.fd_is_number ["part", "low", "high"] (liftF K a_is_number)) (h_is_number : l_is_number ≤ k) {a : ASp} (len : ∀ ds C R, a ds C R → ds.length = 1) (rd : ∀ ds C R, a ds C R → t_is_worth a_is_word a_is_number { nx := fun _ C' => R .non C', rt := R } (dstart N_is_worth ds) C) : FnOk P w K mg base CX0 (k + 1) T.f_is_worth T.fd_is_worth ["part"] (liftF K a) :=
  fnD T.F_is_worth sc_is_worth len fun cdv A outer s H E hr => ⟨_, dv_is_worth T G_is_word h_is_word G_is_number h_is_number hr, rd⟩
theorem dv_is_blank (T : Pk K mg) {k : Nat} {cdv : Value} {A : Around} {outer : List Env} {s : Shared} {H : Hp} {E : XK} {f : Addr} (hr : Room k (A.deeper (envOfC "is_blank" (defScope s_is_blank) s.heap.objs.size f cdv))) :
    PSs (cxOf CX0 P w K mg base N_is_blank "is_blank" (defScope s_is_blank) f cdv A outer s H E).nox (defBody s_is_blank) (liftS K (t_is_blank)) := by
  have hu := hr.units
  have hu5 := hu5_of hr
  exact dss_one (ds_ret (de_and (de_cb cl_isi (by rfl) T.n_isinstance PyProof.Rows.boot_isinstance (da_cons (dv 0) (da_cons (de_bltn (by rfl) T.n_str PyProof.Rows.boot_str) (da_nil)))) (de_and (de_cm (cd_eq hu) (de_cb cl_len (by rfl) T.n_len PySem.boot_len (da_cons (dv 0) (da_nil))) (de_int)) (de_one (de_cm (cd_in hu5) (dv 0) (de_glob (by rfl) T.c_GREAT))))))
theorem fn_is_blank (T : Pk K mg) {k : Nat} {a : ASp} (len : ∀ ds C R, a ds C R → ds.length = 1) (rd : ∀ ds C R, a ds C R → t_is_blank { nx := fun _ C' => R .non C', rt := R } (dstart N_is_blank ds) C) : FnOk P w K mg base CX0 (k + 1) T.f_is_blank T.fd_is_blank ["part"] (liftF K a) :=
  fnD T.F_is_blank sc_is_blank len fun cdv A outer s H E hr => ⟨_, dv_is_blank T hr, rd⟩
theorem dv_is_pattern (T : Pk K mg) {k : Nat} {a_is_word : ASp} {l_is_word : Nat} (G_is_word : FnOk P w K mg base CX0 l_is_word T.f_is_word T.fd_is_word ["part"] (liftF K a_is_word)) (h_is_word : l_is_word ≤ k) {a_is_worth : ASp} {l_is_worth : Nat} (G_is_worth : FnOk P w K mg base CX0 l_is_worth T.f_is_worth T.fd_is_worth ["part"] (liftF K a_is_worth)) (h_is_worth : l_is_worth ≤ k) {a_is_blank : ASp} {l_is_blank : Nat} (G_is_blank : FnOk P w K mg base CX0 l_is_blank T.f_is_blank T.fd_is_blank ["part"] (liftF K a_is_blank)) (h_is_blank : l_is_blank ≤ k) {cdv : Value} {A : Around} {outer : List Env} {s : Shared} {H : Hp} {E : XK} {f : Addr} (hr : Room k (A.deeper (envOfC "is_pattern" (defScope s_is_pattern) s.heap.objs.size f cdv))) :
    PSs (cxOf CX0 P w K mg base N_is_pattern "is_pattern" (defScope s_is_pattern) f cdv A outer s H E).nox (defBody s_is_pattern) (liftS K (t_is_pattern a_is_word a_is_worth a_is_blank)) := by
  have hu := hr.units
  have hu5 := hu5_of hr
  exact dss_cons (ds_if ((dw_or (dt_not (dt_val (de_cb cl_isi (by rfl) T.n_isinstance PyProof.Rows.boot_isinstance (da_cons (dv 0) (da_cons (de_bltn (by rfl) T.n_tuple PyProof.Rows.boot_tuple) (da_nil)))))) (dw_or (dt_not (dt_ch cd_le cd_le (de_int) (de_cb cl_len (by rfl) T.n_len PySem.boot_len (da_cons (dv 0) (da_nil))) (de_glob (by rfl) T.c_MOST_PARTS))) (dw_or1 (dt_not (dt_val (de_cf T.d_is_word G_is_word (hr.mono (by omega)) (by rfl) (da_cons (de_ix hu (dv 0) (de_int)) (da_nil)))))))).pt) (dss_one (ds_ret (de_bl))) (dss_nil)) (dss_one (ds_ret (de_cb (cl_all rfl) (by rfl) T.n_all PyProof.Rows.boot_all (da_cons (de_lc (own := [("one", 1)]) (gd := gdName 1) rfl sc_is_pattern.nd (tg_name) (di_seq (de_slice (dv 0) (dp_some (de_int)) (dp_none))) (blkOk_by (N := N_is_pattern) (sc := defScope s_is_pattern) (by decide +kernel)) (fun _ _ _ _ _ => pg_name (i := 1) sc_is_pattern.nd rfl (Or.inl rfl)) (fun _ _ _ _ _ => dts_nil) (fun _ _ _ _ _ => de_or (de_cf T.d_is_worth G_is_worth (hr.mono (by omega)) (by rfl) (da_cons (dv 1) (da_nil))) (de_or (de_cf T.d_is_blank G_is_blank (hr.mono (by omega)) (by rfl) (da_cons (dv 1) (da_nil))) (de_one (de_and (de_cb cl_isi (by rfl) T.n_isinstance PyProof.Rows.boot_isinstance (da_cons (dv 1) (da_cons (de_bltn (by rfl) T.n_str PyProof.Rows.boot_str) (da_nil)))) (de_one (de_cm (cd_eq hu) (dv 1) (de_glob (by rfl) T.c_ANY)))))))) (da_nil)))))
theorem fn_is_pattern (T : Pk K mg) {k : Nat} {a_is_word : ASp} {l_is_word : Nat} (G_is_word : FnOk P w K mg base CX0 l_is_word T.f_is_word T.fd_is_word ["part"] (liftF K a_is_word)) (h_is_word : l_is_word ≤ k) {a_is_worth : ASp} {l_is_worth : Nat} (G_is_worth : FnOk P w K mg base CX0 l_is_worth T.f_is_worth T.fd_is_worth ["part"] (liftF K a_is_worth)) (h_is_worth : l_is_worth ≤ k) {a_is_blank : ASp} {l_is_blank : Nat} (G_is_blank : FnOk P w K mg base CX0 l_is_blank T.f_is_blank T.fd_is_blank ["part"] (liftF K a_is_blank)) (h_is_blank : l_is_blank ≤ k) {a : ASp} (len : ∀ ds C R, a ds C R → ds.length = 1) (rd : ∀ ds C R, a ds C R → t_is_pattern a_is_word a_is_worth a_is_blank { nx := fun _ C' => R .non C', rt := R } (dstart N_is_pattern ds) C) : FnOk P w K mg base CX0 (k + 1) T.f_is_pattern T.fd_is_pattern ["part"] (liftF K a) :=
  fnD T.F_is_pattern sc_is_pattern len fun cdv A outer s H E hr => ⟨_, dv_is_pattern T G_is_word h_is_word G_is_worth h_is_worth G_is_blank h_is_blank hr, rd⟩
theorem dv_is_side (T : Pk K mg) {k : Nat} {a_is_worth : ASp} {l_is_worth : Nat} (G_is_worth : FnOk P w K mg base CX0 l_is_worth T.f_is_worth T.fd_is_worth ["part"] (liftF K a_is_worth)) (h_is_worth : l_is_worth ≤ k) {a_is_blank : ASp} {l_is_blank : Nat} (G_is_blank : FnOk P w K mg base CX0 l_is_blank T.f_is_blank T.fd_is_blank ["part"] (liftF K a_is_blank)) (h_is_blank : l_is_blank ≤ k) {cdv : Value} {A : Around} {outer : List Env} {s : Shared} {H : Hp} {E : XK} {f : Addr} (hr : Room k (A.deeper (envOfC "is_side" (defScope s_is_side) s.heap.objs.size f cdv))) :
    PSs (cxOf CX0 P w K mg base N_is_side "is_side" (defScope s_is_side) f cdv A outer s H E).nox (defBody s_is_side) (liftS K (t_is_side a_is_worth a_is_blank)) := by
  have hu := hr.units
  have hu5 := hu5_of hr
  exact dss_one (ds_ret (de_or (de_cf T.d_is_worth G_is_worth (hr.mono (by omega)) (by rfl) (da_cons (dv 0) (da_nil))) (de_one (de_and (de_cf T.d_is_blank G_is_blank (hr.mono (by omega)) (by rfl) (da_cons (dv 0) (da_nil))) (de_one (de_cm (cd_in hu5) (dv 0) (dv 1)))))))
theorem fn_is_side (T : Pk K mg) {k : Nat} {a_is_worth : ASp} {l_is_worth : Nat} (G_is_worth : FnOk P w K mg base CX0 l_is_worth T.f_is_worth T.fd_is_worth ["part"] (liftF K a_is_worth)) (h_is_worth : l_is_worth ≤ k) {a_is_blank : ASp} {l_is_blank : Nat} (G_is_blank : FnOk P w K mg base CX0 l_is_blank T.f_is_blank T.fd_is_blank ["part"] (liftF K a_is_blank)) (h_is_blank : l_is_blank ≤ k) {a : ASp} (len : ∀ ds C R, a ds C R → ds.length = 2) (rd : ∀ ds C R, a ds C R → t_is_side a_is_worth a_is_blank { nx := fun _ C' => R .non C', rt := R } (dstart N_is_side ds) C) : FnOk P w K mg base CX0 (k + 1) T.f_is_side T.fd_is_side ["part", "known"] (liftF K a) :=
  fnD T.F_is_side sc_is_side len fun cdv A outer s H E hr => ⟨_, dv_is_side T G_is_worth h_is_worth G_is_blank h_is_blank hr, rd⟩
theorem dv_is_want (T : Pk K mg) {k : Nat} {a_is_pattern : ASp} {l_is_pattern : Nat} (G_is_pattern : FnOk P w K mg base CX0 l_is_pattern T.f_is_pattern T.fd_is_pattern ["part"] (liftF K a_is_pattern)) (h_is_pattern : l_is_pattern ≤ k) {a_is_side : ASp} {l_is_side : Nat} (G_is_side : FnOk P w K mg base CX0 l_is_side T.f_is_side T.fd_is_side ["part", "known"] (liftF K a_is_side)) (h_is_side : l_is_side ≤ k) {cdv : Value} {A : Around} {outer : List Env} {s : Shared} {H : Hp} {E : XK} {f : Addr} (hr : Room k (A.deeper (envOfC "is_want" (defScope s_is_want) s.heap.objs.size f cdv))) :
    PSs (cxOf CX0 P w K mg base N_is_want "is_want" (defScope s_is_want) f cdv A outer s H E).nox (defBody s_is_want) (liftS K (t_is_want a_is_pattern a_is_side)) := by
  have hu := hr.units
  have hu5 := hu5_of hr
  exact dss_cons (ds_if ((dw_or (dt_not (dt_val (de_cb cl_isi (by rfl) T.n_isinstance PyProof.Rows.boot_isinstance (da_cons (dv 0) (da_cons (de_bltn (by rfl) T.n_tuple PyProof.Rows.boot_tuple) (da_nil)))))) (dw_or (dt_cm (cd_eq hu) (dv 0) (de_tup (da_nil))) (dw_or1 (dt_not (dt_val (de_cb cl_isi (by rfl) T.n_isinstance PyProof.Rows.boot_isinstance (da_cons (de_ix hu (dv 0) (de_int)) (da_cons (de_bltn (by rfl) T.n_str PyProof.Rows.boot_str) (da_nil))))))))).pt) (dss_one (ds_ret (de_bl))) (dss_nil)) (dss_cons (ds_if (dt_cm (cd_in hu5) (de_ix hu (dv 0) (de_int)) (de_tup (da_cons (de_glob (by rfl) T.c_IS) (da_cons (de_glob (by rfl) T.c_NOT) (da_nil))))) (dss_one (ds_ret (de_and (de_cm (cd_eq hu) (de_cb cl_len (by rfl) T.n_len PySem.boot_len (da_cons (dv 0) (da_nil))) (de_int)) (de_one (de_cf T.d_is_pattern G_is_pattern (hr.mono (by omega)) (by rfl) (da_cons (de_ix hu (dv 0) (de_int)) (da_nil))))))) (dss_nil)) (dss_one (ds_ret (de_and (de_cm (cd_in hu5) (de_ix hu (dv 0) (de_int)) (de_glob (by rfl) T.c_TESTS)) (de_and (de_cm (cd_eq hu) (de_cb cl_len (by rfl) T.n_len PySem.boot_len (da_cons (dv 0) (da_nil))) (de_int)) (de_one (de_cb (cl_all rfl) (by rfl) T.n_all PyProof.Rows.boot_all (da_cons (de_lc (own := [("part", 2)]) (gd := gdName 2) rfl sc_is_want.nd (tg_name) (di_seq (de_slice (dv 0) (dp_some (de_int)) (dp_none))) (blkOk_by (N := N_is_want) (sc := defScope s_is_want) (by decide +kernel)) (fun _ _ _ _ _ => pg_name (i := 2) sc_is_want.nd rfl (Or.inl rfl)) (fun _ _ _ _ _ => dts_nil) (fun _ _ _ _ _ => de_cf T.d_is_side G_is_side (hr.mono (by omega)) (by rfl) (da_cons (dv 2) (da_cons (dv 1) (da_nil))))) (da_nil)))))))))
theorem fn_is_want (T : Pk K mg) {k : Nat} {a_is_pattern : ASp} {l_is_pattern : Nat} (G_is_pattern : FnOk P w K mg base CX0 l_is_pattern T.f_is_pattern T.fd_is_pattern ["part"] (liftF K a_is_pattern)) (h_is_pattern : l_is_pattern ≤ k) {a_is_side : ASp} {l_is_side : Nat} (G_is_side : FnOk P w K mg base CX0 l_is_side T.f_is_side T.fd_is_side ["part", "known"] (liftF K a_is_side)) (h_is_side : l_is_side ≤ k) {a : ASp} (len : ∀ ds C R, a ds C R → ds.length = 2) (rd : ∀ ds C R, a ds C R → t_is_want a_is_pattern a_is_side { nx := fun _ C' => R .non C', rt := R } (dstart N_is_want ds) C) : FnOk P w K mg base CX0 (k + 1) T.f_is_want T.fd_is_want ["want", "known"] (liftF K a) :=
  fnD T.F_is_want sc_is_want len fun cdv A outer s H E hr => ⟨_, dv_is_want T G_is_pattern h_is_pattern G_is_side h_is_side hr, rd⟩
theorem dv_blanks_of (T : Pk K mg) {k : Nat} {a_is_blank : ASp} {l_is_blank : Nat} (G_is_blank : FnOk P w K mg base CX0 l_is_blank T.f_is_blank T.fd_is_blank ["part"] (liftF K a_is_blank)) (h_is_blank : l_is_blank ≤ k) {cdv : Value} {A : Around} {outer : List Env} {s : Shared} {H : Hp} {E : XK} {f : Addr} (hr : Room k (A.deeper (envOfC "blanks_of" (defScope s_blanks_of) s.heap.objs.size f cdv))) :
    PSs (cxOf CX0 P w K mg base N_blanks_of "blanks_of" (defScope s_blanks_of) f cdv A outer s H E).nox (defBody s_blanks_of) (liftS K (t_blanks_of a_is_blank)) := by
  have hu := hr.units
  have hu5 := hu5_of hr
  exact dss_one (ds_ret (de_lc (own := [("part", 1)]) (gd := gdName 1) rfl sc_blanks_of.nd (tg_name) (di_seq (de_slice (dv 0) (dp_some (de_int)) (dp_none))) (blkOk_by (N := N_blanks_of) (sc := defScope s_blanks_of) (by decide +kernel)) (fun _ _ _ _ _ => pg_name (i := 1) sc_blanks_of.nd rfl (Or.inl rfl)) (fun _ _ _ _ _ => dts_one (dt_val (de_cf T.d_is_blank G_is_blank (hr.mono (by omega)) (by rfl) (da_cons (dv 1) (da_nil))))) (fun _ _ _ _ _ => dv 1)))
theorem fn_blanks_of (T : Pk K mg) {k : Nat} {a_is_blank : ASp} {l_is_blank : Nat} (G_is_blank : FnOk P w K mg base CX0 l_is_blank T.f_is_blank T.fd_is_blank ["part"] (liftF K a_is_blank)) (h_is_blank : l_is_blank ≤ k) {a : ASp} (len : ∀ ds C R, a ds C R → ds.length = 1) (rd : ∀ ds C R, a ds C R → t_blanks_of a_is_blank { nx := fun _ C' => R .non C', rt := R } (dstart N_blanks_of ds) C) : FnOk P w K mg base CX0 (k + 1) T.f_blanks_of T.fd_blanks_of ["pattern"] (liftF K a) :=
  fnD T.F_blanks_of sc_blanks_of len fun cdv A outer s H E hr => ⟨_, dv_blanks_of T G_is_blank h_is_blank hr, rd⟩
theorem dv_is_template (T : Pk K mg) {k : Nat} {a_is_word : ASp} {l_is_word : Nat} (G_is_word : FnOk P w K mg base CX0 l_is_word T.f_is_word T.fd_is_word ["part"] (liftF K a_is_word)) (h_is_word : l_is_word ≤ k) {a_is_blank : ASp} {l_is_blank : Nat} (G_is_blank : FnOk P w K mg base CX0 l_is_blank T.f_is_blank T.fd_is_blank ["part"] (liftF K a_is_blank)) (h_is_blank : l_is_blank ≤ k) {a_is_number : ASp} {l_is_number : Nat} (G_is_number : FnOk P w K mg base CX0 l_is_number T.f_is_number T.fd_is_number ["part", "low", "high"] (liftF K a_is_number)) (h_is_number : l_is_number ≤ k) {a_is_side : ASp} {l_is_side : Nat} (G_is_side : FnOk P w K mg base CX0 l_is_side T.f_is_side T.fd_is_side ["part", "known"] (liftF K a_is_side)) (h_is_side : l_is_side ≤ k) {cdv : Value} {A : Around} {outer : List Env} {s : Shared} {H : Hp} {E : XK} {f : Addr} (hr : Room k (A.deeper (envOfC "is_template" (defScope s_is_template) s.heap.objs.size f cdv))) :
    PSs (cxOf CX0 P w K mg base N_is_template "is_template" (defScope s_is_template) f cdv A outer s H E).nox (defBody s_is_template) (liftS K (t_is_template a_is_word a_is_blank a_is_number a_is_side)) := by
  have hu := hr.units
  have hu5 := hu5_of hr
  exact dss_cons (ds_if ((dw_or (dt_not (dt_val (de_cb cl_isi (by rfl) T.n_isinstance PyProof.Rows.boot_isinstance (da_cons (dv 0) (da_cons (de_bltn (by rfl) T.n_tuple PyProof.Rows.boot_tuple) (da_nil)))))) (dw_or (dt_not (dt_ch cd_le cd_le (de_int) (de_cb cl_len (by rfl) T.n_len PySem.boot_len (da_cons (dv 0) (da_nil))) (de_glob (by rfl) T.c_MOST_PARTS))) (dw_or1 (dt_not (dt_val (de_cf T.d_is_word G_is_word (hr.mono (by omega)) (by rfl) (da_cons (de_ix hu (dv 0) (de_int)) (da_nil)))))))).pt) (dss_one (ds_ret (de_bl))) (dss_nil)) (dss_cons (ds_for PassesOwn.never rfl (di_seq (de_slice (dv 0) (dp_some (de_int)) (dp_none))) (dg_name (i := 2) sc_is_template.nd rfl (Or.inl rfl)) (dss_one (ds_if (dt_val (de_cb cl_isi (by rfl) T.n_isinstance PyProof.Rows.boot_isinstance (da_cons (dv 2) (da_cons (de_bltn (by rfl) T.n_tuple PyProof.Rows.boot_tuple) (da_nil))))) (dss_cons (ds_if ((dw_or (dt_cm (cd_ne hu) (de_cb cl_len (by rfl) T.n_len PySem.boot_len (da_cons (dv 2) (da_nil))) (de_int)) (dw_or (dt_not (dt_val (de_cf T.d_is_blank G_is_blank (hr.mono (by omega)) (by rfl) (da_cons (de_ix hu (dv 2) (de_int)) (da_nil))))) (dw_or1 (dt_cm (cd_notin hu5) (de_ix hu (dv 2) (de_int)) (dv 1))))).pt) (dss_one (ds_ret (de_bl))) (dss_nil)) (dss_one (ds_if (dt_not (dt_val (de_cf T.d_is_number G_is_number (hr.mono (by omega)) (by rfl) (da_cons (de_ix hu (dv 2) (de_int)) (da_cons (de_sub (de_int) (de_glob (by rfl) T.c_MOST_NUMBER)) (da_cons (de_glob (by rfl) T.c_MOST_NUMBER) (da_nil))))))) (dss_one (ds_ret (de_bl))) (dss_nil)))) (dss_one (ds_if (dt_not (dt_val (de_cf T.d_is_side G_is_side (hr.mono (by omega)) (by rfl) (da_cons (dv 2) (da_cons (dv 1) (da_nil)))))) (dss_one (ds_ret (de_bl))) (dss_nil)))))) (dss_one (ds_ret (de_bl))))
theorem fn_is_template (T : Pk K mg) {k : Nat} {a_is_word : ASp} {l_is_word : Nat} (G_is_word : FnOk P w K mg base CX0 l_is_word T.f_is_word T.fd_is_word ["part"] (liftF K a_is_word)) (h_is_word : l_is_word ≤ k) {a_is_blank : ASp} {l_is_blank : Nat} (G_is_blank : FnOk P w K mg base CX0 l_is_blank T.f_is_blank T.fd_is_blank ["part"] (liftF K a_is_blank)) (h_is_blank : l_is_blank ≤ k) {a_is_number : ASp} {l_is_number : Nat} (G_is_number : FnOk P w K mg base CX0 l_is_number T.f_is_number T.fd_is_number ["part", "low", "high"] (liftF K a_is_number)) (h_is_number : l_is_number ≤ k) {a_is_side : ASp} {l_is_side : Nat} (G_is_side : FnOk P w K mg base CX0 l_is_side T.f_is_side T.fd_is_side ["part", "known"] (liftF K a_is_side)) (h_is_side : l_is_side ≤ k) {a : ASp} (len : ∀ ds C R, a ds C R → ds.length = 2) (rd : ∀ ds C R, a ds C R → t_is_template a_is_word a_is_blank a_is_number a_is_side { nx := fun _ C' => R .non C', rt := R } (dstart N_is_template ds) C) : FnOk P w K mg base CX0 (k + 1) T.f_is_template T.fd_is_template ["part", "known"] (liftF K a) :=
  fnD T.F_is_template sc_is_template len fun cdv A outer s H E hr => ⟨_, dv_is_template T G_is_word h_is_word G_is_blank h_is_blank G_is_number h_is_number G_is_side h_is_side hr, rd⟩
theorem dv_is_deed (T : Pk K mg) {k : Nat} {a_is_number : ASp} {l_is_number : Nat} (G_is_number : FnOk P w K mg base CX0 l_is_number T.f_is_number T.fd_is_number ["part", "low", "high"] (liftF K a_is_number)) (h_is_number : l_is_number ≤ k) {a_is_template : ASp} {l_is_template : Nat} (G_is_template : FnOk P w K mg base CX0 l_is_template T.f_is_template T.fd_is_template ["part", "known"] (liftF K a_is_template)) (h_is_template : l_is_template ≤ k) {cdv : Value} {A : Around} {outer : List Env} {s : Shared} {H : Hp} {E : XK} {f : Addr} (hr : Room k (A.deeper (envOfC "is_deed" (defScope s_is_deed) s.heap.objs.size f cdv))) :
    PSs (cxOf CX0 P w K mg base N_is_deed "is_deed" (defScope s_is_deed) f cdv A outer s H E).nox (defBody s_is_deed) (liftS K (t_is_deed a_is_number a_is_template)) := by
  have hu := hr.units
  have hu5 := hu5_of hr
  exact dss_cons (ds_if ((dw_or (dt_not (dt_val (de_cb cl_isi (by rfl) T.n_isinstance PyProof.Rows.boot_isinstance (da_cons (dv 0) (da_cons (de_bltn (by rfl) T.n_tuple PyProof.Rows.boot_tuple) (da_nil)))))) (dw_or (dt_cm (cd_ne hu) (de_cb cl_len (by rfl) T.n_len PySem.boot_len (da_cons (dv 0) (da_nil))) (de_int)) (dw_or1 (dt_not (dt_val (de_cb cl_isi (by rfl) T.n_isinstance PyProof.Rows.boot_isinstance (da_cons (de_ix hu (dv 0) (de_int)) (da_cons (de_bltn (by rfl) T.n_str PyProof.Rows.boot_str) (da_nil))))))))).pt) (dss_one (ds_ret (de_bl))) (dss_nil)) (dss_cons (ds_if (dt_cm (cd_eq hu) (de_ix hu (dv 0) (de_int)) (de_glob (by rfl) T.c_TAKE)) (dss_one (ds_ret (de_and (de_cf T.d_is_number G_is_number (hr.mono (by omega)) (by rfl) (da_cons (de_ix hu (dv 0) (de_int)) (da_cons (de_int) (da_cons (de_sub (de_cb cl_len (by rfl) T.n_len PySem.boot_len (da_cons (dv 1) (da_nil))) (de_int)) (da_nil))))) (de_one (de_cm (cd_eq hu) (de_ix hu (de_ix hu (dv 1) (de_ix hu (dv 0) (de_int))) (de_int)) (de_glob (by rfl) T.c_IS)))))) (dss_nil)) (dss_one (ds_ret (de_and (de_cm (cd_in hu5) (de_ix hu (dv 0) (de_int)) (de_glob (by rfl) T.c_TELLERS)) (de_one (de_cf T.d_is_template G_is_template (hr.mono (by omega)) (by rfl) (da_cons (de_ix hu (dv 0) (de_int)) (da_cons (dv 2) (da_nil)))))))))
theorem fn_is_deed (T : Pk K mg) {k : Nat} {a_is_number : ASp} {l_is_number : Nat} (G_is_number : FnOk P w K mg base CX0 l_is_number T.f_is_number T.fd_is_number ["part", "low", "high"] (liftF K a_is_number)) (h_is_number : l_is_number ≤ k) {a_is_template : ASp} {l_is_template : Nat} (G_is_template : FnOk P w K mg base CX0 l_is_template T.f_is_template T.fd_is_template ["part", "known"] (liftF K a_is_template)) (h_is_template : l_is_template ≤ k) {a : ASp} (len : ∀ ds C R, a ds C R → ds.length = 3) (rd : ∀ ds C R, a ds C R → t_is_deed a_is_number a_is_template { nx := fun _ C' => R .non C', rt := R } (dstart N_is_deed ds) C) : FnOk P w K mg base CX0 (k + 1) T.f_is_deed T.fd_is_deed ["deed", "wants", "known"] (liftF K a) :=
  fnD T.F_is_deed sc_is_deed len fun cdv A outer s H E hr => ⟨_, dv_is_deed T G_is_number h_is_number G_is_template h_is_template hr, rd⟩
theorem dv_bad_part (T : Pk K mg) {k : Nat} {a_is_word : ASp} {l_is_word : Nat} (G_is_word : FnOk P w K mg base CX0 l_is_word T.f_is_word T.fd_is_word ["part"] (liftF K a_is_word)) (h_is_word : l_is_word ≤ k) {a_is_number : ASp} {l_is_number : Nat} (G_is_number : FnOk P w K mg base CX0 l_is_number T.f_is_number T.fd_is_number ["part", "low", "high"] (liftF K a_is_number)) (h_is_number : l_is_number ≤ k) {a_is_want : ASp} {l_is_want : Nat} (G_is_want : FnOk P w K mg base CX0 l_is_want T.f_is_want T.fd_is_want ["want", "known"] (liftF K a_is_want)) (h_is_want : l_is_want ≤ k) {a_blanks_of : ASp} {l_blanks_of : Nat} (G_blanks_of : FnOk P w K mg base CX0 l_blanks_of T.f_blanks_of T.fd_blanks_of ["pattern"] (liftF K a_blanks_of)) (h_blanks_of : l_blanks_of ≤ k) {a_is_deed : ASp} {l_is_deed : Nat} (G_is_deed : FnOk P w K mg base CX0 l_is_deed T.f_is_deed T.fd_is_deed ["deed", "wants", "known"] (liftF K a_is_deed)) (h_is_deed : l_is_deed ≤ k) {cdv : Value} {A : Around} {outer : List Env} {s : Shared} {H : Hp} {E : XK} {f : Addr} (hr : Room k (A.deeper (envOfC "bad_part" (defScope s_bad_part) s.heap.objs.size f cdv))) :
    PSs (cxOf CX0 P w K mg base N_bad_part "bad_part" (defScope s_bad_part) f cdv A outer s H E).nox (defBody s_bad_part) (liftS K (t_bad_part a_is_word a_is_number a_is_want a_blanks_of a_is_deed)) := by
  have hu := hr.units
  have hu5 := hu5_of hr
  exact dss_cons (ds_if ((dw_or (dt_not (dt_val (de_cb cl_isi (by rfl) T.n_isinstance PyProof.Rows.boot_isinstance (da_cons (dv 0) (da_cons (de_bltn (by rfl) T.n_tuple PyProof.Rows.boot_tuple) (da_nil)))))) (dw_or1 (dt_cm (cd_ne hu) (de_cb cl_len (by rfl) T.n_len PySem.boot_len (da_cons (dv 0) (da_nil))) (de_int)))).pt) (dss_one (ds_ret (de_neg (de_int)))) (dss_nil)) (dss_cons (ds_asg (dv 0) (dg_tup rfl (dgs_cons (dg_name (i := 2) sc_bad_part.nd rfl (Or.inl rfl)) (dgs_cons (dg_name (i := 3) sc_bad_part.nd rfl (Or.inl rfl)) (dgs_cons (dg_name (i := 4) sc_bad_part.nd rfl (Or.inr rfl)) (dgs_cons (dg_name (i := 5) sc_bad_part.nd rfl (Or.inl rfl)) (dgs_nil))))))) (dss_cons (ds_if ((dw_or (dt_not (dt_val (de_cf T.d_is_word G_is_word (hr.mono (by omega)) (by rfl) (da_cons (dv 2) (da_nil))))) (dw_or1 (dt_cm (cd_in hu5) (dv 2) (dv 1)))).pt) (dss_one (ds_ret (de_int))) (dss_nil)) (dss_cons (ds_if (dt_not (dt_val (de_cf T.d_is_number G_is_number (hr.mono (by omega)) (by rfl) (da_cons (dv 3) (da_cons (de_sub (de_int) (de_glob (by rfl) T.c_MOST_RANK)) (da_cons (de_glob (by rfl) T.c_MOST_RANK) (da_nil))))))) (dss_one (ds_ret (de_int))) (dss_nil)) (dss_cons (ds_if ((dw_or (dt_not (dt_val (de_cb cl_isi (by rfl) T.n_isinstance PyProof.Rows.boot_isinstance (da_cons (dv 4) (da_cons (de_bltn (by rfl) T.n_tuple PyProof.Rows.boot_tuple) (da_nil)))))) (dw_or1 (dt_not (dt_ch cd_le cd_le (de_int) (de_cb cl_len (by rfl) T.n_len PySem.boot_len (da_cons (dv 4) (da_nil))) (de_glob (by rfl) T.c_MOST_WANTS))))).pt) (dss_one (ds_ret (de_int))) (dss_nil)) (dss_cons (ds_set (i := 6) sc_bad_part.nd rfl (Or.inr rfl) (de_lstC (da_nil))) (dss_cons (ds_for PassesOwn.never rfl (di_enum (by rfl) T.n_enumerate (da_cons (dv 4) (da_nil))) (dg_tup rfl (dgs_cons (dg_name (i := 7) sc_bad_part.nd rfl (Or.inl rfl)) (dgs_cons (dg_name (i := 8) sc_bad_part.nd rfl (Or.inl rfl)) (dgs_nil)))) (dss_cons (ds_if ((dw_or (dt_not (dt_val (de_cf T.d_is_want G_is_want (hr.mono (by omega)) (by rfl) (da_cons (dv 8) (da_cons (dv 6) (da_nil)))))) (dw_or1 ((dw_and (dt_cm (cd_eq hu) (dv 7) (de_int)) (dw_and1 (dt_cm (cd_ne hu) (de_ix hu (dv 8) (de_int)) (de_glob (by rfl) T.c_IS)))).pt))).pt) (dss_one (ds_ret (de_int))) (dss_nil)) (dss_one (ds_expr (de_extend (dv 6) (da_cons (de_ifExp (dt_cm (cd_eq hu) (de_ix hu (dv 8) (de_int)) (de_glob (by rfl) T.c_IS)) (de_cf T.d_blanks_of G_blanks_of (hr.mono (by omega)) (by rfl) (da_cons (de_ix hu (dv 8) (de_int)) (da_nil))) (de_lst (da_nil))) (da_nil))))))) (dss_cons (ds_if ((dw_or (dt_not (dt_val (de_cb cl_isi (by rfl) T.n_isinstance PyProof.Rows.boot_isinstance (da_cons (dv 5) (da_cons (de_bltn (by rfl) T.n_tuple PyProof.Rows.boot_tuple) (da_nil)))))) (dw_or1 (dt_not (dt_ch cd_le cd_le (de_int) (de_cb cl_len (by rfl) T.n_len PySem.boot_len (da_cons (dv 5) (da_nil))) (de_glob (by rfl) T.c_MOST_DEEDS))))).pt) (dss_one (ds_ret (de_int))) (dss_nil)) (dss_one (ds_ret (de_ifExp (dt_val (de_cb (cl_all rfl) (by rfl) T.n_all PyProof.Rows.boot_all (da_cons (de_lc (own := [("deed", 9)]) (gd := gdName 9) rfl sc_bad_part.nd (tg_name) (di_seq (dv 5)) (blkOk_by (N := N_bad_part) (sc := defScope s_bad_part) (by decide +kernel)) (fun _ _ _ _ _ => pg_name (i := 9) sc_bad_part.nd rfl (Or.inl rfl)) (fun _ _ _ _ _ => dts_nil) (fun _ _ _ _ _ => de_cf T.d_is_deed G_is_deed (hr.mono (by omega)) (by rfl) (da_cons (dv 9) (da_cons (dv 4) (da_cons (dv 6) (da_nil)))))) (da_nil)))) (de_non) (de_int)))))))))))
theorem fn_bad_part (T : Pk K mg) {k : Nat} {a_is_word : ASp} {l_is_word : Nat} (G_is_word : FnOk P w K mg base CX0 l_is_word T.f_is_word T.fd_is_word ["part"] (liftF K a_is_word)) (h_is_word : l_is_word ≤ k) {a_is_number : ASp} {l_is_number : Nat} (G_is_number : FnOk P w K mg base CX0 l_is_number T.f_is_number T.fd_is_number ["part", "low", "high"] (liftF K a_is_number)) (h_is_number : l_is_number ≤ k) {a_is_want : ASp} {l_is_want : Nat} (G_is_want : FnOk P w K mg base CX0 l_is_want T.f_is_want T.fd_is_want ["want", "known"] (liftF K a_is_want)) (h_is_want : l_is_want ≤ k) {a_blanks_of : ASp} {l_blanks_of : Nat} (G_blanks_of : FnOk P w K mg base CX0 l_blanks_of T.f_blanks_of T.fd_blanks_of ["pattern"] (liftF K a_blanks_of)) (h_blanks_of : l_blanks_of ≤ k) {a_is_deed : ASp} {l_is_deed : Nat} (G_is_deed : FnOk P w K mg base CX0 l_is_deed T.f_is_deed T.fd_is_deed ["deed", "wants", "known"] (liftF K a_is_deed)) (h_is_deed : l_is_deed ≤ k) {a : ASp} (len : ∀ ds C R, a ds C R → ds.length = 2) (rd : ∀ ds C R, a ds C R → t_bad_part a_is_word a_is_number a_is_want a_blanks_of a_is_deed { nx := fun _ C' => lss R .non C', rt := lss R } (dstart N_bad_part ds) C) : FnOk P w K mg base CX0 (k + 1) T.f_bad_part T.fd_bad_part ["rule", "names"] (liftF K a) :=
  fnDL T.F_bad_part sc_bad_part len fun cdv A outer s H E hr => ⟨_, dv_bad_part T G_is_word h_is_word G_is_number h_is_number G_is_want h_is_want G_blanks_of h_blanks_of G_is_deed h_is_deed hr, rd⟩
theorem dv_need_rules (T : Pk K mg) {k : Nat} {a_bad_part : ASp} {l_bad_part : Nat} (G_bad_part : FnOk P w K mg base CX0 l_bad_part T.f_bad_part T.fd_bad_part ["rule", "names"] (liftF K a_bad_part)) (h_bad_part : l_bad_part ≤ k) {cdv : Value} {A : Around} {outer : List Env} {s : Shared} {H : Hp} {E : XK} {f : Addr} (hr : Room k (A.deeper (envOfC "need_rules" (defScope s_need_rules) s.heap.objs.size f cdv))) :
    PSs (cxOf CX0 P w K mg base N_need_rules "need_rules" (defScope s_need_rules) f cdv A outer s H E).nox (defBody s_need_rules) (liftS K (t_need_rules a_bad_part)) := by
  have hu := hr.units
  have hu5 := hu5_of hr
  exact dss_cons (ds_if ((dw_or (dt_not (dt_val (de_cb cl_isi (by rfl) T.n_isinstance PyProof.Rows.boot_isinstance (da_cons (dv 0) (da_cons (de_bltn (by rfl) T.n_tuple PyProof.Rows.boot_tuple) (da_nil)))))) (dw_or1 (dt_cm (cd_eq hu) (dv 0) (de_tup (da_nil))))).pt) (dss_one (ds_never)) (dss_nil)) (dss_cons (ds_set (i := 1) sc_need_rules.nd rfl (Or.inl rfl) (de_lstC (da_nil))) (dss_one (ds_for PassesOwn.never rfl (di_enum (by rfl) T.n_enumerate (da_cons (dv 0) (da_nil))) (dg_tup rfl (dgs_cons (dg_name (i := 2) sc_need_rules.nd rfl (Or.inl rfl)) (dgs_cons (dg_name (i := 3) sc_need_rules.nd rfl (Or.inl rfl)) (dgs_nil)))) (dss_cons (ds_set (i := 4) sc_need_rules.nd rfl (Or.inl rfl) (de_ifExp (dt_cm (cd_eq hu) (dv 2) (de_glob (by rfl) T.c_MOST_RULES)) (de_neg (de_int)) (de_cf T.d_bad_part G_bad_part (hr.mono (by omega)) (by rfl) (da_cons (dv 3) (da_cons (dv 1) (da_nil)))))) (dss_cons (ds_if (dt_cm cd_isnot (dv 4) (de_non)) (dss_one (ds_never)) (dss_nil)) (dss_one (ds_expr (de_append (dv 1) (da_cons (de_ix hu (dv 3) (de_int)) (da_nil))))))))))
theorem fn_need_rules (T : Pk K mg) {k : Nat} {a_bad_part : ASp} {l_bad_part : Nat} (G_bad_part : FnOk P w K mg base CX0 l_bad_part T.f_bad_part T.fd_bad_part ["rule", "names"] (liftF K a_bad_part)) (h_bad_part : l_bad_part ≤ k) {a : ASp} (len : ∀ ds C R, a ds C R → ds.length = 1) (rd : ∀ ds C R, a ds C R → t_need_rules a_bad_part { nx := fun _ C' => lss R .non C', rt := lss R } (dstart N_need_rules ds) C) : FnOk P w K mg base CX0 (k + 1) T.f_need_rules T.fd_need_rules ["rules"] (liftF K a) :=
  fnDL T.F_need_rules sc_need_rules len fun cdv A outer s H E hr => ⟨_, dv_need_rules T G_bad_part h_bad_part hr, rd⟩
theorem dv_is_thing (T : Pk K mg) {k : Nat} {a_is_word : ASp} {l_is_word : Nat} (G_is_word : FnOk P w K mg base CX0 l_is_word T.f_is_word T.fd_is_word ["part"] (liftF K a_is_word)) (h_is_word : l_is_word ≤ k) {a_is_worth : ASp} {l_is_worth : Nat} (G_is_worth : FnOk P w K mg base CX0 l_is_worth T.f_is_worth T.fd_is_worth ["part"] (liftF K a_is_worth)) (h_is_worth : l_is_worth ≤ k) {cdv : Value} {A : Around} {outer : List Env} {s : Shared} {H : Hp} {E : XK} {f : Addr} (hr : Room k (A.deeper (envOfC "is_thing" (defScope s_is_thing) s.heap.objs.size f cdv))) :
    PSs (cxOf CX0 P w K mg base N_is_thing "is_thing" (defScope s_is_thing) f cdv A outer s H E).nox (defBody s_is_thing) (liftS K (t_is_thing a_is_word a_is_worth)) := by
  have hu := hr.units
  have hu5 := hu5_of hr
  exact dss_cons (ds_if ((dw_or (dt_not (dt_val (de_cb cl_isi (by rfl) T.n_isinstance PyProof.Rows.boot_isinstance (da_cons (dv 0) (da_cons (de_bltn (by rfl) T.n_tuple PyProof.Rows.boot_tuple) (da_nil)))))) (dw_or (dt_not (dt_ch cd_le cd_le (de_int) (de_cb cl_len (by rfl) T.n_len PySem.boot_len (da_cons (dv 0) (da_nil))) (de_glob (by rfl) T.c_MOST_PARTS))) (dw_or1 (dt_not (dt_val (de_cf T.d_is_word G_is_word (hr.mono (by omega)) (by rfl) (da_cons (de_ix hu (dv 0) (de_int)) (da_nil)))))))).pt) (dss_one (ds_ret (de_bl))) (dss_nil)) (dss_one (ds_ret (de_cb (cl_all rfl) (by rfl) T.n_all PyProof.Rows.boot_all (da_cons (de_lc (own := [("one", 1)]) (gd := gdName 1) rfl sc_is_thing.nd (tg_name) (di_seq (de_slice (dv 0) (dp_some (de_int)) (dp_none))) (blkOk_by (N := N_is_thing) (sc := defScope s_is_thing) (by decide +kernel)) (fun _ _ _ _ _ => pg_name (i := 1) sc_is_thing.nd rfl (Or.inl rfl)) (fun _ _ _ _ _ => dts_nil) (fun _ _ _ _ _ => de_cf T.d_is_worth G_is_worth (hr.mono (by omega)) (by rfl) (da_cons (dv 1) (da_nil)))) (da_nil)))))
theorem fn_is_thing (T : Pk K mg) {k : Nat} {a_is_word : ASp} {l_is_word : Nat} (G_is_word : FnOk P w K mg base CX0 l_is_word T.f_is_word T.fd_is_word ["part"] (liftF K a_is_word)) (h_is_word : l_is_word ≤ k) {a_is_worth : ASp} {l_is_worth : Nat} (G_is_worth : FnOk P w K mg base CX0 l_is_worth T.f_is_worth T.fd_is_worth ["part"] (liftF K a_is_worth)) (h_is_worth : l_is_worth ≤ k) {a : ASp} (len : ∀ ds C R, a ds C R → ds.length = 1) (rd : ∀ ds C R, a ds C R → t_is_thing a_is_word a_is_worth { nx := fun _ C' => R .non C', rt := R } (dstart N_is_thing ds) C) : FnOk P w K mg base CX0 (k + 1) T.f_is_thing T.fd_is_thing ["part"] (liftF K a) :=
  fnD T.F_is_thing sc_is_thing len fun cdv A outer s H E hr => ⟨_, dv_is_thing T G_is_word h_is_word G_is_worth h_is_worth hr, rd⟩
theorem dv_need_things (T : Pk K mg) {k : Nat} {a_is_thing : ASp} {l_is_thing : Nat} (G_is_thing : FnOk P w K mg base CX0 l_is_thing T.f_is_thing T.fd_is_thing ["part"] (liftF K a_is_thing)) (h_is_thing : l_is_thing ≤ k) {cdv : Value} {A : Around} {outer : List Env} {s : Shared} {H : Hp} {E : XK} {f : Addr} (hr : Room k (A.deeper (envOfC "need_things" (defScope s_need_things) s.heap.objs.size f cdv))) :
    PSs (cxOf CX0 P w K mg base N_need_things "need_things" (defScope s_need_things) f cdv A outer s H E).nox (defBody s_need_things) (liftS K (t_need_things a_is_thing)) := by
  have hu := hr.units
  have hu5 := hu5_of hr
  exact dss_cons (ds_if (dt_not (dt_val (de_cb cl_isi (by rfl) T.n_isinstance PyProof.Rows.boot_isinstance (da_cons (dv 0) (da_cons (de_bltn (by rfl) T.n_list PyProof.Rows.boot_list) (da_nil)))))) (dss_one (ds_never)) (dss_nil)) (dss_one (ds_for PassesOwn.never rfl (di_enum (by rfl) T.n_enumerate (da_cons (dv 0) (da_nil))) (dg_tup rfl (dgs_cons (dg_name (i := 1) sc_need_things.nd rfl (Or.inl rfl)) (dgs_cons (dg_name (i := 2) sc_need_things.nd rfl (Or.inl rfl)) (dgs_nil)))) (dss_one (ds_if ((dw_or (dt_cm (cd_eq hu) (dv 1) (de_glob (by rfl) T.c_MOST_THINGS)) (dw_or1 (dt_not (dt_val (de_cf T.d_is_thing G_is_thing (hr.mono (by omega)) (by rfl) (da_cons (dv 2) (da_nil))))))).pt) (dss_one (ds_never)) (dss_nil)))))
theorem fn_need_things (T : Pk K mg) {k : Nat} {a_is_thing : ASp} {l_is_thing : Nat} (G_is_thing : FnOk P w K mg base CX0 l_is_thing T.f_is_thing T.fd_is_thing ["part"] (liftF K a_is_thing)) (h_is_thing : l_is_thing ≤ k) {a : ASp} (len : ∀ ds C R, a ds C R → ds.length = 1) (rd : ∀ ds C R, a ds C R → t_need_things a_is_thing { nx := fun _ C' => R .non C', rt := R } (dstart N_need_things ds) C) : FnOk P w K mg base CX0 (k + 1) T.f_need_things T.fd_need_things ["things"] (liftF K a) :=
  fnD T.F_need_things sc_need_things len fun cdv A outer s H E hr => ⟨_, dv_need_things T G_is_thing h_is_thing hr, rd⟩
theorem dv_part_text (T : Pk K mg) {k : Nat} {cdv : Value} {A : Around} {outer : List Env} {s : Shared} {H : Hp} {E : XK} {f : Addr} (hr : Room k (A.deeper (envOfC "part_text" (defScope s_part_text) s.heap.objs.size f cdv))) :
    PSs (cxOf CX0 P w K mg base N_part_text "part_text" (defScope s_part_text) f cdv A outer s H E).nox (defBody s_part_text) (liftS K (t_part_text)) := by
  have hu := hr.units
  have hu5 := hu5_of hr
  exact dss_cons (ds_if (dt_val (de_cb cl_isi (by rfl) T.n_isinstance PyProof.Rows.boot_isinstance (da_cons (dv 0) (da_cons (de_bltn (by rfl) T.n_tuple PyProof.Rows.boot_tuple) (da_nil))))) (dss_one (ds_ret (de_add (de_add (de_ix hu (dv 0) (de_int)) (de_ifExp (dt_cm cd_ge (de_ix hu (dv 0) (de_int)) (de_int)) (de_str) (de_str))) (de_ct cl_str (by rfl) T.n_str PyProof.Rows.boot_str (da_cons (de_ix hu (dv 0) (de_int)) (da_nil)))))) (dss_nil)) (dss_one (ds_ret (de_ct cl_str (by rfl) T.n_str PyProof.Rows.boot_str (da_cons (dv 0) (da_nil)))))
theorem fn_part_text (T : Pk K mg) {k : Nat} {a : ASp} (len : ∀ ds C R, a ds C R → ds.length = 1) (rd : ∀ ds C R, a ds C R → t_part_text { nx := fun _ C' => R .non C', rt := R } (dstart N_part_text ds) C) : FnOk P w K mg base CX0 (k + 1) T.f_part_text T.fd_part_text ["part"] (liftF K a) :=
  fnD T.F_part_text sc_part_text len fun cdv A outer s H E hr => ⟨_, dv_part_text T hr, rd⟩
theorem dv_written (T : Pk K mg) {k : Nat} {a_need_rules : ASp} {l_need_rules : Nat} (G_need_rules : FnOk P w K mg base CX0 l_need_rules T.f_need_rules T.fd_need_rules ["rules"] (liftF K a_need_rules)) (h_need_rules : l_need_rules ≤ k) {a_need_things : ASp} {l_need_things : Nat} (G_need_things : FnOk P w K mg base CX0 l_need_things T.f_need_things T.fd_need_things ["things"] (liftF K a_need_things)) (h_need_things : l_need_things ≤ k) {a_part_text : ASp} {l_part_text : Nat} (G_part_text : FnOk P w K mg base CX0 l_part_text T.f_part_text T.fd_part_text ["part"] (liftF K a_part_text)) (h_part_text : l_part_text ≤ k) {cdv : Value} {A : Around} {outer : List Env} {s : Shared} {H : Hp} {E : XK} {f : Addr} (hr : Room k (A.deeper (envOfC "written" (defScope s_written) s.heap.objs.size f cdv))) :
    PSs (cxOf CX0 P w K mg base N_written "written" (defScope s_written) f cdv A outer s H E).nox (defBody s_written) (liftS K (t_written a_need_rules a_need_things a_part_text)) := by
  have hu := hr.units
  have hu5 := hu5_of hr
  exact dss_cons (ds_expr (de_cf T.d_need_rules G_need_rules (hr.mono (by omega)) (by rfl) (da_cons (dv 0) (da_nil)))) (dss_cons (ds_expr (de_cf T.d_need_things G_need_things (hr.mono (by omega)) (by rfl) (da_cons (dv 1) (da_nil)))) (dss_cons (ds_set (i := 2) sc_written.nd rfl (Or.inl rfl) (de_lstC (da_nil))) (dss_cons (ds_for PassesOwn.never rfl (di_seq (dv 0)) (dg_tup rfl (dgs_cons (dg_name (i := 3) sc_written.nd rfl (Or.inl rfl)) (dgs_cons (dg_name (i := 4) sc_written.nd rfl (Or.inl rfl)) (dgs_cons (dg_name (i := 5) sc_written.nd rfl (Or.inl rfl)) (dgs_cons (dg_name (i := 6) sc_written.nd rfl (Or.inl rfl)) (dgs_nil)))))) (dss_cons (ds_expr (de_append (dv 2) (da_cons (de_lst (da_cons (de_glob (by rfl) T.c_RULE) (da_cons (dv 3) (da_cons (dv 4) (da_nil))))) (da_nil)))) (dss_cons (ds_for PassesOwn.never rfl (di_seq (dv 5)) (dg_name (i := 7) sc_written.nd rfl (Or.inl rfl)) (dss_one (ds_expr (de_append (dv 2) (da_cons (de_add (de_lst (da_cons (de_ix hu (dv 7) (de_int)) (da_nil))) (de_ct cl_list (by rfl) T.n_list PyProof.Rows.boot_list (da_cons (de_ifExp (dt_cm (cd_in hu5) (de_ix hu (dv 7) (de_int)) (de_tup (da_cons (de_glob (by rfl) T.c_IS) (da_cons (de_glob (by rfl) T.c_NOT) (da_nil))))) (de_ix hu (dv 7) (de_int)) (de_slice (dv 7) (dp_some (de_int)) (dp_none))) (da_nil)))) (da_nil)))))) (dss_one (ds_for PassesOwn.never rfl (di_seq (dv 6)) (dg_tup rfl (dgs_cons (dg_name (i := 8) sc_written.nd rfl (Or.inl rfl)) (dgs_cons (dg_name (i := 9) sc_written.nd rfl (Or.inl rfl)) (dgs_nil)))) (dss_one (ds_expr (de_append (dv 2) (da_cons (de_add (de_lst (da_cons (dv 8) (da_nil))) (de_ifExp (dt_cm (cd_ne hu) (dv 8) (de_glob (by rfl) T.c_TAKE)) (de_ct cl_list (by rfl) T.n_list PyProof.Rows.boot_list (da_cons (dv 9) (da_nil))) (de_lst (da_cons (dv 9) (da_nil))))) (da_nil)))))))))) (dss_cons (ds_expr (de_extend (dv 2) (da_cons (de_lc (own := [("thing", 10)]) (gd := gdName 10) rfl sc_written.nd (tg_name) (di_seq (dv 1)) (blkOk_by (N := N_written) (sc := defScope s_written) (by decide +kernel)) (fun _ _ _ _ _ => pg_name (i := 10) sc_written.nd rfl (Or.inl rfl)) (fun _ _ _ _ _ => dts_nil) (fun _ _ _ _ _ => de_add (de_lst (da_cons (de_glob (by rfl) T.c_THING) (da_nil))) (de_ct cl_list (by rfl) T.n_list PyProof.Rows.boot_list (da_cons (dv 10) (da_nil))))) (da_nil)))) (dss_one (ds_ret (de_mtS PySem.F.slot_str_join PySem.F.type_str_join md_join (de_str) (da_cons (de_lc (own := [("row", 11)]) (gd := gdName 11) rfl sc_written.nd (tg_name) (di_seq (dv 2)) (blkOk_by (N := N_written) (sc := defScope s_written) (by decide +kernel)) (fun _ _ _ _ _ => pg_name (i := 11) sc_written.nd rfl (Or.inl rfl)) (fun _ _ _ _ _ => dts_nil) (fun _ _ _ _ _ => de_mtS PySem.F.slot_str_join PySem.F.type_str_join md_join (de_str) (da_cons (de_lc (own := [("part", 12)]) (gd := gdName 12) rfl sc_written.nd (tg_name) (di_seq (dv 11)) (blkOk_by (N := N_written) (sc := relS _ (defScope s_written)) (by decide +kernel)) (fun _ _ _ _ _ => pg_name (i := 12) sc_written.nd rfl (Or.inl rfl)) (fun _ _ _ _ _ => dts_nil) (fun _ _ _ _ _ => de_cf T.d_part_text G_part_text (hr.mono (by omega)) (by rfl) (da_cons (dv 12) (da_nil)))) (da_nil)))) (da_nil)))))))))
theorem fn_written (T : Pk K mg) {k : Nat} {a_need_rules : ASp} {l_need_rules : Nat} (G_need_rules : FnOk P w K mg base CX0 l_need_rules T.f_need_rules T.fd_need_rules ["rules"] (liftF K a_need_rules)) (h_need_rules : l_need_rules ≤ k) {a_need_things : ASp} {l_need_things : Nat} (G_need_things : FnOk P w K mg base CX0 l_need_things T.f_need_things T.fd_need_things ["things"] (liftF K a_need_things)) (h_need_things : l_need_things ≤ k) {a_part_text : ASp} {l_part_text : Nat} (G_part_text : FnOk P w K mg base CX0 l_part_text T.f_part_text T.fd_part_text ["part"] (liftF K a_part_text)) (h_part_text : l_part_text ≤ k) {a : ASp} (len : ∀ ds C R, a ds C R → ds.length = 2) (rd : ∀ ds C R, a ds C R → t_written a_need_rules a_need_things a_part_text { nx := fun _ C' => lss R .non C', rt := lss R } (dstart N_written ds) C) : FnOk P w K mg base CX0 (k + 1) T.f_written T.fd_written ["rules", "things"] (liftF K a) :=
  fnDL T.F_written sc_written len fun cdv A outer s H E hr => ⟨_, dv_written T G_need_rules h_need_rules G_need_things h_need_things G_part_text h_part_text hr, rd⟩
theorem dv__law_spoilt (T : Pk K mg) {k : Nat} {a__law_taken : ASp} {l__law_taken : Nat} (G__law_taken : FnOk P w K mg base CX0 l__law_taken T.f__law_taken T.fd__law_taken ["_law_row_here", "_law_many"] (liftF K a__law_taken)) (h__law_taken : l__law_taken ≤ k) {cdv : Value} {A : Around} {outer : List Env} {s : Shared} {H : Hp} {E : XK} {f : Addr} (hr : Room k (A.deeper (envOfC "_law_spoilt" (defScope s__law_spoilt) s.heap.objs.size f cdv))) :
    PSs (cxOf CX0 P w K mg base N__law_spoilt "_law_spoilt" (defScope s__law_spoilt) f cdv A outer s H E).nox (defBody s__law_spoilt) (liftS K (t__law_spoilt a__law_taken)) := by
  have hu := hr.units
  have hu5 := hu5_of hr
  exact dss_cons (ds_set (i := 2) sc__law_spoilt.nd rfl (Or.inl rfl) (de_lst (da_cons (de_str) (da_cons (de_str) (da_cons (de_str) (da_cons (de_str) (da_cons (de_str) (da_cons (de_str) (da_cons (de_str) (da_cons (de_str) (da_cons (de_str) (da_cons (de_str) (da_cons (de_str) (da_cons (de_str) (da_cons (de_str) (da_cons (de_str) (da_cons (de_str) (da_nil)))))))))))))))))) (dss_cons (ds_set (i := 2) sc__law_spoilt.nd rfl (Or.inl rfl) (de_add (dv 2) (de_lst (da_cons (de_str) (da_cons (de_str) (da_cons (de_str) (da_cons (de_str) (da_cons (de_str) (da_cons (de_str) (da_cons (de_str) (da_cons (de_str) (da_cons (de_str) (da_cons (de_str) (da_cons (de_str) (da_cons (de_str) (da_nil)))))))))))))))) (dss_cons (ds_for PassesOwn.never rfl (di_range1 (by rfl) T.n_range (da_cons (de_cf T.d__law_taken G__law_taken (hr.mono (by omega)) (by rfl) (da_cons (dv 0) (da_cons (de_int) (da_nil)))) (da_nil))) (dg_name (i := 3) sc__law_spoilt.nd rfl (Or.inl rfl)) (dss_cons (ds_set (i := 4) sc__law_spoilt.nd rfl (Or.inl rfl) (de_ifExp (dt_cm (cd_ne hu) (dv 1) (de_lst (da_nil))) (de_cf T.d__law_taken G__law_taken (hr.mono (by omega)) (by rfl) (da_cons (dv 0) (da_cons (de_cb cl_len (by rfl) T.n_len PySem.boot_len (da_cons (dv 1) (da_nil))) (da_nil)))) (de_int))) (dss_cons (ds_par (i := 5) (j := 6) rfl sc__law_spoilt.nd rfl rfl (by decide) rfl rfl (da_cons (de_cf T.d__law_taken G__law_taken (hr.mono (by omega)) (by rfl) (da_cons (dv 0) (da_cons (de_int) (da_nil)))) (da_cons (de_ix hu (dv 2) (de_cf T.d__law_taken G__law_taken (hr.mono (by omega)) (by rfl) (da_cons (dv 0) (da_cons (de_cb cl_len (by rfl) T.n_len PySem.boot_len (da_cons (dv 2) (da_nil))) (da_nil))))) (da_nil))) rfl) (dss_one (ds_if ((dw_or (dt_cm (cd_eq hu) (dv 1) (de_lst (da_nil))) (dw_or1 (dt_cm (cd_eq hu) (dv 5) (de_int)))).pt) (dss_one (ds_set (i := 1) sc__law_spoilt.nd rfl (Or.inl rfl) (de_add (de_add (de_slice (dv 1) (dp_none) (dp_some (dv 4))) (de_lst (da_cons (de_lst (da_cons (dv 6) (da_nil))) (da_nil)))) (de_slice (dv 1) (dp_some (dv 4)) (dp_none))))) (dss_one (ds_if (dt_cm (cd_eq hu) (dv 5) (de_int)) (dss_cons (ds_set (i := 7) sc__law_spoilt.nd rfl (Or.inl rfl) (de_lst (da_cons (de_add (de_slice (dv 1) (dp_none) (dp_some (dv 4))) (de_slice (dv 1) (dp_some (de_add (dv 4) (de_int))) (dp_none))) (da_cons (de_add (de_slice (dv 1) (dp_some (dv 4)) (dp_none)) (de_slice (dv 1) (dp_none) (dp_some (dv 4)))) (da_cons (de_add (de_slice (dv 1) (dp_none) (dp_some (de_add (dv 4) (de_int)))) (de_slice (dv 1) (dp_some (dv 4)) (dp_none))) (da_nil)))))) (dss_one (ds_set (i := 1) sc__law_spoilt.nd rfl (Or.inl rfl) (de_ix hu (dv 7) (de_cf T.d__law_taken G__law_taken (hr.mono (by omega)) (by rfl) (da_cons (dv 0) (da_cons (de_int) (da_nil)))))))) (dss_one (ds_if (dt_cm (cd_eq hu) (dv 5) (de_int)) (dss_one (ds_set (i := 1) sc__law_spoilt.nd rfl (Or.inl rfl) (de_add (de_add (de_slice (dv 1) (dp_none) (dp_some (dv 4))) (de_rev (de_slice (dv 1) (dp_some (dv 4)) (dp_some (de_add (dv 4) (de_int)))))) (de_slice (dv 1) (dp_some (de_add (dv 4) (de_int))) (dp_none))))) (dss_cons (ds_set (i := 8) sc__law_spoilt.nd rfl (Or.inl rfl) (de_cf T.d__law_taken G__law_taken (hr.mono (by omega)) (by rfl) (da_cons (dv 0) (da_cons (de_add (de_cb cl_len (by rfl) T.n_len PySem.boot_len (da_cons (de_ix hu (dv 1) (dv 4)) (da_nil))) (de_int)) (da_nil))))) (dss_cons (ds_set (i := 9) sc__law_spoilt.nd rfl (Or.inl rfl) (de_slice (de_ix hu (dv 1) (dv 4)) (dp_some (de_add (dv 8) (de_mod (dv 5) (de_int)))) (dp_none))) (dss_cons (ds_set (i := 10) sc__law_spoilt.nd rfl (Or.inl rfl) (de_add (de_add (de_slice (de_ix hu (dv 1) (dv 4)) (dp_none) (dp_some (dv 8))) (de_mul (de_lst (da_cons (dv 6) (da_nil))) (de_div (dv 5) (de_int)))) (dv 9))) (dss_one (ds_set (i := 1) sc__law_spoilt.nd rfl (Or.inl rfl) (de_add (de_add (de_slice (dv 1) (dp_none) (dp_some (dv 4))) (de_lst (da_cons (dv 10) (da_nil)))) (de_slice (dv 1) (dp_some (de_add (dv 4) (de_int))) (dp_none))))))))))))))))) (dss_one (ds_ret (de_mtS PySem.F.slot_str_join PySem.F.type_str_join md_join (de_str) (da_cons (de_lc (own := [("_law_line", 11)]) (gd := gdName 11) rfl sc__law_spoilt.nd (tg_name) (di_seq (dv 1)) (blkOk_by (N := N__law_spoilt) (sc := defScope s__law_spoilt) (by decide +kernel)) (fun _ _ _ _ _ => pg_name (i := 11) sc__law_spoilt.nd rfl (Or.inl rfl)) (fun _ _ _ _ _ => dts_nil) (fun _ _ _ _ _ => de_mtS PySem.F.slot_str_join PySem.F.type_str_join md_join (de_str) (da_cons (dv 11) (da_nil)))) (da_nil)))))))
theorem fn__law_spoilt (T : Pk K mg) {k : Nat} {a__law_taken : ASp} {l__law_taken : Nat} (G__law_taken : FnOk P w K mg base CX0 l__law_taken T.f__law_taken T.fd__law_taken ["_law_row_here", "_law_many"] (liftF K a__law_taken)) (h__law_taken : l__law_taken ≤ k) {a : ASp} (len : ∀ ds C R, a ds C R → ds.length = 2) (rd : ∀ ds C R, a ds C R → t__law_spoilt a__law_taken { nx := fun _ C' => R .non C', rt := R } (dstart N__law_spoilt ds) C) : FnOk P w K mg base CX0 (k + 1) T.f__law_spoilt T.fd__law_spoilt ["_law_row_here", "_law_rows"] (liftF K a) :=
  fnD T.F__law_spoilt sc__law_spoilt len fun cdv A outer s H E hr => ⟨_, dv__law_spoilt T G__law_taken h__law_taken hr, rd⟩
theorem dv__law_number_of (T : Pk K mg) {k : Nat} {cdv : Value} {A : Around} {outer : List Env} {s : Shared} {H : Hp} {E : XK} {f : Addr} (hr : Room k (A.deeper (envOfC "_law_number_of" (defScope s__law_number_of) s.heap.objs.size f cdv))) :
    PSs (cxOf CX0 P w K mg base N__law_number_of "_law_number_of" (defScope s__law_number_of) f cdv A outer s H E).nox (defBody s__law_number_of) (liftS K (t__law_number_of)) := by
  have hu := hr.units
  have hu5 := hu5_of hr
  exact dss_cons (ds_set (i := 1) sc__law_number_of.nd rfl (Or.inl rfl) (de_ifExp (dt_cm (cd_eq hu) (de_slice (dv 0) (dp_none) (dp_some (de_int))) (de_str)) (de_slice (dv 0) (dp_some (de_int)) (dp_none)) (dv 0))) (dss_cons (ds_if ((dw_or (dt_not (dt_ch cd_le cd_le (de_int) (de_cb cl_len (by rfl) T.n_len PySem.boot_len (da_cons (dv 1) (da_nil))) (de_int))) (dw_or1 (dt_cm (cd_ne hu) (de_lc (own := [("_law_sign", 2)]) (gd := gdName 2) rfl sc__law_number_of.nd (tg_name) (di_seq (dv 1)) (blkOk_by (N := N__law_number_of) (sc := defScope s__law_number_of) (by decide +kernel)) (fun _ _ _ _ _ => pg_name (i := 2) sc__law_number_of.nd rfl (Or.inl rfl)) (fun _ _ _ _ _ => dts_one (dt_cm (cd_notin hu5) (dv 2) (de_str))) (fun _ _ _ _ _ => dv 2)) (de_lst (da_nil))))).pt) (dss_one (ds_ret (de_non))) (dss_nil)) (dss_one (ds_ret (de_ifExp ((dw_and (dt_cm (cd_eq hu) (de_ix hu (dv 1) (de_int)) (de_str)) (dw_and1 (dt_cm (cd_ne hu) (dv 0) (de_str)))).pt) (de_non) (de_ct cl_intS (by rfl) T.n_int PyProof.Rows.boot_int (da_cons (dv 0) (da_nil)))))))
theorem fn__law_number_of (T : Pk K mg) {k : Nat} {a : ASp} (len : ∀ ds C R, a ds C R → ds.length = 1) (rd : ∀ ds C R, a ds C R → t__law_number_of { nx := fun _ C' => R .non C', rt := R } (dstart N__law_number_of ds) C) : FnOk P w K mg base CX0 (k + 1) T.f__law_number_of T.fd__law_number_of ["_law_word_here"] (liftF K a) :=
  fnD T.F__law_number_of sc__law_number_of len fun cdv A outer s H E hr => ⟨_, dv__law_number_of T hr, rd⟩
theorem dv__law_part_of (T : Pk K mg) {k : Nat} {a__law_number_of : ASp} {l__law_number_of : Nat} (G__law_number_of : FnOk P w K mg base CX0 l__law_number_of T.f__law_number_of T.fd__law_number_of ["_law_word_here"] (liftF K a__law_number_of)) (h__law_number_of : l__law_number_of ≤ k) {cdv : Value} {A : Around} {outer : List Env} {s : Shared} {H : Hp} {E : XK} {f : Addr} (hr : Room k (A.deeper (envOfC "_law_part_of" (defScope s__law_part_of) s.heap.objs.size f cdv))) :
    PSs (cxOf CX0 P w K mg base N__law_part_of "_law_part_of" (defScope s__law_part_of) f cdv A outer s H E).nox (defBody s__law_part_of) (liftS K (t__law_part_of a__law_number_of)) := by
  have hu := hr.units
  have hu5 := hu5_of hr
  exact dss_cons (ds_set (i := 1) sc__law_part_of.nd rfl (Or.inl rfl) (de_cf T.d__law_number_of G__law_number_of (hr.mono (by omega)) (by rfl) (da_cons (dv 0) (da_nil)))) (dss_cons (ds_if (dt_cm cd_isnot (dv 1) (de_non)) (dss_one (ds_ret (dv 1))) (dss_nil)) (dss_cons (ds_if ((dw_and (dt_cm cd_gt (de_cb cl_len (by rfl) T.n_len PySem.boot_len (da_cons (dv 0) (da_nil))) (de_int)) (dw_and (dt_ch cd_le cd_le (de_str) (de_ix hu (dv 0) (de_int)) (de_str)) (dw_and1 (dt_cm (cd_in hu5) (de_ix hu (dv 0) (de_int)) (de_str))))).pt) (dss_cons (ds_set (i := 2) sc__law_part_of.nd rfl (Or.inl rfl) (de_cf T.d__law_number_of G__law_number_of (hr.mono (by omega)) (by rfl) (da_cons (de_slice (dv 0) (dp_some (de_int)) (dp_none)) (da_nil)))) (dss_one (ds_if ((dw_and (dt_cm cd_isnot (dv 2) (de_non)) (dw_and (dt_cm cd_ge (dv 2) (de_int)) (dw_and1 ((dw_or (dt_cm (cd_eq hu) (de_ix hu (dv 0) (de_int)) (de_str)) (dw_or1 (dt_cm cd_gt (dv 2) (de_int)))).pt)))).pt) (dss_one (ds_ret (de_tup (da_cons (de_ix hu (dv 0) (de_int)) (da_cons (de_ifExp (dt_cm (cd_eq hu) (de_ix hu (dv 0) (de_int)) (de_str)) (dv 2) (de_sub (de_int) (dv 2))) (da_nil)))))) (dss_nil)))) (dss_nil)) (dss_one (ds_ret (dv 0)))))
theorem fn__law_part_of (T : Pk K mg) {k : Nat} {a__law_number_of : ASp} {l__law_number_of : Nat} (G__law_number_of : FnOk P w K mg base CX0 l__law_number_of T.f__law_number_of T.fd__law_number_of ["_law_word_here"] (liftF K a__law_number_of)) (h__law_number_of : l__law_number_of ≤ k) {a : ASp} (len : ∀ ds C R, a ds C R → ds.length = 1) (rd : ∀ ds C R, a ds C R → t__law_part_of a__law_number_of { nx := fun _ C' => R .non C', rt := R } (dstart N__law_part_of ds) C) : FnOk P w K mg base CX0 (k + 1) T.f__law_part_of T.fd__law_part_of ["_law_word_here"] (liftF K a) :=
  fnD T.F__law_part_of sc__law_part_of len fun cdv A outer s H E hr => ⟨_, dv__law_part_of T G__law_number_of h__law_number_of hr, rd⟩
theorem dv__law_more (T : Pk K mg) {k : Nat} {cdv : Value} {A : Around} {outer : List Env} {s : Shared} {H : Hp} {E : XK} {f : Addr} (hr : Room k (A.deeper (envOfC "_law_more" (defScope s__law_more) s.heap.objs.size f cdv))) :
    PSs (cxOf CX0 P w K mg base N__law_more "_law_more" (defScope s__law_more) f cdv A outer s H E).nox (defBody s__law_more) (liftS K (t__law_more)) := by
  have hu := hr.units
  have hu5 := hu5_of hr
  exact dss_cons (ds_asg (dv 0) (dg_tup rfl (dgs_cons (dg_name (i := 3) sc__law_more.nd rfl (Or.inl rfl)) (dgs_cons (dg_name (i := 4) sc__law_more.nd rfl (Or.inl rfl)) (dgs_cons (dg_name (i := 5) sc__law_more.nd rfl (Or.inl rfl)) (dgs_cons (dg_name (i := 6) sc__law_more.nd rfl (Or.inl rfl)) (dgs_nil))))))) (dss_cons (ds_if ((dw_and (dt_cm (cd_in hu5) (dv 1) (de_tup (da_cons (de_str) (da_cons (de_str) (da_nil))))) (dw_and1 (dt_cm (cd_eq hu) (dv 6) (de_tup (da_nil))))).pt) (dss_one (ds_ret (de_tup (da_cons (dv 3) (da_cons (dv 4) (da_cons (de_add (dv 5) (de_tup (da_cons (de_tup (da_cons (dv 1) (da_cons (dv 2) (da_nil)))) (da_nil)))) (da_cons (dv 6) (da_nil)))))))) (dss_nil)) (dss_cons (ds_if ((dw_and (dt_cm (cd_in hu5) (dv 1) (de_tup (da_cons (de_str) (da_cons (de_str) (da_cons (de_str) (da_nil)))))) (dw_and (dt_cm (cd_eq hu) (dv 6) (de_tup (da_nil))) (dw_and1 (dt_cm (cd_eq hu) (de_cb cl_len (by rfl) T.n_len PySem.boot_len (da_cons (dv 2) (da_nil))) (de_int))))).pt) (dss_one (ds_ret (de_tup (da_cons (dv 3) (da_cons (dv 4) (da_cons (de_add (dv 5) (de_tup (da_cons (de_add (de_tup (da_cons (dv 1) (da_nil))) (dv 2)) (da_nil)))) (da_cons (dv 6) (da_nil)))))))) (dss_nil)) (dss_cons (ds_if ((dw_and (dt_cm (cd_eq hu) (dv 1) (de_str)) (dw_and (dt_cm (cd_eq hu) (de_cb cl_len (by rfl) T.n_len PySem.boot_len (da_cons (dv 2) (da_nil))) (de_int)) (dw_and (dt_val (de_cb cl_isi (by rfl) T.n_isinstance PyProof.Rows.boot_isinstance (da_cons (de_ix hu (dv 2) (de_int)) (da_cons (de_bltn (by rfl) T.n_int PyProof.Rows.boot_int) (da_nil))))) (dw_and1 (dt_cm cd_ge (de_ix hu (dv 2) (de_int)) (de_int)))))).pt) (dss_one (ds_ret (de_tup (da_cons (dv 3) (da_cons (dv 4) (da_cons (dv 5) (da_cons (de_add (dv 6) (de_tup (da_cons (de_tup (da_cons (de_str) (da_cons (de_ix hu (dv 2) (de_int)) (da_nil)))) (da_nil)))) (da_nil)))))))) (dss_nil)) (dss_one (ds_ret (de_ifExp (dt_cm (cd_in hu5) (dv 1) (de_tup (da_cons (de_str) (da_cons (de_str) (da_cons (de_str) (da_nil)))))) (de_tup (da_cons (dv 3) (da_cons (dv 4) (da_cons (dv 5) (da_cons (de_add (dv 6) (de_tup (da_cons (de_tup (da_cons (dv 1) (da_cons (dv 2) (da_nil)))) (da_nil)))) (da_nil)))))) (de_non)))))))
theorem fn__law_more (T : Pk K mg) {k : Nat} {a : ASp} (len : ∀ ds C R, a ds C R → ds.length = 3) (rd : ∀ ds C R, a ds C R → t__law_more { nx := fun _ C' => R .non C', rt := R } (dstart N__law_more ds) C) : FnOk P w K mg base CX0 (k + 1) T.f__law_more T.fd__law_more ["_law_rule_here", "_law_head", "_law_parts"] (liftF K a) :=
  fnD T.F__law_more sc__law_more len fun cdv A outer s H E hr => ⟨_, dv__law_more T hr, rd⟩
theorem dv__law_read (T : Pk K mg) {k : Nat} {a__law_part_of : ASp} {l__law_part_of : Nat} (G__law_part_of : FnOk P w K mg base CX0 l__law_part_of T.f__law_part_of T.fd__law_part_of ["_law_word_here"] (liftF K a__law_part_of)) (h__law_part_of : l__law_part_of ≤ k) {a__law_more : ASp} {l__law_more : Nat} (G__law_more : FnOk P w K mg base CX0 l__law_more T.f__law_more T.fd__law_more ["_law_rule_here", "_law_head", "_law_parts"] (liftF K a__law_more)) (h__law_more : l__law_more ≤ k) {cdv : Value} {A : Around} {outer : List Env} {s : Shared} {H : Hp} {E : XK} {f : Addr} (hr : Room k (A.deeper (envOfC "_law_read" (defScope s__law_read) s.heap.objs.size f cdv))) :
    PSs (cxOf CX0 P w K mg base N__law_read "_law_read" (defScope s__law_read) f cdv A outer s H E).nox (defBody s__law_read) (liftS K (t__law_read a__law_part_of a__law_more)) := by
  have hu := hr.units
  have hu5 := hu5_of hr
  exact dss_cons (ds_par (i := 1) (j := 2) rfl sc__law_read.nd rfl rfl (by decide) rfl rfl (da_cons (de_lstC (da_nil)) (da_cons (de_lstC (da_nil)) (da_nil))) rfl) (dss_cons (ds_set (i := 3) sc__law_read.nd rfl (Or.inl rfl) (de_mtS PySem.F.slot_str_split PySem.F.type_str_split md_split (dv 0) (da_cons (de_str) (da_nil)))) (dss_cons (ds_for PassesOwn.never rfl (di_range1 (by rfl) T.n_range (da_cons (de_cb cl_len (by rfl) T.n_len PySem.boot_len (da_cons (dv 3) (da_nil))) (da_nil))) (dg_name (i := 4) sc__law_read.nd rfl (Or.inl rfl)) (dss_cons (ds_par (i := 5) (j := 6) rfl sc__law_read.nd rfl rfl (by decide) rfl rfl (da_cons (de_ix hu (de_mtS PySem.F.slot_str_split PySem.F.type_str_split md_split (de_ix hu (dv 3) (dv 4)) (da_cons (de_str) (da_nil))) (de_int)) (da_cons (de_slice (de_mtS PySem.F.slot_str_split PySem.F.type_str_split md_split (de_ix hu (dv 3) (dv 4)) (da_cons (de_str) (da_nil))) (dp_some (de_int)) (dp_none)) (da_nil))) rfl) (dss_cons (ds_set (i := 7) sc__law_read.nd rfl (Or.inl rfl) (de_ct cl_tuple (by rfl) T.n_tuple PyProof.Rows.boot_tuple (da_cons (de_lc (own := [("_law_word_here", 9)]) (gd := gdName 9) rfl sc__law_read.nd (tg_name) (di_seq (dv 6)) (blkOk_by (N := N__law_read) (sc := defScope s__law_read) (by decide +kernel)) (fun _ _ _ _ _ => pg_name (i := 9) sc__law_read.nd rfl (Or.inl rfl)) (fun _ _ _ _ _ => dts_nil) (fun _ _ _ _ _ => de_cf T.d__law_part_of G__law_part_of (hr.mono (by omega)) (by rfl) (da_cons (dv 9) (da_nil)))) (da_nil)))) (dss_cons (ds_set (i := 8) sc__law_read.nd rfl (Or.inl rfl) (de_and (de_cm (cd_ne hu) (dv 6) (de_lst (da_nil))) (de_and (de_cm (cd_notin hu5) (de_str) (dv 6)) (de_one (de_or (de_cm (cd_eq hu) (dv 2) (de_lst (da_nil))) (de_one (de_cm (cd_eq hu) (dv 5) (de_str)))))))) (dss_cons (ds_if ((dw_and (dt_val (dv 8)) (dw_and1 (dt_cm (cd_eq hu) (dv 5) (de_str)))).pt) (dss_one (ds_expr (de_append (dv 2) (da_cons (dv 7) (da_nil))))) (dss_one (ds_if ((dw_and (dt_val (dv 8)) (dw_and (dt_cm (cd_eq hu) (dv 5) (de_str)) (dw_and (dt_cm (cd_eq hu) (de_cb cl_len (by rfl) T.n_len PySem.boot_len (da_cons (dv 6) (da_nil))) (de_int)) (dw_and1 (dt_val (de_cb cl_isi (by rfl) T.n_isinstance PyProof.Rows.boot_isinstance (da_cons (de_ix hu (dv 7) (de_int)) (da_cons (de_bltn (by rfl) T.n_int PyProof.Rows.boot_int) (da_nil))))))))).pt) (dss_one (ds_expr (de_append (dv 1) (da_cons (de_tup (da_cons (de_ix hu (dv 6) (de_int)) (da_cons (de_ix hu (dv 7) (de_int)) (da_cons (de_tup (da_nil)) (da_cons (de_tup (da_nil)) (da_nil)))))) (da_nil))))) (dss_one (ds_if ((dw_and (dt_val (dv 8)) (dw_and (dt_cm (cd_ne hu) (dv 1) (de_lst (da_nil))) (dw_and1 (dt_cm (cd_ne hu) (dv 5) (de_str))))).pt) (dss_cons (ds_asg (de_cf T.d__law_more G__law_more (hr.mono (by omega)) (by rfl) (da_cons (de_ix hu (dv 1) (de_neg (de_int))) (da_cons (dv 5) (da_cons (dv 7) (da_nil))))) (dg_subL (dv 1) (de_neg (de_int)))) (dss_one (ds_set (i := 8) sc__law_read.nd rfl (Or.inl rfl) (de_cm cd_isnot (de_ix hu (dv 1) (de_neg (de_int))) (de_non))))) (dss_one (ds_set (i := 8) sc__law_read.nd rfl (Or.inl rfl) (de_bl)))))))) (dss_one (ds_if (dt_not (dt_val (dv 8))) (dss_one (ds_ret (de_tup (da_cons (de_str) (da_cons (dv 4) (da_nil)))))) (dss_nil)))))))) (dss_one (ds_ret (de_tup (da_cons (de_str) (da_cons (de_tup (da_cons (de_ct cl_tuple (by rfl) T.n_tuple PyProof.Rows.boot_tuple (da_cons (dv 1) (da_nil))) (da_cons (dv 2) (da_nil)))) (da_nil))))))))
theorem fn__law_read (T : Pk K mg) {k : Nat} {a__law_part_of : ASp} {l__law_part_of : Nat} (G__law_part_of : FnOk P w K mg base CX0 l__law_part_of T.f__law_part_of T.fd__law_part_of ["_law_word_here"] (liftF K a__law_part_of)) (h__law_part_of : l__law_part_of ≤ k) {a__law_more : ASp} {l__law_more : Nat} (G__law_more : FnOk P w K mg base CX0 l__law_more T.f__law_more T.fd__law_more ["_law_rule_here", "_law_head", "_law_parts"] (liftF K a__law_more)) (h__law_more : l__law_more ≤ k) {a : ASp} (len : ∀ ds C R, a ds C R → ds.length = 1) (rd : ∀ ds C R, a ds C R → t__law_read a__law_part_of a__law_more { nx := fun _ C' => lss R .non C', rt := lss R } (dstart N__law_read ds) C) : FnOk P w K mg base CX0 (k + 1) T.f__law_read T.fd__law_read ["_law_text"] (liftF K a) :=
  fnDL T.F__law_read sc__law_read len fun cdv A outer s H E hr => ⟨_, dv__law_read T G__law_part_of h__law_part_of G__law_more h__law_more hr, rd⟩
theorem dv__law_alike (T : Pk K mg) {k : Nat} {a__law_alike : ASp} {l__law_alike : Nat} (G__law_alike : FnOk P w K mg base CX0 l__law_alike T.f__law_alike T.fd__law_alike ["_law_found", "_law_due"] (liftF K a__law_alike)) (h__law_alike : l__law_alike ≤ k) {cdv : Value} {A : Around} {outer : List Env} {s : Shared} {H : Hp} {E : XK} {f : Addr} (hr : Room k (A.deeper (envOfC "_law_alike" (defScope s__law_alike) s.heap.objs.size f cdv))) :
    PSs (cxOf CX0 P w K mg base N__law_alike "_law_alike" (defScope s__law_alike) f cdv A outer s H E).nox (defBody s__law_alike) (liftS K (t__law_alike a__law_alike)) := by
  have hu := hr.units
  have hu5 := hu5_of hr
  exact dss_cons (ds_if (dt_val (de_cb cl_isi (by rfl) T.n_isinstance PyProof.Rows.boot_isinstance (da_cons (dv 1) (da_cons (de_tup (da_cons (de_bltn (by rfl) T.n_tuple PyProof.Rows.boot_tuple) (da_cons (de_bltn (by rfl) T.n_list PyProof.Rows.boot_list) (da_nil)))) (da_nil))))) (dss_cons (ds_if ((dw_or (dt_cm (cd_ne hu) (de_cb cl_isi (by rfl) T.n_isinstance PyProof.Rows.boot_isinstance (da_cons (dv 0) (da_cons (de_bltn (by rfl) T.n_tuple PyProof.Rows.boot_tuple) (da_nil)))) (de_cb cl_isi (by rfl) T.n_isinstance PyProof.Rows.boot_isinstance (da_cons (dv 1) (da_cons (de_bltn (by rfl) T.n_tuple PyProof.Rows.boot_tuple) (da_nil))))) (dw_or1 (dt_not (dt_val (de_cb cl_isi (by rfl) T.n_isinstance PyProof.Rows.boot_isinstance (da_cons (dv 0) (da_cons (de_tup (da_cons (de_bltn (by rfl) T.n_tuple PyProof.Rows.boot_tuple) (da_cons (de_bltn (by rfl) T.n_list PyProof.Rows.boot_list) (da_nil)))) (da_nil)))))))).pt) (dss_one (ds_ret (de_bl))) (dss_nil)) (dss_cons (ds_if (dt_cm (cd_ne hu) (de_cb cl_len (by rfl) T.n_len PySem.boot_len (da_cons (dv 0) (da_nil))) (de_cb cl_len (by rfl) T.n_len PySem.boot_len (da_cons (dv 1) (da_nil)))) (dss_one (ds_ret (de_bl))) (dss_nil)) (dss_one (ds_ret (de_cm (cd_eq hu) (de_lc (own := [("_law_k", 3)]) (gd := gdName 3) rfl sc__law_alike.nd (tg_name) (di_range1 (by rfl) T.n_range (da_cons (de_cb cl_len (by rfl) T.n_len PySem.boot_len (da_cons (dv 1) (da_nil))) (da_nil))) (blkOk_by (N := N__law_alike) (sc := defScope s__law_alike) (by decide +kernel)) (fun _ _ _ _ _ => pg_name (i := 3) sc__law_alike.nd rfl (Or.inl rfl)) (fun _ _ _ _ _ => dts_one (dt_not (dt_val (de_cf T.d__law_alike G__law_alike (hr.mono (by omega)) (by rfl) (da_cons (de_ix hu (dv 0) (dv 3)) (da_cons (de_ix hu (dv 1) (dv 3)) (da_nil))))))) (fun _ _ _ _ _ => dv 3)) (de_lst (da_nil))))))) (dss_nil)) (dss_cons (ds_if ((dw_or (dt_cm cd_is (dv 1) (de_non)) (dw_or1 (dt_cm cd_is (dv 0) (de_non)))).pt) (dss_one (ds_ret (de_and (de_cm cd_is (dv 1) (de_non)) (de_one (de_cm cd_is (dv 0) (de_non)))))) (dss_nil)) (dss_cons (ds_set (i := 2) sc__law_alike.nd rfl (Or.inl rfl) (de_cm (cd_eq hu) (de_cb cl_isi (by rfl) T.n_isinstance PyProof.Rows.boot_isinstance (da_cons (dv 1) (da_cons (de_bltn (by rfl) T.n_str PyProof.Rows.boot_str) (da_nil)))) (de_cb cl_isi (by rfl) T.n_isinstance PyProof.Rows.boot_isinstance (da_cons (dv 0) (da_cons (de_bltn (by rfl) T.n_str PyProof.Rows.boot_str) (da_nil)))))) (dss_one (ds_ret (de_and (dv 2) (de_and (de_cm (cd_eq hu) (de_cb cl_isi (by rfl) T.n_isinstance PyProof.Rows.boot_isinstance (da_cons (dv 1) (da_cons (de_bltn (by rfl) T.n_bool PyProof.Rows.boot_bool) (da_nil)))) (de_cb cl_isi (by rfl) T.n_isinstance PyProof.Rows.boot_isinstance (da_cons (dv 0) (da_cons (de_bltn (by rfl) T.n_bool PyProof.Rows.boot_bool) (da_nil))))) (de_one (de_cm (cd_eq hu) (dv 0) (dv 1)))))))))
theorem fn__law_alike (T : Pk K mg) {k : Nat} {a__law_alike : ASp} {l__law_alike : Nat} (G__law_alike : FnOk P w K mg base CX0 l__law_alike T.f__law_alike T.fd__law_alike ["_law_found", "_law_due"] (liftF K a__law_alike)) (h__law_alike : l__law_alike ≤ k) {a : ASp} (len : ∀ ds C R, a ds C R → ds.length = 2) (rd : ∀ ds C R, a ds C R → t__law_alike a__law_alike { nx := fun _ C' => R .non C', rt := R } (dstart N__law_alike ds) C) : FnOk P w K mg base CX0 (k + 1) T.f__law_alike T.fd__law_alike ["_law_found", "_law_due"] (liftF K a) :=
  fnD T.F__law_alike sc__law_alike len fun cdv A outer s H E hr => ⟨_, dv__law_alike T G__law_alike h__law_alike hr, rd⟩
theorem dv_Reader___init__ (T : Pk K mg) {k : Nat} {cdv : Value} {A : Around} {outer : List Env} {s : Shared} {H : Hp} {E : XK} {f : Addr} (hr : Room k (A.deeper (envOfC "Reader.__init__" (defScope s_Reader___init__) s.heap.objs.size f cdv))) :
    PSs (cxOf CX0 P w K mg base N_Reader___init__ "Reader.__init__" (defScope s_Reader___init__) f cdv A outer s H E).nox (defBody s_Reader___init__) (liftS K (t_Reader___init__ T.C_Reader)) := by
  have hu := hr.units
  have hu5 := hu5_of hr
  exact dss_cons (ds_fld T.cls_Reader T.na_Reader_rules (dv 0) (de_lstC (da_nil))) (dss_one (ds_fld T.cls_Reader T.na_Reader_some (dv 0) (de_lstC (da_nil))))
theorem fn_Reader___init__ (T : Pk K mg) {k : Nat} {a : ASp} (len : ∀ ds C R, a ds C R → ds.length = 1) (rd : ∀ ds C R, a ds C R → t_Reader___init__ T.C_Reader { nx := fun _ C' => lss R .non C', rt := lss R } (dstart N_Reader___init__ ds) C) : FnOk P w K mg base CX0 (k + 1) T.f_Reader___init__ T.fd_Reader___init__ ["self"] (liftF K a) :=
  fnDL T.F_Reader___init__ sc_Reader___init__ len fun cdv A outer s H E hr => ⟨_, dv_Reader___init__ T hr, rd⟩
theorem dv_number_of (T : Pk K mg) {k : Nat} {cdv : Value} {A : Around} {outer : List Env} {s : Shared} {H : Hp} {E : XK} {f : Addr} (hr : Room k (A.deeper (envOfC "number_of" (defScope s_number_of) s.heap.objs.size f cdv))) :
    PSs (cxOf CX0 P w K mg base N_number_of "number_of" (defScope s_number_of) f cdv A outer s H E).nox (defBody s_number_of) (liftS K (t_number_of)) := by
  have hu := hr.units
  have hu5 := hu5_of hr
  exact dss_cons (ds_set (i := 1) sc_number_of.nd rfl (Or.inl rfl) (de_ifExp (dt_val (de_mtS PySem.F.slot_str_startswith PySem.F.type_str_startswith md_starts (dv 0) (da_cons (de_str) (da_nil)))) (de_slice (dv 0) (dp_some (de_int)) (dp_none)) (dv 0))) (dss_cons (ds_if ((dw_or (dt_not (dt_ch cd_le cd_le (de_int) (de_cb cl_len (by rfl) T.n_len PySem.boot_len (da_cons (dv 1) (da_nil))) (de_glob (by rfl) T.c_MOST_FIGURES))) (dw_or1 (dt_not (dt_val (de_cb (cl_all rfl) (by rfl) T.n_all PyProof.Rows.boot_all (da_cons (de_lc (own := [("sign", 2)]) (gd := gdName 2) rfl sc_number_of.nd (tg_name) (di_seq (dv 1)) (blkOk_by (N := N_number_of) (sc := defScope s_number_of) (by decide +kernel)) (fun _ _ _ _ _ => pg_name (i := 2) sc_number_of.nd rfl (Or.inl rfl)) (fun _ _ _ _ _ => dts_nil) (fun _ _ _ _ _ => de_cm (cd_in hu5) (dv 2) (de_glob (by rfl) T.c_FIGURES))) (da_nil))))))).pt) (dss_one (ds_ret (de_non))) (dss_nil)) (dss_cons (ds_if ((dw_and (dt_cm (cd_eq hu) (de_ix hu (dv 1) (de_int)) (de_str)) (dw_and1 (dt_cm (cd_ne hu) (dv 0) (de_str)))).pt) (dss_one (ds_ret (de_non))) (dss_nil)) (dss_one (ds_ret (de_ct cl_intS (by rfl) T.n_int PyProof.Rows.boot_int (da_cons (dv 0) (da_nil)))))))
theorem fn_number_of (T : Pk K mg) {k : Nat} {a : ASp} (len : ∀ ds C R, a ds C R → ds.length = 1) (rd : ∀ ds C R, a ds C R → t_number_of { nx := fun _ C' => R .non C', rt := R } (dstart N_number_of ds) C) : FnOk P w K mg base CX0 (k + 1) T.f_number_of T.fd_number_of ["word"] (liftF K a) :=
  fnD T.F_number_of sc_number_of len fun cdv A outer s H E hr => ⟨_, dv_number_of T hr, rd⟩
theorem dv_part_of (T : Pk K mg) {k : Nat} {a_number_of : ASp} {l_number_of : Nat} (G_number_of : FnOk P w K mg base CX0 l_number_of T.f_number_of T.fd_number_of ["word"] (liftF K a_number_of)) (h_number_of : l_number_of ≤ k) {a_is_blank : ASp} {l_is_blank : Nat} (G_is_blank : FnOk P w K mg base CX0 l_is_blank T.f_is_blank T.fd_is_blank ["part"] (liftF K a_is_blank)) (h_is_blank : l_is_blank ≤ k) {cdv : Value} {A : Around} {outer : List Env} {s : Shared} {H : Hp} {E : XK} {f : Addr} (hr : Room k (A.deeper (envOfC "part_of" (defScope s_part_of) s.heap.objs.size f cdv))) :
    PSs (cxOf CX0 P w K mg base N_part_of "part_of" (defScope s_part_of) f cdv A outer s H E).nox (defBody s_part_of) (liftS K (t_part_of a_number_of a_is_blank)) := by
  have hu := hr.units
  have hu5 := hu5_of hr
  exact dss_cons (ds_set (i := 1) sc_part_of.nd rfl (Or.inl rfl) (de_cf T.d_number_of G_number_of (hr.mono (by omega)) (by rfl) (da_cons (dv 0) (da_nil)))) (dss_cons (ds_if (dt_cm cd_isnot (dv 1) (de_non)) (dss_one (ds_ret (dv 1))) (dss_nil)) (dss_cons (ds_if ((dw_and (dt_cm cd_gt (de_cb cl_len (by rfl) T.n_len PySem.boot_len (da_cons (dv 0) (da_nil))) (de_int)) (dw_and (dt_val (de_cf T.d_is_blank G_is_blank (hr.mono (by omega)) (by rfl) (da_cons (de_ix hu (dv 0) (de_int)) (da_nil)))) (dw_and1 (dt_cm (cd_in hu5) (de_ix hu (dv 0) (de_int)) (de_tup (da_cons (de_str) (da_cons (de_str) (da_nil)))))))).pt) (dss_cons (ds_set (i := 2) sc_part_of.nd rfl (Or.inl rfl) (de_cf T.d_number_of G_number_of (hr.mono (by omega)) (by rfl) (da_cons (de_ifExp (dt_cm (cd_eq hu) (de_ix hu (dv 0) (de_int)) (de_str)) (de_slice (dv 0) (dp_some (de_int)) (dp_none)) (de_slice (dv 0) (dp_some (de_int)) (dp_none))) (da_nil)))) (dss_one (ds_if ((dw_and (dt_cm cd_isnot (dv 2) (de_non)) (dw_and1 (dt_cm (cd_eq hu) (de_cm (cd_eq hu) (de_ix hu (dv 0) (de_int)) (de_str)) (de_cm cd_ge (dv 2) (de_int))))).pt) (dss_one (ds_ret (de_tup (da_cons (de_ix hu (dv 0) (de_int)) (da_cons (dv 2) (da_nil)))))) (dss_nil)))) (dss_nil)) (dss_one (ds_ret (dv 0)))))
theorem fn_part_of (T : Pk K mg) {k : Nat} {a_number_of : ASp} {l_number_of : Nat} (G_number_of : FnOk P w K mg base CX0 l_number_of T.f_number_of T.fd_number_of ["word"] (liftF K a_number_of)) (h_number_of : l_number_of ≤ k) {a_is_blank : ASp} {l_is_blank : Nat} (G_is_blank : FnOk P w K mg base CX0 l_is_blank T.f_is_blank T.fd_is_blank ["part"] (liftF K a_is_blank)) (h_is_blank : l_is_blank ≤ k) {a : ASp} (len : ∀ ds C R, a ds C R → ds.length = 1) (rd : ∀ ds C R, a ds C R → t_part_of a_number_of a_is_blank { nx := fun _ C' => R .non C', rt := R } (dstart N_part_of ds) C) : FnOk P w K mg base CX0 (k + 1) T.f_part_of T.fd_part_of ["word"] (liftF K a) :=
  fnD T.F_part_of sc_part_of len fun cdv A outer s H E hr => ⟨_, dv_part_of T G_number_of h_number_of G_is_blank h_is_blank hr, rd⟩
theorem dv_Reader_take_within (T : Pk K mg) {k : Nat} {a_is_number : ASp} {l_is_number : Nat} (G_is_number : FnOk P w K mg base CX0 l_is_number T.f_is_number T.fd_is_number ["part", "low", "high"] (liftF K a_is_number)) (h_is_number : l_is_number ≤ k) {cdv : Value} {A : Around} {outer : List Env} {s : Shared} {H : Hp} {E : XK} {f : Addr} (hr : Room k (A.deeper (envOfC "Reader.take_within" (defScope s_Reader_take_within) s.heap.objs.size f cdv))) :
    PSs (cxOf CX0 P w K mg base N_Reader_take_within "Reader.take_within" (defScope s_Reader_take_within) f cdv A outer s H E).nox (defBody s_Reader_take_within) (liftS K (t_Reader_take_within T.C_Reader a_is_number)) := by
  have hu := hr.units
  have hu5 := hu5_of hr
  exact dss_cons (ds_asg (de_ix hu (de_fld T.cls_Reader T.na_Reader_rules (dv 0)) (de_neg (de_int))) (dg_unl rfl (dgs_cons (dg_name (i := 3) sc_Reader_take_within.nd rfl (Or.inl rfl)) (dgs_cons (dg_name (i := 4) sc_Reader_take_within.nd rfl (Or.inl rfl)) (dgs_cons (dg_name (i := 5) sc_Reader_take_within.nd rfl (Or.inl rfl)) (dgs_cons (dg_name (i := 6) sc_Reader_take_within.nd rfl (Or.inl rfl)) (dgs_nil))))))) (dss_cons (ds_if ((dw_or (dt_cm (cd_in hu5) (dv 1) (de_tup (da_cons (de_glob (by rfl) T.c_IS) (da_cons (de_glob (by rfl) T.c_NOT) (da_nil))))) (dw_or1 (dt_cm (cd_in hu5) (dv 1) (de_glob (by rfl) T.c_TESTS)))).pt) (dss_cons (ds_if ((dw_or (dt_cm (cd_ne hu) (dv 6) (de_lst (da_nil))) (dw_or1 ((dw_and (dt_cm (cd_in hu5) (dv 1) (de_glob (by rfl) T.c_TESTS)) (dw_and1 (dt_cm (cd_ne hu) (de_cb cl_len (by rfl) T.n_len PySem.boot_len (da_cons (dv 2) (da_nil))) (de_int)))).pt))).pt) (dss_one (ds_ret (de_bl))) (dss_nil)) (dss_cons (ds_expr (de_append (dv 5) (da_cons (de_ifExp (dt_cm (cd_in hu5) (dv 1) (de_tup (da_cons (de_glob (by rfl) T.c_IS) (da_cons (de_glob (by rfl) T.c_NOT) (da_nil))))) (de_tup (da_cons (dv 1) (da_cons (dv 2) (da_nil)))) (de_add (de_tup (da_cons (dv 1) (da_nil))) (dv 2))) (da_nil)))) (dss_one (ds_ret (de_bl))))) (dss_nil)) (dss_cons (ds_if (dt_cm (cd_eq hu) (dv 1) (de_glob (by rfl) T.c_TAKE)) (dss_cons (ds_if ((dw_or (dt_cm (cd_ne hu) (de_cb cl_len (by rfl) T.n_len PySem.boot_len (da_cons (dv 2) (da_nil))) (de_int)) (dw_or1 (dt_not (dt_val (de_cf T.d_is_number G_is_number (hr.mono (by omega)) (by rfl) (da_cons (de_ix hu (dv 2) (de_int)) (da_cons (de_int) (da_cons (de_int) (da_nil))))))))).pt) (dss_one (ds_ret (de_bl))) (dss_nil)) (dss_cons (ds_expr (de_append (dv 6) (da_cons (de_tup (da_cons (de_glob (by rfl) T.c_TAKE) (da_cons (de_ix hu (dv 2) (de_int)) (da_nil)))) (da_nil)))) (dss_one (ds_ret (de_bl))))) (dss_nil)) (dss_cons (ds_if (dt_cm (cd_in hu5) (dv 1) (de_glob (by rfl) T.c_TELLERS)) (dss_cons (ds_expr (de_append (dv 6) (da_cons (de_tup (da_cons (dv 1) (da_cons (dv 2) (da_nil)))) (da_nil)))) (dss_one (ds_ret (de_bl)))) (dss_nil)) (dss_one (ds_ret (de_bl))))))
theorem fn_Reader_take_within (T : Pk K mg) {k : Nat} {a_is_number : ASp} {l_is_number : Nat} (G_is_number : FnOk P w K mg base CX0 l_is_number T.f_is_number T.fd_is_number ["part", "low", "high"] (liftF K a_is_number)) (h_is_number : l_is_number ≤ k) {a : ASp} (len : ∀ ds C R, a ds C R → ds.length = 3) (rd : ∀ ds C R, a ds C R → t_Reader_take_within T.C_Reader a_is_number { nx := fun _ C' => lss R .non C', rt := lss R } (dstart N_Reader_take_within ds) C) : FnOk P w K mg base CX0 (k + 1) T.f_Reader_take_within T.fd_Reader_take_within ["self", "head", "parts"] (liftF K a) :=
  fnDL T.F_Reader_take_within sc_Reader_take_within len fun cdv A outer s H E hr => ⟨_, dv_Reader_take_within T G_is_number h_is_number hr, rd⟩
theorem dv_Reader_take (T : Pk K mg) {k : Nat} {a_part_of : ASp} {l_part_of : Nat} (G_part_of : FnOk P w K mg base CX0 l_part_of T.f_part_of T.fd_part_of ["word"] (liftF K a_part_of)) (h_part_of : l_part_of ≤ k) {a_is_number : ASp} {l_is_number : Nat} (G_is_number : FnOk P w K mg base CX0 l_is_number T.f_is_number T.fd_is_number ["part", "low", "high"] (liftF K a_is_number)) (h_is_number : l_is_number ≤ k) {a_Reader_take_within : ASp} {l_Reader_take_within : Nat} (G_Reader_take_within : FnOk P w K mg base CX0 l_Reader_take_within T.f_Reader_take_within T.fd_Reader_take_within ["self", "head", "parts"] (liftF K a_Reader_take_within)) (h_Reader_take_within : l_Reader_take_within ≤ k) {cdv : Value} {A : Around} {outer : List Env} {s : Shared} {H : Hp} {E : XK} {f : Addr} (hr : Room k (A.deeper (envOfC "Reader.take" (defScope s_Reader_take) s.heap.objs.size f cdv))) :
    PSs (cxOf CX0 P w K mg base N_Reader_take "Reader.take" (defScope s_Reader_take) f cdv A outer s H E).nox (defBody s_Reader_take) (liftS K (t_Reader_take T.C_Reader a_part_of a_is_number a_Reader_take_within)) := by
  have hu := hr.units
  have hu5 := hu5_of hr
  exact dss_cons (ds_asg (dv 1) (dg_star rfl (dgs_cons (dg_name (i := 2) sc_Reader_take.nd rfl (Or.inl rfl)) (dgs_star (dg_name (i := 3) sc_Reader_take.nd rfl (Or.inl rfl)) (dgs_nil))) (by decide))) (dss_cons (ds_if ((dw_or (dt_cm (cd_in hu5) (de_str) (dv 3)) (dw_or1 (dt_cm (cd_eq hu) (dv 3) (de_lstC (da_nil))))).pt) (dss_one (ds_ret (de_bl))) (dss_nil)) (dss_cons (ds_set (i := 4) sc_Reader_take.nd rfl (Or.inl rfl) (de_ct cl_tuple (by rfl) T.n_tuple PyProof.Rows.boot_tuple (da_cons (de_lc (own := [("word", 5)]) (gd := gdName 5) rfl sc_Reader_take.nd (tg_name) (di_seq (dv 3)) (blkOk_by (N := N_Reader_take) (sc := defScope s_Reader_take) (by decide +kernel)) (fun _ _ _ _ _ => pg_name (i := 5) sc_Reader_take.nd rfl (Or.inl rfl)) (fun _ _ _ _ _ => dts_nil) (fun _ _ _ _ _ => de_cf T.d_part_of G_part_of (hr.mono (by omega)) (by rfl) (da_cons (dv 5) (da_nil)))) (da_nil)))) (dss_cons (ds_if (dt_cm (cd_eq hu) (dv 2) (de_glob (by rfl) T.c_THING)) (dss_cons (ds_expr (de_append (de_fld T.cls_Reader T.na_Reader_some (dv 0)) (da_cons (dv 4) (da_nil)))) (dss_one (ds_ret (de_bl)))) (dss_nil)) (dss_cons (ds_if (dt_cm (cd_ne hu) (de_fld T.cls_Reader T.na_Reader_some (dv 0)) (de_lstC (da_nil))) (dss_one (ds_ret (de_bl))) (dss_nil)) (dss_cons (ds_if (dt_cm (cd_eq hu) (dv 2) (de_glob (by rfl) T.c_RULE)) (dss_cons (ds_if ((dw_or (dt_cm (cd_ne hu) (de_cb cl_len (by rfl) T.n_len PySem.boot_len (da_cons (dv 3) (da_nil))) (de_int)) (dw_or1 (dt_not (dt_val (de_cf T.d_is_number G_is_number (hr.mono (by omega)) (by rfl) (da_cons (de_ix hu (dv 4) (de_int)) (da_cons (de_neg (de_int)) (da_cons (de_int) (da_nil))))))))).pt) (dss_one (ds_ret (de_bl))) (dss_nil)) (dss_cons (ds_expr (de_append (de_fld T.cls_Reader T.na_Reader_rules (dv 0)) (da_cons (de_lst (da_cons (de_ix hu (dv 3) (de_int)) (da_cons (de_ix hu (dv 4) (de_int)) (da_cons (de_lstC (da_nil)) (da_cons (de_lstC (da_nil)) (da_nil)))))) (da_nil)))) (dss_one (ds_ret (de_bl))))) (dss_nil)) (dss_one (ds_ret (de_and (de_cm (cd_ne hu) (de_fld T.cls_Reader T.na_Reader_rules (dv 0)) (de_lstC (da_nil))) (de_one (de_meth (dv 0) T.cls_Reader T.m_Reader_take_within G_Reader_take_within (hr.mono (by omega)) T.b_Reader_take_within (da_cons (dv 2) (da_cons (dv 4) (da_nil)))))))))))))
theorem fn_Reader_take (T : Pk K mg) {k : Nat} {a_part_of : ASp} {l_part_of : Nat} (G_part_of : FnOk P w K mg base CX0 l_part_of T.f_part_of T.fd_part_of ["word"] (liftF K a_part_of)) (h_part_of : l_part_of ≤ k) {a_is_number : ASp} {l_is_number : Nat} (G_is_number : FnOk P w K mg base CX0 l_is_number T.f_is_number T.fd_is_number ["part", "low", "high"] (liftF K a_is_number)) (h_is_number : l_is_number ≤ k) {a_Reader_take_within : ASp} {l_Reader_take_within : Nat} (G_Reader_take_within : FnOk P w K mg base CX0 l_Reader_take_within T.f_Reader_take_within T.fd_Reader_take_within ["self", "head", "parts"] (liftF K a_Reader_take_within)) (h_Reader_take_within : l_Reader_take_within ≤ k) {a : ASp} (len : ∀ ds C R, a ds C R → ds.length = 2) (rd : ∀ ds C R, a ds C R → t_Reader_take T.C_Reader a_part_of a_is_number a_Reader_take_within { nx := fun _ C' => lss R .non C', rt := lss R } (dstart N_Reader_take ds) C) : FnOk P w K mg base CX0 (k + 1) T.f_Reader_take T.fd_Reader_take ["self", "words"] (liftF K a) :=
  fnDL T.F_Reader_take sc_Reader_take len fun cdv A outer s H E hr => ⟨_, dv_Reader_take T G_part_of h_part_of G_is_number h_is_number G_Reader_take_within h_Reader_take_within hr, rd⟩
theorem dv_law (T : Pk K mg) {k : Nat} (TB : LamX.TabB base mg T.c_law T.P_law) {aW : AL → Cells → (D → Cells → Prop) → Prop} (GW : ∀ (X : Cx) (k : Nat) (cdv : Value), X.K = K → X.mg = mg → GivesL X k N__law_word "_law_word" (defScope s__law_word) T.f__law_word cdv (defBody s__law_word) "_law_work" "law.<locals>.<lambda>" aW) {a_read : ASpX} {l_read : Nat} (G_read : FnOk P w K mg base (L2.CX P w) l_read T.f_read T.fd_read ["text"] (liftFX K a_read)) (h_read : l_read + 2 ≤ k) {a__law_row : ASp} {l__law_row : Nat} (G__law_row : FnOk P w K mg base CX0 l__law_row T.f__law_row T.fd__law_row ["_law_script"] (liftF K a__law_row)) (h__law_row : l__law_row + 2 ≤ k) {a__law_rules : ASp} {l__law_rules : Nat} (G__law_rules : FnOk P w K mg base CX0 l__law_rules T.f__law_rules T.fd__law_rules ["_law_row_here", "_law_wished"] (liftF K a__law_rules)) (h__law_rules : l__law_rules + 2 ≤ k) {a__law_taken : ASp} {l__law_taken : Nat} (G__law_taken : FnOk P w K mg base CX0 l__law_taken T.f__law_taken T.fd__law_taken ["_law_row_here", "_law_many"] (liftF K a__law_taken)) (h__law_taken : l__law_taken + 2 ≤ k) {a__law_thing : ASp} {l__law_thing : Nat} (G__law_thing : FnOk P w K mg base CX0 l__law_thing T.f__law_thing T.fd__law_thing ["_law_row_here"] (liftF K a__law_thing)) (h__law_thing : l__law_thing + 2 ≤ k) {a_written : ASp} {l_written : Nat} (G_written : FnOk P w K mg base CX0 l_written T.f_written T.fd_written ["rules", "things"] (liftF K a_written)) (h_written : l_written + 2 ≤ k) {a__law_spoilt : ASp} {l__law_spoilt : Nat} (G__law_spoilt : FnOk P w K mg base CX0 l__law_spoilt T.f__law_spoilt T.fd__law_spoilt ["_law_row_here", "_law_rows"] (liftF K a__law_spoilt)) (h__law_spoilt : l__law_spoilt + 2 ≤ k) {a__law_read : ASp} {l__law_read : Nat} (G__law_read : FnOk P w K mg base CX0 l__law_read T.f__law_read T.fd__law_read ["_law_text"] (liftF K a__law_read)) (h__law_read : l__law_read + 2 ≤ k) {a__law_alike : ASp} {l__law_alike : Nat} (G__law_alike : FnOk P w K mg base CX0 l__law_alike T.f__law_alike T.fd__law_alike ["_law_found", "_law_due"] (liftF K a__law_alike)) (h__law_alike : l__law_alike + 2 ≤ k) {cdv : Value} (hcd : cdv = .ref T.c_law) {A : Around} {outer : List Env} {s : Shared} {H : Hp} {E : XK} {f : Addr} (hr : Room k (A.deeper (envOfC "law" (defScope s_law) s.heap.objs.size f cdv))) :
    PSs (cxOf CX0 P w K mg base N_law "law" (defScope s_law) f cdv A outer s H E).nox (defBody s_law) (liftS K (t_law T.P_law aW a_read a__law_row a__law_rules a__law_taken a__law_thing a_written a__law_spoilt a__law_read a__law_alike)) := by
  have hu := hr.units
  have hu5 := hu5_of hr
  exact dss_cons (ds_set (i := 1) sc_law.nd rfl (Or.inr rfl) (de_cf T.d__law_row G__law_row (hr.mono (by omega)) (by rfl) (da_cons (dv 0) (da_nil)))) (dss_cons (ds_for PassesOwn.never rfl (di_range1 (by rfl) T.n_range (da_cons (de_int) (da_nil))) (dg_name (i := 2) sc_law.nd rfl (Or.inl rfl)) (dss_cons (ds_par (i := 3) (j := 4) rfl sc_law.nd rfl rfl (by decide) rfl rfl (da_cons (de_cf T.d__law_rules G__law_rules (hr.mono (by omega)) (by rfl) (da_cons (dv 1) (da_cons (de_int) (da_nil)))) (da_cons (de_lc (own := [("_law_k", 8)]) (gd := gdName 8) rfl sc_law.nd (tg_name) (di_range1 (by rfl) T.n_range (da_cons (de_cf T.d__law_taken G__law_taken (hr.mono (by omega)) (by rfl) (da_cons (dv 1) (da_cons (de_int) (da_nil)))) (da_nil))) (blkOk_by (N := N_law) (sc := defScope s_law) (by decide +kernel)) (fun _ _ _ _ _ => pg_name (i := 8) sc_law.nd rfl (Or.inl rfl)) (fun _ _ _ _ _ => dts_nil) (fun _ _ _ _ _ => de_cf T.d__law_thing G__law_thing (hr.mono (by omega)) (by rfl) (da_cons (dv 1) (da_nil)))) (da_nil))) rfl) (dss_cons (ds_set (i := 5) sc_law.nd rfl (Or.inr rfl) (de_cf T.d__law_spoilt G__law_spoilt (hr.mono (by omega)) (by rfl) (da_cons (dv 1) (da_cons (de_lc (own := [("_law_line", 9)]) (gd := gdName 9) rfl sc_law.nd (tg_name) (di_seq (de_mtS PySem.F.slot_str_split PySem.F.type_str_split md_split (de_cf T.d_written G_written (hr.mono (by omega)) (by rfl) (da_cons (dv 3) (da_cons (dv 4) (da_nil)))) (da_cons (de_str) (da_nil)))) (blkOk_by (N := N_law) (sc := defScope s_law) (by decide +kernel)) (fun _ _ _ _ _ => pg_name (i := 9) sc_law.nd rfl (Or.inl rfl)) (fun _ _ _ _ _ => dts_nil) (fun _ _ _ _ _ => de_mtS PySem.F.slot_str_split PySem.F.type_str_split md_split (dv 9) (da_cons (de_str) (da_nil)))) (da_nil))))) (dss_cons (ds_set (i := 6) sc_law.nd rfl (Or.inl rfl) (de_cf T.d__law_read G__law_read (hr.mono (by omega)) (by rfl) (da_cons (dv 5) (da_nil)))) (dss_cons (ds_set (i := 7) sc_law.nd rfl (Or.inl rfl) (de_lamcallW (Ng := N__law_word) (k := k - 2) (by rfl) T.F__law_word T.d__law_word sc__law_word rfl (by first | exact .inl rfl | exact .inr (.inl rfl) | exact .inr (.inr rfl)) (fun cdv => GW _ _ cdv rfl rfl) TB hcd rfl (hr.mono (by omega)) (by show LamX.lamSB (defScope s_law) _ = true; decide +kernel) rfl (fun _ _ _ _ _ => rfl) (fun _ _ _ _ _ _ _ _ _ _ hr2 tk => de_cfX T.d_read G_read (hr2.mono (by omega)) (by rfl) tk (da_cons (dv 5) (da_nil))))) (dss_one (ds_if (dt_cm (cd_eq hu) (de_ix hu (dv 6) (de_int)) (de_str)) (dss_one (ds_if (dt_not (dt_val (de_cf T.d__law_alike G__law_alike (hr.mono (by omega)) (by rfl) (da_cons (dv 7) (da_cons (dv 6) (da_nil)))))) (dss_one (ds_ret (de_bl))) (dss_nil))) (dss_one (ds_if ((dw_or (dt_cm (cd_notin hu5) (de_ix hu (dv 7) (de_int)) (de_tup (da_cons (de_str) (da_cons (de_str) (da_cons (de_str) (da_nil)))))) (dw_or1 ((dw_and (dt_cm (cd_eq hu) (de_ix hu (dv 7) (de_int)) (de_str)) (dw_and1 (dt_not (dt_val (de_cf T.d__law_alike G__law_alike (hr.mono (by omega)) (by rfl) (da_cons (de_ix hu (dv 7) (de_int)) (da_cons (de_ix hu (dv 6) (de_int)) (da_nil)))))))).pt))).pt) (dss_one (ds_ret (de_bl))) (dss_nil)))))))))) (dss_one (ds_ret (de_bl))))
theorem fn_law (T : Pk K mg) {k : Nat} (TB : LamX.TabB base mg T.c_law T.P_law) {aW : AL → Cells → (D → Cells → Prop) → Prop} (GW : ∀ (X : Cx) (k : Nat) (cdv : Value), X.K = K → X.mg = mg → GivesL X k N__law_word "_law_word" (defScope s__law_word) T.f__law_word cdv (defBody s__law_word) "_law_work" "law.<locals>.<lambda>" aW) {a_read : ASpX} {l_read : Nat} (G_read : FnOk P w K mg base (L2.CX P w) l_read T.f_read T.fd_read ["text"] (liftFX K a_read)) (h_read : l_read + 2 ≤ k) {a__law_row : ASp} {l__law_row : Nat} (G__law_row : FnOk P w K mg base CX0 l__law_row T.f__law_row T.fd__law_row ["_law_script"] (liftF K a__law_row)) (h__law_row : l__law_row + 2 ≤ k) {a__law_rules : ASp} {l__law_rules : Nat} (G__law_rules : FnOk P w K mg base CX0 l__law_rules T.f__law_rules T.fd__law_rules ["_law_row_here", "_law_wished"] (liftF K a__law_rules)) (h__law_rules : l__law_rules + 2 ≤ k) {a__law_taken : ASp} {l__law_taken : Nat} (G__law_taken : FnOk P w K mg base CX0 l__law_taken T.f__law_taken T.fd__law_taken ["_law_row_here", "_law_many"] (liftF K a__law_taken)) (h__law_taken : l__law_taken + 2 ≤ k) {a__law_thing : ASp} {l__law_thing : Nat} (G__law_thing : FnOk P w K mg base CX0 l__law_thing T.f__law_thing T.fd__law_thing ["_law_row_here"] (liftF K a__law_thing)) (h__law_thing : l__law_thing + 2 ≤ k) {a_written : ASp} {l_written : Nat} (G_written : FnOk P w K mg base CX0 l_written T.f_written T.fd_written ["rules", "things"] (liftF K a_written)) (h_written : l_written + 2 ≤ k) {a__law_spoilt : ASp} {l__law_spoilt : Nat} (G__law_spoilt : FnOk P w K mg base CX0 l__law_spoilt T.f__law_spoilt T.fd__law_spoilt ["_law_row_here", "_law_rows"] (liftF K a__law_spoilt)) (h__law_spoilt : l__law_spoilt + 2 ≤ k) {a__law_read : ASp} {l__law_read : Nat} (G__law_read : FnOk P w K mg base CX0 l__law_read T.f__law_read T.fd__law_read ["_law_text"] (liftF K a__law_read)) (h__law_read : l__law_read + 2 ≤ k) {a__law_alike : ASp} {l__law_alike : Nat} (G__law_alike : FnOk P w K mg base CX0 l__law_alike T.f__law_alike T.fd__law_alike ["_law_found", "_law_due"] (liftF K a__law_alike)) (h__law_alike : l__law_alike + 2 ≤ k) {a : ASp} (len : ∀ ds C R, a ds C R → ds.length = 1) (rd : ∀ ds C R, a ds C R → t_law T.P_law aW a_read a__law_row a__law_rules a__law_taken a__law_thing a_written a__law_spoilt a__law_read a__law_alike { nx := fun _ C' => lss R .non C', rt := lss R } (dstart N_law ds) C) : FnOk P w K mg base CX0 (k + 1) T.f_law T.fd_law ["_law_script"] (liftF K a) :=
  fnDLc T.FC_law sc_law len fun A outer s H E hr => ⟨_, dv_law T TB GW G_read h_read G__law_row h__law_row G__law_rules h__law_rules G__law_taken h__law_taken G__law_thing h__law_thing G_written h_written G__law_spoilt h__law_spoilt G__law_read h__law_read G__law_alike h__law_alike rfl hr, rd⟩
end
end RR
namespace RR
open PySem PySem.Spec L2 DL
open PyProof.Rows hiding St
theorem small_log {i : Int} {z : Str} (h : i.natAbs.log2 < 64) (hz : z.length ≤ 1000) : (Str.empty ++ z).length ≤ sizeLine ∧ (Str.empty ++ z ++ (Str.ofString (toString i))).length ≤ sizeLine := by
  have h1 := int_text_length_le (k := 64) (by decide) h
  have hsl := sizeLine_eq
  have h0 : Str.empty.length = 0 := rfl
  rw [PySem.Str.length_append, PySem.Str.length_append, PySem.Str.length_append, h0, PySem.ofString_length]
  omega
theorem fn_BadText___init__ {P : Program} {w : World} {K : PySem.W.Frag} {mg : Str → Option Value} {base : Heap} {f B C : Addr} {fd : FuncData} {k : Nat} {mc : Value} (F : Fun K "__init__" "BadText.__init__" s_BadText___init__ f fd)
    (hm : mg "RoomError" = some (.ref B)) (r : ClX.CRead K B mc) (vV : PySem.W.findCls K (.ref B) mc "__init__" = some (.val (.builtin "ValueError.__init__"))) :
    FnOk P w K mg base CX0 (k + 1) f fd ["self", "row"] (spI1 K C "row") := by
  refine F.ok sc_BadText___init__ (fun vs H Q E ⟨a, i, e, _⟩ => by rw [e]; rfl) fun cdv A outer s H vs Q E hr h => ?_
  obtain ⟨a, i, rfl, hi, T, hno, ha, hq⟩ := h
  refine ⟨_, pss_cons (ps_expr (pe_rinit (x := "RoomError") (B := B) (by rfl) hm r vV (pa_cons (pe_var (i := 0) rfl (.inl rfl)) (pa_cons (pe_joined (.cons pe_str (.cons (pe_fmt (pe_var (i := 1) rfl (.inl rfl))) .nil))) pa_nil)))) (pss_one (ps_ost (pe_var (i := 0) rfl (.inl rfl)) (pe_var (i := 1) rfl (.inl rfl)))), ?_⟩
  obtain ⟨z1, z2⟩ := small_log (z := "row ") hi (by decide)
  exact ⟨.ref a, rfl, _, rfl, z1, .int i, rfl, .inr ⟨i, rfl, by omega, _, rfl, z2, a, C, _, rfl, by simp, T, ha, .int i, rfl, .ref a, rfl, a, C, rfl, T, hno, .inl ⟨ha, hq⟩⟩⟩
theorem fn_BadThing___init__ {P : Program} {w : World} {K : PySem.W.Frag} {mg : Str → Option Value} {base : Heap} {f B C : Addr} {fd : FuncData} {k : Nat} {mc : Value} (F : Fun K "__init__" "BadThing.__init__" s_BadThing___init__ f fd)
    (hm : mg "RoomError" = some (.ref B)) (r : ClX.CRead K B mc) (vV : PySem.W.findCls K (.ref B) mc "__init__" = some (.val (.builtin "ValueError.__init__"))) :
    FnOk P w K mg base CX0 (k + 1) f fd ["self", "number"] (spI1 K C "number") := by
  refine F.ok sc_BadThing___init__ (fun vs H Q E ⟨a, i, e, _⟩ => by rw [e]; rfl) fun cdv A outer s H vs Q E hr h => ?_
  obtain ⟨a, i, rfl, hi, T, hno, ha, hq⟩ := h
  refine ⟨_, pss_cons (ps_expr (pe_rinit (x := "RoomError") (B := B) (by rfl) hm r vV (pa_cons (pe_var (i := 0) rfl (.inl rfl)) (pa_cons (pe_joined (.cons pe_str (.cons (pe_fmt (pe_var (i := 1) rfl (.inl rfl))) .nil))) pa_nil)))) (pss_one (ps_ost (pe_var (i := 0) rfl (.inl rfl)) (pe_var (i := 1) rfl (.inl rfl)))), ?_⟩
  obtain ⟨z1, z2⟩ := small_log (z := "thing ") hi (by decide)
  exact ⟨.ref a, rfl, _, rfl, z1, .int i, rfl, .inr ⟨i, rfl, by omega, _, rfl, z2, a, C, _, rfl, by simp, T, ha, .int i, rfl, .ref a, rfl, a, C, rfl, T, hno, .inl ⟨ha, hq⟩⟩⟩
theorem fn_BadRules___init__ {P : Program} {w : World} {K : PySem.W.Frag} {mg : Str → Option Value} {base : Heap} {f B C : Addr} {fd : FuncData} {k : Nat} {mc : Value} (F : Fun K "__init__" "BadRules.__init__" s_BadRules___init__ f fd)
    (hm : mg "RoomError" = some (.ref B)) (r : ClX.CRead K B mc) (vV : PySem.W.findCls K (.ref B) mc "__init__" = some (.val (.builtin "ValueError.__init__"))) :
    FnOk P w K mg base CX0 (k + 1) f fd ["self", "number", "part"] (spI2 K C "number" "part") := by
  refine F.ok sc_BadRules___init__ (fun vs H Q E ⟨a, i, j, e, _⟩ => by rw [e]; rfl) fun cdv A outer s H vs Q E hr h => ?_
  obtain ⟨a, i, j, rfl, hi, T, hno, hno2, hne, ha, hq⟩ := h
  refine ⟨_, pss_cons (ps_expr (pe_rinit (x := "RoomError") (B := B) (by rfl) hm r vV (pa_cons (pe_var (i := 0) rfl (.inl rfl)) (pa_cons (pe_joined (.cons pe_str (.cons (pe_fmt (pe_var (i := 1) rfl (.inl rfl))) .nil))) pa_nil)))) (pss_cons (ps_ost (pe_var (i := 0) rfl (.inl rfl)) (pe_var (i := 1) rfl (.inl rfl))) (pss_one (ps_ost (pe_var (i := 0) rfl (.inl rfl)) (pe_var (i := 2) rfl (.inl rfl))))), ?_⟩
  obtain ⟨z1, z2⟩ := small_log (z := "rule ") hi (by decide)
  refine ⟨.ref a, rfl, _, rfl, z1, .int i, rfl, .inr ⟨i, rfl, by omega, _, rfl, z2, a, C, _, rfl, by simp, T, ha, .int i, rfl, .ref a, rfl, a, C, rfl, T, hno, .inl ⟨ha, fun dx hdx hnx => ?_⟩⟩⟩
  refine ⟨.int j, rfl, .ref a, rfl, a, C, rfl, T, hno2, .inr ⟨dx, _, upd_same, by rw [upd_ne hnx, upd_same], by simp, hq dx _ hdx hnx fun b => ?_⟩⟩
  by_cases hb : b = dx
  · rw [hb, upd_same, if_pos rfl]
  · rw [upd_ne hb, if_neg hb]
    by_cases hba : b = a
    · rw [hba, upd_same, if_pos rfl]
    · rw [upd_ne hba, upd_ne hb, if_neg hba]
/-- what is told of the classes of exceptions -/
structure XCls (K : PySem.W.Frag) (mg : Str → Option Value) (C : Str → Addr) : Prop where
  mg : ∀ x ∈ (["BadThing", "BadRules", "BadCount", "NotThere", "NoRule", "BadDeed", "Halted", "BadText", "RoomError"] : List Str), mg x = some (.ref (C x))
  ex : ∀ x ∈ (["BadThing", "BadRules", "BadText"] : List Str), ExcC K (C x) ∧ XfC K (C x) ∧ PySem.W.exmOne K (.ref (C x)) (.ref (C "RoomError")) = some true ∧ ∀ f ∈ (["number", "part", "done", "row"] : List Str), PySem.W.findIn K (.ref (C x)) f = some none
theorem gl_cls {K : PySem.W.Frag} {mg : Str → Option Value} {C : Str → Addr} (T : XCls K mg C) {x : Str} (hx : x ∈ (["BadThing", "BadRules", "BadCount", "NotThere", "NoRule", "BadDeed", "Halted", "BadText", "RoomError"] : List Str)) : GlD K mg x (.ref (C x)) := ⟨.ref (C x), .ref (C x), T.mg x hx, rfl, fun _ => .ref _⟩
theorem dv_word {X : Cx} {k : Nat} {g : Addr} {cdg : Value} {q : Str} {C : Str → Addr} (T : XCls X.K X.mg C) (hisi : X.mg "isinstance" = none) (hval : X.mg "ValueError" = none) :
    GivesL X k N__law_word "_law_word" (defScope s__law_word) g cdg (defBody s__law_word) "_law_work" q fun al Cs R => ∀ f, t_word X.K C f al { nx := fun _ C' => R .non C', rt := R } (dstart N__law_word [.ref f]) Cs := by
  refine gives_of fun f c' s H al F G hr act hc => ?_
  have hu := hr.units
  refine dss_cons0 (ds_0 (ds_set (i := 1) sc__law_word.nd rfl (Or.inl rfl) (de_lstC da_nil))) (dss_cons0 (ds_try0 (x := "RoomError") (n := "e") (c := .ref (C "RoomError")) rfl rfl sc__law_word.nd rfl rfl ⟨rfl, by decide, .inl (T.mg _ (by simp))⟩ (fun xd h => ?_) (fun pn xe G1 W sm tk po => ?_) (fun a oe cls d pn xd G1 ho hz hd hx => ?_)) (dss_one0 (ds_0 (ds_ret (de_tup (da_cons de_str (da_cons (de_ix hu (dv 1) de_int) da_nil)))))))
  · obtain ⟨x, hx, e⟩ := h
    rw [e]
    exact (T.ex x hx).2.2.1
  · refine dss_one0 (ds_expr0 (de_mtL0 PySem.F.slot_list_append PySem.F.type_list_append md_append (de_0 (dv 1)) (da_cons0 (de_act (X := (cxOf CX0 X.prog X.w X.K X.mg X.base N__law_word "_law_word" (defScope s__law_word) g cdg X.A X.stack s H noE).nox) act sm hc tk) (da_0 da_nil))))
  · obtain ⟨x, hx', e⟩ := ho
    have T1 := T.ex x hx'
    rw [← e] at T1
    obtain ⟨te, tx, _, tf⟩ := T1
    have hu5 := hu5_of hr
    have ix : ∀ {y : Str} {p1 p2 p3 pos : Pos}, y ∈ (["BadThing", "BadRules", "BadCount", "NotThere", "NoRule", "BadDeed", "Halted", "BadText", "RoomError"] : List Str) → (hg : Gl (((cxOf CX0 X.prog X.w X.K X.mg X.base N__law_word "_law_word" (defScope s__law_word) g cdg X.A X.stack s H noE).nox).suite a ((a, oe) :: pn)) y) → (y == ("__debug__" : Str)) = false →
        PE (((cxOf CX0 X.prog X.w X.K X.mg X.base N__law_word "_law_word" (defScope s__law_word) g cdg X.A X.stack s H noE).nox).suite a ((a, oe) :: pn)) (.Call (.Name "isinstance" p1) [.Name "e" p2, .Name y p3] [] pos) (liftE0 X.K F G1 (dIsX X.K xd a (aE (.ref (C y))))) := fun hy hg hdb => de_isX te hz hd hx (by rfl) hisi (da_cons (dv 2) (da_cons (de_glob hg (gl_cls T hy) hdb) da_nil)) (he := by rfl) (hpl := by rfl)
    have iv : ∀ {p1 p2 p3 pos : Pos}, PE (((cxOf CX0 X.prog X.w X.K X.mg X.base N__law_word "_law_word" (defScope s__law_word) g cdg X.A X.stack s H noE).nox).suite a ((a, oe) :: pn)) (.Call (.Name "isinstance" p1) [.Name "e" p2, .Name "ValueError" p3] [] pos) (liftE0 X.K F G1 (dIsX X.K xd a (aE (.ty "ValueError")))) := de_isX te hz hd hx (by rfl) hisi (da_cons (dv 2) (da_cons (de_bltn (by rfl) hval PyProof.Rows.Boot.«ValueError») da_nil)) (he := by rfl) (hpl := by rfl)
    have xf : ∀ {y : Str} {p1 pos : Pos}, y ∈ (["number", "part", "done", "row"] : List Str) → PE (((cxOf CX0 X.prog X.w X.K X.mg X.base N__law_word "_law_word" (defScope s__law_word) g cdg X.A X.stack s H noE).nox).suite a ((a, oe) :: pn)) (.Attribute (.Name "e" p1) y pos) (liftE0 X.K F G1 (dXf 2 a xd y)) := fun hy => de_xf tx (tf _ hy) hz hd hx (dv 2) (hb := by rfl)
    exact dss_cons0 (ds_set0 (i := 3) sc__law_word.nd rfl (Or.inl rfl) (de_lst0 (da_cons0 (ix (by simp) (by rfl) (by decide)) (da_cons0 (ix (by simp) (by rfl) (by decide)) (da_cons0 (ix (by simp) (by rfl) (by decide)) (da_cons0 (ix (by simp) (by rfl) (by decide)) (da_0 da_nil))))))) (dss_cons0 (ds_set0 (i := 3) sc__law_word.nd rfl (Or.inl rfl) (de_op0 (op_add.or (op_add_str.or (op_catA.or op_catF))) lo_add (de_0 (dv 3)) (de_lst0 (da_cons0 (ix (by simp) (by rfl) (by decide)) (da_cons0 (ix (by simp) (by rfl) (by decide)) (da_cons0 (ix (by simp) (by rfl) (by decide)) (da_cons0 (ix (by simp) (by rfl) (by decide)) (da_0 da_nil)))))))) (dss_cons0 (ds_0 (ds_set (i := 4) sc__law_word.nd rfl (Or.inl rfl) (de_lst (da_cons de_str (da_cons de_str (da_cons de_str (da_cons de_str (da_cons de_str (da_cons de_str (da_cons de_str (da_cons de_str da_nil))))))))))) (dss_cons0 (ds_if0 ((dw_or0 (dt_0 (dt_cm (cd_ne hu) (de_countB (dv 3) (da_cons de_bl da_nil)) de_int)) (dw_or10 (dt_not0 (dt_val0 iv)))).pt) (dss_one0 (ds_0 (ds_ret (de_tup (da_cons de_str (da_cons de_non da_nil)))))) dss_nil0) (dss_cons0 (ds_0 (ds_set (i := 5) sc__law_word.nd rfl (Or.inl rfl) (de_ix hu (dv 4) (de_index hu5 (dv 3) (da_cons de_bl da_nil))))) (dss_cons0 (ds_if0 (dt_0 (dt_cm (cd_eq hu) (dv 5) de_str)) (dss_one0 (ds_ret0 (de_tup0 (da_cons0 (de_0 (dv 5)) (da_cons0 (de_tup0 (da_cons0 (xf (by simp)) (da_cons0 (xf (by simp)) (da_0 da_nil)))) (da_0 da_nil)))))) dss_nil0) (dss_cons0 (ds_if0 (dt_0 (dt_cm (cd_eq hu) (dv 5) de_str)) (dss_one0 (ds_ret0 (de_tup0 (da_cons0 (de_0 (dv 5)) (da_cons0 (de_tup0 (da_cons0 (xf (by simp)) (da_cons0 (xf (by simp)) (da_0 da_nil)))) (da_0 da_nil)))))) dss_nil0) (dss_cons0 (ds_if0 (dt_0 (dt_cm (cd_eq hu) (dv 5) de_str)) (dss_one0 (ds_ret0 (de_tup0 (da_cons0 (de_0 (dv 5)) (da_cons0 (xf (by simp)) (da_0 da_nil)))))) dss_nil0) (dss_one0 (ds_ret0 (de_ifExp0 (dt_0 (dt_cm (cd_in hu5) (dv 5) (de_tup (da_cons de_str (da_cons de_str da_nil))))) (de_tup0 (da_cons0 (de_0 (dv 5)) (da_cons0 (xf (by simp)) (da_0 da_nil)))) (de_tup0 (da_cons0 (de_0 (dv 5)) (da_cons0 (de_0 de_non) (da_0 da_nil))))))))))))))
/-- what is told of an exception's class with an __init__ of one field -/
structure XI1 (P : Program) (w : World) (K : PySem.W.Frag) (mg : Str → Option Value) (base : Heap) (k : Nat) (x : Str) (C : Addr) (f : Str) where
  fI : Addr
  fd : FuncData
  ps : List Str
  mg_ : mg x = some (.ref C)
  ok : OexC K C
  at_ : PySem.W.findIn K (.ref C) "__init__" = some (some (.ref fI))
  ty : PySem.W.typeIn K (.ref fI) = some (.type "function")
  no : PySem.W.findIn K (.ref C) f = some none
  fn : FnOk P w K mg base CX0 k fI fd ps (spI1 K C f)
  bd : Binds K fd ps []
section
variable {P : Program} {w : World} {K : PySem.W.Frag} {mg : Str → Option Value} {base : Heap}
theorem fn_need_thingsX {C f0 fit : Addr} {fd0 fdit : FuncData} {k li : Nat} {a_is_thing : ASp} {a : ASpX} (F0 : Fun K "need_things" "need_things" s_need_things f0 fd0) (T : XI1 P w K mg base k "BadThing" C "number") (hisi : mg "isinstance" = none) (hlist : mg "list" = none) (henum : mg "enumerate" = none) (cM : GlD K mg "MOST_THINGS" (.int 30))
    (dit : Df K mg "is_thing" fit fdit ["part"]) (Git : FnOk P w K mg base CX0 li fit fdit ["part"] (liftF K a_is_thing)) (hli : li ≤ k + 1) (len : ∀ ds C R RX, a ds C R RX → ds.length = 1)
    (rd : ∀ ds Cs R RX, a ds Cs R RX → t_need_thingsX C a_is_thing (fun xd _ C' => RX xd C') { nx := fun _ C' => R .non C', rt := R } (dstart N_need_things ds) Cs) :
    FnOk P w K mg base (L2.CX P w) (k + 2) f0 fd0 ["things"] (liftFX K a) := by
  refine fnDX F0 sc_need_things len (fun cdv A outer s H E hr F0 G0 W tk => ?_) rd
  have hu := hr.units
  have hu5 := hu5_of hr
  exact dss_cons0 (ds_if0 (dt_0 (dt_not (dt_val (de_cb cl_isi (by rfl) hisi PyProof.Rows.boot_isinstance (da_cons (dv 0) (da_cons (de_bltn (by rfl) hlist PyProof.Rows.boot_list) (da_nil))))))) (dss_one0 (ds_raise1 rfl tk T.ok T.at_ T.ty T.no T.fn hr T.bd (by rfl) T.mg_ (da_cons de_int da_nil))) dss_nil0)
    (dss_one0 (ds_for0 (passes_of rfl) rfl (di_enum (by rfl) henum (da_cons (dv 0) (da_nil))) (dg_tup rfl (dgs_cons (dg_name (i := 1) sc_need_things.nd rfl (Or.inl rfl)) (dgs_cons (dg_name (i := 2) sc_need_things.nd rfl (Or.inl rfl)) (dgs_nil)))) (dss_one0 (ds_if0 (dt_0 ((dw_or (dt_cm (cd_eq hu) (dv 1) (de_glob (by rfl) cM)) (dw_or1 (dt_not (dt_val (de_cf dit Git (hr.mono hli) (by rfl) (da_cons (dv 2) (da_nil))))))).pt)) (dss_one0 (ds_raise1 rfl tk T.ok T.at_ T.ty T.no T.fn hr T.bd (by rfl) T.mg_ (da_cons (dv 1) da_nil))) dss_nil0))))
end
/-- .. of two fields -/
structure XI2 (P : Program) (w : World) (K : PySem.W.Frag) (mg : Str → Option Value) (base : Heap) (k : Nat) (x : Str) (C : Addr) (f g : Str) where
  fI : Addr
  fd : FuncData
  ps : List Str
  mg_ : mg x = some (.ref C)
  ok : OexC K C
  at_ : PySem.W.findIn K (.ref C) "__init__" = some (some (.ref fI))
  ty : PySem.W.typeIn K (.ref fI) = some (.type "function")
  nf : PySem.W.findIn K (.ref C) f = some none
  ng : PySem.W.findIn K (.ref C) g = some none
  ne : f ≠ g
  fn : FnOk P w K mg base CX0 k fI fd ps (spI2 K C f g)
  bd : Binds K fd ps []
section
variable {P : Program} {w : World} {K : PySem.W.Frag} {mg : Str → Option Value} {base : Heap}
theorem fn_need_rulesX {C f0 fbp : Addr} {fd0 fdbp : FuncData} {k lb : Nat} {a_bad_part : ASp} {a : ASpX} (F0 : Fun K "need_rules" "need_rules" s_need_rules f0 fd0) (T : XI2 P w K mg base k "BadRules" C "number" "part") (hisi : mg "isinstance" = none) (htup : mg "tuple" = none) (henum : mg "enumerate" = none) (cM : GlD K mg "MOST_RULES" (.int 8))
    (dbp : Df K mg "bad_part" fbp fdbp ["rule", "names"]) (Gbp : FnOk P w K mg base CX0 lb fbp fdbp ["rule", "names"] (liftF K a_bad_part)) (hbp : lb ≤ k + 1) (len : ∀ ds C R RX, a ds C R RX → ds.length = 1)
    (rd : ∀ ds Cs R RX, a ds Cs R RX → t_need_rulesX C a_bad_part (fun xd _ C' => lssX RX xd C') { nx := fun _ C' => lss R .non C', rt := lss R } (dstart N_need_rules ds) Cs) :
    FnOk P w K mg base (L2.CX P w) (k + 2) f0 fd0 ["rules"] (liftFX K a) := by
  refine fnDXL F0 sc_need_rules len (fun cdv A outer s H E hr F0 G0 W tk => ?_) rd
  have hu := hr.units
  have hu5 := hu5_of hr
  exact dss_cons0 (ds_if0 (dt_0 (dw_or (dt_not (dt_val (de_cb cl_isi (by rfl) hisi PyProof.Rows.boot_isinstance (da_cons (dv 0) (da_cons (de_bltn (by rfl) htup PyProof.Rows.boot_tuple) (da_nil)))))) (dw_or1 (dt_cm (cd_eq hu) (dv 0) (de_tup (da_nil))))).pt) (dss_one0 (ds_raise2 rfl tk T.ok T.at_ T.ty T.nf T.ng T.ne T.fn hr T.bd (by rfl) T.mg_ (da_cons de_int (da_cons (de_neg de_int) da_nil)))) dss_nil0)
    (dss_cons0 (ds_0 (ds_set (i := 1) sc_need_rules.nd rfl (Or.inl rfl) (de_lstC (da_nil)))) (dss_one0 (ds_for0 (passes_of rfl) rfl (di_enum (by rfl) henum (da_cons (dv 0) (da_nil))) (dg_tup rfl (dgs_cons (dg_name (i := 2) sc_need_rules.nd rfl (Or.inl rfl)) (dgs_cons (dg_name (i := 3) sc_need_rules.nd rfl (Or.inl rfl)) (dgs_nil))))
      (dss_cons0 (ds_0 (ds_set (i := 4) sc_need_rules.nd rfl (Or.inl rfl) (de_ifExp (dt_cm (cd_eq hu) (dv 2) (de_glob (by rfl) cM)) (de_neg (de_int)) (de_cf dbp Gbp (hr.mono hbp) (by rfl) (da_cons (dv 3) (da_cons (dv 1) (da_nil)))))))
        (dss_cons0 (ds_if0 (dt_0 (dt_cm cd_isnot (dv 4) (de_non))) (dss_one0 (ds_raise2 rfl tk T.ok T.at_ T.ty T.nf T.ng T.ne T.fn hr T.bd (by rfl) T.mg_ (da_cons (dv 2) (da_cons (dv 4) da_nil)))) dss_nil0) (dss_one0 (ds_0 (ds_expr (de_append (dv 1) (da_cons (de_ix hu (dv 3) (de_int)) (da_nil)))))))))))
end
/-- what is told of Reader -/
structure XRd (P : Program) (w : World) (K : PySem.W.Frag) (mg : Str → Option Value) (base : Heap) (li lt : Nat) (a_init a_take : ASp) where
  C_Reader : Addr
  f_Reader___init__ : Addr
  fd_Reader___init__ : FuncData
  f_Reader_take : Addr
  fd_Reader_take : FuncData
  cls_Reader : Cls K C_Reader
  mk_Reader : Mk K C_Reader f_Reader___init__
  mgc_Reader : mg "Reader" = some (.ref C_Reader)
  b_Reader___init__ : Binds K fd_Reader___init__ ["self"] []
  m_Reader_take : Meth K C_Reader "take" f_Reader_take
  b_Reader_take : Binds K fd_Reader_take ["self", "words"] []
  na_Reader_rules : NoAttr K C_Reader "rules"
  na_Reader_some : NoAttr K C_Reader "some"
  n_enumerate : mg "enumerate" = none
  n_tuple : mg "tuple" = none
  G_init : FnOk P w K mg base CX0 li f_Reader___init__ fd_Reader___init__ ["self"] (liftF K a_init)
  G_take : FnOk P w K mg base CX0 lt f_Reader_take fd_Reader_take ["self", "words"] (liftF K a_take)
section
variable {P : Program} {w : World} {K : PySem.W.Frag} {mg : Str → Option Value} {base : Heap}
theorem fn_readX {CT f0 fnr fnt : Addr} {fd0 fdnr fdnt : FuncData} {k kT li lt lnr lnt : Nat} {a_init a_take : ASp} {a_need_rules a_need_things a : ASpX} (F0 : Fun K "read" "read" s_read f0 fd0) (T : XRd P w K mg base li lt a_init a_take) (TT : XI1 P w K mg base kT "BadText" CT "row") (hT : kT + 1 ≤ k) (hi : li + 1 ≤ k) (ht : lt ≤ k)
    (dnr : Df K mg "need_rules" fnr fdnr ["rules"]) (Gnr : FnOk P w K mg base (L2.CX P w) lnr fnr fdnr ["rules"] (liftFX K a_need_rules)) (hnr : lnr ≤ k) (dnt : Df K mg "need_things" fnt fdnt ["things"]) (Gnt : FnOk P w K mg base (L2.CX P w) lnt fnt fdnt ["things"] (liftFX K a_need_things)) (hnt : lnt ≤ k)
    (len : ∀ ds C R RX, a ds C R RX → ds.length = 1)
    (rd : ∀ ds Cs R RX, a ds Cs R RX → t_readX T.C_Reader CT a_init a_take a_need_rules a_need_things (fun xd _ C' => lssX RX xd C') { nx := fun _ C' => lss R .non C', rt := lss R } (dstart N_read ds) Cs) :
    FnOk P w K mg base (L2.CX P w) (k + 1) f0 fd0 ["text"] (liftFX K a) := by
  refine fnDXL F0 sc_read len (fun cdv A outer s H E hr F0 G0 W tk => ?_) rd
  have hu := hr.units
  have hu5 := hu5_of hr
  exact dss_cons0 (ds_0 (ds_set (i := 1) sc_read.nd rfl (Or.inl rfl) (de_make0 T.mk_Reader T.G_init (hr.mono hi) (by rfl) T.mgc_Reader T.b_Reader___init__))) (dss_cons0 (ds_for0 (passes_of rfl) rfl (di_enum (by rfl) T.n_enumerate (da_cons (de_mtS PySem.F.slot_str_split PySem.F.type_str_split md_split (dv 0) (da_cons (de_str) (da_nil))) (da_nil))) (dg_tup rfl (dgs_cons (dg_name (i := 2) sc_read.nd rfl (Or.inl rfl)) (dgs_cons (dg_name (i := 3) sc_read.nd rfl (Or.inl rfl)) (dgs_nil)))) (dss_one0 (ds_if0 (dt_0 (dt_not (dt_val (de_meth (dv 1) T.cls_Reader T.m_Reader_take T.G_take (hr.mono ht) T.b_Reader_take (da_cons (de_mtS PySem.F.slot_str_split PySem.F.type_str_split md_split (dv 3) (da_cons (de_str) (da_nil))) (da_nil)))))) (dss_one0 (ds_raise1 rfl tk TT.ok TT.at_ TT.ty TT.no TT.fn (hr.mono hT) TT.bd (by rfl) TT.mg_ (da_cons (dv 2) da_nil))) dss_nil0))) (dss_cons0 (ds_0 (ds_set (i := 4) sc_read.nd rfl (Or.inl rfl) (de_ct cl_tuple (by rfl) T.n_tuple PyProof.Rows.boot_tuple (da_cons (de_lc (own := [("name", 5), ("rank", 6), ("wants", 7), ("deeds", 8)]) (gd := gdUnl 4 (gdCons (gdName 5) (gdCons (gdName 6) (gdCons (gdName 7) (gdCons (gdName 8) (gdNil)))))) rfl sc_read.nd (tg_unl (tgs_cons (tg_name) (tgs_cons (tg_name) (tgs_cons (tg_name) (tgs_cons (tg_name) (tgs_nil)))))) (di_seq (de_fld T.cls_Reader T.na_Reader_rules (dv 1))) (blkOk_by (N := N_read) (sc := defScope s_read) (by decide +kernel)) (fun _ _ _ _ _ => pg_unl rfl (pgs_cons (pg_name (i := 5) sc_read.nd rfl (Or.inl rfl)) (pgs_cons (pg_name (i := 6) sc_read.nd rfl (Or.inl rfl)) (pgs_cons (pg_name (i := 7) sc_read.nd rfl (Or.inl rfl)) (pgs_cons (pg_name (i := 8) sc_read.nd rfl (Or.inl rfl)) (pgs_nil)))))) (fun _ _ _ _ _ => dts_nil) (fun _ _ _ _ _ => de_tup (da_cons (dv 5) (da_cons (dv 6) (da_cons (de_ct cl_tuple (by rfl) T.n_tuple PyProof.Rows.boot_tuple (da_cons (dv 7) (da_nil))) (da_cons (de_ct cl_tuple (by rfl) T.n_tuple PyProof.Rows.boot_tuple (da_cons (dv 8) (da_nil))) (da_nil))))))) (da_nil))))) (dss_cons0 (ds_expr0 (de_cfX dnr Gnr (hr.mono hnr) (by rfl) tk (da_cons (dv 4) (da_nil)))) (dss_cons0 (ds_expr0 (de_cfX dnt Gnt (hr.mono hnt) (by rfl) tk (da_cons (de_fld T.cls_Reader T.na_Reader_some (dv 1)) (da_nil)))) (dss_one0 (ds_0 (ds_ret (de_tup (da_cons (dv 4) (da_cons (de_fld T.cls_Reader T.na_Reader_some (dv 1)) (da_nil)))))))))))
end
end RR
namespace RR
open PySem PySem.Spec L2 DL
open PyProof.Rows hiding St kindOf
section
variable {P : Program} {w : World} {K : PySem.W.Frag} {mg : Str → Option Value} {base : Heap}
theorem fn_none {k : Nat} {f : Addr} {fd : FuncData} {ps : List Str} {a : ASp} (h : ∀ ds C R, ¬ a ds C R) : FnOk P w K mg base CX0 k f fd ps (liftF K a) :=
  ⟨fun vs H Q E ⟨_, _, ds, C, R, _, _, q, _⟩ => absurd q (h ds C R), fun A outer s H args us vs Q E _ _ _ _ ⟨_, _, ds, C, R, _, _, q, _⟩ => absurd q (h ds C R)⟩
local macro_rules | `(tactic| walk_at "len") => `(tactic| (intro ds C R h; first | (obtain ⟨e, _⟩ := h; subst e; rfl) | (obtain ⟨_, e, _⟩ := h; subst e; rfl) | (obtain ⟨_, _, e, _⟩ := h; subst e; rfl) | (obtain ⟨_, _, _, e, _⟩ := h; subst e; rfl) | (obtain ⟨_, _, _, _, e, _⟩ := h; subst e; rfl) | (obtain ⟨_, _, _, _, _, e, _⟩ := h; subst e; rfl) | (obtain ⟨_, _, _, _, _, _, e, _⟩ := h; subst e; rfl) | (obtain ⟨_, _, _, _, _, _, _, e, _⟩ := h; subst e; rfl) | (obtain ⟨_, _, _, _, _, _, _, _, e, _⟩ := h; subst e; rfl) | (obtain ⟨_, _, _, _, _, _, _, _, _, e, _⟩ := h; subst e; rfl) | (obtain ⟨_, _, _, _, _, _, _, _, _, _, e, _⟩ := h; subst e; rfl) | (obtain ⟨_, _, _, _, _, _, _, _, _, _, _, e, _⟩ := h; subst e; rfl) | (obtain ⟨_, _, _, _, _, _, _, _, _, _, _, _, e, _⟩ := h; subst e; rfl) | (obtain ⟨_, _, _, _, _, _, _, _, _, _, _, _, _, e, _⟩ := h; subst e; rfl) | (obtain ⟨_, _, _, _, _, _, _, _, _, _, _, _, _, _, e, _⟩ := h; subst e; rfl) | (obtain ⟨_, _, _, _, _, _, _, _, _, _, _, _, _, _, _, e, _⟩ := h; subst e; rfl) | (obtain ⟨_, _, _, _, _, _, _, _, _, _, _, _, _, _, _, _, e, _⟩ := h; subst e; rfl)))
theorem ok__law_row (T : Pk K mg) : FnOk P w K mg base CX0 1 T.f__law_row T.fd__law_row ["_law_script"] (liftF K a__law_row) := fn__law_row T (k := 0)  (by walk_at "len") rd__law_row
theorem ok__law_taken (T : Pk K mg) : FnOk P w K mg base CX0 1 T.f__law_taken T.fd__law_taken ["_law_row_here", "_law_many"] (liftF K a__law_taken) := fn__law_taken T (k := 0)  (by walk_at "len") rd__law_taken
theorem ok__law_worth (T : Pk K mg) : FnOk P w K mg base CX0 2 T.f__law_worth T.fd__law_worth ["_law_row_here"] (liftF K a__law_worth) := fn__law_worth T (k := 1) (ok__law_taken T) (by omega) (by walk_at "len") rd__law_worth
theorem ok__law_dense_rule (T : Pk K mg) : FnOk P w K mg base CX0 3 T.f__law_dense_rule T.fd__law_dense_rule ["_law_row_here", "_law_name"] (liftF K a__law_dense_rule) := fn__law_dense_rule T (k := 2) (ok__law_taken T) (by omega) (ok__law_worth T) (by omega) (by walk_at "len") rd__law_dense_rule
theorem ok__law_pattern (T : Pk K mg) : FnOk P w K mg base CX0 3 T.f__law_pattern T.fd__law_pattern ["_law_row_here", "_law_letters_here"] (liftF K a__law_pattern) := fn__law_pattern T (k := 2) (ok__law_taken T) (by omega) (ok__law_worth T) (by omega) (by walk_at "len") rd__law_pattern
theorem ok__law_letters (T : Pk K mg) : FnOk P w K mg base CX0 1 T.f__law_letters T.fd__law_letters ["_law_pattern_here"] (liftF K a__law_letters) := fn__law_letters T (k := 0)  (by walk_at "len") rd__law_letters
theorem ok__law_template (T : Pk K mg) : FnOk P w K mg base CX0 3 T.f__law_template T.fd__law_template ["_law_row_here", "_law_known"] (liftF K a__law_template) := fn__law_template T (k := 2) (ok__law_taken T) (by omega) (ok__law_worth T) (by omega) (by walk_at "len") rd__law_template
theorem ok__law_rule (T : Pk K mg) : FnOk P w K mg base CX0 4 T.f__law_rule T.fd__law_rule ["_law_row_here", "_law_name"] (liftF K a__law_rule) := fn__law_rule T (k := 3) (ok__law_taken T) (by omega) (ok__law_pattern T) (by omega) (ok__law_letters T) (by omega) (ok__law_worth T) (by omega) (ok__law_template T) (by omega) (by walk_at "len") rd__law_rule
theorem ok__law_rules (T : Pk K mg) : FnOk P w K mg base CX0 5 T.f__law_rules T.fd__law_rules ["_law_row_here", "_law_wished"] (liftF K a__law_rules) := fn__law_rules T (k := 4) (ok__law_taken T) (by omega) (ok__law_dense_rule T) (by omega) (ok__law_rule T) (by omega) (by walk_at "len") rd__law_rules
theorem ok__law_thing (T : Pk K mg) : FnOk P w K mg base CX0 3 T.f__law_thing T.fd__law_thing ["_law_row_here"] (liftF K a__law_thing) := fn__law_thing T (k := 2) (ok__law_taken T) (by omega) (ok__law_worth T) (by omega) (by walk_at "len") rd__law_thing
theorem ok_is_word (T : Pk K mg) : FnOk P w K mg base CX0 1 T.f_is_word T.fd_is_word ["part"] (liftF K a_is_word) := fn_is_word T (k := 0)  (by walk_at "len") rd_is_word
theorem ok_is_number (T : Pk K mg) : FnOk P w K mg base CX0 1 T.f_is_number T.fd_is_number ["part", "low", "high"] (liftF K a_is_number) := fn_is_number T (k := 0)  (by walk_at "len") rd_is_number
theorem ok_is_worth (T : Pk K mg) : FnOk P w K mg base CX0 2 T.f_is_worth T.fd_is_worth ["part"] (liftF K a_is_worth) := fn_is_worth T (k := 1) (ok_is_word T) (by omega) (ok_is_number T) (by omega) (by walk_at "len") rd_is_worth
theorem ok_is_blank (T : Pk K mg) : FnOk P w K mg base CX0 1 T.f_is_blank T.fd_is_blank ["part"] (liftF K a_is_blank) := fn_is_blank T (k := 0)  (by walk_at "len") rd_is_blank
theorem ok_is_pattern (T : Pk K mg) : FnOk P w K mg base CX0 3 T.f_is_pattern T.fd_is_pattern ["part"] (liftF K a_is_pattern) := fn_is_pattern T (k := 2) (ok_is_word T) (by omega) (ok_is_worth T) (by omega) (ok_is_blank T) (by omega) (by walk_at "len") rd_is_pattern
theorem ok_is_side (T : Pk K mg) : FnOk P w K mg base CX0 3 T.f_is_side T.fd_is_side ["part", "known"] (liftF K a_is_side) := fn_is_side T (k := 2) (ok_is_worth T) (by omega) (ok_is_blank T) (by omega) (by walk_at "len") rd_is_side
theorem ok_is_want (T : Pk K mg) : FnOk P w K mg base CX0 4 T.f_is_want T.fd_is_want ["want", "known"] (liftF K a_is_want) := fn_is_want T (k := 3) (ok_is_pattern T) (by omega) (ok_is_side T) (by omega) (by walk_at "len") rd_is_want
theorem ok_blanks_of (T : Pk K mg) : FnOk P w K mg base CX0 2 T.f_blanks_of T.fd_blanks_of ["pattern"] (liftF K a_blanks_of) := fn_blanks_of T (k := 1) (ok_is_blank T) (by omega) (by walk_at "len") rd_blanks_of
theorem ok_is_template (T : Pk K mg) : FnOk P w K mg base CX0 4 T.f_is_template T.fd_is_template ["part", "known"] (liftF K a_is_template) := fn_is_template T (k := 3) (ok_is_word T) (by omega) (ok_is_blank T) (by omega) (ok_is_number T) (by omega) (ok_is_side T) (by omega) (by walk_at "len") rd_is_template
theorem ok_is_deed (T : Pk K mg) : FnOk P w K mg base CX0 5 T.f_is_deed T.fd_is_deed ["deed", "wants", "known"] (liftF K a_is_deed) := fn_is_deed T (k := 4) (ok_is_number T) (by omega) (ok_is_template T) (by omega) (by walk_at "len") rd_is_deed
theorem ok_bad_part (T : Pk K mg) : FnOk P w K mg base CX0 6 T.f_bad_part T.fd_bad_part ["rule", "names"] (liftF K a_bad_part) := fn_bad_part T (k := 5) (ok_is_word T) (by omega) (ok_is_number T) (by omega) (ok_is_want T) (by omega) (ok_blanks_of T) (by omega) (ok_is_deed T) (by omega) (by walk_at "len") rd_bad_part
theorem ok_need_rules (T : Pk K mg) : FnOk P w K mg base CX0 7 T.f_need_rules T.fd_need_rules ["rules"] (liftF K a_need_rules) := fn_need_rules T (k := 6) (ok_bad_part T) (by omega) (by walk_at "len") rd_need_rules
theorem ok_is_thing (T : Pk K mg) : FnOk P w K mg base CX0 3 T.f_is_thing T.fd_is_thing ["part"] (liftF K a_is_thing) := fn_is_thing T (k := 2) (ok_is_word T) (by omega) (ok_is_worth T) (by omega) (by walk_at "len") rd_is_thing
theorem ok_need_things (T : Pk K mg) : FnOk P w K mg base CX0 4 T.f_need_things T.fd_need_things ["things"] (liftF K a_need_things) := fn_need_things T (k := 3) (ok_is_thing T) (by omega) (by walk_at "len") rd_need_things
theorem ok_part_text (T : Pk K mg) : FnOk P w K mg base CX0 1 T.f_part_text T.fd_part_text ["part"] (liftF K a_part_text) := fn_part_text T (k := 0)  (by walk_at "len") rd_part_text
theorem ok_written (T : Pk K mg) : FnOk P w K mg base CX0 8 T.f_written T.fd_written ["rules", "things"] (liftF K a_written) := fn_written T (k := 7) (ok_need_rules T) (by omega) (ok_need_things T) (by omega) (ok_part_text T) (by omega) (by walk_at "len") rd_written
theorem ok__law_spoilt (T : Pk K mg) : FnOk P w K mg base CX0 2 T.f__law_spoilt T.fd__law_spoilt ["_law_row_here", "_law_rows"] (liftF K a__law_spoilt) := fn__law_spoilt T (k := 1) (ok__law_taken T) (by omega) (by walk_at "len") rd__law_spoilt
theorem ok__law_number_of (T : Pk K mg) : FnOk P w K mg base CX0 1 T.f__law_number_of T.fd__law_number_of ["_law_word_here"] (liftF K a__law_number_of) := fn__law_number_of T (k := 0)  (by walk_at "len") rd__law_number_of
theorem ok__law_part_of (T : Pk K mg) : FnOk P w K mg base CX0 2 T.f__law_part_of T.fd__law_part_of ["_law_word_here"] (liftF K a__law_part_of) := fn__law_part_of T (k := 1) (ok__law_number_of T) (by omega) (by walk_at "len") rd__law_part_of
theorem ok__law_more (T : Pk K mg) : FnOk P w K mg base CX0 1 T.f__law_more T.fd__law_more ["_law_rule_here", "_law_head", "_law_parts"] (liftF K a__law_more) := fn__law_more T (k := 0)  (by walk_at "len") rd__law_more
theorem ok__law_read (T : Pk K mg) : FnOk P w K mg base CX0 3 T.f__law_read T.fd__law_read ["_law_text"] (liftF K a__law_read) := fn__law_read T (k := 2) (ok__law_part_of T) (by omega) (ok__law_more T) (by omega) (by walk_at "len") rd__law_read
theorem ok__law_alike (T : Pk K mg) : ∀ n : Nat, FnOk P w K mg base CX0 (1 + n) T.f__law_alike T.fd__law_alike ["_law_found", "_law_due"] (liftF K (a__law_alike n))
  | 0 => fn_none (by intro ds C R h; obtain ⟨x, y, v, m, _, h, _⟩ := h; omega)
  | n + 1 => fn__law_alike T (k := 1 + n) (ok__law_alike T n) (by omega) (by walk_at "len") (rd__law_alike n)
theorem ok_Reader___init__ (T : Pk K mg) : FnOk P w K mg base CX0 1 T.f_Reader___init__ T.fd_Reader___init__ ["self"] (liftF K (a_Reader___init__ T.C_Reader)) := fn_Reader___init__ T (k := 0)  (by walk_at "len") (rd_Reader___init__ T.C_Reader)
theorem ok_number_of (T : Pk K mg) : FnOk P w K mg base CX0 1 T.f_number_of T.fd_number_of ["word"] (liftF K a_number_of) := fn_number_of T (k := 0)  (by walk_at "len") rd_number_of
theorem ok_part_of (T : Pk K mg) : FnOk P w K mg base CX0 2 T.f_part_of T.fd_part_of ["word"] (liftF K a_part_of) := fn_part_of T (k := 1) (ok_number_of T) (by omega) (ok_is_blank T) (by omega) (by walk_at "len") rd_part_of
theorem ok_Reader_take_within (T : Pk K mg) : FnOk P w K mg base CX0 2 T.f_Reader_take_within T.fd_Reader_take_within ["self", "head", "parts"] (liftF K (a_Reader_take_within T.C_Reader)) := fn_Reader_take_within T (k := 1) (ok_is_number T) (by omega) (by walk_at "len") (rd_Reader_take_within T.C_Reader)
theorem ok_Reader_take (T : Pk K mg) : FnOk P w K mg base CX0 3 T.f_Reader_take T.fd_Reader_take ["self", "words"] (liftF K (a_Reader_take T.C_Reader)) := fn_Reader_take T (k := 2) (ok_part_of T) (by omega) (ok_is_number T) (by omega) (ok_Reader_take_within T) (by omega) (by walk_at "len") (rd_Reader_take T.C_Reader)
def xi_BadThing (T : Pk K mg) (k : Nat) : XI1 P w K mg base (k + 1) "BadThing" T.X_BadThing "number" := { fI := T.f_BadThing___init__, fd := T.fd_BadThing___init__, ps := ["self", "number"], mg_ := T.xm_BadThing, ok := T.xf_BadThing.ok, at_ := T.mx_BadThing___init__.at_, ty := T.xi_BadThing___init__, no := T.xf_BadThing.f0, fn := fn_BadThing___init__ T.F_BadThing___init__ T.xm_RoomError T.xt_RoomError.rd T.xt_RoomError.vv, bd := T.b_BadThing___init__ }
def xi_BadText (T : Pk K mg) (k : Nat) : XI1 P w K mg base (k + 1) "BadText" T.X_BadText "row" := { fI := T.f_BadText___init__, fd := T.fd_BadText___init__, ps := ["self", "row"], mg_ := T.xm_BadText, ok := T.xf_BadText.ok, at_ := T.mx_BadText___init__.at_, ty := T.xi_BadText___init__, no := T.xf_BadText.f3, fn := fn_BadText___init__ T.F_BadText___init__ T.xm_RoomError T.xt_RoomError.rd T.xt_RoomError.vv, bd := T.b_BadText___init__ }
def xi_BadRules (T : Pk K mg) (k : Nat) : XI2 P w K mg base (k + 1) "BadRules" T.X_BadRules "number" "part" := { fI := T.f_BadRules___init__, fd := T.fd_BadRules___init__, ps := ["self", "number", "part"], mg_ := T.xm_BadRules, ok := T.xf_BadRules.ok, at_ := T.mx_BadRules___init__.at_, ty := T.xi_BadRules___init__, nf := T.xf_BadRules.f0, ng := T.xf_BadRules.f1, ne := by decide, fn := fn_BadRules___init__ T.F_BadRules___init__ T.xm_RoomError T.xt_RoomError.rd T.xt_RoomError.vv, bd := T.b_BadRules___init__ }
def xrd (T : Pk K mg) : XRd P w K mg base 1 3 (a_Reader___init__ T.C_Reader) (a_Reader_take T.C_Reader) := { C_Reader := T.C_Reader, f_Reader___init__ := T.f_Reader___init__, fd_Reader___init__ := T.fd_Reader___init__, f_Reader_take := T.f_Reader_take, fd_Reader_take := T.fd_Reader_take, cls_Reader := T.cls_Reader, mk_Reader := T.mk_Reader, mgc_Reader := T.mgc_Reader, b_Reader___init__ := T.b_Reader___init__, m_Reader_take := T.m_Reader_take, b_Reader_take := T.b_Reader_take, na_Reader_rules := T.na_Reader_rules, na_Reader_some := T.na_Reader_some, n_enumerate := T.n_enumerate, n_tuple := T.n_tuple, G_init := ok_Reader___init__ T, G_take := ok_Reader_take T }
theorem ok_need_thingsX (T : Pk K mg) : FnOk P w K mg base (L2.CX P w) 6 T.f_need_things T.fd_need_things ["things"] (liftFX K (a_need_thingsX T.X_BadThing)) := fn_need_thingsX (k := 6 - 2) T.F_need_things (xi_BadThing T (6 - 3)) T.n_isinstance T.n_list T.n_enumerate T.c_MOST_THINGS T.d_is_thing (ok_is_thing T) (by omega) (by intro ds C R RX h; obtain ⟨_, _, e, _⟩ := h; subst e; rfl) (rd_need_thingsX T.X_BadThing)
theorem ok_need_rulesX (T : Pk K mg) : FnOk P w K mg base (L2.CX P w) 9 T.f_need_rules T.fd_need_rules ["rules"] (liftFX K (a_need_rulesX T.X_BadRules)) := fn_need_rulesX (k := 9 - 2) T.F_need_rules (xi_BadRules T (9 - 3)) T.n_isinstance T.n_tuple T.n_enumerate T.c_MOST_RULES T.d_bad_part (ok_bad_part T) (by omega) (by intro ds C R RX h; obtain ⟨_, e, _⟩ := h; subst e; rfl) (rd_need_rulesX T.X_BadRules)
theorem ok_read (T : Pk K mg) : FnOk P w K mg base (L2.CX P w) 10 T.f_read T.fd_read ["text"] (liftFX K (a_readX T.C_Reader T.X_BadText T.X_BadThing T.X_BadRules)) := fn_readX (k := 10 - 1) T.F_read (xrd T) (xi_BadText T 0) (by omega) (by omega) (by omega) T.d_need_rules (ok_need_rulesX T) (by omega) T.d_need_things (ok_need_thingsX T) (by omega) (by intro ds C R RX h; obtain ⟨_, e, _⟩ := h; subst e; rfl) (rd_readX T.C_Reader T.X_BadText T.X_BadThing T.X_BadRules)
def Xc (T : Pk K mg) (x : Str) : Addr := (([("BadThing", T.X_BadThing), ("BadRules", T.X_BadRules), ("BadCount", T.X_BadCount), ("NotThere", T.X_NotThere), ("NoRule", T.X_NoRule), ("BadDeed", T.X_BadDeed), ("Halted", T.X_Halted), ("BadText", T.X_BadText), ("RoomError", T.X_RoomError)] : List (Str × Addr)).lookup x).getD T.X_BadThing
theorem xcls (T : Pk K mg) : XCls K mg (Xc T) := by
  have e : ∀ f ∈ (["number", "part", "done", "row"] : List Str), f = "number" ∨ f = "part" ∨ f = "done" ∨ f = "row" := fun f hf => by simpa using hf
  refine ⟨fun x hx => ?_, fun x hx => ?_⟩
  · simp only [List.mem_cons, List.mem_nil_iff, or_false] at hx
    rcases hx with rfl | rfl | rfl | rfl | rfl | rfl | rfl | rfl | rfl
    · exact T.xm_BadThing
    · exact T.xm_BadRules
    · exact T.xm_BadCount
    · exact T.xm_NotThere
    · exact T.xm_NoRule
    · exact T.xm_BadDeed
    · exact T.xm_Halted
    · exact T.xm_BadText
    · exact T.xm_RoomError
  · simp only [List.mem_cons, List.mem_nil_iff, or_false] at hx
    rcases hx with rfl | rfl | rfl
    · exact ⟨T.xf_BadThing.ex, T.xf_BadThing.xf, T.xf_BadThing.up, fun f hf => by rcases e f hf with rfl | rfl | rfl | rfl <;> first | exact T.xf_BadThing.f0 | exact T.xf_BadThing.f1 | exact T.xf_BadThing.f2 | exact T.xf_BadThing.f3⟩
    · exact ⟨T.xf_BadRules.ex, T.xf_BadRules.xf, T.xf_BadRules.up, fun f hf => by rcases e f hf with rfl | rfl | rfl | rfl <;> first | exact T.xf_BadRules.f0 | exact T.xf_BadRules.f1 | exact T.xf_BadRules.f2 | exact T.xf_BadRules.f3⟩
    · exact ⟨T.xf_BadText.ex, T.xf_BadText.xf, T.xf_BadText.up, fun f hf => by rcases e f hf with rfl | rfl | rfl | rfl <;> first | exact T.xf_BadText.f0 | exact T.xf_BadText.f1 | exact T.xf_BadText.f2 | exact T.xf_BadText.f3⟩
theorem ok_word (T : Pk K mg) (X : Cx) (k : Nat) (cdv : Value) (e1 : X.K = K) (e2 : X.mg = mg) : GivesL X k N__law_word "_law_word" (defScope s__law_word) T.f__law_word cdv (defBody s__law_word) "_law_work" "law.<locals>.<lambda>" (a_word T.X_BadText T.X_BadThing T.X_BadRules) := by
  subst e1 e2
  exact (dv_word (xcls T) T.n_isinstance T.n_ValueError).weak fun al C R h f => rd_word (C := Xc T) T.xk_BadText T.xk_BadThing T.xk_BadRules f h
theorem ok_law (T : Pk K mg) (TB_law : LamX.TabB base mg T.c_law T.P_law) : FnOk P w K mg base CX0 13 T.f_law T.fd_law ["_law_script"] (liftF K (a_law T.P_law)) := fn_law T (k := 12) TB_law (ok_word T) (ok_read T) (by omega) (ok__law_row T) (by omega) (ok__law_rules T) (by omega) (ok__law_taken T) (by omega) (ok__law_thing T) (by omega) (ok_written T) (by omega) (ok__law_spoilt T) (by omega) (ok__law_read T) (by omega) (ok__law_alike T 8) (by omega) (by walk_at "len") (rd_law T.C_Reader T.X_BadText T.X_BadThing T.X_BadRules T.P_law)
end
end RR
namespace RR
open PySem PySem.Spec L2 DL
open PyProof.Rows hiding St kindOf
theorem all_mk {P : Program} {w : World} {K : PySem.W.Frag} {h : Heap} {mg : Str → Option Value} {fa : Addr} (X : K.In h) (G : h.Ns mainGlobals mg) (hfa : mg "law" = some (.ref fa)) {C_Reader : Addr} (aC_Reader : PySem.W.nsIn K mainGlobals "Reader" = some (some (.ref C_Reader))) (cf_Reader : ClsF K C_Reader) (h_na_Reader_rules : NoAttr K C_Reader "rules") (h_na_Reader_some : NoAttr K C_Reader "some") {X_BadThing : Addr} (aX_BadThing : PySem.W.nsIn K mainGlobals "BadThing" = some (some (.ref X_BadThing))) {X_BadRules : Addr} (aX_BadRules : PySem.W.nsIn K mainGlobals "BadRules" = some (some (.ref X_BadRules))) {X_BadCount : Addr} (aX_BadCount : PySem.W.nsIn K mainGlobals "BadCount" = some (some (.ref X_BadCount))) {X_NotThere : Addr} (aX_NotThere : PySem.W.nsIn K mainGlobals "NotThere" = some (some (.ref X_NotThere))) {X_NoRule : Addr} (aX_NoRule : PySem.W.nsIn K mainGlobals "NoRule" = some (some (.ref X_NoRule))) {X_BadDeed : Addr} (aX_BadDeed : PySem.W.nsIn K mainGlobals "BadDeed" = some (some (.ref X_BadDeed))) {X_Halted : Addr} (aX_Halted : PySem.W.nsIn K mainGlobals "Halted" = some (some (.ref X_Halted))) {X_BadText : Addr} (aX_BadText : PySem.W.nsIn K mainGlobals "BadText" = some (some (.ref X_BadText))) {X_RoomError : Addr} (aX_RoomError : PySem.W.nsIn K mainGlobals "RoomError" = some (some (.ref X_RoomError))) (xt_RoomError : XTop K X_RoomError) (xf_BadText : XFc K X_BadText X_RoomError) (xf_BadThing : XFc K X_BadThing X_RoomError) (xf_BadRules : XFc K X_BadRules X_RoomError) (xk_BadText : XKr K X_BadText X_BadThing X_BadRules X_BadCount X_NotThere X_NoRule X_BadDeed X_Halted X_BadText false false false false false false false true) (xk_BadThing : XKr K X_BadThing X_BadThing X_BadRules X_BadCount X_NotThere X_NoRule X_BadDeed X_Halted X_BadText true false false false false false false false) (xk_BadRules : XKr K X_BadRules X_BadThing X_BadRules X_BadCount X_NotThere X_NoRule X_BadDeed X_Halted X_BadText false true false false false false false false) (h_Reader___init__ : MthAt K C_Reader "__init__" "Reader.__init__" s_Reader___init__) (h_Reader_take_within : MthAt K C_Reader "take_within" "Reader.take_within" s_Reader_take_within) (h_Reader_take : MthAt K C_Reader "take" "Reader.take" s_Reader_take) (h_BadText___init__ : MthAt K X_BadText "__init__" "BadText.__init__" s_BadText___init__) (xi_BadText___init__ : ∀ f, PySem.W.isFn K (.ref f) = true → PySem.W.typeIn K (.ref f) = some (.type "function")) (h_BadThing___init__ : MthAt K X_BadThing "__init__" "BadThing.__init__" s_BadThing___init__) (xi_BadThing___init__ : ∀ f, PySem.W.isFn K (.ref f) = true → PySem.W.typeIn K (.ref f) = some (.type "function")) (h_BadRules___init__ : MthAt K X_BadRules "__init__" "BadRules.__init__" s_BadRules___init__) (xi_BadRules___init__ : ∀ f, PySem.W.isFn K (.ref f) = true → PySem.W.typeIn K (.ref f) = some (.type "function")) (h__law_row : DefAt K "_law_row" s__law_row) (h__law_taken : DefAt K "_law_taken" s__law_taken) (h__law_worth : DefAt K "_law_worth" s__law_worth) (h__law_dense_rule : DefAt K "_law_dense_rule" s__law_dense_rule) (h__law_pattern : DefAt K "_law_pattern" s__law_pattern) (h__law_letters : DefAt K "_law_letters" s__law_letters) (h__law_template : DefAt K "_law_template" s__law_template) (h__law_rule : DefAt K "_law_rule" s__law_rule) (h__law_rules : DefAt K "_law_rules" s__law_rules) (h__law_thing : DefAt K "_law_thing" s__law_thing) (h_is_word : DefAt K "is_word" s_is_word) (h_is_number : DefAt K "is_number" s_is_number) (h_is_worth : DefAt K "is_worth" s_is_worth) (h_is_blank : DefAt K "is_blank" s_is_blank) (h_is_pattern : DefAt K "is_pattern" s_is_pattern) (h_is_side : DefAt K "is_side" s_is_side) (h_is_want : DefAt K "is_want" s_is_want) (h_blanks_of : DefAt K "blanks_of" s_blanks_of) (h_is_template : DefAt K "is_template" s_is_template) (h_is_deed : DefAt K "is_deed" s_is_deed) (h_bad_part : DefAt K "bad_part" s_bad_part) (h_need_rules : DefAt K "need_rules" s_need_rules) (h_is_thing : DefAt K "is_thing" s_is_thing) (h_need_things : DefAt K "need_things" s_need_things) (h_part_text : DefAt K "part_text" s_part_text) (h_written : DefAt K "written" s_written) (h__law_spoilt : DefAt K "_law_spoilt" s__law_spoilt) (h__law_number_of : DefAt K "_law_number_of" s__law_number_of) (h__law_part_of : DefAt K "_law_part_of" s__law_part_of) (h__law_more : DefAt K "_law_more" s__law_more) (h__law_read : DefAt K "_law_read" s__law_read) (h__law_alike : DefAt K "_law_alike" s__law_alike) (h__law_word : DefAt K "_law_word" s__law_word) (h_number_of : DefAt K "number_of" s_number_of) (h_part_of : DefAt K "part_of" s_part_of) (h_read : DefAt K "read" s_read) {c_law P_law : Addr} (h_law : DefAtC K "law" s_law c_law) (f_law : fieldP K c_law P_law) (t_law : PySem.W.codeHdIn K c_law P_law = true) (n_law : K.lookup P_law = none) (g_law : h.get? P_law = some { cls := .none, data := .fields #[] }) (h_len : NoAt K "len") (h_range : NoAt K "range") (h_tuple : NoAt K "tuple") (h_isinstance : NoAt K "isinstance") (h_str : NoAt K "str") (h_all : NoAt K "all") (h_int : NoAt K "int") (h_bool : NoAt K "bool") (h_enumerate : NoAt K "enumerate") (h_list : NoAt K "list") (h_ValueError : NoAt K "ValueError") (h_MOST_LETTERS : IntAt K "MOST_LETTERS" (4)) (h_SMALL : StrAt K "SMALL" "abcdefghijklmnopqrstuvwxyz") (h_MOST_NUMBER : IntAt K "MOST_NUMBER" (99)) (h_GREAT : StrAt K "GREAT" "ABCDEFGHIJKLMNOPQRSTUVWXYZ") (h_MOST_PARTS : IntAt K "MOST_PARTS" (5)) (h_ANY : StrAt K "ANY" "_") (h_NOT : StrAt K "NOT" "not") (h_IS : StrAt K "IS" "is") (h_TESTS : Tup3At K "TESTS" "less" "same" "unlike") (h_TAKE : StrAt K "TAKE" "take") (h_TELLERS : Tup3At K "TELLERS" "add" "hold" "say") (h_MOST_RANK : IntAt K "MOST_RANK" (9)) (h_MOST_WANTS : IntAt K "MOST_WANTS" (5)) (h_MOST_DEEDS : IntAt K "MOST_DEEDS" (4)) (h_MOST_RULES : IntAt K "MOST_RULES" (8)) (h_MOST_THINGS : IntAt K "MOST_THINGS" (30)) (h_RULE : StrAt K "RULE" "rule") (h_THING : StrAt K "THING" "thing") (h_MOST_FIGURES : IntAt K "MOST_FIGURES" (2)) (h_FIGURES : StrAt K "FIGURES" "0123456789") :
    ∃ fd : FuncData, (∀ (s : Shared) (v : Value), BindsTo s fd ⟨[v], []⟩ [("_law_script", v)]) ∧ (PySem.W.CodeHd h c_law P_law) ∧ ∀ base : Heap, K.In base → base.Ns mainGlobals mg → LamX.TabB base mg c_law P_law → FnOk P w K mg base CX0 13 fa fd ["_law_script"] (liftF K (a_law P_law)) := by
  obtain ⟨f__law_row, fd__law_row, F__law_row, d__law_row, e__law_row⟩ := h__law_row.mk (ps := ["_law_script"]) X G fun _ _ F => F.binds (ps := ["_law_script"]) fun _ _ _ _ _ _ us hl => by obtain ⟨_, rfl⟩ := RR.len1 hl; rfl
  obtain ⟨f__law_taken, fd__law_taken, F__law_taken, d__law_taken, e__law_taken⟩ := h__law_taken.mk (ps := ["_law_row_here", "_law_many"]) X G fun _ _ F => F.binds (ps := ["_law_row_here", "_law_many"]) fun _ _ _ _ _ _ us hl => by obtain ⟨_, _, rfl⟩ := RR.len2 hl; rfl
  obtain ⟨f__law_worth, fd__law_worth, F__law_worth, d__law_worth, e__law_worth⟩ := h__law_worth.mk (ps := ["_law_row_here"]) X G fun _ _ F => F.binds (ps := ["_law_row_here"]) fun _ _ _ _ _ _ us hl => by obtain ⟨_, rfl⟩ := RR.len1 hl; rfl
  obtain ⟨f__law_dense_rule, fd__law_dense_rule, F__law_dense_rule, d__law_dense_rule, e__law_dense_rule⟩ := h__law_dense_rule.mk (ps := ["_law_row_here", "_law_name"]) X G fun _ _ F => F.binds (ps := ["_law_row_here", "_law_name"]) fun _ _ _ _ _ _ us hl => by obtain ⟨_, _, rfl⟩ := RR.len2 hl; rfl
  obtain ⟨f__law_pattern, fd__law_pattern, F__law_pattern, d__law_pattern, e__law_pattern⟩ := h__law_pattern.mk (ps := ["_law_row_here", "_law_letters_here"]) X G fun _ _ F => F.binds (ps := ["_law_row_here", "_law_letters_here"]) fun _ _ _ _ _ _ us hl => by obtain ⟨_, _, rfl⟩ := RR.len2 hl; rfl
  obtain ⟨f__law_letters, fd__law_letters, F__law_letters, d__law_letters, e__law_letters⟩ := h__law_letters.mk (ps := ["_law_pattern_here"]) X G fun _ _ F => F.binds (ps := ["_law_pattern_here"]) fun _ _ _ _ _ _ us hl => by obtain ⟨_, rfl⟩ := RR.len1 hl; rfl
  obtain ⟨f__law_template, fd__law_template, F__law_template, d__law_template, e__law_template⟩ := h__law_template.mk (ps := ["_law_row_here", "_law_known"]) X G fun _ _ F => F.binds (ps := ["_law_row_here", "_law_known"]) fun _ _ _ _ _ _ us hl => by obtain ⟨_, _, rfl⟩ := RR.len2 hl; rfl
  obtain ⟨f__law_rule, fd__law_rule, F__law_rule, d__law_rule, e__law_rule⟩ := h__law_rule.mk (ps := ["_law_row_here", "_law_name"]) X G fun _ _ F => F.binds (ps := ["_law_row_here", "_law_name"]) fun _ _ _ _ _ _ us hl => by obtain ⟨_, _, rfl⟩ := RR.len2 hl; rfl
  obtain ⟨f__law_rules, fd__law_rules, F__law_rules, d__law_rules, e__law_rules⟩ := h__law_rules.mk (ps := ["_law_row_here", "_law_wished"]) X G fun _ _ F => F.binds (ps := ["_law_row_here", "_law_wished"]) fun _ _ _ _ _ _ us hl => by obtain ⟨_, _, rfl⟩ := RR.len2 hl; rfl
  obtain ⟨f__law_thing, fd__law_thing, F__law_thing, d__law_thing, e__law_thing⟩ := h__law_thing.mk (ps := ["_law_row_here"]) X G fun _ _ F => F.binds (ps := ["_law_row_here"]) fun _ _ _ _ _ _ us hl => by obtain ⟨_, rfl⟩ := RR.len1 hl; rfl
  obtain ⟨f_is_word, fd_is_word, F_is_word, d_is_word, e_is_word⟩ := h_is_word.mk (ps := ["part"]) X G fun _ _ F => F.binds (ps := ["part"]) fun _ _ _ _ _ _ us hl => by obtain ⟨_, rfl⟩ := RR.len1 hl; rfl
  obtain ⟨f_is_number, fd_is_number, F_is_number, d_is_number, e_is_number⟩ := h_is_number.mk (ps := ["part", "low", "high"]) X G fun _ _ F => F.binds (ps := ["part", "low", "high"]) fun _ _ _ _ _ _ us hl => by obtain ⟨_, _, _, rfl⟩ := RR.len3 hl; rfl
  obtain ⟨f_is_worth, fd_is_worth, F_is_worth, d_is_worth, e_is_worth⟩ := h_is_worth.mk (ps := ["part"]) X G fun _ _ F => F.binds (ps := ["part"]) fun _ _ _ _ _ _ us hl => by obtain ⟨_, rfl⟩ := RR.len1 hl; rfl
  obtain ⟨f_is_blank, fd_is_blank, F_is_blank, d_is_blank, e_is_blank⟩ := h_is_blank.mk (ps := ["part"]) X G fun _ _ F => F.binds (ps := ["part"]) fun _ _ _ _ _ _ us hl => by obtain ⟨_, rfl⟩ := RR.len1 hl; rfl
  obtain ⟨f_is_pattern, fd_is_pattern, F_is_pattern, d_is_pattern, e_is_pattern⟩ := h_is_pattern.mk (ps := ["part"]) X G fun _ _ F => F.binds (ps := ["part"]) fun _ _ _ _ _ _ us hl => by obtain ⟨_, rfl⟩ := RR.len1 hl; rfl
  obtain ⟨f_is_side, fd_is_side, F_is_side, d_is_side, e_is_side⟩ := h_is_side.mk (ps := ["part", "known"]) X G fun _ _ F => F.binds (ps := ["part", "known"]) fun _ _ _ _ _ _ us hl => by obtain ⟨_, _, rfl⟩ := RR.len2 hl; rfl
  obtain ⟨f_is_want, fd_is_want, F_is_want, d_is_want, e_is_want⟩ := h_is_want.mk (ps := ["want", "known"]) X G fun _ _ F => F.binds (ps := ["want", "known"]) fun _ _ _ _ _ _ us hl => by obtain ⟨_, _, rfl⟩ := RR.len2 hl; rfl
  obtain ⟨f_blanks_of, fd_blanks_of, F_blanks_of, d_blanks_of, e_blanks_of⟩ := h_blanks_of.mk (ps := ["pattern"]) X G fun _ _ F => F.binds (ps := ["pattern"]) fun _ _ _ _ _ _ us hl => by obtain ⟨_, rfl⟩ := RR.len1 hl; rfl
  obtain ⟨f_is_template, fd_is_template, F_is_template, d_is_template, e_is_template⟩ := h_is_template.mk (ps := ["part", "known"]) X G fun _ _ F => F.binds (ps := ["part", "known"]) fun _ _ _ _ _ _ us hl => by obtain ⟨_, _, rfl⟩ := RR.len2 hl; rfl
  obtain ⟨f_is_deed, fd_is_deed, F_is_deed, d_is_deed, e_is_deed⟩ := h_is_deed.mk (ps := ["deed", "wants", "known"]) X G fun _ _ F => F.binds (ps := ["deed", "wants", "known"]) fun _ _ _ _ _ _ us hl => by obtain ⟨_, _, _, rfl⟩ := RR.len3 hl; rfl
  obtain ⟨f_bad_part, fd_bad_part, F_bad_part, d_bad_part, e_bad_part⟩ := h_bad_part.mk (ps := ["rule", "names"]) X G fun _ _ F => F.binds (ps := ["rule", "names"]) fun _ _ _ _ _ _ us hl => by obtain ⟨_, _, rfl⟩ := RR.len2 hl; rfl
  obtain ⟨f_need_rules, fd_need_rules, F_need_rules, d_need_rules, e_need_rules⟩ := h_need_rules.mk (ps := ["rules"]) X G fun _ _ F => F.binds (ps := ["rules"]) fun _ _ _ _ _ _ us hl => by obtain ⟨_, rfl⟩ := RR.len1 hl; rfl
  obtain ⟨f_is_thing, fd_is_thing, F_is_thing, d_is_thing, e_is_thing⟩ := h_is_thing.mk (ps := ["part"]) X G fun _ _ F => F.binds (ps := ["part"]) fun _ _ _ _ _ _ us hl => by obtain ⟨_, rfl⟩ := RR.len1 hl; rfl
  obtain ⟨f_need_things, fd_need_things, F_need_things, d_need_things, e_need_things⟩ := h_need_things.mk (ps := ["things"]) X G fun _ _ F => F.binds (ps := ["things"]) fun _ _ _ _ _ _ us hl => by obtain ⟨_, rfl⟩ := RR.len1 hl; rfl
  obtain ⟨f_part_text, fd_part_text, F_part_text, d_part_text, e_part_text⟩ := h_part_text.mk (ps := ["part"]) X G fun _ _ F => F.binds (ps := ["part"]) fun _ _ _ _ _ _ us hl => by obtain ⟨_, rfl⟩ := RR.len1 hl; rfl
  obtain ⟨f_written, fd_written, F_written, d_written, e_written⟩ := h_written.mk (ps := ["rules", "things"]) X G fun _ _ F => F.binds (ps := ["rules", "things"]) fun _ _ _ _ _ _ us hl => by obtain ⟨_, _, rfl⟩ := RR.len2 hl; rfl
  obtain ⟨f__law_spoilt, fd__law_spoilt, F__law_spoilt, d__law_spoilt, e__law_spoilt⟩ := h__law_spoilt.mk (ps := ["_law_row_here", "_law_rows"]) X G fun _ _ F => F.binds (ps := ["_law_row_here", "_law_rows"]) fun _ _ _ _ _ _ us hl => by obtain ⟨_, _, rfl⟩ := RR.len2 hl; rfl
  obtain ⟨f__law_number_of, fd__law_number_of, F__law_number_of, d__law_number_of, e__law_number_of⟩ := h__law_number_of.mk (ps := ["_law_word_here"]) X G fun _ _ F => F.binds (ps := ["_law_word_here"]) fun _ _ _ _ _ _ us hl => by obtain ⟨_, rfl⟩ := RR.len1 hl; rfl
  obtain ⟨f__law_part_of, fd__law_part_of, F__law_part_of, d__law_part_of, e__law_part_of⟩ := h__law_part_of.mk (ps := ["_law_word_here"]) X G fun _ _ F => F.binds (ps := ["_law_word_here"]) fun _ _ _ _ _ _ us hl => by obtain ⟨_, rfl⟩ := RR.len1 hl; rfl
  obtain ⟨f__law_more, fd__law_more, F__law_more, d__law_more, e__law_more⟩ := h__law_more.mk (ps := ["_law_rule_here", "_law_head", "_law_parts"]) X G fun _ _ F => F.binds (ps := ["_law_rule_here", "_law_head", "_law_parts"]) fun _ _ _ _ _ _ us hl => by obtain ⟨_, _, _, rfl⟩ := RR.len3 hl; rfl
  obtain ⟨f__law_read, fd__law_read, F__law_read, d__law_read, e__law_read⟩ := h__law_read.mk (ps := ["_law_text"]) X G fun _ _ F => F.binds (ps := ["_law_text"]) fun _ _ _ _ _ _ us hl => by obtain ⟨_, rfl⟩ := RR.len1 hl; rfl
  obtain ⟨f__law_alike, fd__law_alike, F__law_alike, d__law_alike, e__law_alike⟩ := h__law_alike.mk (ps := ["_law_found", "_law_due"]) X G fun _ _ F => F.binds (ps := ["_law_found", "_law_due"]) fun _ _ _ _ _ _ us hl => by obtain ⟨_, _, rfl⟩ := RR.len2 hl; rfl
  obtain ⟨f__law_word, fd__law_word, F__law_word, d__law_word, e__law_word⟩ := h__law_word.mk (ps := ["_law_work"]) X G fun _ _ F => F.binds (ps := ["_law_work"]) fun _ _ _ _ _ _ us hl => by obtain ⟨_, rfl⟩ := RR.len1 hl; rfl
  obtain ⟨f_number_of, fd_number_of, F_number_of, d_number_of, e_number_of⟩ := h_number_of.mk (ps := ["word"]) X G fun _ _ F => F.binds (ps := ["word"]) fun _ _ _ _ _ _ us hl => by obtain ⟨_, rfl⟩ := RR.len1 hl; rfl
  obtain ⟨f_part_of, fd_part_of, F_part_of, d_part_of, e_part_of⟩ := h_part_of.mk (ps := ["word"]) X G fun _ _ F => F.binds (ps := ["word"]) fun _ _ _ _ _ _ us hl => by obtain ⟨_, rfl⟩ := RR.len1 hl; rfl
  obtain ⟨f_read, fd_read, F_read, d_read, e_read⟩ := h_read.mk (ps := ["text"]) X G fun _ _ F => F.binds (ps := ["text"]) fun _ _ _ _ _ _ us hl => by obtain ⟨_, rfl⟩ := RR.len1 hl; rfl
  obtain ⟨f_law, fd_law, F_law, d_law, FC_law, e_law⟩ := h_law.mk (ps := ["_law_script"]) X G fun _ _ F => F.binds (ps := ["_law_script"]) fun _ _ _ _ _ _ us hl => by obtain ⟨_, rfl⟩ := RR.len1 hl; rfl
  obtain ⟨f_Reader___init__, fd_Reader___init__, F_Reader___init__, b_Reader___init__, m_Reader___init__⟩ := h_Reader___init__.mk (ps := ["self"]) fun _ _ F => F.binds (ps := ["self"]) fun _ _ _ _ _ _ us hl => by obtain ⟨_, rfl⟩ := RR.len1 hl; rfl
  obtain ⟨f_Reader_take_within, fd_Reader_take_within, F_Reader_take_within, b_Reader_take_within, m_Reader_take_within⟩ := h_Reader_take_within.mk (ps := ["self", "head", "parts"]) fun _ _ F => F.binds (ps := ["self", "head", "parts"]) fun _ _ _ _ _ _ us hl => by obtain ⟨_, _, _, rfl⟩ := RR.len3 hl; rfl
  obtain ⟨f_Reader_take, fd_Reader_take, F_Reader_take, b_Reader_take, m_Reader_take⟩ := h_Reader_take.mk (ps := ["self", "words"]) fun _ _ F => F.binds (ps := ["self", "words"]) fun _ _ _ _ _ _ us hl => by obtain ⟨_, _, rfl⟩ := RR.len2 hl; rfl
  obtain ⟨f_BadText___init__, fd_BadText___init__, F_BadText___init__, b_BadText___init__, m_BadText___init__⟩ := h_BadText___init__.mk (ps := ["self", "row"]) fun _ _ F => F.binds (ps := ["self", "row"]) fun _ _ _ _ _ _ us hl => by obtain ⟨_, _, rfl⟩ := RR.len2 hl; rfl
  obtain ⟨f_BadThing___init__, fd_BadThing___init__, F_BadThing___init__, b_BadThing___init__, m_BadThing___init__⟩ := h_BadThing___init__.mk (ps := ["self", "number"]) fun _ _ F => F.binds (ps := ["self", "number"]) fun _ _ _ _ _ _ us hl => by obtain ⟨_, _, rfl⟩ := RR.len2 hl; rfl
  obtain ⟨f_BadRules___init__, fd_BadRules___init__, F_BadRules___init__, b_BadRules___init__, m_BadRules___init__⟩ := h_BadRules___init__.mk (ps := ["self", "number", "part"]) fun _ _ F => F.binds (ps := ["self", "number", "part"]) fun _ _ _ _ _ _ us hl => by obtain ⟨_, _, _, rfl⟩ := RR.len3 hl; rfl
  have e := hfa.symm.trans d_law.mg
  cases e
  obtain ⟨kV, dc, pm, cd, ct, an, e⟩ := e_law
  let T : Pk K mg := {
    f__law_row := f__law_row, fd__law_row := fd__law_row, F__law_row := F__law_row, d__law_row := d__law_row,
    f__law_taken := f__law_taken, fd__law_taken := fd__law_taken, F__law_taken := F__law_taken, d__law_taken := d__law_taken,
    f__law_worth := f__law_worth, fd__law_worth := fd__law_worth, F__law_worth := F__law_worth, d__law_worth := d__law_worth,
    f__law_dense_rule := f__law_dense_rule, fd__law_dense_rule := fd__law_dense_rule, F__law_dense_rule := F__law_dense_rule, d__law_dense_rule := d__law_dense_rule,
    f__law_pattern := f__law_pattern, fd__law_pattern := fd__law_pattern, F__law_pattern := F__law_pattern, d__law_pattern := d__law_pattern,
    f__law_letters := f__law_letters, fd__law_letters := fd__law_letters, F__law_letters := F__law_letters, d__law_letters := d__law_letters,
    f__law_template := f__law_template, fd__law_template := fd__law_template, F__law_template := F__law_template, d__law_template := d__law_template,
    f__law_rule := f__law_rule, fd__law_rule := fd__law_rule, F__law_rule := F__law_rule, d__law_rule := d__law_rule,
    f__law_rules := f__law_rules, fd__law_rules := fd__law_rules, F__law_rules := F__law_rules, d__law_rules := d__law_rules,
    f__law_thing := f__law_thing, fd__law_thing := fd__law_thing, F__law_thing := F__law_thing, d__law_thing := d__law_thing,
    f_is_word := f_is_word, fd_is_word := fd_is_word, F_is_word := F_is_word, d_is_word := d_is_word,
    f_is_number := f_is_number, fd_is_number := fd_is_number, F_is_number := F_is_number, d_is_number := d_is_number,
    f_is_worth := f_is_worth, fd_is_worth := fd_is_worth, F_is_worth := F_is_worth, d_is_worth := d_is_worth,
    f_is_blank := f_is_blank, fd_is_blank := fd_is_blank, F_is_blank := F_is_blank, d_is_blank := d_is_blank,
    f_is_pattern := f_is_pattern, fd_is_pattern := fd_is_pattern, F_is_pattern := F_is_pattern, d_is_pattern := d_is_pattern,
    f_is_side := f_is_side, fd_is_side := fd_is_side, F_is_side := F_is_side, d_is_side := d_is_side,
    f_is_want := f_is_want, fd_is_want := fd_is_want, F_is_want := F_is_want, d_is_want := d_is_want,
    f_blanks_of := f_blanks_of, fd_blanks_of := fd_blanks_of, F_blanks_of := F_blanks_of, d_blanks_of := d_blanks_of,
    f_is_template := f_is_template, fd_is_template := fd_is_template, F_is_template := F_is_template, d_is_template := d_is_template,
    f_is_deed := f_is_deed, fd_is_deed := fd_is_deed, F_is_deed := F_is_deed, d_is_deed := d_is_deed,
    f_bad_part := f_bad_part, fd_bad_part := fd_bad_part, F_bad_part := F_bad_part, d_bad_part := d_bad_part,
    f_need_rules := f_need_rules, fd_need_rules := fd_need_rules, F_need_rules := F_need_rules, d_need_rules := d_need_rules,
    f_is_thing := f_is_thing, fd_is_thing := fd_is_thing, F_is_thing := F_is_thing, d_is_thing := d_is_thing,
    f_need_things := f_need_things, fd_need_things := fd_need_things, F_need_things := F_need_things, d_need_things := d_need_things,
    f_part_text := f_part_text, fd_part_text := fd_part_text, F_part_text := F_part_text, d_part_text := d_part_text,
    f_written := f_written, fd_written := fd_written, F_written := F_written, d_written := d_written,
    f__law_spoilt := f__law_spoilt, fd__law_spoilt := fd__law_spoilt, F__law_spoilt := F__law_spoilt, d__law_spoilt := d__law_spoilt,
    f__law_number_of := f__law_number_of, fd__law_number_of := fd__law_number_of, F__law_number_of := F__law_number_of, d__law_number_of := d__law_number_of,
    f__law_part_of := f__law_part_of, fd__law_part_of := fd__law_part_of, F__law_part_of := F__law_part_of, d__law_part_of := d__law_part_of,
    f__law_more := f__law_more, fd__law_more := fd__law_more, F__law_more := F__law_more, d__law_more := d__law_more,
    f__law_read := f__law_read, fd__law_read := fd__law_read, F__law_read := F__law_read, d__law_read := d__law_read,
    f__law_alike := f__law_alike, fd__law_alike := fd__law_alike, F__law_alike := F__law_alike, d__law_alike := d__law_alike,
    f__law_word := f__law_word, fd__law_word := fd__law_word, F__law_word := F__law_word, d__law_word := d__law_word,
    f_number_of := f_number_of, fd_number_of := fd_number_of, F_number_of := F_number_of, d_number_of := d_number_of,
    f_part_of := f_part_of, fd_part_of := fd_part_of, F_part_of := F_part_of, d_part_of := d_part_of,
    f_read := f_read, fd_read := fd_read, F_read := F_read, d_read := d_read,
    f_law := fa, fd_law := fd_law, F_law := F_law, d_law := d_law,
    f_Reader___init__ := f_Reader___init__, fd_Reader___init__ := fd_Reader___init__, F_Reader___init__ := F_Reader___init__, b_Reader___init__ := b_Reader___init__,
    f_Reader_take_within := f_Reader_take_within, fd_Reader_take_within := fd_Reader_take_within, F_Reader_take_within := F_Reader_take_within, b_Reader_take_within := b_Reader_take_within,
    f_Reader_take := f_Reader_take, fd_Reader_take := fd_Reader_take, F_Reader_take := F_Reader_take, b_Reader_take := b_Reader_take,
    f_BadText___init__ := f_BadText___init__, fd_BadText___init__ := fd_BadText___init__, F_BadText___init__ := F_BadText___init__, b_BadText___init__ := b_BadText___init__,
    f_BadThing___init__ := f_BadThing___init__, fd_BadThing___init__ := fd_BadThing___init__, F_BadThing___init__ := F_BadThing___init__, b_BadThing___init__ := b_BadThing___init__,
    f_BadRules___init__ := f_BadRules___init__, fd_BadRules___init__ := fd_BadRules___init__, F_BadRules___init__ := F_BadRules___init__, b_BadRules___init__ := b_BadRules___init__,
    c_law := c_law, P_law := P_law, FC_law := FC_law,
    C_Reader := C_Reader, cls_Reader := cf_Reader.cl,
    na_Reader_rules := h_na_Reader_rules,
    na_Reader_some := h_na_Reader_some,
    m_Reader_take_within := m_Reader_take_within,
    m_Reader_take := m_Reader_take,
    mk_Reader := ⟨cf_Reader.mks, m_Reader___init__.at_, m_Reader___init__.fn, cf_Reader.kp⟩,
    mgc_Reader := PySem.W.mg_of X G aC_Reader,
    X_BadThing := X_BadThing, xm_BadThing := PySem.W.mg_of X G aX_BadThing,
    X_BadRules := X_BadRules, xm_BadRules := PySem.W.mg_of X G aX_BadRules,
    X_BadCount := X_BadCount, xm_BadCount := PySem.W.mg_of X G aX_BadCount,
    X_NotThere := X_NotThere, xm_NotThere := PySem.W.mg_of X G aX_NotThere,
    X_NoRule := X_NoRule, xm_NoRule := PySem.W.mg_of X G aX_NoRule,
    X_BadDeed := X_BadDeed, xm_BadDeed := PySem.W.mg_of X G aX_BadDeed,
    X_Halted := X_Halted, xm_Halted := PySem.W.mg_of X G aX_Halted,
    X_BadText := X_BadText, xm_BadText := PySem.W.mg_of X G aX_BadText,
    X_RoomError := X_RoomError, xm_RoomError := PySem.W.mg_of X G aX_RoomError,
    xt_RoomError := xt_RoomError,
    xf_BadText := xf_BadText,
    xf_BadThing := xf_BadThing,
    xf_BadRules := xf_BadRules,
    xk_BadText := xk_BadText,
    xk_BadThing := xk_BadThing,
    xk_BadRules := xk_BadRules,
    mx_BadText___init__ := m_BadText___init__, xi_BadText___init__ := xi_BadText___init__ _ m_BadText___init__.fn,
    mx_BadThing___init__ := m_BadThing___init__, xi_BadThing___init__ := xi_BadThing___init__ _ m_BadThing___init__.fn,
    mx_BadRules___init__ := m_BadRules___init__, xi_BadRules___init__ := xi_BadRules___init__ _ m_BadRules___init__.fn,
    n_len := PySem.W.mg_none_of X G h_len,
    n_range := PySem.W.mg_none_of X G h_range,
    n_tuple := PySem.W.mg_none_of X G h_tuple,
    n_isinstance := PySem.W.mg_none_of X G h_isinstance,
    n_str := PySem.W.mg_none_of X G h_str,
    n_all := PySem.W.mg_none_of X G h_all,
    n_int := PySem.W.mg_none_of X G h_int,
    n_bool := PySem.W.mg_none_of X G h_bool,
    n_enumerate := PySem.W.mg_none_of X G h_enumerate,
    n_list := PySem.W.mg_none_of X G h_list,
    n_ValueError := PySem.W.mg_none_of X G h_ValueError,
    c_MOST_LETTERS := h_MOST_LETTERS.mk X G,
    c_SMALL := h_SMALL.mk X G,
    c_MOST_NUMBER := h_MOST_NUMBER.mk X G,
    c_GREAT := h_GREAT.mk X G,
    c_MOST_PARTS := h_MOST_PARTS.mk X G,
    c_ANY := h_ANY.mk X G,
    c_NOT := h_NOT.mk X G,
    c_IS := h_IS.mk X G,
    c_TESTS := h_TESTS.mk X G,
    c_TAKE := h_TAKE.mk X G,
    c_TELLERS := h_TELLERS.mk X G,
    c_MOST_RANK := h_MOST_RANK.mk X G,
    c_MOST_WANTS := h_MOST_WANTS.mk X G,
    c_MOST_DEEDS := h_MOST_DEEDS.mk X G,
    c_MOST_RULES := h_MOST_RULES.mk X G,
    c_MOST_THINGS := h_MOST_THINGS.mk X G,
    c_RULE := h_RULE.mk X G,
    c_THING := h_THING.mk X G,
    c_MOST_FIGURES := h_MOST_FIGURES.mk X G,
    c_FIGURES := h_FIGURES.mk X G }
  exact ⟨fd_law, fun s v => by rw [e]; exact .of_eq rfl, PySem.W.codeHd_of_K X t_law, fun base _ _ TB_law => ok_law T TB_law⟩
end RR
open PySem PySem.W PyProof.Rows
theorem PySem.Challenge.cw_ruleroom_k20_any_text_read_holds : PySem.Challenge.rw_ruleroom_k20_any_text_read.Holds :=
  RR.top_holds @RR.all_mk
