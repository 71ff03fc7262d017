import PyProof.Rows.All
import Wide.All
import OpenK.AllK
import Wide.FinOn
import HandS.ForMost
import HandS.IsInst
import HandS.Zip
import HandS.Deep
import HandS.TupAny
import HandS.Wide
import HandS.SetKeys
import HandS.Style
import HandS.TupMul
import HandS.DictComp
import HandS.StrMore
import HandS.StrSplit
import HandS.NoneIn
import KE.GoesMore
import HandS.SortOrd
import HandS.SortInts
import HandS.SortRule
import KE.SortData
import KE.KDictKeyed
import KE.KDictWalk
import HandS.DictTup
import PyProof.Draws
import HandS.Lambda
import HandS.RaiseMore
import KE.KUnpackStar
import KE.KDictSum
import KE.KDictItemsList
import HandS.SortKw
import KE.KEqDict
import HandS.Conv
import KE.KMinKey
import KE.DataCmp
import HandS.Nested
import HandS.Defaults
import HandS.Strs
import HandS.WordsExc
import HandS.ExcOwn
import HandS.ExcInit
import HandS.ClsMeth
import HandS.FStr
import HandS.ExcField
import HandS.ExcIs
import KE.KExcIs
import HandS.SetFor
import HandS.FltList
import KE.KDflt
import HandS.CallSlots
import HandS.Finally
import KE.KDictCopyH
import KE.KDictOf
import PyProof.ExcBaseAll.ValueError
import HandS.RaiseFrom
import HandS.SuiteRaise
import HandS.ExcInitHot
import HandS.Small
import HandS.TupSets
import PySem.Challenge.RW_ruleroom_k25_whole_wants_told_otherwise
import HandS.MakeKwOnly
import HandS.Head2
set_option Elab.async false
set_option linter.all false
set_option maxRecDepth 100000
set_option maxHeartbeats 4000000
namespace DL
open PySem PySem.Spec L2
open PyProof.Rows hiding St
/-- a value with all that it holds -/
inductive D where
  | non | bl (b : Bool) | int (i : Int) | str (x : Str) | tup (ds : List D) | lst (ds : List D) | dct (kvs : List (Key × D)) | ref (a : Addr) | ty (n : String)
section
variable (K : PySem.W.Frag) (G : Hp)
mutual
/-- v stands for d, by what stays in G -/
inductive Rp : D → V → Prop
  | non : Rp .non .non
  | bl (b : Bool) : Rp (.bl b) (.bl b)
  | int (i : Int) : Rp (.int i) (.int i)
  | str (x : Str) : Rp (.str x) (.str x)
  | ref (a : Addr) : Rp (.ref a) (.ref a)
  | ty (n : String) : Rp (.ty n) (.ty n)
  | tup {ds : List D} {a : Addr} {xs : List V} : SqT K G a xs → RpL ds xs → Rp (.tup ds) (.ref a)
  | lst {ds : List D} {a : Addr} {xs : List V} : Rd G a (.lst xs) → RpL ds xs → Rp (.lst ds) (.ref a)
  | dct {kvs : List (Key × D)} {a : Addr} {o : Obj} {ks : List (Key × V)} : G a = some (.frz o (.dK ks)) → RpK kvs ks → Rp (.dct kvs) (.ref a)
inductive RpL : List D → List V → Prop
  | nil : RpL [] []
  | cons {d : D} {ds : List D} {v : V} {vs : List V} : Rp d v → RpL ds vs → RpL (d :: ds) (v :: vs)
inductive RpK : List (Key × D) → List (Key × V) → Prop
  | nil : RpK [] []
  | cons {k : Key} {d : D} {ds : List (Key × D)} {v : V} {vs : List (Key × V)} : Rp d v → RpK ds vs → RpK ((k, d) :: ds) ((k, v) :: vs)
end
end
theorem rd_mono {H H' : Hp} {a : Addr} {u : HO} (e : Same H H') (h : Rd H a u) : Rd H' a u := by
  rcases h with h | ⟨o, h⟩
  · exact .inl (e _ _ h)
  · exact .inr ⟨o, e _ _ h⟩
theorem sqT_mono {K : PySem.W.Frag} {H H' : Hp} {a : Addr} {xs : List V} (e : Same H H') (h : SqT K H a xs) : SqT K H' a xs := by
  rcases h with (h | ⟨o, h⟩) | h
  · exact .inl (.inl (e _ _ h))
  · exact .inl (.inr ⟨o, e _ _ h⟩)
  · exact .inr h
section
variable {K : PySem.W.Frag} {G G' : Hp}
mutual
theorem Rp.mono (s : Same G G') : ∀ {d : D} {v : V}, Rp K G d v → Rp K G' d v
  | _, _, .non => .non
  | _, _, .bl b => .bl b
  | _, _, .int i => .int i
  | _, _, .str x => .str x
  | _, _, .ref a => .ref a
  | _, _, .ty n => .ty n
  | _, _, .tup h r => .tup (sqT_mono s h) (RpL.mono s r)
  | _, _, .lst h r => .lst (rd_mono s h) (RpL.mono s r)
  | _, _, .dct h r => .dct (s _ _ h) (RpK.mono s r)
theorem RpL.mono (s : Same G G') : ∀ {d : List D} {v : List V}, RpL K G d v → RpL K G' d v
  | _, _, .nil => .nil
  | _, _, .cons a b => .cons (Rp.mono s a) (RpL.mono s b)
theorem RpK.mono (s : Same G G') : ∀ {d : List (Key × D)} {v : List (Key × V)}, RpK K G d v → RpK K G' d v
  | _, _, .nil => .nil
  | _, _, .cons a b => .cons (Rp.mono s a) (RpK.mono s b)
end
end
section
variable {K : PySem.W.Frag} {G : Hp}
theorem RpL.length : ∀ {ds : List D} {vs : List V}, RpL K G ds vs → ds.length = vs.length
  | _, _, .nil => rfl
  | _, _, .cons _ t => congrArg (· + 1) (RpL.length t)
theorem RpL.get : ∀ {ds : List D} {vs : List V} {i : Nat} {v : V}, RpL K G ds vs → vs[i]? = some v → ∃ d, ds[i]? = some d ∧ Rp K G d v
  | _, _, i, v, .nil, e => by simp at e
  | _, _, 0, v, .cons r _, e => by simp at e; subst e; exact ⟨_, rfl, r⟩
  | _, _, i + 1, v, .cons _ t, e => by
    obtain ⟨d, h1, h2⟩ := RpL.get (i := i) t (by simpa using e)
    exact ⟨d, by simpa using h1, h2⟩
theorem RpL.getD : ∀ {ds : List D} {vs : List V} {i : Nat} {d : D}, RpL K G ds vs → ds[i]? = some d → ∃ v, vs[i]? = some v ∧ Rp K G d v
  | _, _, i, v, .nil, e => by simp at e
  | _, _, 0, v, .cons r _, e => by simp at e; subst e; exact ⟨_, rfl, r⟩
  | _, _, i + 1, v, .cons _ t, e => by
    obtain ⟨d, h1, h2⟩ := RpL.getD (i := i) t (by simpa using e)
    exact ⟨d, by simpa using h1, h2⟩
theorem RpL.append : ∀ {ds es : List D} {vs us : List V}, RpL K G ds vs → RpL K G es us → RpL K G (ds ++ es) (vs ++ us)
  | _, _, _, _, .nil, s => s
  | _, _, _, _, .cons r t, s => .cons r (RpL.append t s)
theorem RpL.take : ∀ {ds : List D} {vs : List V} (n : Nat), RpL K G ds vs → RpL K G (ds.take n) (vs.take n)
  | _, _, 0, _ => .nil
  | _, _, _ + 1, .nil => .nil
  | _, _, n + 1, .cons r t => .cons r (RpL.take n t)
theorem RpL.drop : ∀ {ds : List D} {vs : List V} (n : Nat), RpL K G ds vs → RpL K G (ds.drop n) (vs.drop n)
  | _, _, 0, r => r
  | _, _, _ + 1, .nil => .nil
  | _, _, n + 1, .cons _ t => RpL.drop n t
theorem RpL.set {d : D} {v : V} (q : Rp K G d v) : ∀ {ds : List D} {vs : List V} (n : Nat), RpL K G ds vs → RpL K G (ds.set n d) (vs.set n v)
  | _, _, _, .nil => .nil
  | _, _, 0, .cons _ t => .cons q t
  | _, _, n + 1, .cons r t => .cons r (RpL.set q n t)
theorem RpL.dropLast : ∀ {ds : List D} {vs : List V}, RpL K G ds vs → RpL K G ds.dropLast vs.dropLast := fun {ds vs} r => by
  rw [List.dropLast_eq_take, List.dropLast_eq_take, r.length]
  exact r.take _
theorem RpK.length : ∀ {ds : List (Key × D)} {vs : List (Key × V)}, RpK K G ds vs → ds.length = vs.length
  | _, _, .nil => rfl
  | _, _, .cons _ t => congrArg (· + 1) (RpK.length t)
end
abbrev DSt := List (Option D)
inductive RpS (K : PySem.W.Frag) (G : Hp) : DSt → St → Prop
  | nil : RpS K G [] []
  | some {d : D} {ds : DSt} {v : V} {vs : St} : Rp K G d v → RpS K G ds vs → RpS K G (some d :: ds) (some v :: vs)
  | none {ds : DSt} {o : Option V} {vs : St} : RpS K G ds vs → RpS K G (none :: ds) (o :: vs)
section
variable {K : PySem.W.Frag} {G G' : Hp}
theorem RpS.mono (s : Same G G') : ∀ {δ : DSt} {σ : St}, RpS K G δ σ → RpS K G' δ σ
  | _, _, .nil => .nil
  | _, _, .some a b => .some (a.mono s) (RpS.mono s b)
  | _, _, .none b => .none (RpS.mono s b)
theorem RpS.get : ∀ {δ : DSt} {σ : St} {i : Nat} {d : D}, RpS K G δ σ → δ[i]? = Option.some (Option.some d) → ∃ v, σ[i]? = Option.some (Option.some v) ∧ Rp K G d v
  | _, _, i, d, .nil, e => by simp at e
  | _, _, 0, d, .some r _, e => by simp at e; subst e; exact ⟨_, rfl, r⟩
  | _, _, 0, d, .none _, e => by simp at e
  | _, _, i + 1, d, .some _ t, e => by
    obtain ⟨v, h1, h2⟩ := RpS.get (i := i) t (by simpa using e)
    exact ⟨v, by simpa using h1, h2⟩
  | _, _, i + 1, d, .none t, e => by
    obtain ⟨v, h1, h2⟩ := RpS.get (i := i) t (by simpa using e)
    exact ⟨v, by simpa using h1, h2⟩
theorem RpS.set {d : D} {v : V} (q : Rp K G d v) : ∀ {δ : DSt} {σ : St} (i : Nat), RpS K G δ σ → RpS K G (δ.set i (Option.some d)) (σ.set i (Option.some v))
  | _, _, _, .nil => .nil
  | _, _, 0, .some _ t => .some q t
  | _, _, 0, .none t => .some q t
  | _, _, i + 1, .some r t => .some r (RpS.set q i t)
  | _, _, i + 1, .none t => .none (RpS.set q i t)
theorem RpS.start : ∀ {ds : List D} {vs : List V}, RpL K G ds vs → ∀ n, RpS K G (ds.map Option.some ++ List.replicate n Option.none) (vs.map Option.some ++ List.replicate n Option.none)
  | _, _, .nil, 0 => .nil
  | _, _, .nil, n + 1 => .none (RpS.start .nil n)
  | _, _, .cons r t, n => .some r (RpS.start t n)
end
inductive Cell where
  | lst (ds : List D) | dct (kvs : List (Key × D)) | dcn (kvs : List (D × D)) | ins (C : Addr) (fs : List (Str × D)) | lck (o : Obj) (c : Cell) | tab (q : Str) | fn (o : Obj) (gs : List (Addr × HO))
abbrev Cells := Addr → Option Cell
def updC (C : Cells) (a : Addr) (c : Cell) : Cells := fun b => if b = a then some c else C b
def delC (C : Cells) (a : Addr) : Cells := fun b => if b = a then none else C b
theorem updC_same {C : Cells} {a : Addr} {c : Cell} : updC C a c a = some c := if_pos rfl
theorem updC_ne {C : Cells} {a b : Addr} {c : Cell} (h : b ≠ a) : updC C a c b = C b := if_neg h
theorem updC_upd {C : Cells} {a : Addr} {c d : Cell} : updC (updC C a c) a d = updC C a d := by
  funext b; unfold updC; split <;> rfl
theorem delC_upd {C : Cells} {a : Addr} {c : Cell} (h : C a = none) : delC (updC C a c) a = C := by
  funext b; unfold updC delC; split
  · rename_i e; rw [e, h]
  · rename_i e; exact if_neg e
inductive RpF (K : PySem.W.Frag) (G : Hp) : List (Str × D) → List (Str × V) → Prop
  | nil : RpF K G [] []
  | cons {f : Str} {d : D} {ds : List (Str × D)} {v : V} {vs : List (Str × V)} : Rp K G d v → RpF K G ds vs → RpF K G ((f, d) :: ds) ((f, v) :: vs)
theorem RpF.mono {K : PySem.W.Frag} {G G' : Hp} (s : Same G G') : ∀ {δ : List (Str × D)} {σ : List (Str × V)}, RpF K G δ σ → RpF K G' δ σ
  | _, _, .nil => .nil
  | _, _, .cons a b => .cons (a.mono s) (RpF.mono s b)
mutual
/-- the key, of the kit's kind -/
def nkD : D → NestedKey
  | .int i => .num i
  | .tup ds => .tup (nkL ds)
  | _ => .none
def nkL : List D → List NestedKey
  | [] => []
  | d :: ds => nkD d :: nkL ds
end
/-- a whole number, or a tuple of such, at most n deep -/
def isNk : Nat → D → Bool
  | _, .int _ => true
  | n + 1, .tup ds => ds.all (isNk n)
  | _, _ => false
/-- a key of such a dict -/
def isTk (d : D) : Bool := match d with
  | .tup _ => isNk 8 d
  | _ => false
mutual
/-- the hash of a key without texts -/
def hI : NestedKey → Int
  | .none => reduceHash 0xFCA86420
  | .num i => hashInt i
  | .text _ => 0
  | .tup ks => reduceHash (Builtin.Tuple.tupleHashOf (hIs ks))
def hIs : List NestedKey → List Int
  | [] => []
  | k :: ks => hI k :: hIs ks
end
def entK (x : NestedKey × Addr × Value) : DictEntry := ⟨hI x.1, .ref x.2.1, x.2.2⟩
/-- at a stands a dict with these entries -/
def isKeyed (a : Addr) (xs : List (NestedKey × Addr × Value)) : Heap → Prop := fun h => ∃ o es ep, h.get? a = some o ∧ o.ExactDict ∧ o.data = .dict es ep ∧ es.toList = xs.map entK ∧ (xs.map (·.1)).Nodup ∧ (a == sysModules) = false ∧ xs.length ≤ sizeLine
/-- entries by data -/
inductive RpN (K : PySem.W.Frag) (G : Hp) : List (D × D) → List (NestedKey × Addr × Value) → Prop
  | nil : RpN K G [] []
  | cons {k d : D} {kvs : List (D × D)} {p : Addr} {v : V} {u : Value} {xs : List (NestedKey × Addr × Value)} : isTk k = true → Rp K G k (.ref p) → Rp K G d v → RelV v u → RpN K G kvs xs → RpN K G ((k, d) :: kvs) ((nkD k, p, u) :: xs)
theorem RpN.mono {K : PySem.W.Frag} {G G' : Hp} (s : Same G G') : ∀ {δ : List (D × D)} {σ : List (NestedKey × Addr × Value)}, RpN K G δ σ → RpN K G' δ σ
  | _, _, .nil => .nil
  | _, _, .cons a b c d e => .cons a (b.mono s) (c.mono s) d (RpN.mono s e)
theorem RpN.length {K : PySem.W.Frag} {G : Hp} : ∀ {δ : List (D × D)} {σ : List (NestedKey × Addr × Value)}, RpN K G δ σ → δ.length = σ.length
  | _, _, .nil => rfl
  | _, _, .cons _ _ _ _ e => congrArg (· + 1) (RpN.length e)
/-- what stands at a in the abstract heap for a cell -/
inductive HoOk (K : PySem.W.Frag) (G : Hp) : Addr → Cell → HO → Prop
  | lst {a : Addr} {ds : List D} {xs : List V} : RpL K G ds xs → HoOk K G a (.lst ds) (.lst xs)
  | dct {a : Addr} {kvs : List (Key × D)} {ks : List (Key × V)} : RpK K G kvs ks → HoOk K G a (.dct kvs) (.dK ks)
  | ins {a C dx : Addr} {fs : List (Str × D)} {gs : List (Str × V)} : RpF K G fs gs → HoOk K G a (.ins C fs) (.ins C dx gs)
  | lck {a : Addr} {o : Obj} {c : Cell} {u : HO} : HoOk K G a c u → HoOk K G a (.lck o c) (.frz o u)
  | dcn {a : Addr} {kvs : List (D × D)} {xs : List (NestedKey × Addr × Value)} : RpN K G kvs xs → HoOk K G a (.dcn kvs) (.ext (isKeyed a xs))
  /-- a def's table of code objects, all of one name -/
  | tab {a : Addr} {q : Str} {ps : Array Value} : TriplesOk ps.toList → (∀ (pos : Pos) (cv : Value), codeAmong pos ps.toList = some cv → ∃ c, cv = .ref c ∧ G c = some (LamX.CodeO c q)) → HoOk K G a (.tab q) (.tbl ps)
  /-- a function, and what stays that it leans on -/
  | fn {a : Addr} {o : Obj} {gs : List (Addr × HO)} : (∀ p ∈ gs, G p.1 = some p.2) → HoOk K G a (.fn o gs) (.ext fun h => h.get? a = some o)
theorem HoOk.mono {K : PySem.W.Frag} {G G' : Hp} (s : Same G G') : ∀ {a : Addr} {c : Cell} {u : HO}, HoOk K G a c u → HoOk K G' a c u
  | _, _, _, .lst r => .lst (r.mono s)
  | _, _, _, .dct r => .dct (r.mono s)
  | _, _, _, .ins r => .ins (r.mono s)
  | _, _, _, .lck r => .lck (HoOk.mono s r)
  | _, _, _, .dcn r => .dcn (r.mono s)
  | _, _, _, .tab h r => .tab h fun pos cv e => by
    obtain ⟨c, h1, h2⟩ := r pos cv e
    exact ⟨c, h1, s _ _ h2⟩
  | _, _, _, .fn h => .fn fun p hp => s _ _ (h p hp)
/-- the heap: what stays (G) and the cells -/
structure Ab (K : PySem.W.Frag) (F : Cells) (G H : Hp) (C : Cells) : Prop where
  sub : Same G H
  cell : ∀ a c, C a = some c → G a = none ∧ ∃ u, H a = some u ∧ HoOk K G a c u
  fr : ∀ a c, F a = some c → C a = none ∧ G a = none ∧ ∃ u, H a = some u ∧ HoOk K G a c u
section
variable {K : PySem.W.Frag} {G G' H H' : Hp} {F C C' : Cells} {a p : Addr} {c : Cell} {u : HO}
theorem Ab.free (A : Ab K F G H C) (h : H p = none) : C p = none := by
  cases e : C p with
  | none => rfl
  | some c =>
    obtain ⟨_, u, e2, _⟩ := A.cell p c e
    rw [h] at e2; cases e2
theorem Ab.freeF (A : Ab K F G H C) (h : H p = none) : F p = none := by
  cases e : F p with
  | none => rfl
  | some c =>
    obtain ⟨_, _, u, e2, _⟩ := A.fr p c e
    rw [h] at e2; cases e2
theorem Ab.noF {c : Cell} (A : Ab K F G H C) (h : C p = some c) : F p = none := by
  cases e : F p with
  | none => rfl
  | some c' =>
    obtain ⟨e2, _⟩ := A.fr p c' e
    rw [h] at e2; cases e2
theorem Ab.freeG (A : Ab K F G H C) (h : H p = none) : G p = none := A.sub.free h
theorem same_upd (hG : G p = none) : Same G (upd G p u) := fun b o e => by rw [upd_ne (ne_of_none e hG)]; exact e
/-- a new thing that stays -/
theorem Ab.grow (A : Ab K F G H C) (h : H p = none) : Ab K F (upd G p u) (upd H p u) C ∧ Same G (upd G p u) := by
  have hG := A.freeG h
  have sm : Same G (upd G p u) := same_upd hG
  refine ⟨⟨fun b o e => ?_, fun b c e => ?_, fun b c e => ?_⟩, sm⟩
  · by_cases hb : b = p
    · subst hb; rw [upd_same] at e; rw [upd_same]; exact e
    · rw [upd_ne hb] at e; rw [upd_ne hb]; exact A.sub b o e
  · obtain ⟨h1, v, h2, h3⟩ := A.cell b c e
    have hb : b ≠ p := ne_of_none h2 h
    exact ⟨by rw [upd_ne hb]; exact h1, v, by rw [upd_ne hb]; exact h2, h3.mono sm⟩
  · obtain ⟨h0, h1, v, h2, h3⟩ := A.fr b c e
    have hb : b ≠ p := ne_of_none h2 h
    exact ⟨h0, by rw [upd_ne hb]; exact h1, v, by rw [upd_ne hb]; exact h2, h3.mono sm⟩
/-- a cell put -/
theorem Ab.put (A : Ab K F G H C) (hG : G p = none) (hF : F p = none) (ok : HoOk K G p c u) : Ab K F G (upd H p u) (updC C p c) := by
  refine ⟨fun b o e => ?_, fun b d e => ?_, fun b d e => ?_⟩
  · rw [upd_ne (ne_of_none e hG)]; exact A.sub b o e
  · by_cases hb : b = p
    · subst hb; rw [updC_same] at e; cases e
      exact ⟨hG, u, upd_same, ok⟩
    · rw [updC_ne hb] at e
      obtain ⟨h1, v, h2, h3⟩ := A.cell b d e
      exact ⟨h1, v, by rw [upd_ne hb]; exact h2, h3⟩
  · obtain ⟨h0, h1, v, h2, h3⟩ := A.fr b d e
    have hb : b ≠ p := by rintro rfl; rw [hF] at e; cases e
    exact ⟨by rw [updC_ne hb]; exact h0, h1, v, by rw [upd_ne hb]; exact h2, h3⟩
/-- a new cell -/
theorem Ab.cellNew (A : Ab K F G H C) (h : H p = none) (ok : HoOk K G p c u) : Ab K F G (upd H p u) (updC C p c) := A.put (A.freeG h) (A.freeF h) ok
/-- a cell written -/
theorem Ab.write {c0 : Cell} (A : Ab K F G H C) (h : C p = some c0) (ok : HoOk K G p c u) : Ab K F G (upd H p u) (updC C p c) := A.put (A.cell p c0 h).1 (A.noF h) ok
/-- a cell is let go: it stays from now on as it is -/
theorem Ab.freeze (A : Ab K F G H C) (h : C p = some c) : ∃ u, H p = some u ∧ HoOk K G p c u ∧ Same G (upd G p u) ∧ Ab K F (upd G p u) H (delC C p) := by
  obtain ⟨hG, u, hH, ok⟩ := A.cell p c h
  have hF := A.noF h
  have sm : Same G (upd G p u) := same_upd hG
  refine ⟨u, hH, ok, sm, ⟨fun b o e => ?_, fun b d e => ?_, fun b d e => ?_⟩⟩
  · by_cases hb : b = p
    · subst hb; rw [upd_same] at e; cases e; exact hH
    · rw [upd_ne hb] at e; exact A.sub b o e
  · have hb : b ≠ p := by
      rintro rfl
      unfold delC at e; rw [if_pos rfl] at e; cases e
    unfold delC at e; rw [if_neg hb] at e
    obtain ⟨h1, v, h2, h3⟩ := A.cell b d e
    exact ⟨by rw [upd_ne hb]; exact h1, v, h2, h3.mono sm⟩
  · obtain ⟨h0, h1, v, h2, h3⟩ := A.fr b d e
    have hb : b ≠ p := by rintro rfl; rw [hF] at e; cases e
    exact ⟨by unfold delC; rw [if_neg hb]; exact h0, by rw [upd_ne hb]; exact h1, v, h2, h3.mono sm⟩
/-- a cell is forgotten -/
theorem Ab.less (A : Ab K F G H C) (h : ∀ a c, C' a = some c → C a = some c) : Ab K F G H C' := ⟨A.sub, fun b c e => A.cell b c (h b c e), fun b c e => by
  obtain ⟨h0, h1⟩ := A.fr b c e
  refine ⟨?_, h1⟩
  cases q : C' b with
  | none => rfl
  | some c' => rw [h b c' q] at h0; cases h0⟩
/-- a cell goes into the frame -/
theorem Ab.hide (A : Ab K F G H C) (h : C p = some c) : Ab K (updC F p c) G H (delC C p) := by
  refine ⟨A.sub, fun b d e => ?_, fun b d e => ?_⟩
  · unfold delC at e
    by_cases hb : b = p
    · rw [if_pos hb] at e; cases e
    · rw [if_neg hb] at e; exact A.cell b d e
  · by_cases hb : b = p
    · subst hb
      rw [updC_same] at e; cases e
      obtain ⟨h1, h2⟩ := A.cell _ _ h
      exact ⟨if_pos rfl, h1, h2⟩
    · rw [updC_ne hb] at e
      obtain ⟨h0, h1⟩ := A.fr b d e
      exact ⟨by unfold delC; rw [if_neg hb]; exact h0, h1⟩
/-- .. and comes back -/
theorem Ab.show (A : Ab K (updC F p c) G H C) (h : F p = none) : Ab K F G H (updC C p c) ∧ C p = none := by
  obtain ⟨e0, e1, u, e2, e3⟩ := A.fr p c updC_same
  refine ⟨⟨A.sub, fun b d e => ?_, fun b d e => ?_⟩, e0⟩
  · by_cases hb : b = p
    · subst hb; rw [updC_same] at e; cases e
      exact ⟨e1, u, e2, e3⟩
    · rw [updC_ne hb] at e; exact A.cell b d e
  · have hb : b ≠ p := by rintro rfl; rw [h] at e; cases e
    obtain ⟨h0, h1⟩ := A.fr b d (by rw [updC_ne hb]; exact e)
    exact ⟨by rw [updC_ne hb]; exact h0, h1⟩
end
abbrev DE := DSt → Cells → (D → Cells → Prop) → Prop
abbrev DT := DSt → Cells → (Bool → Cells → Prop) → Prop
abbrev DA := DSt → Cells → (List D → Cells → Prop) → Prop
structure DEnds where
  nx : DSt → Cells → Prop
  rt : D → Cells → Prop
  bk : DSt → Cells → Prop := fun _ _ => False
  ct : DSt → Cells → Prop := fun _ _ => False
abbrev DS := DEnds → DSt → Cells → Prop
section
variable (K : PySem.W.Frag)
def ToE (F : Cells) (G : Hp) (R : D → Cells → Prop) (Q : VK) : Prop := ∀ d C, R d C → ∀ v H' G', Same G G' → Ab K F G' H' C → Rp K G' d v → Q v H'
def ToT (F : Cells) (G : Hp) (R : Bool → Cells → Prop) (Q : Bool → Hp → Prop) : Prop := ∀ b C, R b C → ∀ H' G', Same G G' → Ab K F G' H' C → Q b H'
def ToA (F : Cells) (G : Hp) (R : List D → Cells → Prop) (Q : List V → Hp → Prop) : Prop := ∀ ds C, R ds C → ∀ vs H' G', Same G G' → Ab K F G' H' C → RpL K G' ds vs → Q vs H'
def ToN (F : Cells) (G : Hp) (R : DSt → Cells → Prop) (Q : St → Hp → Prop) : Prop := ∀ δ C, R δ C → ∀ σ H' G', Same G G' → Ab K F G' H' C → RpS K G' δ σ → Q σ H'
structure ToS (F : Cells) (G : Hp) (R : DEnds) (N : Ends) : Prop where
  nx : ToN K F G R.nx N.nx
  rt : ToE K F G R.rt N.rt
  bk : ToN K F G R.bk N.bk
  ct : ToN K F G R.ct N.ct
def liftE (t : DE) : TE := fun σ H Q => ∃ F G δ C R, Ab K F G H C ∧ RpS K G δ σ ∧ t δ C R ∧ ToE K F G R Q
def liftT (t : DT) : TT := fun σ H Q => ∃ F G δ C R, Ab K F G H C ∧ RpS K G δ σ ∧ t δ C R ∧ ToT K F G R Q
def liftA (t : DA) : TA := fun σ H Q => ∃ F G δ C R, Ab K F G H C ∧ RpS K G δ σ ∧ t δ C R ∧ ToA K F G R Q
def liftS (t : DS) : TS := fun N σ H => ∃ F G δ C R, Ab K F G H C ∧ RpS K G δ σ ∧ t R δ C ∧ ToS K F G R N
end
section
variable {K : PySem.W.Frag} {F : Cells} {G G' : Hp}
theorem ToE.mono {R : D → Cells → Prop} {Q : VK} (h : ToE K F G R Q) (s : Same G G') : ToE K F G' R Q := fun d C r v H' G2 s2 => h d C r v H' G2 (s.trans s2)
theorem ToT.mono {R : Bool → Cells → Prop} {Q : Bool → Hp → Prop} (h : ToT K F G R Q) (s : Same G G') : ToT K F G' R Q := fun d C r H' G2 s2 => h d C r H' G2 (s.trans s2)
theorem ToA.mono {R : List D → Cells → Prop} {Q : List V → Hp → Prop} (h : ToA K F G R Q) (s : Same G G') : ToA K F G' R Q := fun d C r v H' G2 s2 => h d C r v H' G2 (s.trans s2)
theorem ToN.mono {R : DSt → Cells → Prop} {Q : St → Hp → Prop} (h : ToN K F G R Q) (s : Same G G') : ToN K F G' R Q := fun d C r v H' G2 s2 => h d C r v H' G2 (s.trans s2)
theorem ToS.mono {R : DEnds} {N : Ends} (h : ToS K F G R N) (s : Same G G') : ToS K F G' R N := ⟨h.nx.mono s, h.rt.mono s, h.bk.mono s, h.ct.mono s⟩
end
def lockQ (Q : VK) : VK := fun v H => Q v H ∨ ∃ d kvs, v = .ref d ∧ H d = some (.dK kvs) ∧ ∀ od, Q v (upd H d (.frz od (.dK kvs)))
theorem EP.lock {X : Cx} {pins : List (Addr × Obj)} {σ : St} {Q : VK} {u : Value} {s' : Shared} (h : EP X pins σ (lockQ Q) u s') : EP X pins σ Q u s' := by
  obtain ⟨v, H', I, r, q⟩ := h
  rcases q with q | ⟨d, kvs, rfl, hd, q⟩
  · exact ⟨v, H', I, r, q⟩
  · obtain ⟨od, I'⟩ := I.lock hd trivial
    exact ⟨_, _, I', r, q od⟩
theorem pe_lockQ {X : Cx} {e : Expr} {t : TE} (h : PE X e t) : PE X e (fun σ H Q => t σ H (lockQ Q)) := ⟨fun pins s σ H Q I q => thn (h.run pins s σ H _ I q) fun u s1 z => EP.lock z⟩
section
variable {X : Cx}
theorem _root_.L2.PE.weak {e : Expr} {t t' : TE} (h : PE X e t) (w : ∀ σ H Q, t' σ H Q → t σ H Q) : PE X e t' := ⟨fun pins s σ H Q I q => h.run pins s σ H Q I (w σ H Q q)⟩
theorem _root_.L2.PT.weak {e : Expr} {t t' : TT} (h : PT X e t) (w : ∀ σ H Q, t' σ H Q → t σ H Q) : PT X e t' := ⟨fun pins s σ H Q I q => h.run pins s σ H Q I (w σ H Q q)⟩
theorem _root_.L2.PW.weak {e : Expr} {t t' : TT} (h : PW X e t) (w : ∀ σ H Q, t' σ H Q → t σ H Q) : PW X e t' := ⟨fun wh pins s σ H Q I q => h.run wh pins s σ H Q I (w σ H Q q)⟩
theorem _root_.L2.PA.weak {e : List Expr} {t t' : TA} (h : PA X e t) (w : ∀ σ H Q, t' σ H Q → t σ H Q) : PA X e t' := ⟨fun pos pins s σ H Q I q => h.run pos pins s σ H Q I (w σ H Q q)⟩
theorem _root_.L2.PS.weak {e : Stmt} {t t' : TS} (h : PS X e t) (w : ∀ D σ H, t' D σ H → t D σ H) : PS X e t' := ⟨fun pins s σ H D I q => h.run pins s σ H D I (w D σ H q)⟩
theorem _root_.L2.PSs.weak {e : List Stmt} {t t' : TS} (h : PSs X e t) (w : ∀ D σ H, t' D σ H → t D σ H) : PSs X e t' := ⟨fun pins s σ H D I q => h.run pins s σ H D I (w D σ H q)⟩
end
end DL
namespace DL
open PySem PySem.Spec L2
open PyProof.Rows hiding St
section
variable {X : Cx}
def dVar (i : Nat) : DE := fun δ C R => match δ[i]? with
  | some (some d) => R d C
  | _ => False
theorem dVar_ex {i : Nat} {δ : DSt} {C : Cells} {R : D → Cells → Prop} (h : dVar i δ C R) : ∃ d, δ[i]? = some (some d) ∧ R d C := by
  unfold dVar at h
  split at h
  · exact ⟨_, by assumption, h⟩
  · exact h.elim
def dC (d : D) : DE := fun _ C R => R d C
theorem dv (i : Nat) {x : Str} {pos : Pos} (hN : X.N[i]? = some x := by rfl) (hv : Vis X.env.scope x := by first | exact Or.inl rfl | exact Or.inr (Or.inl rfl) | exact Or.inr (Or.inr rfl)) (hd : (x == ("__debug__" : Str)) = false := by decide)
    (hcd : (x == ("__classdict__" : Str)) = false := by decide) : PE X (.Name x pos) (liftE X.K (dVar i)) :=
  (pe_var hN hv hd hcd).weak fun σ H Q ⟨F, G, δ, C, R, A, S, h, k⟩ => by
    obtain ⟨d, e, q⟩ := dVar_ex h
    obtain ⟨v, e1, r⟩ := S.get e
    exact ⟨v, e1, k d C q v H G (Same.refl G) A r⟩
theorem lift_c {K : PySem.W.Frag} {d : D} {v : V} (r : ∀ G, Rp K G d v) : ∀ σ H Q, liftE K (dC d) σ H Q → tC v σ H Q := fun σ H Q ⟨F, G, δ, C, R, A, S, q, k⟩ => k d C q v H G (Same.refl G) A (r G)
theorem de_int {i j pos} : PE X (.Constant (.int i) j pos) (liftE X.K (dC (.int i))) := pe_int.weak (lift_c fun _ => .int i)
theorem de_bl {b j pos} : PE X (.Constant (.bool b) j pos) (liftE X.K (dC (.bl b))) := pe_bl.weak (lift_c fun _ => .bl b)
theorem de_non {j pos} : PE X (.Constant .none j pos) (liftE X.K (dC .non)) := pe_non.weak (lift_c fun _ => .non)
theorem de_str {x j pos} : PE X (.Constant (.str x) j pos) (liftE X.K (dC (.str x))) := pe_str.weak (lift_c fun _ => .str x)
/-- a module's constant, as data -/
structure GlD (K : PySem.W.Frag) (mg : Str → Option Value) (x : Str) (d : D) : Prop where
  at_ : ∃ v u, mg x = some u ∧ RelV v u ∧ ∀ G, Rp K G d v
theorem de_glob {x : Str} {d : D} {pos : Pos} (hg : Gl X x) (g : GlD X.K X.mg x d) (hd : (x == ("__debug__" : Str)) = false := by decide) : PE X (.Name x pos) (liftE X.K (dC d)) := by
  obtain ⟨v, u, h1, h2, h3⟩ := g.at_
  exact (pe_glob hg h1 h2 hd).weak (lift_c h3)
/-- a built-in type as a value -/
theorem de_bltn {x : Str} {T : String} {pos : Pos} (hg : Gl X x) (hm : X.mg x = none) (hv : bootBuiltins x = some (.type T)) (hn : x ≠ "__name__" := by decide) (hd : (x == ("__debug__" : Str)) = false := by decide) : PE X (.Name x pos) (liftE X.K (dC (.ty T))) :=
  (pe_bltn (v := .ty T) hg hm hv rfl hn hd).weak (lift_c fun _ => .ty T)
end
abbrev DO1 := D → Cells → (D → Cells → Prop) → Prop
abbrev DO2 := D → D → Cells → (D → Cells → Prop) → Prop
abbrev DOs := List D → Cells → (D → Cells → Prop) → Prop
def dOp (o : DO2) (ta tb : DE) : DE := fun δ C R => ta δ C fun x C1 => tb δ C1 fun y C2 => o x y C2 R
def dUn (o : DO1) (ta : DE) : DE := fun δ C R => ta δ C fun x C1 => o x C1 R
def dFn (o : DOs) (ta : DA) : DE := fun δ C R => ta δ C fun xs C1 => o xs C1 R
def LO2 (K : PySem.W.Frag) (r : R2) (o : DO2) : Prop := ∀ F G H C x y v u R Q, Ab K F G H C → Rp K G x v → Rp K G y u → o x y C R → ToE K F G R Q → r v u H Q
def LO1 (K : PySem.W.Frag) (r : V → Hp → VK → Prop) (o : DO1) : Prop := ∀ F G H C x v R Q, Ab K F G H C → Rp K G x v → o x C R → ToE K F G R Q → r v H Q
def LOs (K : PySem.W.Frag) (r : List V → Hp → VK → Prop) (o : DOs) : Prop := ∀ F G H C xs vs R Q, Ab K F G H C → RpL K G xs vs → o xs C R → ToE K F G R Q → r vs H Q
section
variable {K : PySem.W.Frag}
theorem lift_op {r : R2} {o : DO2} {ta tb : DE} (h : LO2 K r o) : ∀ σ H Q, liftE K (dOp o ta tb) σ H Q → tOp r (liftE K ta) (liftE K tb) σ H Q := by
  rintro σ H Q ⟨F, G, δ, C, R, A, S, t, k⟩
  refine ⟨F, G, δ, C, _, A, S, t, fun x C1 q1 v H1 G1 s1 A1 r1 => ⟨F, G1, δ, C1, _, A1, S.mono s1, q1, fun y C2 q2 u H2 G2 s2 A2 r2 => ?_⟩⟩
  exact h F G2 H2 C2 x y v u R Q A2 (r1.mono s2) r2 q2 (k.mono (s1.trans s2))
theorem lift_un {r : V → Hp → VK → Prop} {o : DO1} {ta : DE} (h : LO1 K r o) : ∀ σ H Q, liftE K (dUn o ta) σ H Q → tUn r (liftE K ta) σ H Q := by
  rintro σ H Q ⟨F, G, δ, C, R, A, S, t, k⟩
  exact ⟨F, G, δ, C, _, A, S, t, fun x C1 q1 v H1 G1 s1 A1 r1 => h F G1 H1 C1 x v R Q A1 r1 q1 (k.mono s1)⟩
theorem lift_fn {r : List V → Hp → VK → Prop} {o : DOs} {ta : DA} (h : LOs K r o) : ∀ σ H Q, liftE K (dFn o ta) σ H Q → liftA K ta σ H fun vs H1 => r vs H1 Q := by
  rintro σ H Q ⟨F, G, δ, C, R, A, S, t, k⟩
  exact ⟨F, G, δ, C, _, A, S, t, fun x C1 q1 v H1 G1 s1 A1 r1 => h F G1 H1 C1 x v R Q A1 r1 q1 (k.mono s1)⟩
/-- a result that stands in what stays already -/
theorem ToE.now {G H : Hp} {F C : Cells} {R : D → Cells → Prop} {Q : VK} {d : D} {v : V} (k : ToE K F G R Q) (A : Ab K F G H C) (q : R d C) (r : Rp K G d v) : Q v H := k d C q v H G (Same.refl G) A r
/-- a new thing that stays -/
theorem ToE.new {G H : Hp} {F C : Cells} {R : D → Cells → Prop} {Q : VK} {d : D} {p : Addr} {u : HO} (k : ToE K F G R Q) (A : Ab K F G H C) (hp : H p = none) (q : R d C) (r : Rp K (upd G p u) d (.ref p)) : Q (.ref p) (upd H p u) :=
  k d C q _ _ _ (A.grow (u := u) hp).2 (A.grow hp).1 r
/-- a new cell -/
theorem ToE.cell {G H : Hp} {F C : Cells} {R : D → Cells → Prop} {Q : VK} {c : Cell} {p : Addr} {u : HO} (k : ToE K F G R Q) (A : Ab K F G H C) (hp : H p = none) (q : R (.ref p) (updC C p c)) (ok : HoOk K G p c u) : Q (.ref p) (upd H p u) :=
  k _ _ q _ _ _ (Same.refl G) (A.cellNew hp ok) (.ref p)
end
section
variable {X : Cx} {a b : Expr} {ta tb : DE} {pos : Pos}
theorem de_op {op : Operator} {r : R2} {o : DO2} (ho : OpR X (binaryOp op) r) (h : LO2 X.K r o) (ha : PE X a (liftE X.K ta)) (hb : PE X b (liftE X.K tb)) : PE X (.BinOp a op b pos) (liftE X.K (dOp o ta tb)) := (pe_op ho ha hb).weak (lift_op h)
theorem de_un {op : UnaryOp} {r : V → Hp → VK → Prop} {o : DO1} (ho : UnR X (unaryOp op) r) (h : LO1 X.K r o) (ha : PE X a (liftE X.K ta)) : PE X (.UnaryOp op a pos) (liftE X.K (dUn o ta)) := (pe_un ho ha).weak (lift_un h)
theorem de_cmp {op : CmpOp} {r : R2} {o : DO2} (ho : OpR X (compareOp op) r) (h : LO2 X.K r o) (ha : PE X a (liftE X.K ta)) (hb : PE X b (liftE X.K tb)) (hm : behindInMarks op b = false) : PE X (.Compare a [op] [b] pos) (liftE X.K (dOp o ta tb)) := (pe_cmpR ho ha hb hm).weak (lift_op h)
/-- a value that is a bool, as a test -/
def dTest (t : DE) : DT := fun δ C R => t δ C fun d C1 => ∃ b, d = .bl b ∧ R b C1
theorem lift_test {K : PySem.W.Frag} {t : DE} : ∀ σ H Q, liftT K (dTest t) σ H Q → tTest (liftE K t) σ H Q := by
  rintro σ H Q ⟨F, G, δ, C, R, A, S, t, k⟩
  refine ⟨F, G, δ, C, _, A, S, t, ?_⟩
  rintro x C1 ⟨b, rfl, q⟩ v H1 G1 s1 A1 r1
  cases r1
  exact ⟨b, rfl, k b C1 q H1 G1 s1 A1⟩
theorem dt_cmp {op : CmpOp} {r : R2} {o : DO2} (ho : OpR X (compareOp op) r) (h : LO2 X.K r o) (ha : PE X a (liftE X.K ta)) (hb : PE X b (liftE X.K tb)) (hm : behindInMarks op b = false) : PT X (.Compare a [op] [b] pos) (liftT X.K (dTest (dOp o ta tb))) := by
  refine (pt_cmpR ho ha hb hm).weak fun σ H Q q => ?_
  obtain ⟨F, G, δ, C, R, A, S, t, k⟩ := lift_test σ H Q q
  exact lift_op h σ H _ ⟨F, G, δ, C, R, A, S, t, k⟩
/-- another expression whose value is a bool, as a test -/
theorem dt_val {e : Expr} {t : DE} (h : PE X e (liftE X.K t)) (he : ∀ whole, isTrue e X.env whole = (do let v ← whole; standAt e.pos; holding [v] (truthy v)) := by intro _; rfl) : PT X e (liftT X.K (dTest t)) :=
  (pt_val h he).weak fun σ H Q q => lift_test σ H Q q
variable {tA tB' : DT} {rest : List Expr} {c : Expr}
def dAnd (t u : DT) : DT := fun δ C R => t δ C fun b C1 => if b = true then u δ C1 R else R false C1
def dOr (t u : DT) : DT := fun δ C R => t δ C fun b C1 => if b = true then R true C1 else u δ C1 R
def dNot (t : DT) : DT := fun δ C R => t δ C fun b C1 => R (!b) C1
theorem lift_and {K : PySem.W.Frag} {t u : DT} : ∀ σ H Q, liftT K (dAnd t u) σ H Q → tAnd (liftT K t) (liftT K u) σ H Q := by
  rintro σ H Q ⟨F, G, δ, C, R, A, S, t, k⟩
  refine ⟨F, G, δ, C, _, A, S, t, fun b C1 q H1 G1 s1 A1 => ?_⟩
  cases b with
  | true => rw [if_pos rfl] at q ⊢; exact ⟨F, G1, δ, C1, R, A1, S.mono s1, q, k.mono s1⟩
  | false => rw [if_neg Bool.false_ne_true] at q ⊢; exact k _ _ q H1 G1 s1 A1
theorem lift_or {K : PySem.W.Frag} {t u : DT} : ∀ σ H Q, liftT K (dOr t u) σ H Q → tOr (liftT K t) (liftT K u) σ H Q := by
  rintro σ H Q ⟨F, G, δ, C, R, A, S, t, k⟩
  refine ⟨F, G, δ, C, _, A, S, t, fun b C1 q H1 G1 s1 A1 => ?_⟩
  cases b with
  | true => rw [if_pos rfl] at q ⊢; exact k _ _ q H1 G1 s1 A1
  | false => rw [if_neg Bool.false_ne_true] at q ⊢; exact ⟨F, G1, δ, C1, R, A1, S.mono s1, q, k.mono s1⟩
theorem lift_not {K : PySem.W.Frag} {t : DT} : ∀ σ H Q, liftT K (dNot t) σ H Q → tNot (liftT K t) σ H Q := by
  rintro σ H Q ⟨F, G, δ, C, R, A, S, t, k⟩
  exact ⟨F, G, δ, C, _, A, S, t, fun b C1 q H1 G1 s1 A1 => k _ _ q H1 G1 s1 A1⟩
theorem dw_and1 (ha : PT X a (liftT X.K tA)) : PW X (.BoolOp .And [a] pos) (liftT X.K tA) := pw_and1 ha
theorem dw_or1 (ha : PT X a (liftT X.K tA)) : PW X (.BoolOp .Or [a] pos) (liftT X.K tA) := pw_or1 ha
theorem dw_and (ha : PT X a (liftT X.K tA)) (hb : PW X (.BoolOp .And (b :: rest) pos) (liftT X.K tB')) : PW X (.BoolOp .And (a :: b :: rest) pos) (liftT X.K (dAnd tA tB')) := (pw_and ha hb).weak lift_and
theorem dw_or (ha : PT X a (liftT X.K tA)) (hb : PW X (.BoolOp .Or (b :: rest) pos) (liftT X.K tB')) : PW X (.BoolOp .Or (a :: b :: rest) pos) (liftT X.K (dOr tA tB')) := (pw_or ha hb).weak lift_or
theorem dt_not (ha : PT X a (liftT X.K tA)) : PT X (.UnaryOp .Not a pos) (liftT X.K (dNot tA)) := (pt_not ha).weak lift_not
/-- as values: the left ones are bools -/
def dAndV (ta tb : DE) : DE := fun δ C R => ta δ C fun d C1 => ∃ b, d = .bl b ∧ if b = true then tb δ C1 R else R (.bl false) C1
def dOrV (ta tb : DE) : DE := fun δ C R => ta δ C fun d C1 => ∃ b, d = .bl b ∧ if b = true then R (.bl true) C1 else tb δ C1 R
def dNotV (ta : DE) : DE := fun δ C R => ta δ C fun d C1 => ∃ b, d = .bl b ∧ R (.bl (!b)) C1
theorem de_one {op} {t : DE} (h : PE X a (liftE X.K t)) : PE X (.BoolOp op [a] pos) (liftE X.K t) := pe_one h
theorem de_and (ha : PE X a (liftE X.K ta)) (hb : PE X (.BoolOp .And (b :: rest) pos) (liftE X.K tb)) : PE X (.BoolOp .And (a :: b :: rest) pos) (liftE X.K (dAndV ta tb)) := by
  refine (pe_and ha hb).weak ?_
  rintro σ H Q ⟨F, G, δ, C, R, A, S, t, k⟩
  refine ⟨F, G, δ, C, _, A, S, t, ?_⟩
  rintro d C1 ⟨b, rfl, q⟩ v H1 G1 s1 A1 r1
  cases r1
  refine ⟨b, rfl, ?_⟩
  cases b with
  | true => rw [if_pos rfl] at q ⊢; exact ⟨F, G1, δ, C1, R, A1, S.mono s1, q, k.mono s1⟩
  | false => rw [if_neg Bool.false_ne_true] at q ⊢; exact k _ _ q _ H1 G1 s1 A1 (.bl false)
theorem de_or (ha : PE X a (liftE X.K ta)) (hb : PE X (.BoolOp .Or (b :: rest) pos) (liftE X.K tb)) : PE X (.BoolOp .Or (a :: b :: rest) pos) (liftE X.K (dOrV ta tb)) := by
  refine (pe_or ha hb).weak ?_
  rintro σ H Q ⟨F, G, δ, C, R, A, S, t, k⟩
  refine ⟨F, G, δ, C, _, A, S, t, ?_⟩
  rintro d C1 ⟨b, rfl, q⟩ v H1 G1 s1 A1 r1
  cases r1
  refine ⟨b, rfl, ?_⟩
  cases b with
  | true => rw [if_pos rfl] at q ⊢; exact k _ _ q _ H1 G1 s1 A1 (.bl true)
  | false => rw [if_neg Bool.false_ne_true] at q ⊢; exact ⟨F, G1, δ, C1, R, A1, S.mono s1, q, k.mono s1⟩
theorem de_not (ha : PE X a (liftE X.K ta)) : PE X (.UnaryOp .Not a pos) (liftE X.K (dNotV ta)) := by
  refine (pe_not ha).weak ?_
  rintro σ H Q ⟨F, G, δ, C, R, A, S, t, k⟩
  refine ⟨F, G, δ, C, _, A, S, t, ?_⟩
  rintro d C1 ⟨b, rfl, q⟩ v H1 G1 s1 A1 r1
  cases r1
  exact ⟨b, rfl, k _ _ q _ H1 G1 s1 A1 (.bl _)⟩
def dIf (t : DT) (ta tb : DE) : DE := fun δ C R => t δ C fun b C1 => if b = true then ta δ C1 R else tb δ C1 R
theorem de_ifExp (hc : PT X c (liftT X.K tA)) (ha : PE X a (liftE X.K ta)) (hb : PE X b (liftE X.K tb)) : PE X (.IfExp c a b pos) (liftE X.K (dIf tA ta tb)) := by
  refine (pe_ifExp hc ha hb).weak ?_
  rintro σ H Q ⟨F, G, δ, C, R, A, S, t, k⟩
  refine ⟨F, G, δ, C, _, A, S, t, fun b C1 q H1 G1 s1 A1 => ?_⟩
  cases b with
  | true => rw [if_pos rfl] at q ⊢; exact ⟨F, G1, δ, C1, R, A1, S.mono s1, q, k.mono s1⟩
  | false => rw [if_neg Bool.false_ne_true] at q ⊢; exact ⟨F, G1, δ, C1, R, A1, S.mono s1, q, k.mono s1⟩
/-- a <= b <= c, by values -/
def dChain (o o' : DO2) (ta tb tc : DE) : DE := fun δ C R => ta δ C fun x C1 => tb δ C1 fun y C2 => o x y C2 fun z C3 => ∃ b, z = .bl b ∧ if b = true then tc δ C3 fun x' C4 => o' y x' C4 R else R (.bl false) C3
theorem lift_chain {K : PySem.W.Frag} {r r' : R2} {o o' : DO2} {ta tb tc : DE} (h : LO2 K r o) (h' : LO2 K r' o') : ∀ σ H Q, liftE K (dChain o o' ta tb tc) σ H Q → tChain r r' (liftE K ta) (liftE K tb) (liftE K tc) σ H Q := by
  rintro σ H Q ⟨F, G, δ, C, R, A, S, t, k⟩
  refine ⟨F, G, δ, C, _, A, S, t, fun x C1 q1 v H1 G1 s1 A1 r1 => ⟨F, G1, δ, C1, _, A1, S.mono s1, q1, fun y C2 q2 u H2 G2 s2 A2 r2 => ?_⟩⟩
  refine h F G2 H2 C2 x y v u _ _ A2 (r1.mono s2) r2 q2 ?_
  rintro z C3 ⟨b, rfl, q3⟩ w H3 G3 s3 A3 r3
  cases r3
  refine ⟨b, rfl, ?_⟩
  cases b with
  | true =>
    rw [if_pos rfl] at q3 ⊢
    exact ⟨F, G3, δ, C3, _, A3, S.mono (s1.trans (s2.trans s3)), q3, fun x' C4 q4 v' H4 G4 s4 A4 r4 => h' F G4 H4 C4 y x' u v' R Q A4 (r2.mono (s3.trans s4)) r4 q4 (k.mono (s1.trans (s2.trans (s3.trans s4))))⟩
  | false =>
    rw [if_neg Bool.false_ne_true] at q3 ⊢
    exact k _ _ q3 _ H3 G3 (s1.trans (s2.trans s3)) A3 (.bl false)
variable {tc : DE}
theorem de_chain {op op' : CmpOp} {r r' : R2} {o o' : DO2} (ho : OpR X (compareOp op) r) (h : LO2 X.K r o) (ho' : OpR X (compareOp op') r') (h' : LO2 X.K r' o') (ha : PE X a (liftE X.K ta)) (hb : PE X b (liftE X.K tb)) (hc : PE X c (liftE X.K tc))
    (hm : lastMarks [op, op'] [b, c] = false := by with_unfolding_all rfl) : PE X (.Compare a [op, op'] [b, c] pos) (liftE X.K (dChain o o' ta tb tc)) := (pe_chain ho ho' ha hb hc hm).weak (lift_chain h h')
theorem dt_chain {op op' : CmpOp} {r r' : R2} {o o' : DO2} (ho : OpR X (compareOp op) r) (h : LO2 X.K r o) (ho' : OpR X (compareOp op') r') (h' : LO2 X.K r' o') (ha : PE X a (liftE X.K ta)) (hb : PE X b (liftE X.K tb)) (hc : PE X c (liftE X.K tc))
    (hm : lastMarks [op, op'] [b, c] = false := by with_unfolding_all rfl) : PT X (.Compare a [op, op'] [b, c] pos) (liftT X.K (dTest (dChain o o' ta tb tc))) := by
  refine (pt_chain ho ho' ha hb hc hm).weak fun σ H Q q => ?_
  obtain ⟨F, G, δ, C, R, A, S, t, k⟩ := lift_test σ H Q q
  exact lift_chain h h' σ H _ ⟨F, G, δ, C, R, A, S, t, k⟩
end
end DL
namespace DL
open PySem PySem.Spec L2
open PyProof.Rows hiding St
mutual
def D.same : D → D → Bool
  | .non, .non => true
  | .bl a, .bl b => a == b
  | .int a, .int b => a == b
  | .str a, .str b => a == b
  | .tup xs, .tup ys => D.sameL xs ys
  | .lst xs, .lst ys => D.sameL xs ys
  | .dct xs, .dct ys => D.sameK xs ys
  | .ref a, .ref b => decide (a = b)
  | .ty a, .ty b => a == b
  | _, _ => false
def D.sameL : List D → List D → Bool
  | [], [] => true
  | x :: xs, y :: ys => D.same x y && D.sameL xs ys
  | _, _ => false
def D.sameK : List (Key × D) → List (Key × D) → Bool
  | [], [] => true
  | (k, x) :: xs, (l, y) :: ys => decide (k = l) && D.same x y && D.sameK xs ys
  | _, _ => false
end
mutual
theorem D.same_iff : ∀ x y : D, D.same x y = true ↔ x = y
  | x, y => by
    cases x <;> cases y <;> simp [D.same]
    · exact D.sameL_iff _ _
    · exact D.sameL_iff _ _
    · exact D.sameK_iff _ _
theorem D.sameL_iff : ∀ x y : List D, D.sameL x y = true ↔ x = y
  | [], [] => by simp [D.sameL]
  | [], _ :: _ => by simp [D.sameL]
  | _ :: _, [] => by simp [D.sameL]
  | x :: xs, y :: ys => by simp [D.sameL, D.same_iff x y, D.sameL_iff xs ys]
theorem D.sameK_iff : ∀ x y : List (Key × D), D.sameK x y = true ↔ x = y
  | [], [] => by simp [D.sameK]
  | [], _ :: _ => by simp [D.sameK]
  | _ :: _, [] => by simp [D.sameK]
  | (k, x) :: xs, (l, y) :: ys => by simp [D.sameK, D.same_iff x y, D.sameK_iff xs ys, and_assoc]
end
instance : DecidableEq D := fun x y => decidable_of_iff _ (D.same_iff x y)
mutual
def D.eqv : D → D → Bool
  | .non, .non => true
  | .bl a, .bl b => a == b
  | .bl a, .int j => (if a then 1 else 0) == j
  | .int i, .bl b => i == (if b then 1 else 0)
  | .int a, .int b => a == b
  | .str a, .str b => a == b
  | .tup xs, .tup ys => D.eqvL xs ys
  | .lst xs, .lst ys => D.eqvL xs ys
  | _, _ => false
def D.eqvL : List D → List D → Bool
  | [], [] => true
  | x :: xs, y :: ys => D.eqv x y && D.eqvL xs ys
  | _, _ => false
end
/-- ints, texts, None, bools, tuples and lists of such, at most n deep -/
def okD : Nat → D → Bool
  | _, .non => true
  | _, .bl _ => true
  | _, .int _ => true
  | _, .str x => PyData.strOk x
  | n + 1, .tup ds => ds.all (okD n)
  | n + 1, .lst ds => ds.all (okD n)
  | _, _ => false
mutual
def toPy : D → PyData
  | .bl b => .bool b
  | .int i => .int i
  | .str x => .str x
  | .tup ds => .tuple (toPyL ds)
  | .lst ds => .list (toPyL ds)
  | _ => .none
def toPyL : List D → List PyData
  | [] => []
  | d :: ds => toPy d :: toPyL ds
end
theorem depthAll_le {n : Nat} : ∀ {ds : List D}, (∀ d ∈ ds, (toPy d).depth ≤ n) → PyData.depthAll (toPyL ds) ≤ n
  | [], _ => by simp [toPyL, PyData.depthAll]
  | d :: ds, h => by
    have h1 := h d (by simp)
    have h2 := depthAll_le (ds := ds) fun e he => h e (by simp [he])
    simp only [toPyL, PyData.depthAll]
    omega
theorem layAll_of : ∀ {ds : List D}, (∀ d ∈ ds, (toPy d).canLay0 = true) → PyData.canLayAll0 (toPyL ds) = true
  | [], _ => by simp [toPyL, PyData.canLayAll0]
  | d :: ds, h => by
    simp only [toPyL, PyData.canLayAll0, Bool.and_eq_true]
    exact ⟨h d (by simp), layAll_of fun e he => h e (by simp [he])⟩
theorem okD_lay : ∀ (n : Nat) (d : D), okD n d = true → (toPy d).canLay0 = true ∧ (toPy d).depth ≤ n
  | n, .non, _ => by simp [toPy, PyData.canLay0, PyData.depth]
  | n, .bl _, _ => by simp [toPy, PyData.canLay0, PyData.depth]
  | n, .int _, _ => by simp [toPy, PyData.canLay0, PyData.depth]
  | n, .str x, h => by
    have h : PyData.strOk x = true := by cases n <;> exact h
    simp [toPy, PyData.canLay0, PyData.depth]
    exact h
  | 0, .tup _, h => by cases h
  | 0, .lst _, h => by cases h
  | n + 1, .tup ds, h => by
    have h' : ∀ d ∈ ds, okD n d = true := List.all_eq_true.mp h
    have h1 := layAll_of (ds := ds) fun d hd => (okD_lay n d (h' d hd)).1
    have h2 := depthAll_le (ds := ds) fun d hd => (okD_lay n d (h' d hd)).2
    simp only [toPy, PyData.canLay0, PyData.depth]
    exact ⟨h1, by omega⟩
  | n + 1, .lst ds, h => by
    have h' : ∀ d ∈ ds, okD n d = true := List.all_eq_true.mp h
    have h1 := layAll_of (ds := ds) fun d hd => (okD_lay n d (h' d hd)).1
    have h2 := depthAll_le (ds := ds) fun d hd => (okD_lay n d (h' d hd)).2
    simp only [toPy, PyData.canLay0, PyData.depth]
    exact ⟨h1, by omega⟩
  | 0, .dct _, h => by cases h
  | n + 1, .dct _, h => by cases h
  | 0, .ref _, h => by cases h
  | n + 1, .ref _, h => by cases h
  | 0, .ty _, h => by cases h
  | n + 1, .ty _, h => by cases h
theorem okD_shaped {n : Nat} {d : D} (h : okD n d = true) (hn : n ≤ 64) : SeqAt.shaped (toPy d) = true := by
  obtain ⟨h1, h2⟩ := okD_lay n d h
  simp only [SeqAt.shaped, Bool.and_eq_true, decide_eq_true_eq]
  exact ⟨h1, by omega⟩
theorem eqvL_py {n : Nat} (ih : ∀ x y : D, okD n x = true → okD n y = true → PyData.eqv (toPy x) (toPy y) = D.eqv x y) : ∀ (x y : List D), (∀ d ∈ x, okD n d = true) → (∀ d ∈ y, okD n d = true) → PyData.eqvAll (toPyL x) (toPyL y) = D.eqvL x y
  | [], [], _, _ => by simp [toPyL, PyData.eqvAll, D.eqvL]
  | [], _ :: _, _, _ => by simp [toPyL, PyData.eqvAll, D.eqvL]
  | _ :: _, [], _, _ => by simp [toPyL, PyData.eqvAll, D.eqvL]
  | x :: xs, y :: ys, hx, hy => by
    simp only [toPyL, PyData.eqvAll, D.eqvL]
    rw [ih x y (hx x (by simp)) (hy y (by simp)), eqvL_py ih xs ys (fun d hd => hx d (by simp [hd])) (fun d hd => hy d (by simp [hd]))]
theorem eqv_py : ∀ (n : Nat) (x y : D), okD n x = true → okD n y = true → PyData.eqv (toPy x) (toPy y) = D.eqv x y
  | 0, x, y, hx, hy => by
    cases x <;> cases y <;> first
      | (simp [toPy, PyData.eqv, D.eqv]; done)
      | (exfalso; revert hx hy; simp [okD]; done)
  | n + 1, x, y, hx, hy => by
    cases x <;> cases y <;> first
      | (simp [toPy, PyData.eqv, D.eqv]; done)
      | (exfalso; revert hx hy; simp [okD]; done)
      | (simp only [toPy, PyData.eqv, D.eqv]
         exact eqvL_py (eqv_py n) _ _ (fun d hd => List.all_eq_true.mp hx d hd) (fun d hd => List.all_eq_true.mp hy d hd))
end DL
namespace DL
open PySem PySem.Spec L2
open PyProof.Rows hiding St
theorem dpAll_of {K : PySem.W.Frag} {G H : Hp} {n : Nat} (ih : ∀ (d : D) (v : V), okD n d = true → Rp K G d v → Dp K H v (toPy d)) : ∀ {ds : List D} {vs : List V}, (∀ d ∈ ds, okD n d = true) → RpL K G ds vs → DpAll K H vs (toPyL ds)
  | _, _, _, .nil => .nil
  | _, _, h, .cons r t => .cons (ih _ _ (h _ (by simp)) r) (dpAll_of ih (fun d hd => h d (by simp [hd])) t)
theorem Rp.dp {K : PySem.W.Frag} {G H : Hp} (s : Same G H) : ∀ (n : Nat) (d : D) (v : V), okD n d = true → Rp K G d v → Dp K H v (toPy d)
  | n, _, _, _, .non => .non
  | n, _, _, _, .bl b => .bl b
  | n, _, _, _, .int i => .int i
  | n, _, _, _, .str x => .str x
  | 0, _, _, h, .tup _ _ => by cases h
  | 0, _, _, h, .lst _ _ => by cases h
  | n + 1, _, _, h, .tup hs r => by
    simp only [toPy]
    exact .tup (sqT_mono s hs) (dpAll_of (Rp.dp s n) (List.all_eq_true.mp h) r)
  | n + 1, _, _, h, .lst hs r => by
    simp only [toPy]
    exact .lst (.inl (rd_mono s hs)) (dpAll_of (Rp.dp s n) (List.all_eq_true.mp h) r)
  | 0, _, _, h, .dct _ _ => by cases h
  | n + 1, _, _, h, .dct _ _ => by cases h
  | 0, _, _, h, .ref _ => by cases h
  | n + 1, _, _, h, .ref _ => by cases h
  | 0, _, _, h, .ty _ => by cases h
  | n + 1, _, _, h, .ty _ => by cases h
def cellLst : Cell → Option (List D)
  | .lst ds => some ds
  | .lck _ (.lst ds) => some ds
  | _ => none
def cellDct : Cell → Option (List (Key × D))
  | .dct kvs => some kvs
  | .lck _ (.dct kvs) => some kvs
  | _ => none
def lstOf (C : Cells) : D → Option (List D)
  | .lst ds => some ds
  | .ref p => (C p).bind cellLst
  | _ => none
def tupOf : D → Option (List D)
  | .tup ds => some ds
  | _ => none
def dctOf (C : Cells) : D → Option (List (Key × D))
  | .dct kvs => some kvs
  | .ref p => (C p).bind cellDct
  | _ => none
def strOf : D → Option Str
  | .str x => some x
  | _ => none
def intOf : D → Option Int
  | .int x => some x
  | _ => none
def keyOf : D → Option Key
  | .int i => some (.inl i)
  | .str x => some (.inr x)
  | _ => none
def getK (kvs : List (Key × D)) (k : Key) : Option D := (kvs.find? fun kv => decide (kv.1 = k)).map (·.2)
def putD (kvs : List (Key × D)) (k : Key) (v : D) : List (Key × D) := if (kvs.any fun kv => decide (kv.1 = k)) = true then kvs.map fun kv => if kv.1 = k then (kv.1, v) else kv else kvs ++ [(k, v)]
def delK (kvs : List (Key × D)) (k : Key) : List (Key × D) := kvs.filter fun kv => decide (kv.1 ≠ k)
def flatD : D → Bool
  | .non => true
  | .bl _ => true
  | .int _ => true
  | .str _ => true
  | _ => false
def cutL {α : Type} (xs : List α) (lo hi : Option Int) : List α := (xs.drop (HT.sIx xs.length 0 lo)).take (HT.sIx xs.length xs.length hi - HT.sIx xs.length 0 lo)
/-- x in y, of texts -/
def strIn (i j : Str) : Bool := !(Builtin.Str.occurrences j i 0 j.length 1).isEmpty
section
variable {K : PySem.W.Frag} {G H : Hp} {F C : Cells} {d : D} {v : V}
theorem Rp.key {k : Key} (r : Rp K G d v) (e : keyOf d = some k) : v = kV k := by
  cases r <;> cases e <;> rfl
theorem Rp.intV {i : Int} (r : Rp K G d v) (e : intOf d = some i) : v = .int i := by
  cases r <;> cases e <;> rfl
theorem Rp.strV {i : Str} (r : Rp K G d v) (e : strOf d = some i) : v = .str i := by
  cases r <;> cases e <;> rfl
theorem lst_at {ds : List D} (A : Ab K F G H C) (r : Rp K G d v) (e : lstOf C d = some ds) : ∃ a xs, v = .ref a ∧ Rd H a (.lst xs) ∧ RpL K G ds xs := by
  cases r <;> first | cases e | skip
  · rename_i a
    simp only [lstOf] at e
    obtain ⟨c, hc, e⟩ := Option.bind_eq_some_iff.mp e
    obtain ⟨_, u, hu, ok⟩ := A.cell _ _ hc
    cases ok <;> first | cases e | skip
    · rename_i xs r
      exact ⟨a, xs, rfl, .inl hu, r⟩
    · rename_i ok
      cases ok <;> first | cases e | skip
      rename_i xs r
      exact ⟨a, xs, rfl, .inr ⟨_, hu⟩, r⟩
  · rename_i a xs h r
    exact ⟨a, xs, rfl, rd_mono A.sub h, r⟩
theorem tup_at {ds : List D} (A : Ab K F G H C) (r : Rp K G d v) (e : tupOf d = some ds) : ∃ a xs, v = .ref a ∧ SqT K H a xs ∧ RpL K G ds xs := by
  cases r <;> first | cases e | skip
  rename_i a xs h r
  exact ⟨a, xs, rfl, sqT_mono A.sub h, r⟩
theorem dct_at {ds : List (Key × D)} (A : Ab K F G H C) (r : Rp K G d v) (e : dctOf C d = some ds) : ∃ a xs, v = .ref a ∧ Rd H a (.dK xs) ∧ RpK K G ds xs := by
  cases r <;> first | cases e | skip
  · rename_i a
    simp only [dctOf] at e
    obtain ⟨c, hc, e⟩ := Option.bind_eq_some_iff.mp e
    obtain ⟨_, u, hu, ok⟩ := A.cell _ _ hc
    cases ok <;> first | cases e | skip
    · rename_i xs r
      exact ⟨a, xs, rfl, .inl hu, r⟩
    · rename_i ok
      cases ok <;> first | cases e | skip
      rename_i xs r
      exact ⟨a, xs, rfl, .inr ⟨_, hu⟩, r⟩
  · rename_i a o ks h r
    exact ⟨a, ks, rfl, .inr ⟨o, A.sub _ _ h⟩, r⟩
theorem RpK.val {k : Key} : ∀ {kvs : List (Key × D)} {ks : List (Key × V)}, RpK K G kvs ks → (∀ d, getK kvs k = some d → ∃ v, valV ks k = some v ∧ Rp K G d v) ∧ (getK kvs k = none → valV ks k = none)
  | _, _, .nil => ⟨fun d e => by simp [getK] at e, fun _ => rfl⟩
  | _, _, .cons (k := l) (d := d0) (v := v0) r t => by
    obtain ⟨h1, h2⟩ := RpK.val (k := k) t
    by_cases hk : l = k
    · simp only [getK, valV, List.find?_cons, hk, decide_true, Option.map_some]
      exact ⟨fun d e => by cases e; exact ⟨_, rfl, r⟩, fun e => by cases e⟩
    · simp only [getK, valV, List.find?_cons, hk, decide_false] at h1 h2 ⊢
      exact ⟨h1, h2⟩
theorem RpK.any {k : Key} : ∀ {kvs : List (Key × D)} {ks : List (Key × V)}, RpK K G kvs ks → (kvs.any fun kv => decide (kv.1 = k)) = ks.any fun kv => decide (kv.1 = k)
  | _, _, .nil => rfl
  | _, _, .cons r t => by simp only [List.any_cons]; rw [RpK.any t]
theorem RpK.snoc {k : Key} (r : Rp K G d v) : ∀ {kvs : List (Key × D)} {ks : List (Key × V)}, RpK K G kvs ks → RpK K G (kvs ++ [(k, d)]) (ks ++ [(k, v)])
  | _, _, .nil => .cons r .nil
  | _, _, .cons r0 t => .cons r0 (RpK.snoc r t)
theorem RpK.repl {k : Key} (r : Rp K G d v) : ∀ {kvs : List (Key × D)} {ks : List (Key × V)}, RpK K G kvs ks → RpK K G (kvs.map fun kv => if kv.1 = k then (kv.1, d) else kv) (ks.map fun kv => if kv.1 = k then (kv.1, v) else kv)
  | _, _, .nil => .nil
  | _, _, .cons (k := l) r0 t => by
    simp only [List.map_cons]
    by_cases hk : l = k
    · rw [if_pos hk, if_pos hk]; exact .cons r (RpK.repl r t)
    · rw [if_neg hk, if_neg hk]; exact .cons r0 (RpK.repl r t)
theorem RpK.put {k : Key} (r : Rp K G d v) {kvs : List (Key × D)} {ks : List (Key × V)} (h : RpK K G kvs ks) : RpK K G (putD kvs k d) (putK ks k v) := by
  unfold putD putK
  rw [h.any]
  split
  · exact h.repl r
  · exact h.snoc r
theorem RpL.cut {ds : List D} {vs : List V} (r : RpL K G ds vs) (lo hi : Option Int) : RpL K G (cutL ds lo hi) (cutV vs lo hi) := by
  unfold cutL cutV
  rw [r.length]
  exact (r.drop _).take _
theorem RpL.at {ds : List D} {vs : List V} {i : Int} {d : D} (r : RpL K G ds vs) (e : atI ds i = some d) : ∃ v, atI vs i = some v ∧ Rp K G d v := by
  unfold atI at e ⊢
  rw [r.length] at e
  obtain ⟨j, h1, h2⟩ := Option.bind_eq_some_iff.mp e
  obtain ⟨v, h3, h4⟩ := r.getD h2
  exact ⟨v, by rw [h1]; exact h3, h4⟩
theorem Rp.flat (r : Rp K G d v) (h : flatD d = true) : flatV v = true := by
  cases r <;> first | rfl | cases h
theorem RpL.flat : ∀ {ds : List D} {vs : List V}, RpL K G ds vs → ds.all flatD = true → vs.all flatV = true
  | _, _, .nil, _ => rfl
  | _, _, .cons r t, h => by
    simp only [List.all_cons, Bool.and_eq_true] at h ⊢
    exact ⟨r.flat h.1, RpL.flat t h.2⟩
theorem Rp.eqv {e : D} {u : V} (r : Rp K G d v) (q : Rp K G e u) (h : flatD d = true) (h' : flatD e = true) : eqV v u = D.eqv d e := by
  cases r <;> cases q <;> first | (simp [eqV, D.eqv]; done) | (exfalso; revert h h'; simp [flatD]; done)
theorem RpL.inV {e : D} {u : V} (q : Rp K G e u) (h' : flatD e = true) : ∀ {ds : List D} {vs : List V}, RpL K G ds vs → ds.all flatD = true → inV u vs = ds.any fun z => D.eqv z e
  | _, _, .nil, _ => rfl
  | _, _, .cons r t, h => by
    simp only [List.all_cons, Bool.and_eq_true] at h
    have ih := RpL.inV q h' t h.2
    unfold L2.inV at ih ⊢
    simp only [List.any_cons]
    rw [ih, r.eqv q h.1 h']
theorem any_py {n : Nat} {d : D} (hd : okD n d = true) : ∀ {ds : List D}, ds.all (okD n) = true → ((toPyL ds).any fun z => PyData.eqv z (toPy d)) = ds.any fun z => D.eqv z d
  | [], _ => rfl
  | e :: ds, h => by
    simp only [List.all_cons, Bool.and_eq_true] at h
    simp only [toPyL, List.any_cons]
    rw [any_py hd h.2, eqv_py n e d h.1 hd]
end
end DL
namespace DL
open PySem PySem.Spec L2
open PyProof.Rows hiding St
section
variable {X : Cx}
theorem lstRd {pins : List (Addr × Obj)} {σ : St} {H : Hp} {s : Shared} {l : Addr} {xs : List V} (I : Inv X pins σ H s) (h : Rd H l (.lst xs)) :
    xs.length ≤ sizeLine ∧ ∃ (its : List Value) (n : Nat), Vals xs its ∧ xs.length = its.length ∧ s.heap.get? l = some { cls := .type "list", data := .seq its.toArray n } := by
  obtain ⟨z, its, n, r, e⟩ := h.ok I.hok
  exact ⟨z, its, n, r, r.length, e⟩
def rCatF : R2 := fun x y H Q => ∃ l b xs zs, x = .ref l ∧ y = .ref b ∧ Rd H l (.lst xs) ∧ Rd H b (.lst zs) ∧ xs.length + zs.length ≤ sizeLine ∧ ∀ p, H p = none → Q (.ref p) (upd H p (.lst (xs ++ zs)))
theorem op_catF : OpR X (binaryOp .Add) rCatF := by
  intro pins s σ H x y v u Q I rx ry h
  obtain ⟨l, b, xs, zs, rfl, rfl, hH, hB, hz, q⟩ := h
  cases rx
  cases ry
  obtain ⟨z, its, n, r, hl, e⟩ := lstRd I hH
  obtain ⟨z2, its2, n2, r2, hl2, e2⟩ := lstRd I hB
  refine PySem.P.add_list e e2 ?_ (by rw [List.size_toArray, List.size_toArray]; omega)
  have ea : its.toArray ++ its2.toArray = (its ++ its2).toArray := by simp
  rw [ea]
  exact ⟨.ref _, _, I.lnew (t' := s.toks) (r.append r2) (by rw [List.length_append]; omega), rfl, q _ I.fresh⟩
/-- lists of different lengths -/
def rEqLen (b : Bool) : R2 := fun x y H Q => ∃ l m xs zs, x = .ref l ∧ y = .ref m ∧ Rd H l (.lst xs) ∧ Rd H m (.lst zs) ∧ xs.length ≠ zs.length ∧ Q (.bl b) H
theorem op_eqLen (hu : X.A.units + 64 < cLine) : OpR X (compareOp .Eq) (rEqLen false) := by
  intro pins s σ H x y v u Q I rx ry h
  obtain ⟨l, b, xs, zs, rfl, rfl, hH, hB, hz, q⟩ := h
  cases rx
  cases ry
  obtain ⟨_, its, n, r, hl, e⟩ := lstRd I hH
  obtain ⟨_, its2, n2, r2, hl2, e2⟩ := lstRd I hB
  exact SeqAt.RcAt.lists_lengths (A := X.A) (s := s) (items := its.toArray) (items2 := its2.toArray) ⟨_, e, rfl, n, rfl⟩ ⟨_, e2, rfl, n2, rfl⟩ (by simp; omega) (by omega) X.prog X.w X.xe _ ⟨.bl false, H, I, rfl, q⟩
theorem op_neLen (hu : X.A.units + 64 < cLine) : OpR X (compareOp .NotEq) (rEqLen true) := by
  intro pins s σ H x y v u Q I rx ry h
  obtain ⟨l, b, xs, zs, rfl, rfl, hH, hB, hz, q⟩ := h
  cases rx
  cases ry
  obtain ⟨_, its, n, r, hl, e⟩ := lstRd I hH
  obtain ⟨_, its2, n2, r2, hl2, e2⟩ := lstRd I hB
  exact SeqAt.RcNeAt.lists_lengths (A := X.A) (s := s) (items := its.toArray) (items2 := its2.toArray) ⟨_, e, rfl, n, rfl⟩ ⟨_, e2, rfl, n2, rfl⟩ (by simp; omega) (by omega) X.prog X.w X.xe _ ⟨.bl true, H, I, rfl, q⟩
/-- list * int, the list only read -/
def rRepF : R2 := fun x y H Q => ∃ l k xs, x = .ref l ∧ y = .int k ∧ Rd H l (.lst xs) ∧ 0 ≤ k ∧ k ≤ 1000 ∧ xs.length ≤ 1000 ∧ ∀ p, H p = none → Q (.ref p) (upd H p (.lst (List.replicate k.toNat xs).flatten))
theorem op_repF : OpR X (binaryOp .Mult) rRepF := by
  intro pins s σ H x y v u Q I rx ry h
  obtain ⟨l, k, xs, rfl, rfl, hH, h1, h2, hz, q⟩ := h
  cases rx
  obtain ⟨t, rfl⟩ := ry
  obtain ⟨z, its, n, r, hl, e⟩ := lstRd I hH
  have hzz : xs.length * k.toNat ≤ sizeLine := by
    have : xs.length * k.toNat ≤ 1000 * 1000 := Nat.mul_le_mul hz (by omega)
    rw [sizeLine_eq]; omega
  have hlen : its.toArray.size * k.toNat ≤ sizeLine := by rw [List.size_toArray, ← hl]; exact hzz
  have hcap : ¬ its.toArray.size * k.toNat > (2 ^ 63 - 1) / 8 := by
    have : (sizeLine : Nat) ≤ (2 ^ 63 - 1) / 8 := by decide
    omega
  have hfit : ¬ (!Builtin.List.listFitsIndex k) = true := by
    rw [fitsIndex_both (by omega) (by omega)]
    exact Bool.false_ne_true
  have hlong : ¬ Builtin.List.listTooLong (its.toArray.size * k.toNat) = true := by
    rw [notLongL hlen]
    exact Bool.false_ne_true
  have hnew : List.foldl (fun x1 x2 => x1 ++ x2) #[] (List.replicate (if its.toArray.isEmpty = true then 0 else k.toNat) its.toArray) = (List.replicate k.toNat its).flatten.toArray := by
    have f0 : ∀ m : Nat, List.foldl (fun x1 x2 => x1 ++ x2) #[] (List.replicate m its.toArray) = (List.replicate m its).flatten.toArray := fun m => by
      have := foldl_rep its m []
      rw [List.nil_append] at this
      exact this
    rw [f0]
    cases its with
    | nil => simp
    | cons a r' => rw [if_neg (by simp)]
  refine wpAny_binaryOp_repeat_ref (T := "list") (U := "int") (by decide) ⟨_, e, rfl⟩ (fun s' => typeIs_int s' k t) noFill_list_mul F.fills_int_mul F.slot_int_rmul repeat_list F.slot_int_index.lookup
    (call_meets F.slot_int_rmul (typeIs_int s k t) F.entry_int_rmul (F.args_int_rmul_2 _ _) (int___rmul___int_list k t l its.toArray n)
      ⟨e, rfl, ⟨_, e, rfl⟩, call_meets F.slot_list_mul ⟨_, e, rfl⟩ F.entry_list_mul (F.args_list_mul_2 _ _) (AutoListH.list___mul___list_int_3 l its.toArray n k t hfit hcap hlong) ⟨e, ?_⟩⟩)
  rw [hnew]
  exact ⟨.ref _, _, I.lnew (t' := s.toks) (r.rep k.toNat) (by rw [PyProof.Rows.lm_len_rep_flat, Nat.mul_comm]; exact hzz), rfl, q _ I.fresh⟩
/-- y in a dict -/
def rInK (neg : Bool) : R2 := fun y x H Q => ∃ a kvs k, x = .ref a ∧ Rd H a (.dK kvs) ∧ y = kV k ∧ Q (.bl (if neg then !(valV kvs k).isSome else (valV kvs k).isSome)) H
theorem op_inK (hu : X.A.units + 64 < cLine) : OpR X (compareOp .In) (rInK false) := by
  intro pins s σ H y x u v Q I ry rx h
  obtain ⟨a, kvs, k, rfl, hd, rfl, q⟩ := h
  obtain rfl : v = Value.ref a := rx
  exact d_in (by omega) I (.inl ⟨kvs, k, hd, rfl, rfl⟩) ry fun s3 I3 => ⟨.bl _, H, I3, rfl, q⟩
theorem op_notinK (hu : X.A.units + 64 < cLine) : OpR X (compareOp .NotIn) (rInK true) := by
  intro pins s σ H y x u v Q I ry rx h
  obtain ⟨a, kvs, k, rfl, hd, rfl, q⟩ := h
  obtain rfl : v = Value.ref a := rx
  exact d_notIn (by omega) I (.inl ⟨kvs, k, hd, rfl, rfl⟩) ry fun s3 I3 => ⟨.bl _, H, I3, rfl, q⟩
/-- d[k], there -/
def rGetK : R2 := fun x y H Q => ∃ a kvs k v, x = .ref a ∧ Rd H a (.dK kvs) ∧ y = kV k ∧ valV kvs k = some v ∧ Q v H
end
def oAdd : DO2 := fun x y C R => match x, y with
  | .int i, .int j => R (.int (i + j)) C
  | .str i, .str j => i.length + j.length ≤ sizeLine ∧ R (.str (i ++ j)) C
  | .tup xs, .tup ys => xs.length + ys.length ≤ sizeLine ∧ R (.tup (xs ++ ys)) C
  | x, y => ∃ xs ys, lstOf C x = some xs ∧ lstOf C y = some ys ∧ xs.length + ys.length ≤ sizeLine ∧ R (.lst (xs ++ ys)) C
def oSub : DO2 := fun x y C R => match x, y with
  | .int i, .int j => R (.int (i - j)) C
  | _, _ => False
def oMul : DO2 := fun x y C R => match x, y with
  | .int i, .int j => CMul i j ∧ R (.int (i * j)) C
  | x, .int k => ∃ xs, lstOf C x = some xs ∧ 0 ≤ k ∧ k ≤ 1000 ∧ xs.length ≤ 1000 ∧ R (.lst (List.replicate k.toNat xs).flatten) C
  | _, _ => False
def oDiv : DO2 := fun x y C R => match x, y with
  | .int i, .int j => CDiv i j ∧ R (.int (i / j)) C
  | _, _ => False
def oMod : DO2 := fun x y C R => match x, y with
  | .int i, .int j => 0 < j ∧ R (.int (i % j)) C
  | _, _ => False
def oPow : DO2 := fun x y C R => match x, y with
  | .int i, .int j => CPow i j ∧ R (.int (i ^ j.toNat)) C
  | _, _ => False
def oNeg : DO1 := fun x C R => match x with
  | .int i => R (.int (-i)) C
  | _ => False
def oLt : DO2 := fun x y C R => match x, y with
  | .int i, .int j => R (.bl (decide (i < j))) C
  | .str i, .str j => R (.bl (decide (i.cps.toList < j.cps.toList))) C
  | _, _ => False
def oLe : DO2 := fun x y C R => match x, y with
  | .int i, .int j => R (.bl (decide (i ≤ j))) C
  | .str i, .str j => R (.bl (!decide (j.cps.toList < i.cps.toList))) C
  | _, _ => False
def oGt : DO2 := fun x y C R => match x, y with
  | .int i, .int j => R (.bl (decide (j < i))) C
  | _, _ => False
def oGe : DO2 := fun x y C R => match x, y with
  | .int i, .int j => R (.bl (decide (j ≤ i))) C
  | _, _ => False
/-- what x == y gives -/
def eqO (C : Cells) (x y : D) : Option Bool :=
  if okD 60 x = true ∧ okD 60 y = true then some (D.eqv x y) else
  match lstOf C x, lstOf C y with
  | some xs, some ys => if xs.length ≠ ys.length then some false else if xs.all (okD 59) = true ∧ ys.all (okD 59) = true then some (D.eqvL xs ys) else none
  | _, _ => none
def oEq : DO2 := fun x y C R => ∃ b, eqO C x y = some b ∧ R (.bl b) C
def oNe : DO2 := fun x y C R => ∃ b, eqO C x y = some b ∧ R (.bl (!b)) C
/-- what x in y gives -/
def inO (C : Cells) (x y : D) : Option Bool :=
  match strOf y with
  | some j => (strOf x).map fun i => strIn i j
  | none => match dctOf C y with
    | some kvs => (keyOf x).map fun k => (getK kvs k).isSome
    | none => match tupOf y with
      | some ds => if flatD x = true ∧ ds.all flatD = true then some (ds.any fun z => D.eqv z x) else none
      | none => match lstOf C y with
        | some ds => if okD 60 x = true ∧ ds.all (okD 60) = true then some (ds.any fun z => D.eqv z x) else none
        | none => none
def oIn : DO2 := fun x y C R => ∃ b, inO C x y = some b ∧ R (.bl b) C
def oNotIn : DO2 := fun x y C R => ∃ b, inO C x y = some b ∧ R (.bl (!b)) C
def isNon : D → Bool
  | .non => true
  | _ => false
def oIs : DO2 := fun x y C R => match x, y with
  | x, .non => R (.bl (isNon x)) C
  | .bl a, .bl b => R (.bl (decide (a = b))) C
  | _, _ => False
def oIsNot : DO2 := fun x y C R => match x, y with
  | x, .non => R (.bl (!isNon x)) C
  | .bl a, .bl b => R (.bl (!decide (a = b))) C
  | _, _ => False
section
variable {K : PySem.W.Frag}
theorem Rp.intI {G : Hp} {i : Int} {v : V} (r : Rp K G (.int i) v) : v = .int i := by cases r; rfl
theorem Rp.strI {G : Hp} {i : Str} {v : V} (r : Rp K G (.str i) v) : v = .str i := by cases r; rfl
theorem Rp.blI {G : Hp} {i : Bool} {v : V} (r : Rp K G (.bl i) v) : v = .bl i := by cases r; rfl
theorem lo_lst {G H : Hp} {F C : Cells} {x y : D} {v u : V} {R : D → Cells → Prop} {Q : VK} (A : Ab K F G H C) (rx : Rp K G x v) (ry : Rp K G y u) (k : ToE K F G R Q)
    (h : ∃ xs ys, lstOf C x = some xs ∧ lstOf C y = some ys ∧ xs.length + ys.length ≤ sizeLine ∧ R (.lst (xs ++ ys)) C) : rCatF v u H Q := by
  obtain ⟨xs, ys, e1, e2, hl, q⟩ := h
  obtain ⟨a, as, rfl, ha, ra⟩ := lst_at A rx e1
  obtain ⟨b, bs, rfl, hb, rb⟩ := lst_at A ry e2
  refine ⟨a, b, as, bs, rfl, rfl, ha, hb, by rw [← ra.length, ← rb.length]; exact hl, fun p hp => k.new A hp q ?_⟩
  have s := (A.grow (u := .lst (as ++ bs)) hp).2
  exact .lst (.inl upd_same) ((ra.append rb).mono s)
theorem lo_add : LO2 K (fun x y H Q => rI0 (fun i j => .int (i + j)) x y H Q ∨ (∃ i j, x = .str i ∧ y = .str j ∧ i.length + j.length ≤ sizeLine ∧ Q (.str (i ++ j)) H) ∨ rCatA K x y H Q ∨ rCatF x y H Q) oAdd := by
  intro F G H C x y v u R Q A rx ry h k
  have L := fun hh => lo_lst A rx ry k hh
  cases x <;> cases y <;> first | exact .inr (.inr (.inr (L h))) | skip
  · cases rx.intI; cases ry.intI
    exact .inl ⟨_, _, rfl, rfl, k.now A h (.int _)⟩
  · cases rx.strI; cases ry.strI
    exact .inr (.inl ⟨_, _, rfl, rfl, h.1, k.now A h.2 (.str _)⟩)
  · cases rx with
    | tup hx qx => cases ry with
      | tup hy qy =>
        rename_i a as b bs
        obtain ⟨hl, q⟩ := h
        refine .inr (.inr (.inl ⟨a, b, as, bs, rfl, rfl, sqT_mono A.sub hx, sqT_mono A.sub hy, by rw [← qx.length, ← qy.length]; exact hl, fun e => ?_, fun _ e => ?_, fun _ _ p hp => ?_⟩))
        · subst e
          cases qx
          exact k.now A q (.tup hy qy)
        · subst e
          cases qy
          rw [List.append_nil] at q
          exact k.now A q (.tup hx qx)
        · have s := (A.grow (u := .tup (as ++ bs)) hp).2
          exact k.new A hp q (.tup (.inl (.inl upd_same)) ((qx.append qy).mono s))
theorem lo_sub : LO2 K (rI0 fun i j => .int (i - j)) oSub := by
  intro F G H C x y v u R Q A rx ry h k
  cases x <;> cases y <;> first | exact h.elim | skip
  cases rx.intI; cases ry.intI
  exact ⟨_, _, rfl, rfl, k.now A h (.int _)⟩
theorem lo_mul : LO2 K (fun x y H Q => rI CMul (fun i j => .int (i * j)) x y H Q ∨ rRepF x y H Q) oMul := by
  intro F G H C x y v u R Q A rx ry h k
  cases y <;> first | (exfalso; revert h; cases x <;> exact fun z => z) | skip
  cases x
  case int =>
    cases rx.intI; cases ry.intI
    exact .inl ⟨_, _, rfl, rfl, h.1, k.now A h.2 (.int _)⟩
  all_goals
    cases ry.intI
    obtain ⟨xs, e1, h0, h1, hl, q⟩ := h
    obtain ⟨a, as, rfl, ha, ra⟩ := lst_at A rx e1
    refine .inr ⟨a, _, as, rfl, rfl, ha, h0, h1, by rw [← ra.length]; exact hl, fun p hp => k.new A hp q ?_⟩
    refine .lst (.inl upd_same) (RpL.mono (A.grow hp).2 ?_)
    generalize Int.toNat _ = n
    induction n with
    | zero => exact .nil
    | succ n ih => rw [List.replicate_succ, List.replicate_succ, List.flatten_cons, List.flatten_cons]; exact ra.append ih
theorem lo_int {Cnd : Int → Int → Prop} {g : Int → Int → Int} {o : DO2} (h1 : ∀ i j C R, o (.int i) (.int j) C R → Cnd i j ∧ R (.int (g i j)) C) (h2 : ∀ x y C R, o x y C R → ∃ i j, x = .int i ∧ y = .int j) : LO2 K (rI Cnd fun i j => .int (g i j)) o := by
  intro F G H C x y v u R Q A rx ry h k
  obtain ⟨i, j, rfl, rfl⟩ := h2 _ _ _ _ h
  cases rx.intI; cases ry.intI
  obtain ⟨c, q⟩ := h1 _ _ _ _ h
  exact ⟨_, _, rfl, rfl, c, k.now A q (.int _)⟩
theorem lo_div : LO2 K (rI CDiv fun i j => .int (i / j)) oDiv := lo_int (g := fun i j => i / j) (fun _ _ _ _ h => h) fun x y _ _ h => by cases x <;> cases y <;> first | exact h.elim | exact ⟨_, _, rfl, rfl⟩
theorem lo_mod : LO2 K (rI (fun _ j => 0 < j) fun i j => .int (i % j)) oMod := lo_int (g := fun i j => i % j) (fun _ _ _ _ h => h) fun x y _ _ h => by cases x <;> cases y <;> first | exact h.elim | exact ⟨_, _, rfl, rfl⟩
theorem lo_pow : LO2 K (rI CPow fun i j => .int (i ^ j.toNat)) oPow := lo_int (g := fun i j => i ^ j.toNat) (fun _ _ _ _ h => h) fun x y _ _ h => by cases x <;> cases y <;> first | exact h.elim | exact ⟨_, _, rfl, rfl⟩
theorem lo_neg : LO1 K (rU fun i => .int (-i)) oNeg := by
  intro F G H C x v R Q A rx h k
  cases x <;> first | exact h.elim | skip
  cases rx.intI
  exact ⟨_, rfl, k.now A h (.int _)⟩
theorem lo_lt : LO2 K (fun x y H Q => rI0 (fun i j => .bl (decide (i < j))) x y H Q ∨ ∃ i j, x = .str i ∧ y = .str j ∧ Q (.bl (decide (i.cps.toList < j.cps.toList))) H) oLt := by
  intro F G H C x y v u R Q A rx ry h k
  cases x <;> cases y <;> first | exact h.elim | skip
  · cases rx.intI; cases ry.intI
    exact .inl ⟨_, _, rfl, rfl, k.now A h (.bl _)⟩
  · cases rx.strI; cases ry.strI
    exact .inr ⟨_, _, rfl, rfl, k.now A h (.bl _)⟩
theorem lo_le : LO2 K (fun x y H Q => rI0 (fun i j => .bl (decide (i ≤ j))) x y H Q ∨ ∃ i j, x = .str i ∧ y = .str j ∧ Q (.bl (!decide (j.cps.toList < i.cps.toList))) H) oLe := by
  intro F G H C x y v u R Q A rx ry h k
  cases x <;> cases y <;> first | exact h.elim | skip
  · cases rx.intI; cases ry.intI
    exact .inl ⟨_, _, rfl, rfl, k.now A h (.bl _)⟩
  · cases rx.strI; cases ry.strI
    exact .inr ⟨_, _, rfl, rfl, k.now A h (.bl _)⟩
theorem lo_gt : LO2 K (rI0 fun i j => .bl (decide (j < i))) oGt := by
  intro F G H C x y v u R Q A rx ry h k
  cases x <;> cases y <;> first | exact h.elim | skip
  cases rx.intI; cases ry.intI
  exact ⟨_, _, rfl, rfl, k.now A h (.bl _)⟩
theorem lo_ge : LO2 K (rI0 fun i j => .bl (decide (j ≤ i))) oGe := by
  intro F G H C x y v u R Q A rx ry h k
  cases x <;> cases y <;> first | exact h.elim | skip
  cases rx.intI; cases ry.intI
  exact ⟨_, _, rfl, rfl, k.now A h (.bl _)⟩
theorem RpL.dpl {G H : Hp} {ds : List D} {vs : List V} {n : Nat} (s : Same G H) (r : RpL K G ds vs) (h : ds.all (okD n) = true) : DpAll K H vs (toPyL ds) := dpAll_of (fun d v hd rd => Rp.dp s n d v hd rd) (List.all_eq_true.mp h) r
theorem lo_eqg {neg : Bool} {o : DO2} {rD : R2} (hoD : ∀ x y H Q, (∃ d e, Dp K H x d ∧ Dp K H y e ∧ SeqAt.shaped d = true ∧ SeqAt.shaped e = true ∧ Q (.bl (if neg then !PyData.eqv d e else PyData.eqv d e)) H) → rD x y H Q)
    (ho : ∀ x y C R, o x y C R → ∃ b, eqO C x y = some b ∧ R (.bl (if neg then !b else b)) C) : LO2 K (fun x y H Q => rD x y H Q ∨ rEqLen neg x y H Q) o := by
  intro F G H C x y v u R Q A rx ry h k
  obtain ⟨b, e, q⟩ := ho _ _ _ _ h
  unfold eqO at e
  split at e
  · rename_i c
    cases e
    refine .inl (hoD _ _ _ _ ⟨toPy x, toPy y, Rp.dp A.sub 60 x v c.1 rx, Rp.dp A.sub 60 y u c.2 ry, okD_shaped c.1 (by omega), okD_shaped c.2 (by omega), ?_⟩)
    rw [eqv_py 60 x y c.1 c.2]
    exact k.now A q (.bl _)
  · split at e
    · rename_i xs ys e1 e2
      obtain ⟨a, as, rfl, ha, ra⟩ := lst_at A rx e1
      obtain ⟨b', bs, rfl, hb, rb⟩ := lst_at A ry e2
      split at e
      · rename_i hl
        cases e
        refine .inr ⟨a, b', as, bs, rfl, rfl, ha, hb, by rw [← ra.length, ← rb.length]; exact hl, ?_⟩
        have : (if neg then !false else false) = neg := by cases neg <;> rfl
        rw [this] at q
        exact k.now A q (.bl _)
      · split at e
        · rename_i c
          cases e
          refine .inl (hoD _ _ _ _ ⟨toPy (.lst xs), toPy (.lst ys), ?_, ?_, okD_shaped (n := 60) (d := .lst xs) c.1 (by omega), okD_shaped (n := 60) (d := .lst ys) c.2 (by omega), ?_⟩)
          · simp only [toPy]; exact .lst (.inl ha) (ra.dpl A.sub c.1)
          · simp only [toPy]; exact .lst (.inl hb) (rb.dpl A.sub c.2)
          · rw [eqv_py 60 (.lst xs) (.lst ys) c.1 c.2]
            simp only [D.eqv]
            exact k.now A q (.bl _)
        · cases e
    · cases e
theorem lo_eq : LO2 K (fun x y H Q => rEqD K x y H Q ∨ rEqLen false x y H Q) oEq := lo_eqg (neg := false) (fun _ _ _ _ ⟨d, e, h1, h2, h3, h4, q⟩ => ⟨d, e, h1, h2, h3, h4, q⟩) fun _ _ _ _ h => h
theorem lo_ne : LO2 K (fun x y H Q => rNeD K x y H Q ∨ rEqLen true x y H Q) oNe := lo_eqg (neg := true) (fun _ _ _ _ ⟨d, e, h1, h2, h3, h4, q⟩ => ⟨d, e, h1, h2, h3, h4, q⟩) fun _ _ _ _ h => h
end
end DL
namespace DL
open PySem PySem.Spec L2
open PyProof.Rows hiding St
section
variable {K : PySem.W.Frag}
theorem lo_ing {neg : Bool} {o : DO2} {rS rD : R2} (hoS : ∀ x y H Q, (∃ i j, x = .str i ∧ y = .str j ∧ Q (.bl (if neg then !strIn i j else strIn i j)) H) → rS x y H Q)
    (hoD : ∀ x y H Q, (∃ d ds, Dp K H x d ∧ Dp K H y (.list ds) ∧ SeqAt.shaped d = true ∧ SeqAt.shaped (.list ds) = true ∧ Q (.bl (if neg then !(ds.any fun z => PyData.eqv z d) else ds.any fun z => PyData.eqv z d)) H) → rD x y H Q)
    (ho : ∀ x y C R, o x y C R → ∃ b, inO C x y = some b ∧ R (.bl (if neg then !b else b)) C) : LO2 K (fun x y H Q => rS x y H Q ∨ rInK neg x y H Q ∨ rIn K neg x y H Q ∨ rD x y H Q) o := by
  intro F G H C x y v u R Q A rx ry h k
  obtain ⟨b, e, q⟩ := ho _ _ _ _ h
  unfold inO at e
  split at e
  · rename_i j ej
    cases ei : strOf x with
    | none => rw [ei] at e; cases e
    | some i =>
      rw [ei] at e; cases e
      refine .inl (hoS _ _ _ _ ⟨i, j, rx.strV ei, ry.strV ej, k.now A q (.bl _)⟩)
  · split at e
    · rename_i kvs ek
      cases ei : keyOf x with
      | none => rw [ei] at e; cases e
      | some i =>
        rw [ei] at e; cases e
        obtain ⟨a, ks, rfl, ha, ra⟩ := dct_at A ry ek
        refine .inr (.inl ⟨a, ks, i, rfl, ha, rx.key ei, ?_⟩)
        have hb : (valV ks i).isSome = (getK kvs i).isSome := by
          obtain ⟨h1, h2⟩ := ra.val (k := i)
          cases eg : getK kvs i with
          | none => rw [h2 eg]; rfl
          | some d => obtain ⟨v, e1, _⟩ := h1 d eg; rw [e1]; rfl
        rw [hb]
        exact k.now A q (.bl _)
    · split at e
      · rename_i ds et
        split at e
        · rename_i c
          cases e
          obtain ⟨a, as, rfl, ha, ra⟩ := tup_at A ry et
          refine .inr (.inr (.inl ⟨a, as, rfl, .inr ha, rx.flat c.1, ra.flat c.2, ?_⟩))
          rw [RpL.inV rx c.1 ra c.2]
          exact k.now A q (.bl _)
        · cases e
      · split at e
        · rename_i ds el
          split at e
          · rename_i c
            cases e
            obtain ⟨a, as, rfl, ha, ra⟩ := lst_at A ry el
            refine .inr (.inr (.inr (hoD _ _ _ _ ⟨toPy x, toPyL ds, Rp.dp A.sub 60 x v c.1 rx, .lst (.inl ha) (ra.dpl A.sub c.2), okD_shaped c.1 (by omega), ?_, ?_⟩)))
            · have := okD_shaped (n := 61) (d := .lst ds) c.2 (by omega)
              simpa only [toPy] using this
            · rw [any_py c.1 c.2]
              exact k.now A q (.bl _)
          · cases e
        · cases e
theorem lo_in : LO2 K (fun x y H Q => (∃ i j, x = .str i ∧ y = .str j ∧ Q (.bl (!(Builtin.Str.occurrences j i 0 j.length 1).isEmpty)) H) ∨ rInK false x y H Q ∨ rIn K false x y H Q ∨ rInD K x y H Q) oIn :=
  lo_ing (neg := false) (fun _ _ _ _ h => h) (fun _ _ _ _ h => h) fun _ _ _ _ h => h
theorem lo_notin : LO2 K (fun x y H Q => (∃ i j, x = .str i ∧ y = .str j ∧ Q (.bl (!(!(Builtin.Str.occurrences j i 0 j.length 1).isEmpty))) H) ∨ rInK true x y H Q ∨ rIn K true x y H Q ∨ rNotInD K x y H Q) oNotIn :=
  lo_ing (neg := true) (fun _ _ _ _ h => h) (fun _ _ _ _ h => h) fun _ _ _ _ h => h
theorem Rp.isNon {G : Hp} {x : D} {v : V} (r : Rp K G x v) : decide (v = .non) = isNon x := by cases r <;> simp [DL.isNon]
theorem lo_is : LO2 K (fun x y H Q => (y = .non ∧ Q (.bl (decide (x = .non))) H) ∨ rIsB x y H Q) oIs := by
  intro F G H C x y v u R Q A rx ry h k
  cases y
  case non =>
    cases ry
    refine .inl ⟨rfl, ?_⟩
    rw [rx.isNon]
    have h' : R (.bl (isNon x)) C := by cases x <;> exact h
    exact k.now A h' (.bl _)
  case bl =>
    cases x <;> first | exact h.elim | skip
    cases rx.blI; cases ry.blI
    exact .inr ⟨_, _, rfl, rfl, k.now A h (.bl _)⟩
  all_goals (exfalso; revert h; cases x <;> exact fun z => z)
theorem lo_isnot : LO2 K (fun x y H Q => (y = .non ∧ Q (.bl (!decide (x = .non))) H) ∨ rNotB x y H Q) oIsNot := by
  intro F G H C x y v u R Q A rx ry h k
  cases y
  case non =>
    cases ry
    refine .inl ⟨rfl, ?_⟩
    rw [rx.isNon]
    have h' : R (.bl (!isNon x)) C := by cases x <;> exact h
    exact k.now A h' (.bl _)
  case bl =>
    cases x <;> first | exact h.elim | skip
    cases rx.blI; cases ry.blI
    exact .inr ⟨_, _, rfl, rfl, k.now A h (.bl _)⟩
  all_goals (exfalso; revert h; cases x <;> exact fun z => z)
end
section
variable {X : Cx} {a b c : Expr} {ta tb tc : DE} {pos : Pos}
theorem de_add (ha : PE X a (liftE X.K ta)) (hb : PE X b (liftE X.K tb)) : PE X (.BinOp a .Add b pos) (liftE X.K (dOp oAdd ta tb)) := de_op (op_add.or (op_add_str.or (op_catA.or op_catF))) lo_add ha hb
theorem de_sub (ha : PE X a (liftE X.K ta)) (hb : PE X b (liftE X.K tb)) : PE X (.BinOp a .Sub b pos) (liftE X.K (dOp oSub ta tb)) := de_op op_sub lo_sub ha hb
theorem de_mul (ha : PE X a (liftE X.K ta)) (hb : PE X b (liftE X.K tb)) : PE X (.BinOp a .Mult b pos) (liftE X.K (dOp oMul ta tb)) := de_op (op_mul.or op_repF) lo_mul ha hb
theorem de_div (ha : PE X a (liftE X.K ta)) (hb : PE X b (liftE X.K tb)) : PE X (.BinOp a .FloorDiv b pos) (liftE X.K (dOp oDiv ta tb)) := de_op op_fdiv lo_div ha hb
theorem de_mod (ha : PE X a (liftE X.K ta)) (hb : PE X b (liftE X.K tb)) : PE X (.BinOp a .Mod b pos) (liftE X.K (dOp oMod ta tb)) := de_op op_mod lo_mod ha hb
theorem de_pow (ha : PE X a (liftE X.K ta)) (hb : PE X b (liftE X.K tb)) : PE X (.BinOp a .Pow b pos) (liftE X.K (dOp oPow ta tb)) := de_op op_pow lo_pow ha hb
theorem de_neg (ha : PE X a (liftE X.K ta)) : PE X (.UnaryOp .USub a pos) (liftE X.K (dUn oNeg ta)) := de_un un_neg lo_neg ha
/-- a comparison by its operator: how it stands in HandS, over data -/
structure CmpD (X : Cx) (op : CmpOp) (o : DO2) : Prop where
  ex : ∃ r, OpR X (compareOp op) r ∧ LO2 X.K r o
theorem cd_eq (hu : X.A.units + 64 < cLine) : CmpD X .Eq oEq := ⟨_, (op_eqD hu).or (op_eqLen hu), lo_eq⟩
theorem cd_ne (hu : X.A.units + 64 < cLine) : CmpD X .NotEq oNe := ⟨_, (op_neD hu).or (op_neLen hu), lo_ne⟩
theorem cd_lt : CmpD X .Lt oLt := ⟨_, op_lt.or op_lt_str, lo_lt⟩
theorem cd_le : CmpD X .LtE oLe := ⟨_, op_le.or op_le_str, lo_le⟩
theorem cd_gt : CmpD X .Gt oGt := ⟨_, op_gt, lo_gt⟩
theorem cd_ge : CmpD X .GtE oGe := ⟨_, op_ge, lo_ge⟩
theorem cd_in (hu : X.A.units + 65 < cLine) : CmpD X .In oIn := ⟨_, op_in_str.or ((op_inK (by omega)).or (op_in_seq.or (op_inD hu))), lo_in⟩
theorem cd_notin (hu : X.A.units + 65 < cLine) : CmpD X .NotIn oNotIn := ⟨_, op_notIn_str.or ((op_notinK (by omega)).or (op_notIn_seq.or (op_notInD hu))), lo_notin⟩
theorem cd_is : CmpD X .Is oIs := ⟨_, op_isN.or op_isBl, lo_is⟩
theorem cd_isnot : CmpD X .IsNot oIsNot := ⟨_, op_notN.or op_notBl, lo_isnot⟩
theorem de_cm {op : CmpOp} {o : DO2} (h : CmpD X op o) (ha : PE X a (liftE X.K ta)) (hb : PE X b (liftE X.K tb)) (hm : behindInMarks op b = false := by first | exact nobehind _ (by decide) (by decide) | rfl) : PE X (.Compare a [op] [b] pos) (liftE X.K (dOp o ta tb)) := by
  obtain ⟨r, h1, h2⟩ := h.ex
  exact de_cmp h1 h2 ha hb hm
theorem dt_cm {op : CmpOp} {o : DO2} (h : CmpD X op o) (ha : PE X a (liftE X.K ta)) (hb : PE X b (liftE X.K tb)) (hm : behindInMarks op b = false := by first | exact nobehind _ (by decide) (by decide) | rfl) : PT X (.Compare a [op] [b] pos) (liftT X.K (dTest (dOp o ta tb))) := by
  obtain ⟨r, h1, h2⟩ := h.ex
  exact dt_cmp h1 h2 ha hb hm
theorem de_ch {op op' : CmpOp} {o o' : DO2} (h : CmpD X op o) (h' : CmpD X op' o') (ha : PE X a (liftE X.K ta)) (hb : PE X b (liftE X.K tb)) (hc : PE X c (liftE X.K tc)) (hm : lastMarks [op, op'] [b, c] = false := by with_unfolding_all rfl) :
    PE X (.Compare a [op, op'] [b, c] pos) (liftE X.K (dChain o o' ta tb tc)) := by
  obtain ⟨r, h1, h2⟩ := h.ex
  obtain ⟨r', h3, h4⟩ := h'.ex
  exact de_chain h1 h2 h3 h4 ha hb hc hm
theorem dt_ch {op op' : CmpOp} {o o' : DO2} (h : CmpD X op o) (h' : CmpD X op' o') (ha : PE X a (liftE X.K ta)) (hb : PE X b (liftE X.K tb)) (hc : PE X c (liftE X.K tc)) (hm : lastMarks [op, op'] [b, c] = false := by with_unfolding_all rfl) :
    PT X (.Compare a [op, op'] [b, c] pos) (liftT X.K (dTest (dChain o o' ta tb tc))) := by
  obtain ⟨r, h1, h2⟩ := h.ex
  obtain ⟨r', h3, h4⟩ := h'.ex
  exact dt_chain h1 h2 h3 h4 ha hb hc hm
end
def dNil : DA := fun _ C R => R [] C
def dCons (ta : DE) (tr : DA) : DA := fun δ C R => ta δ C fun x C1 => tr δ C1 fun xs C2 => R (x :: xs) C2
section
variable {X : Cx} {e : Expr} {es : List Expr} {te : DE} {t : DA} {pos : Pos}
theorem da_nil : PA X [] (liftA X.K dNil) := pa_nil.weak fun σ H Q ⟨F, G, δ, C, R, A, S, q, k⟩ => k [] C q [] H G (Same.refl G) A .nil
theorem da_cons (ha : PE X e (liftE X.K te)) (hr : PA X es (liftA X.K t)) (hs : starEach (e :: es) X.env = (false, eval e X.env) :: starEach es X.env := by rfl) : PA X (e :: es) (liftA X.K (dCons te t)) := by
  refine (pa_cons ha hr hs).weak ?_
  rintro σ H Q ⟨F, G, δ, C, R, A, S, q, k⟩
  refine ⟨F, G, δ, C, _, A, S, q, fun x C1 q1 v H1 G1 s1 A1 r1 => ⟨F, G1, δ, C1, _, A1, S.mono s1, q1, fun xs C2 q2 vs H2 G2 s2 A2 r2 => ?_⟩⟩
  exact k _ _ q2 (v :: vs) H2 G2 (s1.trans s2) A2 (.cons (r1.mono s2) r2)
def dTup (t : DA) : DE := fun δ C R => t δ C fun xs C1 => xs.length ≤ sizeLine ∧ R (.tup xs) C1
/-- a list display: a list that is never written -/
def dLst (t : DA) : DE := fun δ C R => t δ C fun xs C1 => xs.length ≤ sizeLine ∧ R (.lst xs) C1
/-- a list display: a list that may be written -/
def dLstC (t : DA) : DE := fun δ C R => t δ C fun xs C1 => xs.length ≤ sizeLine ∧ ∀ p, C1 p = none → R (.ref p) (updC C1 p (.lst xs))
theorem de_tup {x1} (h : PA X es (liftA X.K t)) : PE X (.Tuple es x1 pos) (liftE X.K (dTup t)) := by
  refine (pe_tup h).weak ?_
  rintro σ H Q ⟨F, G, δ, C, R, A, S, q, k⟩
  refine ⟨F, G, δ, C, _, A, S, q, ?_⟩
  rintro xs C1 ⟨hl, q1⟩ vs H1 G1 s1 A1 r1
  exact ⟨by rw [← r1.length]; exact hl, fun p hp => (k.mono s1).new A1 hp q1 (.tup (.inl (.inl upd_same)) (r1.mono (A1.grow hp).2))⟩
theorem de_lst (h : PA X es (liftA X.K t)) : PE X (.List es pos) (liftE X.K (dLst t)) := by
  refine (pe_lst h).weak ?_
  rintro σ H Q ⟨F, G, δ, C, R, A, S, q, k⟩
  refine ⟨F, G, δ, C, _, A, S, q, ?_⟩
  rintro xs C1 ⟨hl, q1⟩ vs H1 G1 s1 A1 r1
  exact ⟨by rw [← r1.length]; exact hl, fun p hp => (k.mono s1).new A1 hp q1 (.lst (.inl upd_same) (r1.mono (A1.grow hp).2))⟩
theorem de_lstC (h : PA X es (liftA X.K t)) : PE X (.List es pos) (liftE X.K (dLstC t)) := by
  refine (pe_lst h).weak ?_
  rintro σ H Q ⟨F, G, δ, C, R, A, S, q, k⟩
  refine ⟨F, G, δ, C, _, A, S, q, ?_⟩
  rintro xs C1 ⟨hl, q1⟩ vs H1 G1 s1 A1 r1
  exact ⟨by rw [← r1.length]; exact hl, fun p hp => (k.mono s1).cell A1 hp (q1 p (A1.free hp)) (.lst r1)⟩
/-- {} -/
def dDct0 : DE := fun _ C R => R (.dct []) C
def dDct0C : DE := fun _ C R => ∀ p, C p = none → R (.ref p) (updC C p (.dct []))
theorem de_dct0 : PE X (.Dict [] [] pos) (liftE X.K dDct0) := by
  refine (pe_lockQ pe_dnewK).weak ?_
  rintro σ H Q ⟨F, G, δ, C, R, A, S, q, k⟩ p hp
  refine .inr ⟨p, [], rfl, upd_same, fun od => ?_⟩
  rw [upd_upd]
  exact k.new A hp q (.dct upd_same .nil)
end
/-- what x[y] gives -/
def ixO (C : Cells) (x y : D) : Option D :=
  match dctOf C x with
  | some kvs => (keyOf y).bind fun k => getK kvs k
  | none => match intOf y with
    | none => none
    | some i => match strOf x with
      | some z => if z.length ≤ sizeLine then (atI z.cps.toList i).map fun c => .str ⟨#[c]⟩ else none
      | none => match tupOf x with
        | some ds => atI ds i
        | none => (lstOf C x).bind fun ds => atI ds i
def oIx : DO2 := fun x y C R => ∃ d, ixO C x y = some d ∧ R d C
section
variable {X : Cx} {a b : Expr} {ta tb : DE} {pos : Pos}
theorem ix_getK (hu : X.A.units + 64 < cLine) : IxR X rGetK := by
  intro value slice pins s σ H x y v u Q I rx ry h hs
  obtain ⟨d, kvs, k, z, rfl, hd, rfl, e, q⟩ := h
  cases rx
  have g : DGet H d (kV k) (some z) := .inl ⟨kvs, k, hd, rfl, e.symm⟩
  exact tail_any (dict_typeIs I g) (PySem.F.slot_dict_getitem.lookup) (d_getItem (by omega) I g ry fun w' s' I' r' => ⟨z, H, I', r', q⟩) hs
theorem lo_ix : LO2 X.K (fun x y H Q => rGetK x y H Q ∨ rIx X.K x y H Q) oIx := by
  intro F G H C x y v u R Q A rx ry h k
  obtain ⟨d, e, q⟩ := h
  unfold ixO at e
  split at e
  · rename_i kvs ek
    obtain ⟨i, ei, e⟩ := Option.bind_eq_some_iff.mp e
    obtain ⟨a, ks, rfl, ha, ra⟩ := dct_at A rx ek
    obtain ⟨z, e1, rz⟩ := (ra.val (k := i)).1 d e
    exact .inl ⟨a, ks, i, z, rfl, ha, ry.key ei, e1, k.now A q rz⟩
  · split at e
    · cases e
    · rename_i i ei
      cases ry.intV ei
      split at e
      · rename_i z ez
        split at e
        · rename_i hl
          obtain ⟨c, ec, e⟩ := Option.map_eq_some_iff.mp e
          subst e
          exact .inr (.inr (.inr ⟨z, i, c, rx.strV ez, rfl, hl, ec, k.now A q (.str _)⟩))
        · cases e
      · split at e
        · rename_i ds et
          obtain ⟨a, as, rfl, ha, ra⟩ := tup_at A rx et
          obtain ⟨z, e1, rz⟩ := ra.at e
          exact .inr (.inr (.inl ⟨a, as, i, z, rfl, rfl, ha, e1, k.now A q rz⟩))
        · obtain ⟨ds, el, e⟩ := Option.bind_eq_some_iff.mp e
          obtain ⟨a, as, rfl, ha, ra⟩ := lst_at A rx el
          obtain ⟨z, e1, rz⟩ := ra.at e
          exact .inr (.inl ⟨a, as, i, z, rfl, rfl, .inl ha, e1, k.now A q rz⟩)
theorem de_ix (hu : X.A.units + 64 < cLine) (ha : PE X a (liftE X.K ta)) (hb : PE X b (liftE X.K tb)) (hs : PlainIx b := by exact fun _ _ => rfl) : PE X (.Subscript a b pos) (liftE X.K (dOp oIx ta tb)) :=
  (pe_ix ((ix_getK hu).or ix_seq) ha hb hs).weak (lift_op lo_ix)
end
def dPart (t : DE) : DSt → Cells → (Option Int → Cells → Prop) → Prop := fun δ C R => t δ C fun d C1 => ∃ i, d = .int i ∧ R (some i) C1
def dNoPart : DSt → Cells → (Option Int → Cells → Prop) → Prop := fun _ C R => R none C
abbrev DOp := DSt → Cells → (Option Int → Cells → Prop) → Prop
def ToP (K : PySem.W.Frag) (F : Cells) (G : Hp) (R : Option Int → Cells → Prop) (Q : Option Int → Hp → Prop) : Prop := ∀ b C, R b C → ∀ H' G', Same G G' → Ab K F G' H' C → Q b H'
def liftP (K : PySem.W.Frag) (t : DOp) : TO := fun σ H Q => ∃ F G δ C R, Ab K F G H C ∧ RpS K G δ σ ∧ t δ C R ∧ ToP K F G R Q
section
variable {X : Cx} {a b : Expr} {te : DE} {pos : Pos}
theorem dp_none : PO X none (liftP X.K dNoPart) := ⟨fun pins s σ H Q I ⟨F, G, δ, C, R, A, S, q, k⟩ => po_none.run pins s σ H Q I (k none C q H G (Same.refl G) A)⟩
theorem dp_some (h : PE X a (liftE X.K te)) : PO X (some a) (liftP X.K (dPart te)) := by
  refine ⟨fun pins s σ H Q I ⟨F, G, δ, C, R, A, S, q, k⟩ => (po_some h).run pins s σ H Q I ⟨F, G, δ, C, _, A, S, q, ?_⟩⟩
  rintro d C1 ⟨i, rfl, q1⟩ v H1 G1 s1 A1 r1
  cases r1.intI
  exact ⟨i, rfl, k _ _ q1 H1 G1 s1 A1⟩
end
end DL
namespace DL
open PySem PySem.Spec L2
open PyProof.Rows hiding St
def slOk (C : Cells) (x : D) (lo hi : Option Int) : Option D :=
  match x with
  | .tup ds => some (.tup (cutL ds lo hi))
  | .str z => if z.length ≤ sizeLine then some (.str (cutS z lo hi)) else none
  | x => (lstOf C x).map fun ds => .lst (cutL ds lo hi)
def dSlice (te : DE) (tl th : DOp) : DE := fun δ C R => te δ C fun x C1 => tl δ C1 fun l C2 => th δ C2 fun u C3 => ∃ d, slOk C3 x l u = some d ∧ R d C3
section
variable {X : Cx} {e : Expr} {lo hi : Option Expr} {te : DE} {tl th : DOp} {pos p2 : Pos}
theorem cutL_whole {α : Type} {xs : List α} {lo hi : Option Int} (h : HT.sIx xs.length 0 lo = 0 ∧ HT.sIx xs.length xs.length hi = xs.length) : cutL xs lo hi = xs := by
  unfold cutL
  rw [h.1, h.2, Nat.sub_zero, List.drop_zero, List.take_length]
theorem de_slice (he : PE X e (liftE X.K te)) (hl : PO X lo (liftP X.K tl)) (hh : PO X hi (liftP X.K th)) : PE X (.Subscript e (.Slice lo hi none p2) pos) (liftE X.K (dSlice te tl th)) := by
  refine (pe_slice (sl_tupA.or (sl_list.or sl_str)) he hl hh).weak ?_
  rintro σ H Q ⟨F, G, δ, C, R, A, S, q, k⟩
  refine ⟨F, G, δ, C, _, A, S, q, fun x C1 q1 v H1 G1 s1 A1 r1 => ⟨F, G1, δ, C1, _, A1, S.mono s1, q1, fun l C2 q2 H2 G2 s2 A2 => ⟨F, G2, δ, C2, _, A2, S.mono (s1.trans s2), q2, ?_⟩⟩⟩
  rintro u C3 ⟨d, e, q3⟩ H3 G3 s3 A3
  have r3 := r1.mono (s2.trans s3)
  have k3 := k.mono (s1.trans (s2.trans s3))
  have L : ∀ ds, lstOf C3 x = some ds → d = .lst (cutL ds l u) → rSlA X.K v l u H3 Q ∨ rSlL X.K v l u H3 Q ∨ rSlS v l u H3 Q := fun ds el ed => by
    subst ed
    obtain ⟨a, as, rfl, ha, ra⟩ := lst_at A3 r3 el
    exact .inr (.inl ⟨a, as, rfl, .inl ha, fun p hp => k3.new A3 hp q3 (.lst (.inl upd_same) ((ra.cut l u).mono (A3.grow hp).2))⟩)
  cases x
  case tup ds =>
    cases e
    cases r3 with
    | tup hx rx =>
      rename_i a as
      refine .inl ⟨a, as, rfl, sqT_mono A3.sub hx, fun hw => ?_, fun _ p hp => k3.new A3 hp q3 (.tup (.inl (.inl upd_same)) ((rx.cut l u).mono (A3.grow hp).2))⟩
      rw [← rx.length] at hw
      rw [cutL_whole hw] at q3
      exact k3.now A3 q3 (.tup hx rx)
  case str z =>
    simp only [slOk] at e
    split at e
    · rename_i hz
      cases e
      exact .inr (.inr ⟨z, r3.strI, hz, k3.now A3 q3 (.str _)⟩)
    · cases e
  all_goals
    simp only [slOk, Option.map_eq_some_iff] at e
    obtain ⟨ds, el, ed⟩ := e
    exact L ds el ed.symm
/-- xs[::-1] -/
def dRev (te : DE) : DE := fun δ C R => te δ C fun x C1 => ∃ ds, lstOf C1 x = some ds ∧ R (.lst ds.reverse) C1
end
structure CalD (X : Cx) (f : Value) (o : DOs) : Prop where
  ex : ∃ r, CallR X f r ∧ LOs X.K r o
section
variable {X : Cx} {x : Str} {p pos : Pos} {e : Expr} {es : List Expr} {t : DA} {id T : String} {o : DOs}
theorem de_cb (hc : CalD X (.builtin id) o) (hg : Gl X x) (hm : X.mg x = none) (hv : bootBuiltins x = some (.builtin id)) (ha : PA X (e :: es) (liftA X.K t)) (hn : x ≠ "__name__" := by decide) (hdb : (x == ("__debug__" : Str)) = false := by decide)
    (he : starEach (e :: es) X.env = (false, eval e X.env) :: starEach es X.env := by rfl) (hpl : (backTo pos (starEach es X.env)).any (·.1) = false := by rfl) : PE X (.Call (.Name x p) (e :: es) [] pos) (liftE X.K (dFn o t)) := by
  obtain ⟨r, h1, h2⟩ := hc.ex
  exact (pe_callB h1 hg hm hv ha hn hdb he hpl).weak (lift_fn h2)
theorem de_ct (hc : CalD X (.type T) o) (hg : Gl X x) (hm : X.mg x = none) (hv : bootBuiltins x = some (.type T)) (ha : PA X (e :: es) (liftA X.K t)) (hn : x ≠ "__name__" := by decide) (hdb : (x == ("__debug__" : Str)) = false := by decide)
    (he : starEach (e :: es) X.env = (false, eval e X.env) :: starEach es X.env := by rfl) (hpl : (backTo pos (starEach es X.env)).any (·.1) = false := by rfl) : PE X (.Call (.Name x p) (e :: es) [] pos) (liftE X.K (dFn o t)) := by
  obtain ⟨r, h1, h2⟩ := hc.ex
  exact (pe_callTy h1 hg hm hv ha hn hdb he hpl).weak (lift_fn h2)
end
theorem RpL.one {K : PySem.W.Frag} {G : Hp} {d : D} {vs : List V} (r : RpL K G [d] vs) : ∃ v, vs = [v] ∧ Rp K G d v := by
  cases r with
  | cons a b => cases b; exact ⟨_, rfl, a⟩
theorem RpL.two {K : PySem.W.Frag} {G : Hp} {d e : D} {vs : List V} (r : RpL K G [d, e] vs) : ∃ v u, vs = [v, u] ∧ Rp K G d v ∧ Rp K G e u := by
  cases r with
  | cons a b => cases b with
    | cons c d => cases d; exact ⟨_, _, rfl, a, c⟩
/-- len(x) -/
def lenO (C : Cells) (x : D) : Option Nat :=
  match strOf x with
  | some z => if z.length ≤ sizeLine then some z.length else none
  | none => match tupOf x with
    | some ds => some ds.length
    | none => match lstOf C x with
      | some ds => some ds.length
      | none => (dctOf C x).map fun kvs => kvs.length
def oLen : DOs := fun xs C R => ∃ x n, xs = [x] ∧ lenO C x = some n ∧ R (.int (n : Nat)) C
section
variable {X : Cx}
theorem call_lenK : CallR X (.builtin "len") (fun xs H Q => ∃ a kvs, xs = [.ref a] ∧ Rd H a (.dK kvs) ∧ Q (.int kvs.length) H) := by
  intro pins s σ H xs us Q I r h
  obtain ⟨a, kvs, rfl, hd, q⟩ := h
  obtain ⟨u, rfl, rx⟩ := vals1 r
  cases rx
  exact d_len I hd fun t s' I' => ⟨.int kvs.length, H, I', ⟨t, rfl⟩, q⟩
theorem cl_len : CalD X (.builtin "len") oLen := by
  refine ⟨_, call_len.or call_lenK, ?_⟩
  intro F G H C xs vs R Q A rx h k
  obtain ⟨x, n, rfl, e, q⟩ := h
  obtain ⟨v, rfl, r⟩ := rx.one
  unfold lenO at e
  split at e
  · rename_i z ez
    split at e
    · rename_i hz
      cases e
      exact .inl ⟨v, _, rfl, by rw [r.strV ez]; exact ⟨hz, rfl⟩, k.now A q (.int _)⟩
    · cases e
  · split at e
    · rename_i ds et
      cases e
      obtain ⟨a, as, rfl, ha, ra⟩ := tup_at A r et
      exact .inl ⟨.ref a, _, rfl, .inr ⟨as, ha, by rw [ra.length]⟩, k.now A q (.int _)⟩
    · split at e
      · rename_i ds et
        cases e
        obtain ⟨a, as, rfl, ha, ra⟩ := lst_at A r et
        exact .inl ⟨.ref a, _, rfl, .inl ⟨as, .inl ha, by rw [ra.length]⟩, k.now A q (.int _)⟩
      · obtain ⟨kvs, ek, en⟩ := Option.map_eq_some_iff.mp e
        subst en
        obtain ⟨a, ks, rfl, ha, ra⟩ := dct_at A r ek
        refine .inr ⟨a, ks, rfl, ha, ?_⟩
        rw [← ra.length]
        exact k.now A q (.int _)
end
def kindOf (C : Cells) : D → Option String
  | .non => some "NoneType"
  | .bl _ => some "bool"
  | .int _ => some "int"
  | .str _ => some "str"
  | .tup _ => some "tuple"
  | .lst _ => some "list"
  | .dct _ => some "dict"
  | .ref p => (C p).bind fun c => match c with
    | .lst _ => some "list"
    | .dct _ => some "dict"
    | _ => none
  | .ty _ => none
/-- is a thing of built-in type k one of T? -/
def isiT (k T : String) : Bool := k == T || (k == "bool" && T == "int")
def types : List String := ["int", "bool", "str", "tuple", "list"]
def isiO (C : Cells) (x : D) (t : D) : Option Bool :=
  match t with
  | .ty T => if types.contains T then (kindOf C x).map fun k => isiT k T else none
  | .tup [.ty T, .ty U] => if types.contains T && types.contains U then (kindOf C x).map fun k => isiT k T || isiT k U else none
  | _ => none
def oIsi : DOs := fun xs C R => ∃ x t b, xs = [x, t] ∧ isiO C x t = some b ∧ R (.bl b) C
def kinds : List String := ["NoneType", "bool", "int", "str", "tuple", "list", "dict"]
theorem kit_all : ∀ k ∈ kinds, ∀ T ∈ types, kitB k T = some (isiT k T) := by decide +kernel
theorem kind_in {C : Cells} {x : D} {k : String} (h : kindOf C x = some k) : k ∈ kinds := by
  unfold kindOf at h
  split at h <;> first | (cases h; done) | (cases h; decide) | skip
  · obtain ⟨c, _, e⟩ := Option.bind_eq_some_iff.mp h
    split at e <;> first | (cases e; done) | (cases e; decide)
section
variable {K : PySem.W.Frag} {G H : Hp} {F C : Cells} {d : D} {v : V}
theorem tyX_of {k : String} (A : Ab K F G H C) (r : Rp K G d v) (h : kindOf C d = some k) : TyX K H v (.type k) := by
  cases r <;> first | cases h | skip
  · exact .base .non
  · exact .base (.bl _)
  · exact .base (.int _)
  · exact .base (.str _)
  · obtain ⟨c, hc, e⟩ := Option.bind_eq_some_iff.mp h
    obtain ⟨_, u, hu, ok⟩ := A.cell _ _ hc
    split at e
    · cases e; cases ok; exact .base (.lst hu)
    · cases e; cases ok; exact .base (.dK hu)
    · cases e
  · rename_i ds a xs hx rx
    rcases sqT_mono A.sub hx with (hx | ⟨o, hx⟩) | ⟨o, its, n, h1, h2, _⟩
    · exact .base (.tup hx)
    · exact .fTuple hx
    · exact .kTuple h1 h2
  · rename_i ds a xs hx rx
    rcases rd_mono A.sub hx with hx | ⟨o, hx⟩
    · exact .base (.lst hx)
    · exact .base (.frz hx)
  · rename_i hx _
    exact .fDict (A.sub _ _ hx)
end
/-- isinstance(x, (T, U)) by a tuple that is read -/
def rIsiS (K : PySem.W.Frag) : List V → Hp → VK → Prop := fun xs H Q => ∃ (x : V) (tp : Addr) (cs : List V) (t : Value) (us : List Value) (b : Bool), xs = [x, .ref tp] ∧ SqT K H tp cs ∧ Paired ClsV cs us ∧ TyX K H x t ∧ PySem.W.kitAny K t us = some b ∧ Q (.bl b) H
section
variable {X : Cx}
theorem call_isiS : CallR X (.builtin "isinstance") (rIsiS X.K) := by
  intro pins s σ H xs us Q I r h
  obtain ⟨x, tp, cs, t, ws, b, rfl, hT, k, ty, e, q⟩ := h
  obtain ⟨u1, u2, rfl, r1, r2⟩ := vals2 r
  cases (show u2 = Value.ref tp from r2)
  obtain ⟨P, Z, p, hx⟩ := kit_of I r1 ty
  obtain ⟨its, rv, ⟨o, h1, h2, n, h3⟩, _⟩ := I.tuple hT
  have e3 := ClsV.all k rv
  subst e3
  obtain ⟨oc, od, dt, sl⟩ := o
  simp only at h2 h3
  subst h2 h3
  exact PySem.W.kia_tup Z I.kIn p h1 e hx fun tk => ⟨.bl b, H, I.tok tk, rfl, q⟩
theorem cl_isi : CalD X (.builtin "isinstance") oIsi := by
  refine ⟨_, call_isi.or call_isiS, ?_⟩
  intro F G H C xs vs R Q A rx h k
  obtain ⟨x, t, b, rfl, e, q⟩ := h
  obtain ⟨v, u, rfl, r, rt⟩ := rx.two
  unfold isiO at e
  split at e
  · rename_i T
    split at e
    · rename_i hT
      obtain ⟨kk, ek, eb⟩ := Option.map_eq_some_iff.mp e
      subst eb
      cases rt
      exact .inl ⟨v, .ty T, .type kk, .type T, _, rfl, .ty T, tyX_of A r ek, kit_ty (kit_all kk (kind_in ek) T (List.contains_iff_mem.mp hT)), k.now A q (.bl _)⟩
    · cases e
  · rename_i T U
    split at e
    · rename_i hT
      obtain ⟨kk, ek, eb⟩ := Option.map_eq_some_iff.mp e
      subst eb
      rw [Bool.and_eq_true] at hT
      obtain ⟨a, as, rfl, ha, ra⟩ := tup_at A rt rfl
      obtain ⟨c1, c2, rfl, rc1, rc2⟩ := ra.two
      cases rc1; cases rc2
      refine .inr ⟨v, a, _, .type kk, [.type T, .type U], _, rfl, ha, .cons (.ty T) (.cons (.ty U) .nil), tyX_of A r ek, ?_, k.now A q (.bl _)⟩
      refine kitAny_cons (kit_ty (kit_all kk (kind_in ek) T (List.contains_iff_mem.mp hT.1))) (fun h => ?_) (fun h => by rw [h]; rfl)
      rw [h, Bool.false_or]
      refine kitAny_cons (kit_ty (kit_all kk (kind_in ek) U (List.contains_iff_mem.mp hT.2))) (fun h => by rw [h]; exact kitAny_nil) (fun h => h)
    · cases e
  · cases e
end
def bools : List D → Option (List Bool)
  | [] => some []
  | .bl b :: ds => (bools ds).map (b :: ·)
  | _ => none
def oAll : DOs := fun xs C R => ∃ x ds bs, xs = [x] ∧ lstOf C x = some ds ∧ bools ds = some bs ∧ R (.bl (bs.all id)) C
theorem RpL.bools {K : PySem.W.Frag} {G : Hp} : ∀ {ds : List D} {vs : List V} {bs : List Bool}, RpL K G ds vs → DL.bools ds = some bs → vs = bs.map V.bl
  | _, _, _, .nil, e => by cases e; rfl
  | _, _, bs, .cons (d := d) r t, e => by
    cases d <;> first | cases e | skip
    simp only [DL.bools, Option.map_eq_some_iff] at e
    obtain ⟨bs', e1, rfl⟩ := e
    cases r
    rw [RpL.bools t e1]
    rfl
section
variable {X : Cx}
theorem cl_all (hc : X.calm = true) : CalD X (.builtin "all") oAll := by
  refine ⟨_, cr_all hc, ?_⟩
  intro F G H C xs vs R Q A rx h k
  obtain ⟨x, ds, bs, rfl, e, eb, q⟩ := h
  obtain ⟨v, rfl, r⟩ := rx.one
  obtain ⟨a, as, rfl, ha, ra⟩ := lst_at A r e
  have := ra.bools eb
  subst this
  exact ⟨a, bs, rfl, .inl ha, k.now A q (.bl _)⟩
/-- tuple(x) of a list or a tuple -/
def oTuple : DOs := fun xs C R => ∃ x, xs = [x] ∧ match tupOf x with
  | some ds => R (.tup ds) C
  | none => ∃ ds, lstOf C x = some ds ∧ R (.tup ds) C
theorem cl_tuple : CalD X (.type "tuple") oTuple := by
  refine ⟨_, call_tuple_of, ?_⟩
  intro F G H C xs vs R Q A rx h k
  obtain ⟨x, rfl, h⟩ := h
  obtain ⟨v, rfl, r⟩ := rx.one
  split at h
  · rename_i ds et
    cases r <;> first | cases et | skip
    rename_i a as hx rx'
    exact ⟨a, as, rfl, .inr ⟨sqT_mono A.sub hx, k.now A h (.tup hx rx')⟩⟩
  · obtain ⟨ds, el, q⟩ := h
    obtain ⟨a, as, rfl, ha, ra⟩ := lst_at A r el
    exact ⟨a, as, rfl, .inl ⟨.inl ha, fun p hp => k.new A hp q (.tup (.inl (.inl upd_same)) (ra.mono (A.grow hp).2))⟩⟩
/-- list(x) of a list or a tuple: a list that is never written; one that may be -/
def seqOf (C : Cells) (x : D) : Option (List D) := match tupOf x with
  | some ds => some ds
  | none => lstOf C x
def oDictC : DOs := fun xs C R => ∃ x kvs, xs = [x] ∧ dctOf C x = some kvs ∧ ∀ p, C p = none → R (.ref p) (updC C p (.dct kvs))
theorem cl_dictC : CalD X (.type "dict") oDictC := by
  refine ⟨_, call_dictD, ?_⟩
  intro F G H C xs vs R Q A rx h k
  obtain ⟨x, ds, rfl, e, q⟩ := h
  obtain ⟨v, rfl, r⟩ := rx.one
  obtain ⟨a, as, rfl, ha, ra⟩ := dct_at A r e
  exact ⟨a, as, rfl, ha, fun p hp => k.cell A hp (q p (A.free hp)) (.dct ra)⟩
end
end DL
namespace DL
open PySem PySem.Spec L2
open PyProof.Rows hiding St
def dNext : DS := fun D δ C => D.nx δ C
def dSeq (t u : DS) : DS := fun D δ C => t { D with nx := u D } δ C
def dRet (te : DE) : DS := fun D δ C => te δ C D.rt
def dRetN : DS := fun D _ C => D.rt .non C
def dDrop (te : DE) : DS := fun D δ C => te δ C fun _ C1 => D.nx δ C1
def dIfS (c : DT) (t u : DS) : DS := fun D δ C => c δ C fun b C1 => if b = true then t D δ C1 else u D δ C1
def dNever : DS := fun _ _ _ => False
abbrev DG := D → DSt → Cells → (DSt → Cells → Prop) → Prop
abbrev DGs := List D → DSt → Cells → (DSt → Cells → Prop) → Prop
def dAsg (te : DE) (g : DG) : DS := fun D δ C => te δ C fun x C1 => g x δ C1 D.nx
section
variable (K : PySem.W.Frag)
def liftG (t : DG) : TG := fun v σ H Q => ∃ F G δ C d R, Ab K F G H C ∧ RpS K G δ σ ∧ Rp K G d v ∧ t d δ C R ∧ ToN K F G R Q
def liftGs (t : DGs) : TGs := fun vs σ H Q => ∃ F G δ C ds R, Ab K F G H C ∧ RpS K G δ σ ∧ RpL K G ds vs ∧ t ds δ C R ∧ ToN K F G R Q
end
section
variable {X : Cx} {st : Stmt} {rest : List Stmt} {t u : DS} {e : Expr} {te : DE} {pos : Pos}
theorem dss_nil : PSs X [] (liftS X.K dNext) := pss_nil.weak fun D σ H ⟨F, G, δ, C, R, A, S, q, k⟩ => k.nx _ _ q σ H G (Same.refl G) A S
theorem lift_seq {K : PySem.W.Frag} : ∀ D σ H, liftS K (dSeq t u) D σ H → tSeq (liftS K t) (liftS K u) D σ H := fun D σ H ⟨F, G, δ, C, R, A, S, q, k⟩ =>
  ⟨F, G, δ, C, { R with nx := u R }, A, S, q, ⟨fun δ' C' q' σ' H' G' s' A' S' => ⟨F, G', δ', C', R, A', S', q', k.mono s'⟩, k.rt, k.bk, k.ct⟩⟩
theorem dss_cons (h1 : PS X st (liftS X.K t)) (h2 : PSs X rest (liftS X.K u)) : PSs X (st :: rest) (liftS X.K (dSeq t u)) := (pss_cons h1 h2).weak lift_seq
theorem dss_one (h1 : PS X st (liftS X.K t)) : PSs X [st] (liftS X.K t) := pss_one h1
theorem ds_never : PS X st (liftS X.K dNever) := ps_never.weak fun D σ H ⟨F, G, δ, C, R, A, S, q, k⟩ => q
theorem ds_expr (he : PE X e (liftE X.K te)) (hs : swapsWith e none pos.line X.env = pure false := by rfl) : PS X (.Expr e pos) (liftS X.K (dDrop te)) :=
  (ps_expr he hs).weak fun D σ H ⟨F, G, δ, C, R, A, S, q, k⟩ => ⟨F, G, δ, C, _, A, S, q, fun d C1 q1 v H1 G1 s1 A1 r1 => k.nx _ _ q1 σ H1 G1 s1 A1 (S.mono s1)⟩
theorem ds_ret (he : PE X e (liftE X.K te)) : PS X (.Return (some e) pos) (liftS X.K (dRet te)) :=
  (ps_ret he).weak fun D σ H ⟨F, G, δ, C, R, A, S, q, k⟩ => ⟨F, G, δ, C, _, A, S, q, k.rt⟩
theorem ds_if {c : Expr} {a b : List Stmt} {tc : DT} (hc : PT X c (liftT X.K tc)) (ha : PSs X a (liftS X.K t)) (hb : PSs X b (liftS X.K u)) : PS X (.If c a b pos) (liftS X.K (dIfS tc t u)) := by
  refine (ps_if hc ha hb).weak ?_
  rintro D σ H ⟨F, G, δ, C, R, A, S, q, k⟩
  refine ⟨F, G, δ, C, _, A, S, q, fun b C1 q1 H1 G1 s1 A1 => ?_⟩
  cases b with
  | true => rw [if_pos rfl] at q1 ⊢; exact ⟨F, G1, δ, C1, R, A1, S.mono s1, q1, k.mono s1⟩
  | false => rw [if_neg Bool.false_ne_true] at q1 ⊢; exact ⟨F, G1, δ, C1, R, A1, S.mono s1, q1, k.mono s1⟩
def gdName (i : Nat) : DG := fun d δ C R => R (δ.set i (some d)) C
theorem lift_name {K : PySem.W.Frag} {i : Nat} : ∀ v σ H Q, liftG K (gdName i) v σ H Q → gName i v σ H Q := fun v σ H Q ⟨F, G, δ, C, d, R, A, S, r, q, k⟩ => k _ _ q _ H G (Same.refl G) A (RpS.set r i S)
theorem _root_.L2.PG.weak {tg : Expr} {t t' : TG} (h : PG X tg t) (w : ∀ v σ H Q, t' v σ H Q → t v σ H Q) : PG X tg t' := ⟨fun pins s σ H v u Q I r q => h.run pins s σ H v u Q I r (w v σ H Q q)⟩
theorem _root_.L2.PGs.weak {tg : List Expr} {t t' : TGs} (h : PGs X tg t) (w : ∀ v σ H Q, t' v σ H Q → t v σ H Q) : PGs X tg t' := ⟨fun pins s σ H v u Q I r q => h.run pins s σ H v u Q I r (w v σ H Q q)⟩
theorem dg_name {i : Nat} {x : Str} (hN : X.N.Nodup) (hi : X.N[i]? = some x) (hx : Loc X.env.scope x) (hf : X.fn x = true ∨ X.env.scope.names.lookup x = some .local := by first | exact .inl rfl | exact .inr rfl | assumption) : PG X (.Name x pos) (liftG X.K (gdName i)) :=
  (pg_name hN hi hx hf).weak lift_name
def gdNil : DGs := fun ds δ C R => ds = [] ∧ R δ C
def gdCons (t : DG) (u : DGs) : DGs := fun ds δ C R => ∃ d r, ds = d :: r ∧ t d δ C fun δ' C' => u r δ' C' R
theorem dgs_nil : PGs X [] (liftGs X.K gdNil) := pgs_nil.weak fun vs σ H Q ⟨F, G, δ, C, ds, R, A, S, r, ⟨e, q⟩, k⟩ => by
  subst e
  cases r
  exact ⟨rfl, k _ _ q _ H G (Same.refl G) A S⟩
theorem dgs_cons {e : Expr} {es : List Expr} {t : DG} {u : DGs} (h1 : PG X e (liftG X.K t)) (h2 : PGs X es (liftGs X.K u)) (hs : (assignEach (e :: es) X.env).map (·.2) = assign e X.env :: (assignEach es X.env).map (·.2) := by rfl) :
    PGs X (e :: es) (liftGs X.K (gdCons t u)) := (pgs_cons h1 h2 hs).weak fun vs σ H Q ⟨F, G, δ, C, ds, R, A, S, r, ⟨d, dr, e, q⟩, k⟩ => by
  subst e
  cases r with
  | cons r1 r2 =>
    exact ⟨_, _, rfl, F, G, δ, C, d, _, A, S, r1, q, fun δ' C' q' σ' H' G' s' A' S' => ⟨F, G', δ', C', dr, R, A', S', r2.mono s', q', k.mono s'⟩⟩
/-- (a, b, ..) = a tuple of that length -/
def gdTup (n : Nat) (t : DGs) : DG := fun d δ C R => ∃ ds, tupOf d = some ds ∧ ds.length = n ∧ t ds δ C R
theorem dg_tup {es : List Expr} {k : Nat} {t : DGs} {n : Nat} (hc : X.calm = true) (h : PGs X es (liftGs X.K t))
    (hn : (assignEach es X.env).length = n := by rfl) (hst : (assignEach es X.env).findIdx? (·.1) = none := by rfl) : PG X (.Tuple es k pos) (liftG X.K (gdTup n t)) :=
  (pg_tup hc h hn hst).weak fun v σ H Q ⟨F, G, δ, C, d, R, A, S, r, ⟨ds, e, hl, q⟩, k⟩ => by
  obtain ⟨a, as, rfl, ha, ra⟩ := tup_at A r e
  exact ⟨a, as, rfl, ha, by rw [← ra.length]; exact hl, F, G, δ, C, ds, R, A, S, ra, q, k⟩
theorem lift_asg {K : PySem.W.Frag} {g : DG} : ∀ D σ H, liftS K (dAsg te g) D σ H → tAsg (liftE K te) (liftG K g) D σ H := fun D σ H ⟨F, G, δ, C, R, A, S, q, k⟩ =>
  ⟨F, G, δ, C, _, A, S, q, fun d C1 q1 v H1 G1 s1 A1 r1 => ⟨F, G1, δ, C1, d, R.nx, A1, S.mono s1, r1, q1, k.nx.mono s1⟩⟩
theorem ds_asg {tg e : Expr} {g : DG} (he : PE X e (liftE X.K te)) (hg : PG X tg (liftG X.K g)) (hs : swapsWithSole [tg] e pos.line X.env = pure false := by rfl) (hw : swappedStores [tg] e X.env = pure none := by rfl)
    (h1 : (assignEach [tg] X.env).map (·.2) = [assign tg X.env] := by rfl) : PS X (.Assign [tg] e pos) (liftS X.K (dAsg te g)) := (ps_asg he hg hs hw h1).weak lift_asg
/-- name = value -/
theorem ds_set {i : Nat} {x : Str} {pos' : Pos} (hN : X.N.Nodup) (hi : X.N[i]? = some x) (hx : Loc X.env.scope x) (he : PE X e (liftE X.K te)) (hs : swapsWith e (some (.Name x pos')) pos.line X.env = pure false := by rfl) (hf : X.fn x = true ∨ X.env.scope.names.lookup x = some .local := by first | exact .inl rfl | exact .inr rfl | assumption) :
    PS X (.Assign [.Name x pos'] e pos) (liftS X.K (dAsg te (gdName i))) := (ps_set hN hi hx he hs hf).weak fun D σ H q => by
  obtain ⟨F, G, δ, C, R, A, S, q, k⟩ := q
  exact ⟨F, G, δ, C, _, A, S, q, fun d C1 q1 v H1 G1 s1 A1 r1 => k.nx _ _ q1 _ H1 G1 s1 A1 (RpS.set r1 i (S.mono s1))⟩
end
structure DIt where
  go : Nat → Cells → Prop
  yld : Nat → Cells → D → Prop
  stop : Nat → Cells → Prop
abbrev DI := DSt → Cells → (DIt → Cells → Prop) → Prop
section
variable (K : PySem.W.Frag)
def ItOk (G : Hp) (J : DIt) (J' : It) : Prop := ∀ F i G2 H2 C2, Same G G2 → Ab K F G2 H2 C2 →
  (J.go i C2 → J'.go i H2 ∧ ∀ x H3, J'.yld i H2 x H3 → ∃ G3 d, Same G2 G3 ∧ Ab K F G3 H3 C2 ∧ J.yld i C2 d ∧ Rp K G3 d x) ∧ (J.stop i C2 → J'.stop i H2)
def liftI (t : DI) : TI := fun σ H Q => ∃ F G δ C R, Ab K F G H C ∧ RpS K G δ σ ∧ t δ C R ∧ ∀ J C', R J C' → ∀ J' H' G', Same G G' → Ab K F G' H' C' → ItOk K G' J J' → Q J' H'
end
theorem _root_.L2.PI.weak {X : Cx} {tg e : Expr} {t t' : TI} (h : PI X tg e t) (w : ∀ σ H Q, t' σ H Q → t σ H Q) : PI X tg e t' := ⟨fun pins s σ H Q I q => h.run pins s σ H Q I (w σ H Q q)⟩
def keyD : Key → D
  | .inl i => .int i
  | .inr x => .str x
/-- what stays is walked; a list that may change; a locked dict's keys -/
def itFix (ds : List D) : DIt := ⟨fun i _ => i < ds.length, fun i _ d => ds[i]? = some d, fun i _ => ds.length ≤ i⟩
def itLive (p : Addr) : DIt := ⟨fun i C => ∃ ds d, C p = some (.lst ds) ∧ ds[i]? = some d, fun i C d => ∃ ds, C p = some (.lst ds) ∧ ds[i]? = some d, fun i C => ∃ ds, C p = some (.lst ds) ∧ ds.length ≤ i⟩
def chars (z : Str) : List D := z.cps.toList.map fun c => .str ⟨#[c]⟩
def itOf (C : Cells) (x : D) : Option DIt := match x with
  | .str z => some (itFix (chars z))
  | .tup ds => some (itFix ds)
  | .lst ds => some (itFix ds)
  | .dct kvs => some (itFix (kvs.map fun kv => keyD kv.1))
  | .ref p => match C p with
    | some (.lst _) => some (itLive p)
    | _ => none
  | _ => none
def diSeq (te : DE) : DI := fun δ C R => te δ C fun x C1 => ∃ J, itOf C1 x = some J ∧ R J C1
/-- a list, a tuple or a text is walked -/
def iAny (K : PySem.W.Frag) (tl : TE) : TI := fun σ H R => tl σ H fun x H1 => (∃ a, x = .ref a ∧ (∃ xs, SqL K H1 a xs) ∧ R (Itl K a) H1) ∨ (∃ a, x = .ref a ∧ (∃ xs, SqT K H1 a xs) ∧ R (Itt K a) H1) ∨ (∃ d o kvs, x = .ref d ∧ H1 d = some (.frz o (.dK kvs)) ∧ R (Itk d o kvs) H1) ∨ ∃ z, x = .str z ∧ R (Its z) H1
section
variable {X : Cx} {tg e : Expr} {te : DE}
theorem pi_any {tl : TE} (hl : PE X e tl) : PI X tg e (iAny X.K tl) := by
  refine ⟨fun pins s σ H R I h => ?_⟩
  refine thn (hl.run pins s σ H _ I h) fun v s1 ⟨x, H1, I1, r1, q1⟩ => ?_
  rcases q1 with ⟨a, rfl, hq, q⟩ | ⟨a, rfl, hq, q⟩ | ⟨d, o, kvs, rfl, hd, q⟩ | ⟨z, rfl, q⟩
  · cases r1
    obtain ⟨xs, hq⟩ := hq
    obtain ⟨its, rv, p, hz⟩ := I1.list hq
    refine wpAny_pyIter_list p.isList ?_
    refine ⟨s1.heap.objs.size, [s1.heap.objs.size], _, _, H1, rfl, I1.kept (t' := s1.toks) fun b o e => Heap.get?_push_of_some _ e, turn_list a _, ⟨_, Heap.get?_push_size _ rfl, rfl, rfl⟩, fun b hb => ?_, q⟩
    have e : b = s1.heap.objs.size := by simpa using hb
    subst e
    exact I1.fpOk (Nat.le_refl _) (I1.hok.fresh (Nat.le_refl _))
  · cases r1
    obtain ⟨xs, hq⟩ := hq
    obtain ⟨its, rv, p, hz⟩ := I1.tuple hq
    refine wpAny_pyIter_tuple (show s1.heap.IsTuple a its.toArray from p) ?_
    refine ⟨s1.heap.objs.size, [s1.heap.objs.size], _, _, H1, rfl, I1.kept (t' := s1.toks) fun b o e => Heap.get?_push_of_some _ e, turn_tuple a _, ⟨_, Heap.get?_push_size _ rfl, rfl, rfl⟩, fun b hb => ?_, q⟩
    have e : b = s1.heap.objs.size := by simpa using hb
    subst e
    exact I1.fpOk (Nat.le_refl _) (I1.hok.fresh (Nat.le_refl _))
  · obtain rfl : v = Value.ref d := r1
    obtain ⟨hs, hgd, hx, es, ep, vs, hdt, hsz, kv, hm⟩ := I1.frzK hd
    refine iter_keys hs hgd hx hdt (pi_one (tk := s1.toks) I1 _ (turn_keys _ hdt) ⟨_, Heap.get?_push_size _ rfl, rfl, ?_⟩ q)
    rw [hsz] <;> rfl
  · obtain ⟨t, rfl⟩ := r1
    cases ha : z.cps.all (· < 128)
    · exact wpAny_pyIter_wide ha (pi_one (tk := s1.toks) I1 _ (turn_str _ z t "str_iterator" (.inr rfl)) ⟨_, Heap.get?_push_size _ rfl, rfl, rfl⟩ q)
    · exact wpAny_pyIter_ascii ha (pi_one (tk := s1.toks) I1 _ (turn_str _ z t "str_ascii_iterator" (.inl rfl)) ⟨_, Heap.get?_push_size _ rfl, rfl, rfl⟩ q)
theorem itok_live {K : PySem.W.Frag} {G : Hp} {a : Addr} : ItOk K G (itLive a) (Itl K a) := by
  intro F i G2 H2 C2 s2 A2
  refine ⟨?_, ?_⟩
  · rintro ⟨ds, d, e, ed⟩
    obtain ⟨b, as, eb, hb, rb⟩ := lst_at (d := .ref a) (v := .ref a) A2 (.ref a) (show (C2 a).bind cellLst = some ds by rw [e]; rfl)
    cases eb
    obtain ⟨v, hv, rv⟩ := rb.getD ed
    refine ⟨⟨as, v, .inl hb, hv⟩, ?_⟩
    rintro y H3 ⟨rfl, hy⟩
    have := hy as (.inl hb)
    rw [hv] at this
    cases this
    exact ⟨G2, d, Same.refl _, A2, ⟨ds, e, ed⟩, rv⟩
  · rintro ⟨ds, e, hl⟩
    obtain ⟨b, as, eb, hb, rb⟩ := lst_at (d := .ref a) (v := .ref a) A2 (.ref a) (show (C2 a).bind cellLst = some ds by rw [e]; rfl)
    cases eb
    exact ⟨as, .inl hb, by rw [← rb.length]; exact hl⟩
theorem itok_lst {K : PySem.W.Frag} {G : Hp} {ds : List D} {a : Addr} (r : Rp K G (.lst ds) (.ref a)) : ItOk K G (itFix ds) (Itl K a) := by
  intro F i G2 H2 C2 s2 A2
  cases r.mono s2 with
  | lst hx rx =>
    have hx := rd_mono A2.sub hx
    refine ⟨fun hi => ?_, fun hl => ⟨_, .inl hx, by rw [← rx.length]; exact hl⟩⟩
    obtain ⟨v, hv, rv⟩ := rx.getD (List.getElem?_eq_getElem hi)
    refine ⟨⟨_, v, .inl hx, hv⟩, ?_⟩
    rintro y H3 ⟨rfl, hy⟩
    have := hy _ (.inl hx)
    rw [hv] at this
    cases this
    exact ⟨G2, _, Same.refl _, A2, List.getElem?_eq_getElem hi, rv⟩
theorem itok_tup {K : PySem.W.Frag} {G : Hp} {ds : List D} {a : Addr} (r : Rp K G (.tup ds) (.ref a)) : ItOk K G (itFix ds) (Itt K a) := by
  intro F i G2 H2 C2 s2 A2
  cases r.mono s2 with
  | tup hx rx =>
    have hx := sqT_mono A2.sub hx
    refine ⟨fun hi => ?_, fun hl => ⟨_, hx, by rw [← rx.length]; exact hl⟩⟩
    obtain ⟨v, hv, rv⟩ := rx.getD (List.getElem?_eq_getElem hi)
    refine ⟨⟨_, v, hx, hv⟩, ?_⟩
    rintro y H3 ⟨rfl, hy⟩
    have := hy _ hx
    rw [hv] at this
    cases this
    exact ⟨G2, _, Same.refl _, A2, List.getElem?_eq_getElem hi, rv⟩
theorem itok_str {K : PySem.W.Frag} {G : Hp} {z : Str} : ItOk K G (itFix (chars z)) (Its z) := by
  intro F i G2 H2 C2 s2 A2
  have hlen : (chars z).length = z.cps.size := by unfold chars; simp
  refine ⟨fun hi => ?_, fun hl => ?_⟩
  · have hi : i < (chars z).length := hi
    refine ⟨show i < z.cps.size by omega, ?_⟩
    rintro y H3 ⟨rfl, c', hc', rfl⟩
    refine ⟨G2, .str ⟨#[c']⟩, Same.refl _, A2, ?_, .str _⟩
    show (chars z)[i]? = _
    unfold chars
    rw [List.getElem?_map]
    have : z.cps.toList[i]? = some c' := by simpa using hc'
    rw [this]; rfl
  · have hl : (chars z).length ≤ i := hl
    show z.cps.size ≤ i
    omega
theorem RpK.getD {K : PySem.W.Frag} {G : Hp} : ∀ {ds : List (Key × D)} {vs : List (Key × V)} {i : Nat} {k : Key} {v : V}, RpK K G ds vs → vs[i]? = some (k, v) → ∃ d, ds[i]? = some (k, d) ∧ Rp K G d v
  | _, _, i, _, _, .nil, e => by simp at e
  | _, _, 0, _, _, .cons r _, e => by simp at e; obtain ⟨rfl, rfl⟩ := e; exact ⟨_, rfl, r⟩
  | _, _, i + 1, _, _, .cons _ t, e => by
    obtain ⟨d, h1, h2⟩ := RpK.getD (i := i) t (by simpa using e)
    exact ⟨d, by simpa using h1, h2⟩
theorem rp_key {K : PySem.W.Frag} {G : Hp} (k : Key) : Rp K G (keyD k) (kV k) := by cases k <;> constructor
theorem itok_dct {K : PySem.W.Frag} {G : Hp} {kvs : List (Key × D)} {ks : List (Key × V)} {a : Addr} {o : Obj} (hx : G a = some (.frz o (.dK ks))) (rx : RpK K G kvs ks) : ItOk K G (itFix (kvs.map fun kv => keyD kv.1)) (Itk a o ks) := by
  intro F i G2 H2 C2 s2 A2
  have hx := A2.sub _ _ (s2 _ _ hx)
  refine ⟨fun hi => ?_, fun hl => ?_⟩
  · have hi : i < (kvs.map fun kv => keyD kv.1).length := hi
    rw [List.length_map, rx.length] at hi
    refine ⟨⟨hx, hi⟩, ?_⟩
    rintro y H3 ⟨rfl, k, v, hk, rfl⟩
    obtain ⟨d, h1, h2⟩ := rx.getD hk
    refine ⟨G2, keyD k, Same.refl _, A2, ?_, rp_key k⟩
    show (kvs.map fun kv => keyD kv.1)[i]? = _
    rw [List.getElem?_map, h1]; rfl
  · have hl : (kvs.map fun kv => keyD kv.1).length ≤ i := hl
    rw [List.length_map, rx.length] at hl
    exact ⟨hx, hl⟩
theorem di_seq (he : PE X e (liftE X.K te)) : PI X tg e (liftI X.K (diSeq te)) := by
  refine (pi_any he).weak ?_
  rintro σ H Q ⟨F, G, δ, C, R, A, S, q, k⟩
  refine ⟨F, G, δ, C, _, A, S, q, ?_⟩
  rintro x C1 ⟨J, hx, q1⟩ v H1 G1 s1 A1 r1
  unfold itOf at hx
  split at hx
  · cases hx
    exact .inr (.inr (.inr ⟨_, r1.strI, k _ _ q1 _ H1 G1 s1 A1 itok_str⟩))
  · cases hx
    cases r1 with
    | tup h1 h2 => exact .inr (.inl ⟨_, rfl, ⟨_, sqT_mono A1.sub h1⟩, k _ _ q1 _ H1 G1 s1 A1 (itok_tup (.tup h1 h2))⟩)
  · cases hx
    cases r1 with
    | lst h1 h2 => exact .inl ⟨_, rfl, ⟨_, .inl (rd_mono A1.sub h1)⟩, k _ _ q1 _ H1 G1 s1 A1 (itok_lst (.lst h1 h2))⟩
  · cases hx
    cases r1 with
    | dct h1 h2 => exact .inr (.inr (.inl ⟨_, _, _, rfl, A1.sub _ _ h1, k _ _ q1 _ H1 G1 s1 A1 (itok_dct h1 h2)⟩))
  · rename_i p
    split at hx
    · rename_i ds hc
      cases hx
      cases r1
      obtain ⟨b, as, eb, hb, rb⟩ := lst_at (d := .ref p) (v := .ref p) A1 (.ref p) (show (C1 p).bind cellLst = some ds by rw [hc]; rfl)
      cases eb
      exact .inl ⟨_, rfl, ⟨as, .inl hb⟩, k _ _ q1 _ H1 G1 s1 A1 itok_live⟩
    · cases hx
  · cases hx
/-- range(n), range(a, b) -/
def itRng (lo : Int) (n : Nat) : DIt := ⟨fun i _ => i < n, fun i _ d => d = .int (lo + i), fun i _ => n ≤ i⟩
def diRng1 (ta : DA) : DI := fun δ C R => ta δ C fun xs C1 => ∃ j : Int, xs = [.int j] ∧ -(2 ^ 62) ≤ j ∧ j < 2 ^ 62 ∧ R (itRng 0 j.toNat) C1
def diRng2 (ta : DA) : DI := fun δ C R => ta δ C fun xs C1 => ∃ i j : Int, xs = [.int i, .int j] ∧ (-(2 ^ 62) ≤ i ∧ i < 2 ^ 62 ∧ -(2 ^ 62) ≤ j ∧ j < 2 ^ 62) ∧ R (itRng i (j - i).toNat) C1
theorem itok_rng {K : PySem.W.Frag} {G : Hp} {lo : Int} {n : Nat} : ItOk K G (itRng lo n) (Itr lo n) := by
  intro F i G2 H2 C2 s2 A2
  refine ⟨fun h => ⟨h, ?_⟩, fun h => h⟩
  rintro y H3 ⟨rfl, rfl⟩
  exact ⟨G2, _, Same.refl _, A2, rfl, .int _⟩
theorem di_range1 {a : Expr} {ta : DA} {p pos : Pos} (hg : Gl X "range") (hm : X.mg "range" = none) (ha : PA X [a] (liftA X.K ta)) (hs : starEach [a] X.env = [(false, eval a X.env)] := by rfl) : PI X tg (.Call (.Name "range" p) [a] [] pos) (liftI X.K (diRng1 ta)) :=
  (pi_range1 hg hm ha hs).weak fun σ H Q ⟨F, G, δ, C, R, A, S, q, k⟩ => ⟨F, G, δ, C, _, A, S, q, by
    rintro xs C1 ⟨j, rfl, h1, h2, q1⟩ vs H1 G1 s1 A1 r1
    obtain ⟨v, rfl, r⟩ := r1.one
    cases r
    exact ⟨j, rfl, h1, h2, k _ _ q1 _ H1 G1 s1 A1 itok_rng⟩⟩
end
def dFor (wi : DI) (g : DG) (tb : DS) : DS := fun D δ C => wi δ C fun J C1 => ∃ W : Nat → Nat → DSt → Cells → Prop, (∃ m, W 0 m δ C1) ∧ ∀ i m δ C, W i m δ C →
  (J.stop i C ∧ D.nx δ C) ∨ (J.go i C ∧ ∃ N : DSt → Cells → Prop, (∀ δ' C', N δ' C' → ∃ m', m' < m ∧ W (i + 1) m' δ' C') ∧ ∀ d, J.yld i C d → g d δ C fun δ2 C2 => tb { D with nx := N, ct := N, bk := D.nx } δ2 C2)
section
variable {X : Cx}
theorem ds_for {tg iter : Expr} {body : List Stmt} {wi : DI} {g : DG} {tb : DS} {pos : Pos} (hp : PassesOwn (model X.prog X.w) X.A X.env X.xe) (hc : X.calm = true) (hi : PI X tg iter (liftI X.K wi)) (hg : PG X tg (liftG X.K g)) (hb : PSs X body (liftS X.K tb))
    (hs : ∀ x, foldedSetIterable iter X.env x = pure x := by intro _; rfl) : PS X (.For tg iter body [] pos) (liftS X.K (dFor wi g tb)) := by
  refine (ps_for hp hc hi hg hb hs).weak ?_
  rintro D σ H ⟨F, G, δ, C, R, A, S, q, k⟩
  refine ⟨F, G, δ, C, _, A, S, q, ?_⟩
  rintro J C1 ⟨W, ⟨m0, w0⟩, step⟩ J' H1 G1 s1 A1 ok
  refine ⟨fun i m σ H => ∃ G2 δ C, Same G1 G2 ∧ Ab X.K F G2 H C ∧ RpS X.K G2 δ σ ∧ W i m δ C, ⟨m0, G1, δ, C1, Same.refl _, A1, S.mono s1, w0⟩, ?_⟩
  rintro i m σ2 H2 ⟨G2, δ2, C2, s2, A2, S2, w2⟩
  obtain ⟨o1, o2⟩ := ok F i G2 H2 C2 s2 A2
  rcases step i m δ2 C2 w2 with ⟨st, qn⟩ | ⟨go, N, hN, body⟩
  · exact .inl ⟨o2 st, k.nx _ _ qn σ2 H2 G2 (s1.trans s2) A2 S2⟩
  · obtain ⟨go', yl⟩ := o1 go
    refine .inr ⟨go', fun σ H => ∃ G3 δ C, Same G1 G3 ∧ Ab X.K F G3 H C ∧ RpS X.K G3 δ σ ∧ N δ C, ?_, ?_⟩
    · rintro σ' H' ⟨G3, δ', C', s3, A3, S3, n3⟩
      obtain ⟨m', hm, w3⟩ := hN δ' C' n3
      exact ⟨m', hm, G3, δ', C', s3, A3, S3, w3⟩
    · intro x H' y
      obtain ⟨G3, d, s3, A3, yd, rd⟩ := yl x H' y
      refine ⟨F, G3, δ2, C2, d, _, A3, S2.mono s3, rd, body d yd, ?_⟩
      intro δ4 C4 q4 σ4 H4 G4 s4 A4 S4
      refine ⟨F, G4, δ4, C4, _, A4, S4, q4, ⟨?_, k.rt.mono (s1.trans (s2.trans (s3.trans s4))), k.nx.mono (s1.trans (s2.trans (s3.trans s4))), ?_⟩⟩
      · intro δ5 C5 q5 σ5 H5 G5 s5 A5 S5
        exact ⟨G5, δ5, C5, s2.trans (s3.trans (s4.trans s5)), A5, S5, q5⟩
      · intro δ5 C5 q5 σ5 H5 G5 s5 A5 S5
        exact ⟨G5, δ5, C5, s2.trans (s3.trans (s4.trans s5)), A5, S5, q5⟩
def wipeD (δ : DSt) : List Nat → DSt
  | [] => δ
  | v :: vs => (wipeD δ vs).set v none
theorem RpS.setN {K : PySem.W.Frag} {G : Hp} : ∀ {δ : DSt} {σ : St} (i : Nat), RpS K G δ σ → ∀ o, RpS K G (δ.set i Option.none) (σ.set i o)
  | _, _, _, .nil, _ => .nil
  | _, _, 0, .some _ t, _ => .none t
  | _, _, 0, .none t, _ => .none t
  | _, _, i + 1, .some r t, o => .some r (RpS.setN i t o)
  | _, _, i + 1, .none t, o => .none (RpS.setN i t o)
theorem RpS.wipe {K : PySem.W.Frag} {G : Hp} {δ : DSt} {σ : St} (r : RpS K G δ σ) : ∀ vs, RpS K G (wipeD δ vs) (L2.wipe σ vs)
  | [] => r
  | v :: vs => RpS.setN v (RpS.wipe r vs) Option.none
end
end DL
namespace DL
open PySem PySem.Spec L2
open PyProof.Rows hiding St
theorem wipe_at (σ : St) : ∀ (vs : List Nat) (k : Nat), (L2.wipe σ vs)[k]? = if k ∈ vs ∧ k < σ.length then some none else σ[k]?
  | [], k => by simp [L2.wipe]
  | v :: vs, k => by
    unfold L2.wipe
    rw [List.getElem?_set, wipe_at σ vs k, L2.wipe_length]
    by_cases hk : v = k
    · subst hk
      simp only [List.mem_cons, true_or, true_and, if_true]
      by_cases hl : v < σ.length
      · rw [if_pos hl, if_pos hl]
      · rw [if_neg hl, if_neg hl, List.getElem?_eq_none_iff.mpr (by omega)]
    · rw [if_neg hk]
      simp only [List.mem_cons, Ne.symm hk, false_or]
theorem wipe_back {σ σ' : St} {vs : List Nat} (hl : σ'.length = (L2.wipe σ vs).length) (h : ∀ k, k ∉ vs → σ'[k]? = (L2.wipe σ vs)[k]?) : L2.wipe σ' vs = L2.wipe σ vs := by
  apply List.ext_getElem?
  intro k
  rw [wipe_at σ' vs k, hl, L2.wipe_length]
  by_cases hk : k ∈ vs
  · rw [wipe_at]
    by_cases hlt : k < σ.length
    · rw [if_pos ⟨hk, hlt⟩, if_pos ⟨hk, hlt⟩]
    · rw [if_neg (fun z => hlt z.2), if_neg (fun z => hlt z.2), List.getElem?_eq_none_iff.mpr (by rw [hl, L2.wipe_length]; omega), List.getElem?_eq_none_iff.mpr (by omega)]
  · rw [if_neg (fun z => hk z.1)]
    exact h k hk
/-- a target over HandS and over data: which slots it sets -/
def TgOk (K : PySem.W.Frag) (vs : List Nat) (g : TG) (gd : DG) : Prop := ∀ F G H C d v δ σ R Q, Ab K F G H C → RpS K G δ σ → Rp K G d v → gd d δ C R →
  (∀ δ' σ', σ'.length = σ.length → (∀ k, k ∉ vs → σ'[k]? = σ[k]?) → RpS K G δ' σ' → R δ' C → Q σ' H) → g v σ H Q
def TgsOk (K : PySem.W.Frag) (vs : List Nat) (g : TGs) (gd : DGs) : Prop := ∀ F G H C ds us δ σ R Q, Ab K F G H C → RpS K G δ σ → RpL K G ds us → gd ds δ C R →
  (∀ δ' σ', σ'.length = σ.length → (∀ k, k ∉ vs → σ'[k]? = σ[k]?) → RpS K G δ' σ' → R δ' C → Q σ' H) → g us σ H Q
section
variable {K : PySem.W.Frag} {vs : List Nat}
theorem tg_name {i : Nat} (hi : i ∈ vs := by decide) : TgOk K vs (gName i) (gdName i) := by
  intro F G H C d v δ σ R Q A S r q k
  exact k _ _ (List.length_set ..) (fun j hj => by rw [List.getElem?_set_ne (by rintro rfl; exact hj hi)]) (RpS.set r i S) q
theorem tgs_nil : TgsOk K vs gNil gdNil := by
  intro F G H C ds us δ σ R Q A S r q k
  obtain ⟨rfl, q⟩ := q
  cases r
  exact ⟨rfl, k _ _ rfl (fun _ _ => rfl) S q⟩
theorem tgs_cons {g : TG} {gd : DG} {gs : TGs} {gds : DGs} (h : TgOk K vs g gd) (hs : TgsOk K vs gs gds) : TgsOk K vs (gCons g gs) (gdCons gd gds) := by
  intro F G H C ds us δ σ R Q A S r q k
  obtain ⟨d, dr, rfl, q⟩ := q
  cases r with
  | cons r1 r2 =>
    refine ⟨_, _, rfl, h F G H C d _ δ σ _ _ A S r1 q fun δ' σ' l1 k1 S1 q1 => ?_⟩
    exact hs F G H C dr _ δ' σ' R Q A S1 r2 q1 fun δ2 σ2 l2 k2 S2 q2 => k δ2 σ2 (l2.trans l1) (fun j hj => (k2 j hj).trans (k1 j hj)) S2 q2
theorem tg_tup {n : Nat} {gs : TGs} {gds : DGs} (h : TgsOk K vs gs gds) : TgOk K vs (gTup K n gs) (gdTup n gds) := by
  intro F G H C d v δ σ R Q A S r q k
  obtain ⟨ds, e, hl, q⟩ := q
  obtain ⟨a, as, rfl, ha, ra⟩ := tup_at A r e
  exact ⟨a, as, rfl, ha, by rw [← ra.length]; exact hl, h F G H C ds as δ σ R Q A S ra q k⟩
end
section
variable {K : PySem.W.Frag} {G H : Hp} {F C : Cells} {p : Addr} {c c' : Cell} {u : HO}
/-- a new cell of the frame -/
theorem Ab.frNew (A : Ab K F G H C) (h : H p = none) (ok : HoOk K G p c u) : Ab K (updC F p c) G (upd H p u) C := by
  have h1 := (A.cellNew h ok).hide (p := p) (c := c) updC_same
  rw [delC_upd (A.free h)] at h1
  exact h1
/-- a cell of the frame is written -/
theorem Ab.frWrite (A : Ab K (updC F p c) G H C) (h : F p = none) (ok : HoOk K G p c' u) : Ab K (updC F p c') G (upd H p u) C := by
  obtain ⟨A1, hc⟩ := A.show h
  have h1 := (A1.write (c0 := c) updC_same ok).hide (p := p) (c := c') updC_same
  rw [updC_upd, delC_upd hc] at h1
  exact h1
/-- a cell of the frame is let go -/
theorem Ab.frFreeze (A : Ab K (updC F p c) G H C) (h : F p = none) : ∃ u, H p = some u ∧ HoOk K G p c u ∧ Same G (upd G p u) ∧ Ab K F (upd G p u) H C := by
  obtain ⟨A1, hc⟩ := A.show h
  obtain ⟨u, h1, h2, h3, h4⟩ := A1.freeze (p := p) (c := c) updC_same
  rw [delC_upd hc] at h4
  exact ⟨u, h1, h2, h3, h4⟩
end
def dLcW (fin : List D → Cells → Prop) (J : DIt) (C1 : Cells) (gd : DG) (tt : DT) (te : DE) (δ : DSt) : Prop :=
  ∃ W : Nat → Nat → List D → Cells → Prop, (∃ m, W 0 m [] C1) ∧ ∀ i m acc C, W i m acc C → (J.stop i C ∧ fin acc C) ∨ (J.go i C ∧ ∃ N : List D → Cells → Prop, (∀ acc' C', N acc' C' → ∃ m', m' < m ∧ W (i + 1) m' acc' C') ∧
    ∀ d, J.yld i C d → gd d δ C fun δ2 C2 => tt δ2 C2 fun b C3 => if b = true then te δ2 C3 fun y C4 => acc.length < sizeLine ∧ N (acc ++ [y]) C4 else N acc C3)
/-- a list that is never written -/
def dLc (wi : DI) (gd : DG) (tt : DT) (te : DE) (vs : List Nat) : DE := fun δ C R => wi δ C fun J C1 => dLcW (fun acc C => R (.lst acc) C) J C1 gd tt te (wipeD δ vs)
/-- one that may be -/
def dLcC (wi : DI) (gd : DG) (tt : DT) (te : DE) (vs : List Nat) : DE := fun δ C R => wi δ C fun J C1 => dLcW (fun acc C => ∀ p, C p = none → R (.ref p) (updC C p (.lst acc))) J C1 gd tt te (wipeD δ vs)
def dYes : DT := fun _ C R => R true C
theorem _root_.L2.PTs.weak {X : Cx} {e : List Expr} {t t' : TT} (h : PTs X e t) (w : ∀ σ H Q, t' σ H Q → t σ H Q) : PTs X e t' := ⟨fun pins s σ H Q I q => h.run pins s σ H Q I (w σ H Q q)⟩
theorem dts_nil {X : Cx} : PTs X [] (liftT X.K dYes) := pts_nil.weak fun σ H Q ⟨F, G, δ, C, R, A, S, q, k⟩ => k _ _ q H G (Same.refl G) A
theorem dts_one {X : Cx} {c : Expr} {t : DT} (h : PT X c (liftT X.K t)) : PTs X [c] (liftT X.K t) := pts_one h
theorem lift_lcg {K : PySem.W.Frag} {wi : DI} {g : TG} {gd : DG} {tt : DT} {te : DE} {vs : List Nat} (tg : TgOk K vs g gd) {fin : (D → Cells → Prop) → List D → Cells → Prop}
    (hf : ∀ {F : Cells} {G G1 H : Hp} {C : Cells} {R : D → Cells → Prop} {Q : VK} {acc : List D} {p : Addr}, ToE K F G R Q → Same G G1 → Ab K (updC F p (.lst acc)) G1 H C → F p = none → fin R acc C → Q (.ref p) H) :
    ∀ σ H Q, liftE K (fun δ C R => wi δ C fun J C1 => dLcW (fin R) J C1 gd tt te (wipeD δ vs)) σ H Q → tLc (liftI K wi) g (liftT K tt) (liftE K te) vs σ H Q := by
  rintro σ H Q ⟨F, G, δ, C, R, A, S, q, k⟩
  refine ⟨F, G, δ, C, _, A, S, q, ?_⟩
  rintro J C1 ⟨W, ⟨m0, w0⟩, step⟩ J' H1 G1 s1 A1 ok Dd hD
  have hF : F Dd = none := A1.freeF hD
  refine ⟨fun i m H => ∃ G2 acc C, Same G1 G2 ∧ Ab K (updC F Dd (.lst acc)) G2 H C ∧ W i m acc C, ⟨m0, G1, [], C1, Same.refl _, A1.frNew hD (.lst .nil), w0⟩, ?_⟩
  rintro i m H2 ⟨G2, acc, C2, s2, A2, w2⟩
  obtain ⟨o1, o2⟩ := ok _ i G2 H2 C2 s2 A2
  rcases step i m acc C2 w2 with ⟨st, qn⟩ | ⟨go, N, hN, body⟩
  · exact .inl ⟨o2 st, hf k (s1.trans s2) A2 hF qn⟩
  · obtain ⟨go', yl⟩ := o1 go
    refine .inr ⟨go', fun H => ∃ G3 acc C, Same G1 G3 ∧ Ab K (updC F Dd (.lst acc)) G3 H C ∧ N acc C, ?_, ?_⟩
    · rintro H' ⟨G3, acc', C', s3, A3, n3⟩
      obtain ⟨m', hm, w3⟩ := hN acc' C' n3
      exact ⟨m', hm, G3, acc', C', s3, A3, w3⟩
    · intro x H' y
      obtain ⟨G3, d, s3, A3, yd, rd⟩ := yl x H' y
      refine tg _ G3 H' C2 d x (wipeD δ vs) (L2.wipe σ vs) _ _ A3 ((S.wipe vs).mono (s1.trans (s2.trans s3))) rd (body d yd) fun δ4 σ4 l4 k4 S4 q4 => ⟨wipe_back l4 k4, ?_⟩
      refine ⟨_, G3, δ4, C2, _, A3, S4, q4, fun b C5 q5 H5 G5 s5 A5 => ?_⟩
      cases b with
      | false =>
        rw [if_neg Bool.false_ne_true] at q5 ⊢
        exact ⟨G5, acc, C5, s2.trans (s3.trans s5), A5, q5⟩
      | true =>
        rw [if_pos rfl] at q5 ⊢
        refine ⟨_, G5, δ4, C5, _, A5, S4.mono s5, q5, ?_⟩
        rintro y' C6 ⟨hl, n6⟩ v6 H6 G6 s6 A6 r6
        obtain ⟨_, _, u, hu, hk⟩ := A6.fr Dd _ updC_same
        cases hk
        rename_i xs rxs
        refine ⟨xs, hu, by rw [← rxs.length]; exact hl, G6, acc ++ [y'], C6, s2.trans (s3.trans (s5.trans s6)), A6.frWrite hF (.lst (rxs.append (.cons r6 .nil))), n6⟩
section
variable {X : Cx} {elt tg iter : Expr} {ifs : List Expr} {scope : Scope} {own : List (Str × Nat)} {pos : Pos} {wi : DI} {g : TG} {gd : DG} {tt : DT} {te : DE}
theorem fin_lst {K : PySem.W.Frag} {F : Cells} {G G1 H : Hp} {C : Cells} {R : D → Cells → Prop} {Q : VK} {acc : List D} {p : Addr} (k : ToE K F G R Q) (s : Same G G1) (A : Ab K (updC F p (.lst acc)) G1 H C) (h : F p = none) (q : R (.lst acc) C) : Q (.ref p) H := by
  obtain ⟨u, h1, h2, h3, h4⟩ := A.frFreeze h
  cases h2
  rename_i xs r
  exact k _ _ q _ H _ (s.trans h3) h4 (.lst (.inl upd_same) (r.mono h3))
theorem de_lc (hc : X.calm = true) (hN : X.N.Nodup) (tgo : TgOk X.K (own.map (·.2)) g gd) (hi : PI X tg iter (liftI X.K wi)) (ok : BlkOk X.N X.env.scope scope own)
    (hg : ∀ (s : Shared) (H : Hp) (C : Addr) (cl : List (Str × Addr)) (fp : List Addr), PG (X.blk s H scope (compEnvC scope cl C X.env) fp) tg g) (ht : ∀ (s : Shared) (H : Hp) (C : Addr) (cl : List (Str × Addr)) (fp : List Addr), PTs (X.blk s H scope (compEnvC scope cl C X.env) fp) ifs (liftT X.K tt))
    (he : ∀ (s : Shared) (H : Hp) (C : Addr) (cl : List (Str × Addr)) (fp : List Addr), PE (X.blk s H scope (compEnvC scope cl C X.env) fp) elt (liftE X.K te)) (hs : ∀ x, foldedSetIterable iter X.env x = pure x := by intro _; rfl) :
    PE X (.ListComp elt [⟨tg, iter, ifs, 0⟩] scope pos) (liftE X.K (dLc wi gd tt te (own.map (·.2)))) :=
  (pe_lc hc hN hi ok hg ht he hs).weak (lift_lcg (fin := fun R acc C => R (.lst acc) C) tgo fin_lst)
/-- name = [..] on one line -/
theorem ds_setLcg {i : Nat} {y : Str} {py spos : Pos} {fin : (D → Cells → Prop) → List D → Cells → Prop}
    (hf : ∀ {F : Cells} {G G1 H : Hp} {C : Cells} {R : D → Cells → Prop} {Q : VK} {acc : List D} {p : Addr}, ToE X.K F G R Q → Same G G1 → Ab X.K (updC F p (.lst acc)) G1 H C → F p = none → fin R acc C → Q (.ref p) H)
    (hc : X.calm = true) (hN : X.N.Nodup) (hy : X.N[i]? = some y) (hyl : X.env.scope.names.lookup y = some .local)
    (hsw : swapsWith (.ListComp elt [⟨tg, iter, ifs, 0⟩] scope pos) (some (.Name y py)) spos.line X.env = pure true) (tgo : TgOk X.K (own.map (·.2)) g gd) (hi : PI X tg iter (liftI X.K wi)) (ok : BlkOk X.N X.env.scope scope own)
    (hg : ∀ (s : Shared) (H : Hp) (C : Addr) (cl : List (Str × Addr)) (fp : List Addr), PG (X.blk s H scope (compEnvC scope cl C X.env) fp) tg g) (ht : ∀ (s : Shared) (H : Hp) (C : Addr) (cl : List (Str × Addr)) (fp : List Addr), PTs (X.blk s H scope (compEnvC scope cl C X.env) fp) ifs (liftT X.K tt))
    (he : ∀ (s : Shared) (H : Hp) (C : Addr) (cl : List (Str × Addr)) (fp : List Addr), PE (X.blk s H scope (compEnvC scope cl C X.env) fp) elt (liftE X.K te)) (hs : ∀ x, foldedSetIterable iter X.env x = pure x := by intro _; rfl) :
    PS X (.Assign [.Name y py] (.ListComp elt [⟨tg, iter, ifs, 0⟩] scope pos) spos) (liftS X.K (dAsg (fun δ C R => wi δ C fun J C1 => dLcW (fin R) J C1 gd tt te (wipeD δ (own.map (·.2)))) (gdName i))) := by
  refine (ps_setLc hc hN hy hyl hsw hi ok hg ht he hs).weak ?_
  rintro D σ H ⟨F, G, δ, C, R, A, S, q, k⟩
  exact lift_lcg tgo hf σ H _ ⟨F, G, δ, C, _, A, S, q, fun d C1 q1 v H1 G1 s1 A1 r1 => k.nx _ _ q1 _ H1 G1 s1 A1 (RpS.set r1 i (S.mono s1))⟩
theorem ds_setLc {i : Nat} {y : Str} {py spos : Pos}
    (hc : X.calm = true) (hN : X.N.Nodup) (hy : X.N[i]? = some y) (hyl : X.env.scope.names.lookup y = some .local)
    (hsw : swapsWith (.ListComp elt [⟨tg, iter, ifs, 0⟩] scope pos) (some (.Name y py)) spos.line X.env = pure true) (tgo : TgOk X.K (own.map (·.2)) g gd) (hi : PI X tg iter (liftI X.K wi)) (ok : BlkOk X.N X.env.scope scope own)
    (hg : ∀ (s : Shared) (H : Hp) (C : Addr) (cl : List (Str × Addr)) (fp : List Addr), PG (X.blk s H scope (compEnvC scope cl C X.env) fp) tg g) (ht : ∀ (s : Shared) (H : Hp) (C : Addr) (cl : List (Str × Addr)) (fp : List Addr), PTs (X.blk s H scope (compEnvC scope cl C X.env) fp) ifs (liftT X.K tt))
    (he : ∀ (s : Shared) (H : Hp) (C : Addr) (cl : List (Str × Addr)) (fp : List Addr), PE (X.blk s H scope (compEnvC scope cl C X.env) fp) elt (liftE X.K te)) (hs : ∀ x, foldedSetIterable iter X.env x = pure x := by intro _; rfl) :
    PS X (.Assign [.Name y py] (.ListComp elt [⟨tg, iter, ifs, 0⟩] scope pos) spos) (liftS X.K (dAsg (dLc wi gd tt te (own.map (·.2))) (gdName i))) :=
  ds_setLcg (fin := fun R acc C => R (.lst acc) C) fin_lst hc hN hy hyl hsw tgo hi ok hg ht he hs
end
end DL
namespace DL
open PySem PySem.Spec L2
open PyProof.Rows hiding St
/-- what a def promises over data -/
abbrev ASp := List D → Cells → (D → Cells → Prop) → Prop
def liftF (K : PySem.W.Frag) (a : ASp) : Sp := fun vs H Q _ => ∃ F G ds C R, Ab K F G H C ∧ RpL K G ds vs ∧ a ds C R ∧ ToE K F G R Q
def dstart (N : List Str) (ds : List D) : DSt := ds.map some ++ List.replicate (N.length - ds.length) none
section
variable {P : Program} {w : World} {K : PySem.W.Frag} {mg : Str → Option Value} {base : Heap}
/-- THE RULE for a def over data -/
theorem fnD {x qual : Str} {st : Stmt} {f : Addr} {fd : FuncData} {N ps : List Str} {k : Nat} {a : ASp} (F : Fun K x qual st f fd) (S : FnScope N ps (defScope st)) (len : ∀ ds C R, a ds C R → ds.length = ps.length)
    (hbody : ∀ (cdv : Value) (A : Around) (outer : List Env) (s : Shared) (H : Hp) (E : XK), Room k (A.deeper (envOfC qual (defScope st) s.heap.objs.size f cdv)) →
      ∃ t : DS, PSs (cxOf CX0 P w K mg base N qual (defScope st) f cdv A outer s H E).nox (defBody st) (liftS K t) ∧ ∀ ds C R, a ds C R → t { nx := fun _ C' => R .non C', rt := R } (dstart N ds) C) :
    FnOk P w K mg base CX0 (k + 1) f fd ps (liftF K a) := by
  refine F.ok S (fun vs H Q E h => ?_) (fun cdv A outer s H vs Q E hr h => ?_)
  · obtain ⟨F, G, ds, C, R, Ab0, r, h, k⟩ := h
    rw [← r.length]
    exact len ds C R h
  · obtain ⟨F, G, ds, C, R, A0, r, h, k⟩ := h
    obtain ⟨t, ht, hq⟩ := hbody cdv A outer s H E hr
    refine ⟨_, ht, F, G, dstart N ds, C, _, A0, ?_, hq ds C R h, ⟨?_, ?_, ?_, ?_⟩⟩
    · unfold dstart L2.start
      rw [← r.length]
      exact RpS.start r _
    · intro δ C' q σ H' G' s' A' S'
      exact k _ _ q _ H' G' s' A' .non
    · exact k
    · intro δ C' q
      exact q.elim
    · intro δ C' q
      exact q.elim
end
/-- .. where cells that the def made are forgotten behind it -/
def lss (R : D → Cells → Prop) : D → Cells → Prop := fun d C => ∃ C', (∀ a c, C' a = some c → C a = some c) ∧ R d C'
theorem lss_of {R : D → Cells → Prop} {d : D} {C : Cells} (h : R d C) : lss R d C := ⟨C, fun _ _ e => e, h⟩
theorem lss_upd {R : D → Cells → Prop} {d : D} {C : Cells} {p : Addr} {c : Cell} (hp : C p = none) (h : R d C) : lss R d (updC C p c) := ⟨C, fun a x e => by
  by_cases ha : a = p
  · subst ha; rw [hp] at e; cases e
  · rw [updC_ne ha]; exact e, h⟩
section
variable {P : Program} {w : World} {K : PySem.W.Frag} {mg : Str → Option Value} {base : Heap}
theorem fnDL {x qual : Str} {st : Stmt} {f : Addr} {fd : FuncData} {N ps : List Str} {k : Nat} {a : ASp} (F : Fun K x qual st f fd) (S : FnScope N ps (defScope st)) (len : ∀ ds C R, a ds C R → ds.length = ps.length)
    (hbody : ∀ (cdv : Value) (A : Around) (outer : List Env) (s : Shared) (H : Hp) (E : XK), Room k (A.deeper (envOfC qual (defScope st) s.heap.objs.size f cdv)) →
      ∃ t : DS, PSs (cxOf CX0 P w K mg base N qual (defScope st) f cdv A outer s H E).nox (defBody st) (liftS K t) ∧ ∀ ds C R, a ds C R → t { nx := fun _ C' => lss R .non C', rt := lss R } (dstart N ds) C) :
    FnOk P w K mg base CX0 (k + 1) f fd ps (liftF K a) := by
  have h : FnOk P w K mg base CX0 (k + 1) f fd ps (liftF K fun ds C R => ∃ R', R = lss R' ∧ a ds C R') := by
    refine fnD F S (fun ds C R ⟨R', _, q⟩ => len ds C R' q) fun cdv A outer s H E hr => ?_
    obtain ⟨t, h1, h2⟩ := hbody cdv A outer s H E hr
    exact ⟨t, h1, fun ds C R ⟨R', e, q⟩ => by subst e; exact h2 ds C R' q⟩
  refine h.imp ?_
  rintro vs H Q E ⟨F, G, ds, C, R, A, r, q, k⟩
  refine ⟨F, G, ds, C, lss R, A, r, ⟨R, rfl, q⟩, ?_⟩
  rintro d C1 ⟨C2, hs, q2⟩ v H' G' s' A' r'
  exact k d C2 q2 v H' G' s' (A'.less hs) r'
end
def dCall (a : ASp) (dvs : List D) (t : DA) : DE := fun δ C R => t δ C fun ds C1 => a (ds ++ dvs) C1 R
section
variable {X : Cx} {CX : CXT} {k : Nat} {f : Addr} {fd : FuncData} {ps : List Str} {a : ASp} {ds : List Value} {E : XK} {x : Str} {p pos : Pos} {e : Expr} {es : List Expr} {t : DA}
theorem de_call (Fk : FnOk X.prog X.w X.K X.mg X.base CX0 k f fd ps (liftF X.K a)) (hr : Room k X.A) (hg : Gl X x) (hm : X.mg x = some (.ref f)) (hk : PySem.W.keepIn X.K (.ref f) = true) (hb : Binds X.K fd ps [])
    (ha : PA X (e :: es) (liftA X.K t)) (hdb : (x == ("__debug__" : Str)) = false := by decide) (he : starEach (e :: es) X.env = (false, eval e X.env) :: starEach es X.env := by rfl) (hpl : (backTo pos (starEach es X.env)).any (·.1) = false := by rfl) :
    PE X (.Call (.Name x p) (e :: es) [] pos) (liftE X.K (dCall a [] t)) :=
  (pe_call Fk hr hg hm hk hb .nil pass0 ha hdb he hpl).weak fun σ H Q ⟨F, G, δ, C, R, A, S, q, k⟩ => ⟨F, G, δ, C, _, A, S, q, fun ds C1 q1 vs H1 G1 s1 A1 r1 => by
    rw [List.append_nil] at q1 ⊢
    exact ⟨F, G1, ds, C1, R, A1, r1, q1, k.mono s1⟩⟩
end
/-- what a class's def is, by a whole program's facts: the def stands at f, its name is bound to it -/
structure Df (K : PySem.W.Frag) (mg : Str → Option Value) (x : Str) (f : Addr) (fd : FuncData) (ps : List Str) : Prop where
  mg : mg x = some (.ref f)
  kp : PySem.W.keepIn K (.ref f) = true
  bd : Binds K fd ps []
section
variable {X : Cx} {k : Nat} {f : Addr} {fd : FuncData} {ps : List Str} {a : ASp} {x : Str} {p pos : Pos} {e : Expr} {es : List Expr} {t : DA}
theorem de_cf (d : Df X.K X.mg x f fd ps) (Fk : FnOk X.prog X.w X.K X.mg X.base CX0 k f fd ps (liftF X.K a)) (hr : Room k X.A) (hg : Gl X x)
    (ha : PA X (e :: es) (liftA X.K t)) (hdb : (x == ("__debug__" : Str)) = false := by decide) (he : starEach (e :: es) X.env = (false, eval e X.env) :: starEach es X.env := by rfl) (hpl : (backTo pos (starEach es X.env)).any (·.1) = false := by rfl) :
    PE X (.Call (.Name x p) (e :: es) [] pos) (liftE X.K (dCall a [] t)) := de_call Fk hr hg d.mg d.kp d.bd ha hdb he hpl
end
end DL
namespace DL
open PySem PySem.Spec L2
open PyProof.Rows hiding St
/-- o.m(args): the receiver a cell (or what stays) -/
abbrev DOm := D → List D → Cells → (D → Cells → Prop) → Prop
def isLst (C : Cells) (x : D) : Prop := (lstOf C x).isSome = true
def dMtL (o : DOm) (to : DE) (t : DA) : DE := fun δ C R => to δ C fun x C1 => isLst C1 x ∧ t δ C1 fun xs C2 => o x xs C2 R
def LOm (K : PySem.W.Frag) (r : V → List V → Hp → VK → Prop) (o : DOm) : Prop := ∀ F G H C x v xs vs R Q, Ab K F G H C → Rp K G x v → RpL K G xs vs → o x xs C R → ToE K F G R Q → r v vs H Q
theorem lift_mtL {K : PySem.W.Frag} {r : V → List V → Hp → VK → Prop} {o : DOm} {to : DE} {t : DA} (h : LOm K r o) : ∀ σ H Q, liftE K (dMtL o to t) σ H Q → tBM K "list" r (liftE K to) (liftA K t) σ H Q := by
  rintro σ H Q ⟨F, G, δ, C, R, A, S, q, k⟩
  refine ⟨F, G, δ, C, _, A, S, q, ?_⟩
  rintro x C1 ⟨hx, q1⟩ v H1 G1 s1 A1 r1
  obtain ⟨ds, hx⟩ := Option.isSome_iff_exists.mp hx
  obtain ⟨a, as, rfl, ha, ra⟩ := lst_at A1 r1 hx
  refine ⟨.inl ⟨rfl, as, .inl ha⟩, F, G1, δ, C1, _, A1, S.mono s1, q1, fun xs C2 q2 vs H2 G2 s2 A2 r2 => ?_⟩
  exact h F G2 H2 C2 x _ xs vs R Q A2 (r1.mono s2) r2 q2 (k.mono (s1.trans s2))
structure MtD (X : Cx) (id : String) (o : DOm) : Prop where
  ex : ∃ r, MtR X id r ∧ LOm X.K r o
section
variable {X : Cx} {o e : Expr} {es : List Expr} {to : DE} {t : DA} {name : Str} {apos cpos : Pos} {id : String} {om : DOm}
theorem de_mtL (slot : Slot "list" name id) (hty : typeOf (.builtin id) = pure (.type "method_descriptor")) (hm : MtD X id om) (ho : PE X o (liftE X.K to)) (ha : PA X (e :: es) (liftA X.K t))
    (hbase : attributeBase o name X.env (eval o X.env) = eval o X.env := by rfl)
    (hfew : ((backTo cpos (starEach (e :: es) X.env)).all (fun x => !x.1) && (backToKw cpos (keywordEach [] X.env)).all (fun x => x.1.isSome)
      && decide ((e :: es).length + ([] : List Keyword).length + (if ([] : List Keyword).isEmpty then 0 else 1) < 30)) = true := by rfl)
    (hline : (apos.endLine == cpos.line) = true := by rfl) (hs : starEach (e :: es) X.env = (false, eval e X.env) :: starEach es X.env := by rfl) (hplain : (backTo cpos (starEach es X.env)).any (·.1) = false := by rfl) :
    PE X (.Call (.Attribute o name apos) (e :: es) [] cpos) (liftE X.K (dMtL om to t)) := by
  obtain ⟨r, h1, h2⟩ := hm.ex
  exact (pe_bm PySem.F.plainAttrs_list slot hty h1 ho ha hbase hfew hline hs hplain).weak (lift_mtL h2)
end
def omAppend : DOm := fun x xs C R => ∃ p ds d, x = .ref p ∧ xs = [d] ∧ C p = some (.lst ds) ∧ ds.length < sizeLine ∧ R .non (updC C p (.lst (ds ++ [d])))
def omExtend : DOm := fun x xs C R => ∃ p ds d es, x = .ref p ∧ xs = [d] ∧ C p = some (.lst ds) ∧ lstOf C d = some es ∧ ds.length + es.length ≤ sizeLine ∧ R .non (updC C p (.lst (ds ++ es)))
theorem Ab.lstCell {K : PySem.W.Frag} {F : Cells} {G H : Hp} {C : Cells} {p : Addr} {ds : List D} (A : Ab K F G H C) (h : C p = some (.lst ds)) : ∃ xs, H p = some (.lst xs) ∧ RpL K G ds xs := by
  obtain ⟨_, u, hu, ok⟩ := A.cell _ _ h
  cases ok
  exact ⟨_, hu, by assumption⟩
theorem Ab.dctCell {K : PySem.W.Frag} {F : Cells} {G H : Hp} {C : Cells} {p : Addr} {ds : List (Key × D)} (A : Ab K F G H C) (h : C p = some (.dct ds)) : ∃ xs, H p = some (.dK xs) ∧ RpK K G ds xs := by
  obtain ⟨_, u, hu, ok⟩ := A.cell _ _ h
  cases ok
  exact ⟨_, hu, by assumption⟩
section
variable {X : Cx}
theorem md_append : MtD X "list.append" omAppend := by
  refine ⟨_, mt_append, ?_⟩
  intro F G H C x v xs vs R Q A rx rxs h k
  obtain ⟨p, ds, d, rfl, rfl, hc, hl, q⟩ := h
  cases rx
  obtain ⟨u, rfl, ru⟩ := rxs.one
  obtain ⟨as, ha, ra⟩ := A.lstCell hc
  exact ⟨p, as, u, rfl, rfl, ha, by rw [← ra.length]; exact hl, k _ _ q _ _ G (Same.refl G) (A.write hc (.lst (ra.append (.cons ru .nil)))) .non⟩
def rExtendF : V → List V → Hp → VK → Prop := fun x vs H Q => ∃ l b xs zs, x = .ref l ∧ vs = [.ref b] ∧ H l = some (.lst xs) ∧ Rd H b (.lst zs) ∧ xs.length + zs.length ≤ sizeLine ∧ Q .non (upd H l (.lst (xs ++ zs)))
theorem mt_extendF : MtR X "list.extend" rExtendF := by
  intro pins s σ H x xs v us Q I rx rs h
  obtain ⟨l, b, xs, zs, rfl, rfl, hH, hB, hz, q⟩ := h
  cases rx
  obtain ⟨u, rfl, ru⟩ := rs.one
  cases ru
  obtain ⟨z, its, n, r, hl, e⟩ := I.lstM hH
  obtain ⟨z2, its2, n2, r2, hl2, e2⟩ := lstRd I hB
  have hsz : its.toArray.size + its2.toArray.size ≤ sizeLine := by rw [List.size_toArray, List.size_toArray]; omega
  have hlong : ¬ (!its.toArray.isEmpty && Builtin.List.listTooLong (its.toArray.size + its2.toArray.size)) = true := by
    rw [notLongL hsz, Bool.and_false]
    exact Bool.false_ne_true
  refine call_meets F.slot_list_extend ⟨_, e, rfl⟩ F.entry_list_extend (F.args_list_extend_2 _ _)
    (AutoSeq1.list_extend_list_list_0 l its.toArray n b its2.toArray n2 hlong (by rw [List.size_toArray]; omega) (by omega)) ⟨e, e2, ?_⟩
  refine ⟨.non, _, I.lset (its' := its ++ its2) hH e (by simp) (r.append r2) ?_, rfl, q⟩
  rw [List.length_append]
  omega
theorem md_extend : MtD X "list.extend" omExtend := by
  refine ⟨_, mt_extendF, ?_⟩
  intro F G H C x v xs vs R Q A rx rxs h k
  obtain ⟨p, ds, d, es, rfl, rfl, hc, he, hl, q⟩ := h
  cases rx
  obtain ⟨u, rfl, ru⟩ := rxs.one
  obtain ⟨as, ha, ra⟩ := A.lstCell hc
  obtain ⟨b, bs, rfl, hb, rb⟩ := lst_at A ru he
  exact ⟨p, b, as, bs, rfl, rfl, ha, hb, by rw [← ra.length, ← rb.length]; exact hl, k _ _ q _ _ G (Same.refl G) (A.write hc (.lst (ra.append rb))) .non⟩
end
section
variable {X : Cx} {o e : Expr} {es : List Expr} {to : DE} {t : DA} {apos cpos : Pos}
theorem de_append (ho : PE X o (liftE X.K to)) (ha : PA X (e :: es) (liftA X.K t))
    (hbase : attributeBase o "append" X.env (eval o X.env) = eval o X.env := by rfl)
    (hfew : ((backTo cpos (starEach (e :: es) X.env)).all (fun x => !x.1) && (backToKw cpos (keywordEach [] X.env)).all (fun x => x.1.isSome)
      && decide ((e :: es).length + ([] : List Keyword).length + (if ([] : List Keyword).isEmpty then 0 else 1) < 30)) = true := by rfl)
    (hline : (apos.endLine == cpos.line) = true := by rfl) (hs : starEach (e :: es) X.env = (false, eval e X.env) :: starEach es X.env := by rfl) (hplain : (backTo cpos (starEach es X.env)).any (·.1) = false := by rfl) :
    PE X (.Call (.Attribute o "append" apos) (e :: es) [] cpos) (liftE X.K (dMtL omAppend to t)) := de_mtL PySem.F.slot_list_append PySem.F.type_list_append md_append ho ha hbase hfew hline hs hplain
theorem de_extend (ho : PE X o (liftE X.K to)) (ha : PA X (e :: es) (liftA X.K t))
    (hbase : attributeBase o "extend" X.env (eval o X.env) = eval o X.env := by rfl)
    (hfew : ((backTo cpos (starEach (e :: es) X.env)).all (fun x => !x.1) && (backToKw cpos (keywordEach [] X.env)).all (fun x => x.1.isSome)
      && decide ((e :: es).length + ([] : List Keyword).length + (if ([] : List Keyword).isEmpty then 0 else 1) < 30)) = true := by rfl)
    (hline : (apos.endLine == cpos.line) = true := by rfl) (hs : starEach (e :: es) X.env = (false, eval e X.env) :: starEach es X.env := by rfl) (hplain : (backTo cpos (starEach es X.env)).any (·.1) = false := by rfl) :
    PE X (.Call (.Attribute o "extend" apos) (e :: es) [] cpos) (liftE X.K (dMtL omExtend to t)) := de_mtL PySem.F.slot_list_extend PySem.F.type_list_extend md_extend ho ha hbase hfew hline hs hplain
end
/-- d.setdefault(k, x) of a cell -/
def dSetd (td ty tx : DE) : DE := fun δ C R => td δ C fun x C1 => (dctOf C1 x).isSome = true ∧ ty δ C1 fun y C2 => tx δ C2 fun z C3 => ∃ p kvs k, x = .ref p ∧ C3 p = some (.dct kvs) ∧ keyOf y = some k ∧ kvs.length < sizeLine ∧
  match getK kvs k with
  | some v => R v C3
  | none => R z (updC C3 p (.dct (putD kvs k z)))
section
variable {X : Cx} {o e f : Expr} {td ty tx : DE} {apos cpos : Pos}
theorem de_setd (ho : PE X o (liftE X.K td)) (he : PE X e (liftE X.K ty)) (hf : PE X f (liftE X.K tx)) (m : M2 X o "setdefault" apos e f cpos := by exact ⟨rfl, rfl, rfl, rfl⟩) : PE X (.Call (.Attribute o "setdefault" apos) [e, f] [] cpos) (liftE X.K (dSetd td ty tx)) := by
  refine (pe_dsetd ho he hf m).weak ?_
  rintro σ H Q ⟨F, G, δ, C, R, A, S, q, k⟩
  refine ⟨F, G, δ, C, _, A, S, q, ?_⟩
  rintro x C1 ⟨hx, q1⟩ v H1 G1 s1 A1 r1
  obtain ⟨kvs0, hx⟩ := Option.isSome_iff_exists.mp hx
  obtain ⟨a, ks, rfl, ha, _⟩ := dct_at A1 r1 hx
  refine ⟨a, rfl, .inl ⟨ks, ha⟩, F, G1, δ, C1, _, A1, S.mono s1, q1, fun y C2 q2 u H2 G2 s2 A2 r2 => ⟨F, G2, δ, C2, _, A2, S.mono (s1.trans s2), q2, ?_⟩⟩
  rintro z C3 ⟨p, kvs, kk, rfl, hc, hk, hl, q3⟩ w H3 G3 s3 A3 r3
  cases r1
  obtain ⟨ks3, h3, rk⟩ := A3.dctCell hc
  have k3 := k.mono (s1.trans (s2.trans s3))
  obtain ⟨v1, v2⟩ := rk.val (k := kk)
  refine ⟨ks3, kk, h3, (r2.mono s3).key hk, by rw [← rk.length]; exact hl, fun v hv => ?_, fun hv => ?_⟩
  · cases eg : getK kvs kk with
    | none => rw [v2 eg] at hv; cases hv
    | some d =>
      obtain ⟨v', e1, rv⟩ := v1 d eg
      rw [e1] at hv; cases hv
      rw [eg] at q3
      exact k3.now A3 q3 rv
  · cases eg : getK kvs kk with
    | some d => obtain ⟨v', e1, rv⟩ := v1 d eg; rw [e1] at hv; cases hv
    | none =>
      rw [eg] at q3
      exact k3 _ _ q3 _ _ G3 (Same.refl _) (A3.write hc (.dct (rk.put r3))) r3
end
/-- xs[i] = v, xs a cell -/
def gdSubL (to ti : DE) : DG := fun d δ C R => to δ C fun o C1 => ti δ C1 fun i C2 => ∃ p ds n j, o = .ref p ∧ i = .int n ∧ C2 p = some (.lst ds) ∧ ixN ds.length n = some j ∧ R δ (updC C2 p (.lst (ds.set j d)))
/-- d[k] = v, d a cell -/
def dPut (td ty tv : DE) : DS := fun D δ C => tv δ C fun v C1 => td δ C1 fun x C2 => ty δ C2 fun y C3 => ∃ p kvs k, x = .ref p ∧ C3 p = some (.dct kvs) ∧ keyOf y = some k ∧ kvs.length < sizeLine ∧ D.nx δ (updC C3 p (.dct (putD kvs k v)))
section
variable {X : Cx} {o i value : Expr} {to ti td ty tv : DE} {pos pos' : Pos}
theorem dg_subL (ho : PE X o (liftE X.K to)) (hi : PE X i (liftE X.K ti))
    (ha : ∀ v, assign (.Subscript o i pos) X.env v = (do
      let ov ← holding [v] (eval o X.env)
      let iv ← holding [v, ov] (eval i X.env)
      standAt pos
      holding [v, ov, iv] (setItem ov iv v)
      release [v, ov, iv] []) := by intro _; rfl) : PG X (.Subscript o i pos) (liftG X.K (gdSubL to ti)) := by
  refine (pg_sub ho hi set_list ha).weak ?_
  rintro v σ H Q ⟨F, G, δ, C, d, R, A, S, r, q, k⟩
  refine ⟨F, G, δ, C, _, A, S, q, fun x C1 q1 ov H1 G1 s1 A1 r1 => ⟨F, G1, δ, C1, _, A1, S.mono s1, q1, ?_⟩⟩
  rintro y C2 ⟨p, ds, n, j, rfl, rfl, hc, hj, q2⟩ iv H2 G2 s2 A2 r2
  cases r1
  cases r2
  obtain ⟨as, has, ra⟩ := A2.lstCell hc
  refine ⟨p, as, n, j, rfl, rfl, has, by rw [← ra.length]; exact hj, ?_⟩
  exact k _ _ q2 _ _ G2 (s1.trans s2) (A2.write hc (.lst (RpL.set (r.mono (s1.trans s2)) j ra))) (S.mono (s1.trans s2))
end
def frzO (C : Cells) (x : D) : Option (D × Cells) := match x with
  | .ref p => match C p with
    | some (.lst ds) => some (.lst ds, delC C p)
    | some (.dct kvs) => some (.dct kvs, delC C p)
    | _ => none
  | _ => none
def dFrz (t : DE) : DE := fun δ C R => t δ C fun x C1 => ∃ y C2, frzO C1 x = some (y, C2) ∧ R y C2
/-- a cell's thing stays from now on, otherwise written (locked) -/
theorem Ab.freezeAs {K : PySem.W.Frag} {F : Cells} {G H : Hp} {C : Cells} {p : Addr} {c : Cell} {u : HO} (A : Ab K F G H C) (h : C p = some c) : Same G (upd G p u) ∧ Ab K F (upd G p u) (upd H p u) (delC C p) := by
  obtain ⟨hG, _, hH, _⟩ := A.cell p c h
  have hF := A.noF h
  have sm : Same G (upd G p u) := same_upd hG
  refine ⟨sm, ⟨fun b o e => ?_, fun b d e => ?_, fun b d e => ?_⟩⟩
  · by_cases hb : b = p
    · subst hb; rw [upd_same] at e ⊢; exact e
    · rw [upd_ne hb] at e ⊢; exact A.sub b o e
  · have hb : b ≠ p := by
      rintro rfl
      unfold delC at e; rw [if_pos rfl] at e; cases e
    unfold delC at e; rw [if_neg hb] at e
    obtain ⟨h1, v, h2, h3⟩ := A.cell b d e
    exact ⟨by rw [upd_ne hb]; exact h1, v, by rw [upd_ne hb]; exact h2, h3.mono sm⟩
  · obtain ⟨h0, h1, v, h2, h3⟩ := A.fr b d e
    have hb : b ≠ p := by rintro rfl; rw [hF] at e; cases e
    exact ⟨by unfold delC; rw [if_neg hb]; exact h0, by rw [upd_ne hb]; exact h1, v, by rw [upd_ne hb]; exact h2, h3.mono sm⟩
theorem lift_frz {K : PySem.W.Frag} {t : DE} : ∀ σ H Q, liftE K (dFrz t) σ H Q → liftE K t σ H (lockQ Q) := by
  rintro σ H Q ⟨F, G, δ, C, R, A, S, q, k⟩
  refine ⟨F, G, δ, C, _, A, S, q, ?_⟩
  rintro x C1 ⟨y, C2, e, q1⟩ v H1 G1 s1 A1 r1
  unfold frzO at e
  split at e
  · rename_i p
    split at e
    · rename_i ds hc
      cases e
      cases r1
      obtain ⟨u, h1, h2, h3, h4⟩ := A1.freeze hc
      cases h2
      rename_i xs r
      exact .inl (k _ _ q1 _ _ _ (s1.trans h3) h4 (.lst (.inl upd_same) (r.mono h3)))
    · rename_i ds hc
      cases e
      cases r1
      obtain ⟨ks, h1, r⟩ := A1.dctCell hc
      refine .inr ⟨p, ks, rfl, h1, fun od => ?_⟩
      obtain ⟨h3, h4⟩ := A1.freezeAs (u := .frz od (.dK ks)) hc
      exact k _ _ q1 _ _ _ (s1.trans h3) h4 (.dct upd_same (r.mono h3))
    · cases e
  · cases e
theorem de_frz {X : Cx} {e : Expr} {t : DE} (h : PE X e (liftE X.K t)) : PE X e (liftE X.K (dFrz t)) := (pe_lockQ h).weak lift_frz
end DL
namespace DL
open PySem PySem.Spec L2
open PyProof.Rows hiding St
section
open AutoSeq1 (wpAny_loadPart')
set_option maxHeartbeats 4000000 in
theorem meets_enumerate_newB1 {v : Value} {o : Obj} {H : Heap → Prop} (B : Begins v o H) :
    Meets (Builtin.«enumerate.__new__» ⟨[.type "enumerate", v], []⟩) (fun _ R s => H s.heap ∧
      R (.ok (.ret (.ref (s.heap.push o).objs.size))) { s with heap := (s.heap.push o).push { cls := .type "enumerate", data := .fields #[.none, .bool false, .ref s.heap.objs.size, rawInt 0, .none, .none] } }) :=
  .of_wp fun prog w A R s h => by
    obtain ⟨hp, g, d, tk, os⟩ := s; obtain ⟨h1, h⟩ := h
    have hsub := sub_enumerate
    have q1 : ∀ {A' : Around} {E : Value → Shared → Prop} {Q : Value → Shared → Prop}, Q (.ref hp.objs.size) ⟨hp.push o, g, d, tk, os⟩ → wpAny (model prog w) A' (pyIter v) Q E ⟨hp, g, d, tk, os⟩ :=
      fun q => B.iter prog w _ _ ⟨hp, g, d, tk, os⟩ _ h1 q
    wp_walk using q1
    refine wpAny_stack_any fun st => wpAny_pure ?_
    split
    · rename_i c _ _ _ _ _
      cases (c == Value.type "enumerate")
      · wp_walk using q1
        exact ⟨_, rfl, h⟩
      · wp_walk using q1
        exact ⟨_, rfl, h⟩
    · wp_walk using q1
      exact ⟨_, rfl, h⟩
theorem enum_begins1 {prog : Program} {w : World} {A : Around} {E : Value → Shared → Prop} {s : Shared} {v : Value} {o : Obj} {H : Heap → Prop} {Q : Value → Shared → Prop} (B : Begins v o H) (h1 : H s.heap)
    (h : ∀ h', IsEnum h' (s.heap.objs.size + 1) s.heap.objs.size 0 .none → h'.get? s.heap.objs.size = some o → h'.objs.size = s.heap.objs.size + 2 →
      (∀ b o, s.heap.get? b = some o → h'.get? b = some o) → Q (.ref (s.heap.objs.size + 1)) { s with heap := h' }) :
    wpAny (model prog w) A (call (.type "enumerate") [v]) Q E s := by
  refine callType_new F.called_enumerate (by decide) (F.typeCall_enumerate_1 _) (F.newCall_enumerate_1 _) (fun obj => F.args_object_init_2 obj _) F.entry_enumerate_new
    (meets_enumerate_newB1 B) ⟨h1, ?_⟩
  have hz : (s.heap.push o).objs.size = s.heap.objs.size + 1 := Heap.size_push ..
  show _ ∧ _
  rw [hz]
  have he : IsEnum ((s.heap.push o).push { cls := .type "enumerate", data := .fields #[.none, .bool false, .ref s.heap.objs.size, rawInt 0, .none, .none] }) (s.heap.objs.size + 1) s.heap.objs.size 0 .none := by
    have := Heap.get?_push_size (s.heap.push o) (o := { cls := .type "enumerate", data := .fields #[.none, .bool false, .ref s.heap.objs.size, rawInt 0, .none, .none] }) rfl
    rw [hz] at this; exact this
  refine ⟨⟨_, he, rfl⟩, h _ he (Heap.get?_push_of_some _ (Heap.get?_push_size _ B.free)) (by rw [Heap.size_push, hz]) fun b o x => Heap.get?_push_of_some _ (Heap.get?_push_of_some _ x)⟩
end
theorem enumT_end {prog : Program} {w : World} {A : Around} {E : Value → Shared → Prop} {s : Shared} {e it l : Addr} {i : Nat} {items : Array Value} {j : Int} {old : Value} {Q : Option Value → Shared → Prop} (hh : A.handled = none)
    (he : IsEnum s.heap e it j old) (hit : s.heap.IsTupleIter it l i) (hl : s.heap.IsTuple l items) (hx : items[i]? = none)
    (hQ : ∀ h', Heap.ExtBut it s.heap h' → Q none { s with heap := h' }) : wpAny (model prog w) A (pyNext (.ref e)) Q E s := by
  have hT : s.TypeIs (.ref e) "enumerate" := ⟨_, he, rfl⟩
  unfold pyNext
  refine wpAny_bind (wpAny_attempt (wpAny_callSpecial?_slot (name := Str.ofString "__next__") hT F.slot_enumerate_next
    (wpAny_call_entry F.slot_enumerate_next hT F.entry_enumerate_next ?_ (F.args_enumerate_next_1 _))))
  show wpAny _ _ (field (.ref e) 2 >>= _) _ _ _
  refine wpAny_bind (wpAny_field he rfl (x := .ref it) rfl ?_)
  refine wpAny_bind (wpAny_nextOf_tuple_end hh hit hl hx fun h' x he' hx' => ?_)
  obtain ⟨o, ho, hc⟩ := hx'
  refine wpAny_bind (wpAny_isInstance (T := "StopIteration") (b := true) ⟨o, ho, hc⟩ isSubtype_stop ?_)
  exact wpAny_pure (hQ _ he')
/-- the tuple at a, each item in a new pair -/
def IteT (K : PySem.W.Frag) (a : Addr) : It :=
  ⟨fun i H => ∃ (xs : List V) (x : V), SqT K H a xs ∧ xs[i]? = some x, fun i H v H' => ∃ T x, v = .ref T ∧ H T = none ∧ H' = upd H T (.tup [.int (i : Nat), x]) ∧ ∀ xs, SqT K H a xs → xs[i]? = some x, fun i H => ∃ xs : List V, SqT K H a xs ∧ xs.length ≤ i⟩
theorem turn_enumT {P : Program} {w : World} {K : PySem.W.Frag} {elts : List Expr} {kk : Nat} {tpos : Pos} (a e it : Addr) (hae : a ≠ it) :
    Turn P w K (.Tuple elts kk tpos) (IteT K a) [e, it] e (fun i h => (∃ old, IsEnum h e it ((i : Nat) : Int) old) ∧ h.IsTupleIter it a i ∧ e ≠ it) where
  mem := by simp
  obj := fun i h st b hb => by
    obtain ⟨⟨old, he⟩, ⟨o, ho, hc, hd⟩, _⟩ := st
    have e' : b = e ∨ b = it := by simpa using hb
    rcases e' with z | z
    · rw [z]; exact ⟨_, he, fun v q => nomatch q⟩
    · rw [z]; exact ⟨o, ho, fun v q => by rw [hd] at q; cases q⟩
  keep := fun i h h' st k => let ⟨⟨old, he⟩, hi, hne⟩ := st; ⟨⟨old, k e (by simp) _ he⟩, hi.at fun o q => k it (by simp) o q, hne⟩
  item := by
    intro X hP hw hK hc i pins s σ H E I hf st hg
    subst hP hw hK
    obtain ⟨⟨old, he⟩, hit, hne⟩ := st
    obtain ⟨xs, x, hq, hx⟩ := hg
    obtain ⟨its, rv, p, hz⟩ := I.tuple hq
    obtain ⟨u, hu, ru⟩ := rv.get hx
    have hel : e < s.heap.objs.size := Heap.lt_size he
    have hil : it < s.heap.objs.size := by obtain ⟨_, q, _⟩ := hit; exact Heap.lt_size q
    have hea : e ≠ a := by
      intro z
      obtain ⟨o, ho, hcls, _⟩ := p
      rw [← z, he] at ho
      cases ho
      have hcls' : Value.type "enumerate" = Value.type "tuple" := hcls
      exact absurd hcls' (by decide)
    have hlt : i < its.toArray.size := by
      have := (List.getElem?_eq_some_iff.mp hu).1
      simpa using this
    refine wpAny_pyNext_enum_itemD (Draws.tuple (A := X.A.in1) (I.ok.hd hc) it a hae its.toArray) he ⟨hit, show s.heap.IsTuple a its.toArray from p⟩ hlt hne (by simp [hne, hea]) fun y h' tk hy ho st' hT hsz hk => ?_
    have : y = u := by
      have h1 : its[i]? = some y := by simpa using hy
      rw [hu] at h1
      exact (Option.some.inj h1).symm
    subst this
    refine ⟨_, rfl, wpAny_letOwnedTupleGo_enum (s := { s with heap := h', toks := tk + 1 }) ho fun h'' he' sb => ?_⟩
    have hT2 : h''.get? s.heap.objs.size = some { cls := .type "tuple", data := .seq #[.int i tk, y] } := (sb.2 _ (Nat.ne_of_gt hel)).trans hT
    have new : ObjOk X.prog X.w (upd H s.heap.objs.size (.tup [.int (i : Nat), x])) h'' s.heap.objs.size (.tup [.int (i : Nat), x]) :=
      ⟨by show 2 ≤ sizeLine; decide, [.int i tk, y], .cons ⟨_, rfl⟩ (.cons ru .nil), ⟨_, hT2, rfl, _, rfl⟩⟩
    have I1 : Inv X pins σ (upd H s.heap.objs.size (.tup [.int (i : Nat), x])) { s with heap := h'', toks := tk + 1 } :=
      I.turnedNew (ch := [e, it]) (fun b ob hb q => (sb.2 b (fun z => hb (by simp [z]))).trans (hk b ob (fun z => hb (by simp [z])) (fun z => hb (by simp [z])) q)) hf (Nat.le_refl _) new
    refine ⟨.ref s.heap.objs.size, _, I1, rfl, ⟨_, x, rfl, I.hok.fresh (Nat.le_refl _), rfl, fun ys hy => by rw [I.tuple_inj hy hq]; exact hx⟩, ⟨⟨y, ?_⟩, st'.1.at fun o q => (sb.2 it (Ne.symm hne)).trans q, hne⟩, fun b hb => ?_⟩
    · have e1 : ((i + 1 : Nat) : Int) = (i : Int) + 1 := by omega
      rw [e1]; exact he'
    · have hb' : b < s.heap.objs.size := by
        have e' : b = e ∨ b = it := by simpa using hb
        rcases e' with z | z
        · rw [z]; exact hel
        · rw [z]; exact hil
      rw [upd_ne (Nat.ne_of_lt hb')]
      exact (hf b hb).1
  done := by
    intro X hP hw hK hc i pins s σ H E I hf st hg
    subst hP hw hK
    obtain ⟨⟨old, he⟩, hit, hne⟩ := st
    obtain ⟨xs, hq, hx⟩ := hg
    obtain ⟨its, rv, p, hz⟩ := I.tuple hq
    obtain ⟨f0, f1, f2, f3, f4, f5⟩ := hf it (by simp)
    have hl := rv.length
    exact enumT_end (I.ok.hd hc) he hit (show s.heap.IsTuple a its.toArray from p) (by simp; omega) fun h' eb => ⟨rfl, I.turned (t' := s.toks) (fun b o hb q => eb b o hb q) f0 f1 f3 f4 f5⟩
  self := fun A i s Q E st h => let ⟨⟨_, he⟩, _⟩ := st; wpAny_pyIter_enum he h
def iEnumA (K : PySem.W.Frag) (ta : TA) : TI := fun σ H R => ta σ H fun vs H1 => ∃ a xs, vs = [.ref a] ∧ ((SqL K H1 a xs ∧ R (Ite K a) H1) ∨ (SqT K H1 a xs ∧ R (IteT K a) H1))
theorem pi_enumA {X : Cx} {e : Expr} {ta : TA} {p pos tpos : Pos} {elts : List Expr} {kk : Nat} (hg : Gl X "enumerate") (hm : X.mg "enumerate" = none) (ha : PA X [e] ta) (hs : starEach [e] X.env = [(false, eval e X.env)] := by rfl) :
    PI X (.Tuple elts kk tpos) (.Call (.Name "enumerate" p) [e] [] pos) (iEnumA X.K ta) := by
  refine ⟨fun pins s σ H R I h => ?_⟩
  refine Call_ (ld_blt I hg hm PyProof.Rows.boot_enumerate (PyProof.Rows.callWith_type1 (thn (ha.run pos pins s σ H _ I h) fun us s1 ⟨vs, H1, I1, r1, q1⟩ => ?_) hs rfl))
  obtain ⟨a, xs, ex, q⟩ := q1
  subst ex
  cases r1 with
  | cons r rr =>
    cases rr
    cases r
    have fresh2 : ∀ b ∈ [s1.heap.objs.size + 1, s1.heap.objs.size], FpOk X pins H1 b := fun b hb => by
      have e' : b = s1.heap.objs.size + 1 ∨ b = s1.heap.objs.size := by simpa using hb
      have hle : s1.heap.objs.size ≤ b := by
        rcases e' with z | z
        · rw [z]; exact Nat.le_add_right _ _
        · rw [z]; exact Nat.le_refl _
      exact I1.fpOk hle (I1.hok.fresh hle)
    rcases q with ⟨hq, q⟩ | ⟨hq, q⟩
    · obtain ⟨its, rv, p', hz⟩ := I1.list hq
      refine call_enumerate_list p'.isList fun h' he hit hsz hk => wpAny_pyIter_enum he ?_
      have I2 : Inv X pins σ H1 { s1 with heap := h' } := I1.kept (t' := s1.toks) hk
      exact ⟨s1.heap.objs.size + 1, [s1.heap.objs.size + 1, s1.heap.objs.size], _, _, H1, rfl, I2, turn_enum a (s1.heap.objs.size + 1) s1.heap.objs.size, ⟨⟨.none, he⟩, hit, Nat.succ_ne_self _⟩, fresh2, q⟩
    · obtain ⟨its, rv, p', hz⟩ := I1.tuple hq
      have hal : a < s1.heap.objs.size := p'.lt
      refine enum_begins1 (begins_tuple a its.toArray) (show s1.heap.IsTuple a its.toArray from p') fun h' he hit hsz hk => wpAny_pyIter_enum he ?_
      have I2 : Inv X pins σ H1 { s1 with heap := h' } := I1.kept (t' := s1.toks) hk
      exact ⟨s1.heap.objs.size + 1, [s1.heap.objs.size + 1, s1.heap.objs.size], _, _, H1, rfl, I2, turn_enumT a (s1.heap.objs.size + 1) s1.heap.objs.size (Nat.ne_of_lt hal), ⟨⟨.none, he⟩, ⟨_, hit, rfl, rfl⟩, Nat.succ_ne_self _⟩, fresh2, q⟩
theorem itok_pair {K : PySem.W.Frag} {G : Hp} {J : DIt} {J' : It} (h : ∀ F i G2 H2 C2, Same G G2 → Ab K F G2 H2 C2 →
    (J.go i C2 → J'.go i H2 ∧ ∀ x H3, J'.yld i H2 x H3 → ∃ T y z dy dz, x = .ref T ∧ H2 T = none ∧ H3 = upd H2 T (.tup [y, z]) ∧ J.yld i C2 (.tup [dy, dz]) ∧ Rp K G2 dy y ∧ Rp K G2 dz z) ∧ (J.stop i C2 → J'.stop i H2)) : ItOk K G J J' := by
  intro F i G2 H2 C2 s2 A2
  obtain ⟨h1, h2⟩ := h F i G2 H2 C2 s2 A2
  refine ⟨fun g => ?_, h2⟩
  obtain ⟨h3, h4⟩ := h1 g
  refine ⟨h3, fun x H3 yy => ?_⟩
  obtain ⟨T, y, z, dy, dz, rfl, hT, rfl, yd, ry, rz⟩ := h4 x H3 yy
  obtain ⟨A3, s3⟩ := A2.grow (u := .tup [y, z]) hT
  exact ⟨_, _, s3, A3, yd, .tup (.inl (.inl upd_same)) (.cons (ry.mono s3) (.cons (rz.mono s3) .nil))⟩
/-- enumerate(x) of a list or a tuple -/
def itEnum (x : D) : DIt := ⟨fun i C => ∃ ds d, seqOf C x = some ds ∧ ds[i]? = some d, fun i C e => ∃ ds d, seqOf C x = some ds ∧ ds[i]? = some d ∧ e = .tup [.int (i : Nat), d], fun i C => ∃ ds, seqOf C x = some ds ∧ ds.length ≤ i⟩
def diEnum (ta : DA) : DI := fun δ C R => ta δ C fun xs C1 => ∃ x, xs = [x] ∧ (seqOf C1 x).isSome = true ∧ R (itEnum x) C1
/-- zip(x, y) of two lists or two tuples -/
def itZip (x y : D) : DIt := ⟨fun i C => ∃ ds es d e, seqOf C x = some ds ∧ seqOf C y = some es ∧ ds[i]? = some d ∧ es[i]? = some e, fun i C z => ∃ ds es d e, seqOf C x = some ds ∧ seqOf C y = some es ∧ ds[i]? = some d ∧ es[i]? = some e ∧ z = .tup [d, e],
  fun i C => ∃ ds es, seqOf C x = some ds ∧ seqOf C y = some es ∧ (ds.length ≤ i ∨ es.length ≤ i)⟩
def diZip (ta : DA) : DI := fun δ C R => ta δ C fun xs C1 => ∃ x y, xs = [x, y] ∧ (((tupOf x).isSome = true ∧ (tupOf y).isSome = true) ∨ (tupOf x = none ∧ tupOf y = none ∧ (lstOf C1 x).isSome = true ∧ (lstOf C1 y).isSome = true)) ∧ R (itZip x y) C1
theorem seqOf_lst {C : Cells} {x : D} (h : tupOf x = none) : seqOf C x = lstOf C x := by unfold seqOf; rw [h]
theorem seqOf_tup {C : Cells} {x : D} {ds : List D} (h : tupOf x = some ds) : seqOf C x = some ds := by unfold seqOf; rw [h]
section
variable {X : Cx}
theorem di_enum {e : Expr} {ta : DA} {p pos tpos : Pos} {elts : List Expr} {kk : Nat} (hg : Gl X "enumerate") (hm : X.mg "enumerate" = none) (ha : PA X [e] (liftA X.K ta)) (hs : starEach [e] X.env = [(false, eval e X.env)] := by rfl) :
    PI X (.Tuple elts kk tpos) (.Call (.Name "enumerate" p) [e] [] pos) (liftI X.K (diEnum ta)) := by
  refine (pi_enumA hg hm ha hs).weak ?_
  rintro σ H Q ⟨F, G, δ, C, R, A, S, q, k⟩
  refine ⟨F, G, δ, C, _, A, S, q, ?_⟩
  rintro xs C1 ⟨x, rfl, hx, q1⟩ vs H1 G1 s1 A1 r1
  obtain ⟨v, rfl, r⟩ := r1.one
  obtain ⟨ds, hx⟩ := Option.isSome_iff_exists.mp hx
  cases et : tupOf x with
  | some ds' =>
    obtain ⟨a, as, rfl, ha, ra⟩ := tup_at A1 r et
    refine ⟨a, as, rfl, .inr ⟨ha, k _ _ q1 _ H1 G1 s1 A1 (itok_pair fun F' i G2 H2 C2 s2 A2 => ⟨?_, ?_⟩)⟩⟩
    · rintro ⟨ds2, d, e2, ed⟩
      rw [seqOf_tup et] at e2; cases e2
      obtain ⟨b, bs, eb, hb, rb⟩ := tup_at A2 (r.mono s2) et
      cases eb
      obtain ⟨y, hy, ry⟩ := rb.getD ed
      refine ⟨⟨bs, y, hb, hy⟩, ?_⟩
      rintro x3 H3 ⟨T, z, rfl, hT, rfl, hz⟩
      have := hz bs hb
      rw [hy] at this; cases this
      exact ⟨T, _, _, _, d, rfl, hT, rfl, ⟨_, d, seqOf_tup et, ed, rfl⟩, .int _, ry⟩
    · rintro ⟨ds2, e2, hl⟩
      rw [seqOf_tup et] at e2; cases e2
      obtain ⟨b, bs, eb, hb, rb⟩ := tup_at A2 (r.mono s2) et
      cases eb
      exact ⟨bs, hb, by rw [← rb.length]; exact hl⟩
  | none =>
    rw [seqOf_lst et] at hx
    obtain ⟨a, as, rfl, ha, ra⟩ := lst_at A1 r hx
    refine ⟨a, as, rfl, .inl ⟨.inl ha, k _ _ q1 _ H1 G1 s1 A1 (itok_pair fun F' i G2 H2 C2 s2 A2 => ⟨?_, ?_⟩)⟩⟩
    · rintro ⟨ds2, d, e2, ed⟩
      rw [seqOf_lst et] at e2
      obtain ⟨b, bs, eb, hb, rb⟩ := lst_at A2 (r.mono s2) e2
      cases eb
      obtain ⟨y, hy, ry⟩ := rb.getD ed
      refine ⟨⟨bs, y, .inl hb, hy⟩, ?_⟩
      rintro x3 H3 ⟨T, z, rfl, hT, rfl, hz⟩
      have := hz bs (.inl hb)
      rw [hy] at this; cases this
      exact ⟨T, _, _, _, d, rfl, hT, rfl, ⟨_, d, by rw [seqOf_lst et]; exact e2, ed, rfl⟩, .int _, ry⟩
    · rintro ⟨ds2, e2, hl⟩
      rw [seqOf_lst et] at e2
      obtain ⟨b, bs, eb, hb, rb⟩ := lst_at A2 (r.mono s2) e2
      cases eb
      exact ⟨bs, .inl hb, by rw [← rb.length]; exact hl⟩
theorem di_zip {e e2 : Expr} {ta : DA} {p pos tpos : Pos} {elts : List Expr} {kk : Nat} (hg : Gl X "zip") (hm : X.mg "zip" = none) (ha : PA X [e, e2] (liftA X.K ta))
    (hs : starEach [e, e2] X.env = (false, eval e X.env) :: starEach [e2] X.env := by rfl) (hpl : (backTo pos (starEach [e2] X.env)).any (·.1) = false := by rfl) :
    PI X (.Tuple elts kk tpos) (.Call (.Name "zip" p) [e, e2] [] pos) (liftI X.K (diZip ta)) := by
  refine (RZ.pi_zipA hg hm ha hs hpl).weak ?_
  rintro σ H Q ⟨F, G, δ, C, R, A, S, q, k⟩
  refine ⟨F, G, δ, C, _, A, S, q, ?_⟩
  rintro xs C1 ⟨x, y, rfl, hxy, q1⟩ vs H1 G1 s1 A1 r1
  obtain ⟨v, u, rfl, r, r'⟩ := r1.two
  rcases hxy with ⟨hx, hy⟩ | ⟨tx, ty, hx, hy⟩
  · obtain ⟨ds, et⟩ := Option.isSome_iff_exists.mp hx
    obtain ⟨es, et'⟩ := Option.isSome_iff_exists.mp hy
    obtain ⟨a, as, rfl, ha, ra⟩ := tup_at A1 r et
    obtain ⟨b, bs, rfl, hb, rb⟩ := tup_at A1 r' et'
    refine ⟨a, b, as, bs, rfl, .inr ⟨ha, hb, k _ _ q1 _ H1 G1 s1 A1 (itok_pair fun F' i G2 H2 C2 s2 A2 => ?_)⟩⟩
    obtain ⟨a', as2, ea, ha2, ra2⟩ := tup_at A2 (r.mono s2) et
    cases ea
    obtain ⟨b', bs2, eb, hb2, rb2⟩ := tup_at A2 (r'.mono s2) et'
    cases eb
    refine ⟨?_, ?_⟩
    · rintro ⟨ds2, es2, d, e, e1, e2, ed, ee⟩
      rw [seqOf_tup et] at e1; cases e1
      rw [seqOf_tup et'] at e2; cases e2
      obtain ⟨z, hz, rz⟩ := ra2.getD ed
      obtain ⟨z', hz', rz'⟩ := rb2.getD ee
      refine ⟨⟨as2, bs2, z, z', ha2, hb2, hz, hz'⟩, ?_⟩
      rintro x3 H3 ⟨T, w1, w2, rfl, hT, rfl, h1, h2⟩
      have k1 := h1 as2 ha2
      have k2 := h2 bs2 hb2
      rw [hz] at k1; cases k1
      rw [hz'] at k2; cases k2
      exact ⟨T, _, _, d, e, rfl, hT, rfl, ⟨_, _, d, e, seqOf_tup et, seqOf_tup et', ed, ee, rfl⟩, rz, rz'⟩
    · rintro ⟨ds2, es2, e1, e2, hl⟩
      rw [seqOf_tup et] at e1; cases e1
      rw [seqOf_tup et'] at e2; cases e2
      exact ⟨as2, bs2, ha2, hb2, by rw [← ra2.length, ← rb2.length]; exact hl⟩
  · obtain ⟨ds, et⟩ := Option.isSome_iff_exists.mp hx
    obtain ⟨es, et'⟩ := Option.isSome_iff_exists.mp hy
    obtain ⟨a, as, rfl, ha, ra⟩ := lst_at A1 r et
    obtain ⟨b, bs, rfl, hb, rb⟩ := lst_at A1 r' et'
    refine ⟨a, b, as, bs, rfl, .inl ⟨.inl ha, .inl hb, k _ _ q1 _ H1 G1 s1 A1 (itok_pair fun F' i G2 H2 C2 s2 A2 => ⟨?_, ?_⟩)⟩⟩
    · rintro ⟨ds2, es2, d, e, e1, e2, ed, ee⟩
      rw [seqOf_lst tx] at e1
      rw [seqOf_lst ty] at e2
      obtain ⟨a', as2, ea, ha2, ra2⟩ := lst_at A2 (r.mono s2) e1
      cases ea
      obtain ⟨b', bs2, eb, hb2, rb2⟩ := lst_at A2 (r'.mono s2) e2
      cases eb
      obtain ⟨z, hz, rz⟩ := ra2.getD ed
      obtain ⟨z', hz', rz'⟩ := rb2.getD ee
      refine ⟨⟨as2, bs2, z, z', .inl ha2, .inl hb2, hz, hz'⟩, ?_⟩
      rintro x3 H3 ⟨T, w1, w2, rfl, hT, rfl, h1, h2⟩
      have k1 := h1 as2 (.inl ha2)
      have k2 := h2 bs2 (.inl hb2)
      rw [hz] at k1; cases k1
      rw [hz'] at k2; cases k2
      exact ⟨T, _, _, d, e, rfl, hT, rfl, ⟨_, _, d, e, by rw [seqOf_lst tx]; exact e1, by rw [seqOf_lst ty]; exact e2, ed, ee, rfl⟩, rz, rz'⟩
    · rintro ⟨ds2, es2, e1, e2, hl⟩
      rw [seqOf_lst tx] at e1
      rw [seqOf_lst ty] at e2
      obtain ⟨a', as2, ea, ha2, ra2⟩ := lst_at A2 (r.mono s2) e1
      cases ea
      obtain ⟨b', bs2, eb, hb2, rb2⟩ := lst_at A2 (r'.mono s2) e2
      cases eb
      exact ⟨as2, bs2, .inl ha2, .inl hb2, by rw [← ra2.length, ← rb2.length]; exact hl⟩
/-- a, b = x, y of plain local names -/
def dPar (i j : Nat) (ta : DA) : DS := fun N δ C => ta δ C fun ds C1 => ∃ v w, ds = [v, w] ∧ N.nx ((δ.set i (some v)).set j (some w)) C1
theorem ds_par {i j : Nat} {x y : Str} {a b : Expr} {ta : DA} {px py pt pos : Pos} {kt k2 pt2} (hc : X.calm = true) (hN : X.N.Nodup) (hi : X.N[i]? = some x) (hj : X.N[j]? = some y) (hij : i ≠ j)
    (hx : X.env.scope.names.lookup x = some .local) (hy : X.env.scope.names.lookup y = some .local) (ha : PA X [a, b] (liftA X.K ta))
    (hw : swappedStores [.Tuple [.Name x px, .Name y py] kt pt] (.Tuple [a, b] k2 pt2) X.env = pure (some [x, y]))
    (hs : swapsWithSole [.Tuple [.Name x px, .Name y py] kt pt] (.Tuple [a, b] k2 pt2) pos.line X.env = pure false := by rfl) :
    PS X (.Assign [.Tuple [.Name x px, .Name y py] kt pt] (.Tuple [a, b] k2 pt2) pos) (liftS X.K (dPar i j ta)) :=
  (ps_par hc hN hi hj hij hx hy ha hw hs).weak fun D σ H ⟨F, G, δ, C, R, A, S, q, k⟩ => ⟨F, G, δ, C, _, A, S, q, by
    rintro ds C1 ⟨v, w, rfl, q1⟩ vs H1 G1 s1 A1 r1
    obtain ⟨v', w', rfl, rv, rw'⟩ := r1.two
    exact ⟨v', w', rfl, k.nx _ _ q1 _ H1 G1 s1 A1 (RpS.set rw' j (RpS.set rv i (S.mono s1)))⟩⟩
/-- (a, b) = a list of that length -/
def gdUnl (n : Nat) (t : DGs) : DG := fun d δ C R => ∃ ds, tupOf d = none ∧ lstOf C d = some ds ∧ ds.length = n ∧ t ds δ C R
end
end DL
namespace DL
open PySem PySem.Spec L2
open PyProof.Rows hiding St
def sortD (ds : List D) : List D := ds.mergeSort (PySem.W.dataLe false toPy)
/-- what sorted may be told -/
structure SortOk (ds : List D) : Prop where
  ok : ds.all (okD 50) = true
  al : PySem.W.AllAlike (ds.map toPy)
  so : PySem.W.Sortable (ds.map toPy)
def oSorted : DOs := fun xs C R => ∃ x ds, xs = [x] ∧ lstOf C x = some ds ∧ SortOk ds ∧ R (.lst (sortD ds)) C
/-- a value of the machine stands for d -/
def Rv (K : PySem.W.Frag) (G : Hp) (u : Value) (d : D) : Prop := ∃ v, Rp K G d v ∧ RelV v u
theorem rv_each {K : PySem.W.Frag} {G : Hp} : ∀ {ds : List D} {vs : List V} {us : List Value}, RpL K G ds vs → Vals vs us → PySem.W.EachIs (Rv K G) us ds
  | _, _, _, .nil, .nil => .nil
  | _, _, _, .cons r t, .cons r' t' => .cons ⟨_, r, r'⟩ (rv_each t t')
theorem each_rv {K : PySem.W.Frag} {G : Hp} : ∀ {us : List Value} {ds : List D}, PySem.W.EachIs (Rv K G) us ds → ∃ vs, RpL K G ds vs ∧ Vals vs us
  | _, _, .nil => ⟨[], .nil, .nil⟩
  | _, _, .cons ⟨v, r, r'⟩ t => by
    obtain ⟨vs, h1, h2⟩ := each_rv t
    exact ⟨v :: vs, .cons r h1, .cons r' h2⟩
theorem rv_reads {X : Cx} {pins : List (Addr × Obj)} {σ : St} {G H : Hp} {s : Shared} (I : Inv X pins σ H s) (sm : Same G H) : ∀ {us : List Value} {ds : List D}, PySem.W.EachIs (Rv X.K G) us ds → ds.all (okD 50) = true → PySem.W.EachIs (fun v b => ∃ as, Reads s.heap v (toPy b) as) us ds
  | _, _, .nil, _ => .nil
  | _, _, .cons ⟨v, r, r'⟩ t, h => by
    simp only [List.all_cons, Bool.and_eq_true] at h
    exact .cons (Dp.reads I _ _ _ (Rp.dp sm 50 _ _ h.1 r) r') (rv_reads I sm t h.2)
section
variable {X : Cx}
/-- sorted, over data as it stands -/
def rSortedD (K : PySem.W.Frag) : List V → Hp → VK → Prop := fun vs H Q => ∃ F G C xs R, Ab K F G H C ∧ RpL K G xs vs ∧ oSorted xs C R ∧ ToE K F G R Q
theorem call_sortedD (hu : X.A.units + 64 < cLine) : CallR X (.builtin "sorted") (rSortedD X.K) := by
  intro pins s σ H vs us Q I r h
  obtain ⟨F, G, C, xs, R, A, rx, ⟨x, ds, rfl, el, so, q⟩, k⟩ := h
  obtain ⟨v, rfl, r1⟩ := rx.one
  obtain ⟨u, rfl, ru⟩ := vals1 r
  obtain ⟨a, as, rfl, ha, ra⟩ := lst_at A r1 el
  obtain rfl : u = Value.ref a := ru
  obtain ⟨its, rv, hl, hz⟩ := I.list (.inl ha)
  have e := rv_each ra rv
  have hlen : ds.length = as.length := ra.length
  refine PySem.W.sorted_data hl.isList e (rv_reads I A.sub e so.ok) so.al so.so (by omega) (fun d hd => ?_) fun out ho eo => ?_
  · have := (okD_lay 50 d (List.all_eq_true.mp so.ok d hd)).2
    omega
  · obtain ⟨vs', h1, h2⟩ := each_rv eo
    have hp : H (s.heap.objs.size + 1) = none := I.hok.fresh (Nat.le_succ _)
    have hout : out.length ≤ sizeLine := by rw [ho, hlen]; exact hz
    obtain ⟨n, hn⟩ := PyProof.Rows.sortedAll_at s.heap its out.toArray
    refine ⟨.ref (s.heap.objs.size + 1), upd H (s.heap.objs.size + 1) (.lst vs'), I.laid (t' := s.toks) (fun b o q => PyProof.Rows.sortedAll_old q) (Nat.le_succ _) ⟨by rw [h2.length]; exact hout, out, n, h2, hn⟩, rfl, ?_⟩
    · exact k.new A hp q (.lst (.inl upd_same) (h1.mono (A.grow hp).2))
theorem cl_sorted (hu : X.A.units + 64 < cLine) : CalD X (.builtin "sorted") oSorted := ⟨_, call_sortedD hu, fun F G H C xs vs R Q A rx h k => ⟨F, G, C, xs, R, A, rx, h, k⟩⟩
/-- .. a list that may be written -/
def oSortedC : DOs := fun xs C R => ∃ x ds, xs = [x] ∧ lstOf C x = some ds ∧ SortOk ds ∧ ∀ p, C p = none → R (.ref p) (updC C p (.lst (sortD ds)))
def rSortedDC (K : PySem.W.Frag) : List V → Hp → VK → Prop := fun vs H Q => ∃ F G C xs R, Ab K F G H C ∧ RpL K G xs vs ∧ oSortedC xs C R ∧ ToE K F G R Q
theorem call_sortedDC (hu : X.A.units + 64 < cLine) : CallR X (.builtin "sorted") (rSortedDC X.K) := by
  intro pins s σ H vs us Q I r h
  obtain ⟨F, G, C, xs, R, A, rx, ⟨x, ds, rfl, el, so, q⟩, k⟩ := h
  obtain ⟨v, rfl, r1⟩ := rx.one
  obtain ⟨u, rfl, ru⟩ := vals1 r
  obtain ⟨a, as, rfl, ha, ra⟩ := lst_at A r1 el
  obtain rfl : u = Value.ref a := ru
  obtain ⟨its, rv, hl, hz⟩ := I.list (.inl ha)
  have e := rv_each ra rv
  have hlen : ds.length = as.length := ra.length
  refine PySem.W.sorted_data hl.isList e (rv_reads I A.sub e so.ok) so.al so.so (by omega) (fun d hd => ?_) fun out ho eo => ?_
  · have := (okD_lay 50 d (List.all_eq_true.mp so.ok d hd)).2
    omega
  · obtain ⟨vs', h1, h2⟩ := each_rv eo
    have hp : H (s.heap.objs.size + 1) = none := I.hok.fresh (Nat.le_succ _)
    have hout : out.length ≤ sizeLine := by rw [ho, hlen]; exact hz
    obtain ⟨n, hn⟩ := PyProof.Rows.sortedAll_at s.heap its out.toArray
    refine ⟨.ref (s.heap.objs.size + 1), upd H (s.heap.objs.size + 1) (.lst vs'), I.laid (t' := s.toks) (fun b o q => PyProof.Rows.sortedAll_old q) (Nat.le_succ _) ⟨by rw [h2.length]; exact hout, out, n, h2, hn⟩, rfl, ?_⟩
    · exact k.cell A hp (q _ (A.free hp)) (.lst h1)
theorem cl_sortedC (hu : X.A.units + 64 < cLine) : CalD X (.builtin "sorted") oSortedC := ⟨_, call_sortedDC hu, fun F G H C xs vs R Q A rx h k => ⟨F, G, C, xs, R, A, rx, h, k⟩⟩
def mergeD (kvs more : List (Key × D)) : List (Key × D) := more.foldl (fun acc kv => putD acc kv.1 kv.2) kvs
end
end DL
namespace DL
open PySem PySem.Spec L2
open PyProof.Rows hiding St kindOf
/-- no reference, no type -/
def dat : D → Bool
  | .ref _ => false
  | .ty _ => false
  | _ => true
def isIntD : D → Bool
  | .int _ => true
  | .bl _ => true
  | _ => false
def isBlD : D → Bool
  | .bl _ => true
  | _ => false
def isStrD : D → Bool
  | .str _ => true
  | _ => false
def isTupD : D → Bool
  | .tup _ => true
  | _ => false
section
variable {C : Cells} {R : D → Cells → Prop} {x y : D}
theorem ex_some {α : Type} {a : α} {P : α → Prop} : (∃ b, some a = some b ∧ P b) = P a := by simp
theorem oIsi_def {t : D} : oIsi [x, t] C R = ∃ b, isiO C x t = some b ∧ R (.bl b) C := propext ⟨by rintro ⟨x', t', b, e, h⟩; cases e; exact ⟨b, h⟩, fun ⟨b, h⟩ => ⟨x, t, b, rfl, h⟩⟩
theorem oLen_def : oLen [x] C R = ∃ n, lenO C x = some n ∧ R (.int (n : Nat)) C := propext ⟨by rintro ⟨x', n, e, h⟩; cases e; exact ⟨n, h⟩, fun ⟨b, h⟩ => ⟨x, b, rfl, h⟩⟩
theorem oAll_def : oAll [x] C R = ∃ ds bs, lstOf C x = some ds ∧ bools ds = some bs ∧ R (.bl (bs.all id)) C := propext ⟨by rintro ⟨x', n, m, e, h⟩; cases e; exact ⟨n, m, h⟩, fun ⟨b, c, h⟩ => ⟨x, b, c, rfl, h⟩⟩
theorem oTuple_def : oTuple [x] C R = match tupOf x with
  | some ds => R (.tup ds) C
  | none => ∃ ds, lstOf C x = some ds ∧ R (.tup ds) C := propext ⟨by rintro ⟨x', e, h⟩; cases e; exact h, fun h => ⟨x, rfl, h⟩⟩
theorem oDictC_def : oDictC [x] C R = ∃ ds, dctOf C x = some ds ∧ ∀ p, C p = none → R (.ref p) (updC C p (.dct ds)) := propext ⟨by rintro ⟨x', n, e, h⟩; cases e; exact ⟨n, h⟩, fun ⟨b, h⟩ => ⟨x, b, rfl, h⟩⟩
theorem oSorted_def : oSorted [x] C R = ∃ ds, lstOf C x = some ds ∧ SortOk ds ∧ R (.lst (sortD ds)) C := propext ⟨by rintro ⟨x', n, e, h⟩; cases e; exact ⟨n, h⟩, fun ⟨b, h⟩ => ⟨x, b, rfl, h⟩⟩
theorem oSortedC_def : oSortedC [x] C R = ∃ ds, lstOf C x = some ds ∧ SortOk ds ∧ ∀ p, C p = none → R (.ref p) (updC C p (.lst (sortD ds))) := propext ⟨by rintro ⟨x', n, e, h⟩; cases e; exact ⟨n, h⟩, fun ⟨b, h⟩ => ⟨x, b, rfl, h⟩⟩
theorem oIsi_int (h : dat x = true) : oIsi [x, .ty "int"] C R = R (.bl (isIntD x)) C := by
  cases x <;> first | (simp [oIsi_def, isiO, DL.kindOf, types, isiT, isIntD]; done) | cases h
theorem oIsi_bool (h : dat x = true) : oIsi [x, .ty "bool"] C R = R (.bl (isBlD x)) C := by
  cases x <;> first | (simp [oIsi_def, isiO, DL.kindOf, types, isiT, isBlD]; done) | cases h
theorem oIsi_str (h : dat x = true) : oIsi [x, .ty "str"] C R = R (.bl (isStrD x)) C := by
  cases x <;> first | (simp [oIsi_def, isiO, DL.kindOf, types, isiT, isStrD]; done) | cases h
theorem oIsi_tuple (h : dat x = true) : oIsi [x, .ty "tuple"] C R = R (.bl (isTupD x)) C := by
  cases x <;> first | (simp [oIsi_def, isiO, DL.kindOf, types, isiT, isTupD]; done) | cases h
theorem oLen_tup {ds : List D} : oLen [.tup ds] C R = R (.int (ds.length : Nat)) C := by simp [oLen_def, lenO, strOf, tupOf]
theorem oLen_lst {ds : List D} : oLen [.lst ds] C R = R (.int (ds.length : Nat)) C := by simp [oLen_def, lenO, strOf, tupOf, lstOf]
theorem oLen_str {z : Str} (h : z.length ≤ sizeLine) : oLen [.str z] C R = R (.int (z.length : Nat)) C := by simp [oLen_def, lenO, strOf, h]
theorem oLen_ref {p : Addr} {ds : List D} (h : C p = some (.lst ds)) : oLen [.ref p] C R = R (.int (ds.length : Nat)) C := by simp [oLen_def, lenO, strOf, tupOf, lstOf, h, cellLst]
theorem oIx_tup {ds : List D} {i : Int} : oIx (.tup ds) (.int i) C R = ∃ d, atI ds i = some d ∧ R d C := by simp [oIx, ixO, dctOf, intOf, strOf, tupOf]
theorem oIx_lst {ds : List D} {i : Int} : oIx (.lst ds) (.int i) C R = ∃ d, atI ds i = some d ∧ R d C := by simp [oIx, ixO, dctOf, intOf, strOf, tupOf, lstOf]
theorem oIx_ref {p : Addr} {ds : List D} {i : Int} (h : C p = some (.lst ds)) : oIx (.ref p) (.int i) C R = ∃ d, atI ds i = some d ∧ R d C := by simp [oIx, ixO, dctOf, intOf, strOf, tupOf, lstOf, h, cellLst, cellDct]
theorem oIx_str {z : Str} {i : Int} (h : z.length ≤ sizeLine) : oIx (.str z) (.int i) C R = ∃ d, (atI z.cps.toList i).map (fun c => D.str ⟨#[c]⟩) = some d ∧ R d C := by simp [oIx, ixO, dctOf, intOf, strOf, h]
theorem oIx_dct {kvs : List (Key × D)} {k : Key} (h : keyOf y = some k) : oIx (.dct kvs) y C R = ∃ d, getK kvs k = some d ∧ R d C := by simp [oIx, ixO, dctOf, h]
theorem oEq_ok (h1 : okD 60 x = true) (h2 : okD 60 y = true) : oEq x y C R = R (.bl (D.eqv x y)) C := by simp [oEq, eqO, h1, h2]
theorem oNe_ok (h1 : okD 60 x = true) (h2 : okD 60 y = true) : oNe x y C R = R (.bl (!D.eqv x y)) C := by simp [oNe, eqO, h1, h2]
theorem oIn_str {i j : Str} : oIn (.str i) (.str j) C R = R (.bl (strIn i j)) C := by simp [oIn, inO, strOf]
theorem oIn_of {b : Bool} (h : inO C x y = some b) : oIn x y C R = R (.bl b) C := by unfold oIn; rw [h]; simp only [Option.some.injEq, exists_eq_left']
theorem oIn_tup {ds : List D} (h1 : flatD x = true) (h2 : ds.all flatD = true) : oIn x (.tup ds) C R = R (.bl (ds.any fun z => D.eqv z x)) C :=
  oIn_of (show (if flatD x = true ∧ ds.all flatD = true then some (ds.any fun z => D.eqv z x) else none) = _ from if_pos ⟨h1, h2⟩)
theorem oIn_lst {ds : List D} (h1 : okD 60 x = true) (h2 : ds.all (okD 60) = true) : oIn x (.lst ds) C R = R (.bl (ds.any fun z => D.eqv z x)) C :=
  oIn_of (show (if okD 60 x = true ∧ ds.all (okD 60) = true then some (ds.any fun z => D.eqv z x) else none) = _ from if_pos ⟨h1, h2⟩)
theorem oNotIn_eq : oNotIn x y C R = oIn x y C (fun d C => ∃ b, d = .bl b ∧ R (.bl (!b)) C) := by simp [oNotIn, oIn]
theorem oIs_non : oIs x .non C R = R (.bl (isNon x)) C := by cases x <;> rfl
theorem oIsNot_non : oIsNot x .non C R = R (.bl (!isNon x)) C := by cases x <;> rfl
theorem oLe_int {i j : Int} : oLe (.int i) (.int j) C R = R (.bl (decide (i ≤ j))) C := rfl
theorem oLt_int {i j : Int} : oLt (.int i) (.int j) C R = R (.bl (decide (i < j))) C := rfl
theorem oGt_int {i j : Int} : oGt (.int i) (.int j) C R = R (.bl (decide (j < i))) C := rfl
theorem oGe_int {i j : Int} : oGe (.int i) (.int j) C R = R (.bl (decide (j ≤ i))) C := rfl
theorem oLe_str {i j : Str} : oLe (.str i) (.str j) C R = R (.bl (!decide (j.cps.toList < i.cps.toList))) C := rfl
theorem oAdd_int {i j : Int} : oAdd (.int i) (.int j) C R = R (.int (i + j)) C := rfl
theorem oSub_int {i j : Int} : oSub (.int i) (.int j) C R = R (.int (i - j)) C := rfl
theorem oAdd_tup {xs ys : List D} (h : xs.length + ys.length ≤ sizeLine) : oAdd (.tup xs) (.tup ys) C R = R (.tup (xs ++ ys)) C := by simp [oAdd, h]
theorem oAdd_lst {xs ys : List D} (h : xs.length + ys.length ≤ sizeLine) : oAdd (.lst xs) (.lst ys) C R = R (.lst (xs ++ ys)) C := by simp [oAdd, lstOf, h]
theorem oAll_lst {ds : List D} {bs : List Bool} (h : bools ds = some bs) : oAll [.lst ds] C R = R (.bl (bs.all id)) C := by simp [oAll_def, lstOf, h]
theorem bools_map {α : Type} {f : α → Bool} : ∀ xs : List α, bools (xs.map fun x => D.bl (f x)) = some (xs.map f)
  | [] => rfl
  | x :: xs => by simp [bools, bools_map xs]
theorem bl_and {b c : Bool} : (if b = true then R (.bl c) C else R (.bl false) C) = R (.bl (b && c)) C := by cases b <;> simp
theorem bl_or {b c : Bool} : (if b = true then R (.bl true) C else R (.bl c) C) = R (.bl (b || c)) C := by cases b <;> simp
theorem bl_andT {b c : Bool} {R : Bool → Cells → Prop} : (if b = true then R c C else R false C) = R (b && c) C := by cases b <;> simp
theorem bl_orT {b c : Bool} {R : Bool → Cells → Prop} : (if b = true then R true C else R c C) = R (b || c) C := by cases b <;> simp
end
theorem atI_cast {α : Type} (xs : List α) (n : Nat) : atI xs ((n : Nat) : Int) = xs[n]? := by
  unfold atI ixN
  by_cases h : n < xs.length
  · simp [h]
  · simp [h]
theorem atI_0 {α : Type} (xs : List α) : atI xs (0 : Int) = xs[0]? := atI_cast xs 0
theorem atI_1 {α : Type} (xs : List α) : atI xs (1 : Int) = xs[1]? := atI_cast xs 1
theorem atI_2 {α : Type} (xs : List α) : atI xs (2 : Int) = xs[2]? := atI_cast xs 2
theorem atI_3 {α : Type} (xs : List α) : atI xs (3 : Int) = xs[3]? := atI_cast xs 3
theorem atI_m1 {α : Type} (xs : List α) : atI xs (-1 : Int) = xs.getLast? := by
  unfold atI ixN
  cases xs with
  | nil => simp
  | cons x xs =>
    rw [List.getLast?_eq_getElem?]
    have h1 : ¬ (0 : Int) ≤ -1 := by decide
    have h2 : -(((x :: xs).length : Nat) : Int) ≤ -1 := by simp; omega
    rw [if_neg h1, if_pos h2]
    have h3 : (-1 + (((x :: xs).length : Nat) : Int)).toNat = (x :: xs).length - 1 := by omega
    rw [h3]
    rfl
/-- a loop over items that stay: Pv by how many are gone through -/
theorem for_fix {ds : List D} {g : DG} {tb : DS} {N : DEnds} {δ : DSt} {C : Cells} (Pv : Nat → DSt → Cells → Prop) (h0 : Pv 0 δ C)
    (hs : ∀ i d δ C, ds[i]? = some d → Pv i δ C → g d δ C fun δ2 C2 => tb { N with nx := Pv (i + 1), ct := Pv (i + 1), bk := N.nx } δ2 C2) (hd : ∀ δ C, Pv ds.length δ C → N.nx δ C) :
    ∃ W : Nat → Nat → DSt → Cells → Prop, (∃ m, W 0 m δ C) ∧ ∀ i m δ C, W i m δ C →
      ((itFix ds).stop i C ∧ N.nx δ C) ∨ ((itFix ds).go i C ∧ ∃ Nx : DSt → Cells → Prop, (∀ δ' C', Nx δ' C' → ∃ m', m' < m ∧ W (i + 1) m' δ' C') ∧ ∀ d, (itFix ds).yld i C d → g d δ C fun δ2 C2 => tb { N with nx := Nx, ct := Nx, bk := N.nx } δ2 C2) := by
  refine ⟨fun i m δ C => m = ds.length - i ∧ i ≤ ds.length ∧ Pv i δ C, ⟨ds.length, by simp, Nat.zero_le _, h0⟩, ?_⟩
  rintro i m δ C ⟨rfl, hi, p⟩
  by_cases hlt : i < ds.length
  · exact .inr ⟨hlt, Pv (i + 1), fun δ' C' p' => ⟨ds.length - (i + 1), by omega, rfl, hlt, p'⟩, fun d y => hs i d δ C y p⟩
  · have e : i = ds.length := by omega
    subst e
    exact .inl ⟨Nat.le_refl _, hd δ C p⟩
/-- .. over a range -/
theorem for_rng {lo : Int} {n : Nat} {g : DG} {tb : DS} {N : DEnds} {δ : DSt} {C : Cells} (Pv : Nat → DSt → Cells → Prop) (h0 : Pv 0 δ C)
    (hs : ∀ i δ C, i < n → Pv i δ C → g (.int (lo + i)) δ C fun δ2 C2 => tb { N with nx := Pv (i + 1), ct := Pv (i + 1), bk := N.nx } δ2 C2) (hd : ∀ δ C, Pv n δ C → N.nx δ C) :
    ∃ W : Nat → Nat → DSt → Cells → Prop, (∃ m, W 0 m δ C) ∧ ∀ i m δ C, W i m δ C →
      ((itRng lo n).stop i C ∧ N.nx δ C) ∨ ((itRng lo n).go i C ∧ ∃ Nx : DSt → Cells → Prop, (∀ δ' C', Nx δ' C' → ∃ m', m' < m ∧ W (i + 1) m' δ' C') ∧ ∀ d, (itRng lo n).yld i C d → g d δ C fun δ2 C2 => tb { N with nx := Nx, ct := Nx, bk := N.nx } δ2 C2) := by
  refine ⟨fun i m δ C => m = n - i ∧ i ≤ n ∧ Pv i δ C, ⟨n, by simp, Nat.zero_le _, h0⟩, ?_⟩
  rintro i m δ C ⟨rfl, hi, p⟩
  by_cases hlt : i < n
  · refine .inr ⟨hlt, Pv (i + 1), fun δ' C' p' => ⟨n - (i + 1), by omega, rfl, hlt, p'⟩, fun d y => ?_⟩
    have y : d = .int (lo + i) := y
    subst y
    exact hs i δ C hlt p
  · have e : i = n := by omega
    subst e
    exact .inl ⟨Nat.le_refl _, hd δ C p⟩
/-- enumerate of what stays -/
theorem for_enum {x : D} {ds : List D} (hx : ∀ C, seqOf C x = some ds) {g : DG} {tb : DS} {N : DEnds} {δ : DSt} {C : Cells} (Pv : Nat → DSt → Cells → Prop) (h0 : Pv 0 δ C)
    (hs : ∀ i d δ C, ds[i]? = some d → Pv i δ C → g (.tup [.int (i : Nat), d]) δ C fun δ2 C2 => tb { N with nx := Pv (i + 1), ct := Pv (i + 1), bk := N.nx } δ2 C2) (hd : ∀ δ C, Pv ds.length δ C → N.nx δ C) :
    ∃ W : Nat → Nat → DSt → Cells → Prop, (∃ m, W 0 m δ C) ∧ ∀ i m δ C, W i m δ C →
      ((itEnum x).stop i C ∧ N.nx δ C) ∨ ((itEnum x).go i C ∧ ∃ Nx : DSt → Cells → Prop, (∀ δ' C', Nx δ' C' → ∃ m', m' < m ∧ W (i + 1) m' δ' C') ∧ ∀ d, (itEnum x).yld i C d → g d δ C fun δ2 C2 => tb { N with nx := Nx, ct := Nx, bk := N.nx } δ2 C2) := by
  refine ⟨fun i m δ C => m = ds.length - i ∧ i ≤ ds.length ∧ Pv i δ C, ⟨ds.length, by simp, Nat.zero_le _, h0⟩, ?_⟩
  rintro i m δ C ⟨rfl, hi, p⟩
  by_cases hlt : i < ds.length
  · refine .inr ⟨⟨ds, ds[i], hx C, List.getElem?_eq_getElem hlt⟩, Pv (i + 1), fun δ' C' p' => ⟨ds.length - (i + 1), by omega, rfl, hlt, p'⟩, fun d y => ?_⟩
    obtain ⟨es, e, h1, h2, rfl⟩ := y
    rw [hx C] at h1; cases h1
    exact hs i e δ C h2 p
  · have e : i = ds.length := by omega
    subst e
    exact .inl ⟨⟨ds, hx C, Nat.le_refl _⟩, hd δ C p⟩
/-- zip of what stays -/
theorem for_zip {x y : D} {ds es : List D} (hx : ∀ C, seqOf C x = some ds) (hy : ∀ C, seqOf C y = some es) (hl : ds.length = es.length) {g : DG} {tb : DS} {N : DEnds} {δ : DSt} {C : Cells} (Pv : Nat → DSt → Cells → Prop) (h0 : Pv 0 δ C)
    (hs : ∀ i d e δ C, ds[i]? = some d → es[i]? = some e → Pv i δ C → g (.tup [d, e]) δ C fun δ2 C2 => tb { N with nx := Pv (i + 1), ct := Pv (i + 1), bk := N.nx } δ2 C2) (hd : ∀ δ C, Pv ds.length δ C → N.nx δ C) :
    ∃ W : Nat → Nat → DSt → Cells → Prop, (∃ m, W 0 m δ C) ∧ ∀ i m δ C, W i m δ C →
      ((itZip x y).stop i C ∧ N.nx δ C) ∨ ((itZip x y).go i C ∧ ∃ Nx : DSt → Cells → Prop, (∀ δ' C', Nx δ' C' → ∃ m', m' < m ∧ W (i + 1) m' δ' C') ∧ ∀ d, (itZip x y).yld i C d → g d δ C fun δ2 C2 => tb { N with nx := Nx, ct := Nx, bk := N.nx } δ2 C2) := by
  refine ⟨fun i m δ C => m = ds.length - i ∧ i ≤ ds.length ∧ Pv i δ C, ⟨ds.length, by simp, Nat.zero_le _, h0⟩, ?_⟩
  rintro i m δ C ⟨rfl, hi, p⟩
  by_cases hlt : i < ds.length
  · refine .inr ⟨⟨ds, es, ds[i], es[i], hx C, hy C, List.getElem?_eq_getElem hlt, List.getElem?_eq_getElem (by omega)⟩, Pv (i + 1), fun δ' C' p' => ⟨ds.length - (i + 1), by omega, rfl, hlt, p'⟩, fun d yy => ?_⟩
    obtain ⟨as, bs, d', e', h1, h2, h3, h4, rfl⟩ := yy
    rw [hx C] at h1; cases h1
    rw [hy C] at h2; cases h2
    exact hs i d' e' δ C h3 h4 p
  · have e : i = ds.length := by omega
    subst e
    exact .inl ⟨⟨ds, es, hx C, hy C, .inl (Nat.le_refl _)⟩, hd δ C p⟩
theorem fm_step {f : D → Option D} {ds : List D} {i : Nat} {d : D} (h : ds[i]? = some d) : (ds.take (i + 1)).filterMap f = (ds.take i).filterMap f ++ (f d).toList := by
  rw [List.take_succ, h, List.filterMap_append]
  cases e : f d <;> simp [e]
/-- a comprehension by an invariant of the list so far -/
theorem lc_inv {J : DIt} {n : Nat} {fin : List D → Cells → Prop} {gd : DG} {tt : DT} {te : DE} {δ : DSt} {C : Cells} (Pv : Nat → List D → Cells → Prop) (hgo : ∀ i C, i < n → J.go i C) (hst : ∀ C, J.stop n C) (h0 : Pv 0 [] C)
    (hs : ∀ (i : Nat) (d : D) acc C, i < n → J.yld i C d → Pv i acc C → gd d δ C fun δ2 C2 => tt δ2 C2 fun b C3 => if b = true then te δ2 C3 fun y C4 => acc.length < sizeLine ∧ Pv (i + 1) (acc ++ [y]) C4 else Pv (i + 1) acc C3)
    (hd : ∀ acc C, Pv n acc C → fin acc C) : dLcW fin J C gd tt te δ := by
  refine ⟨fun i m acc C => m = n - i ∧ i ≤ n ∧ Pv i acc C, ⟨n, by simp, Nat.zero_le _, h0⟩, ?_⟩
  rintro i m acc C ⟨rfl, hi, p⟩
  by_cases hlt : i < n
  · exact .inr ⟨hgo i C hlt, Pv (i + 1), fun acc' C' p' => ⟨n - (i + 1), by omega, rfl, hlt, p'⟩, fun d y => hs i d acc C hlt y p⟩
  · have e : i = n := by omega
    subst e
    exact .inl ⟨hst C, hd acc C p⟩
/-- a comprehension over what stays, its test and element without a trace: f says what comes of each item -/
theorem lc_fix {ds : List D} {fin : List D → Cells → Prop} {gd : DG} {tt : DT} {te : DE} {δ : DSt} {C : Cells} (f : D → Option D) (hl : ds.length ≤ sizeLine)
    (hs : ∀ (i : Nat) (d : D), ds[i]? = some d → ∀ K : Option D → Cells → Prop, K (f d) C → gd d δ C fun δ2 C2 => tt δ2 C2 fun b C3 => if b = true then te δ2 C3 fun y C4 => K (some y) C4 else K none C3) (hd : fin (ds.filterMap f) C) :
    dLcW fin (itFix ds) C gd tt te δ := by
  refine lc_inv (n := ds.length) (fun i acc C' => C' = C ∧ acc = (ds.take i).filterMap f) (fun i _ h => h) (fun _ => Nat.le_refl _) ⟨rfl, by simp⟩ (fun i d acc C' hi y => ?_) (fun acc C' => ?_)
  · rintro ⟨rfl, rfl⟩
    have y : ds[i]? = some d := y
    have hlen : ((ds.take i).filterMap f).length < sizeLine := by
      refine Nat.lt_of_le_of_lt (List.length_filterMap_le _ _) ?_
      rw [List.length_take]
      omega
    refine hs i d y (fun o c => match o with
      | some y => ((ds.take i).filterMap f).length < sizeLine ∧ c = C' ∧ (ds.take i).filterMap f ++ [y] = (ds.take (i + 1)).filterMap f
      | none => c = C' ∧ (ds.take i).filterMap f = (ds.take (i + 1)).filterMap f) ?_
    cases e : f d with
    | some z => exact ⟨hlen, rfl, by rw [fm_step y, e]; rfl⟩
    | none => exact ⟨rfl, by rw [fm_step y, e]; simp⟩
  · rintro ⟨rfl, rfl⟩
    rw [List.take_length]
    exact hd
theorem fm_map {f : D → D} (ds : List D) : ds.filterMap (fun d => some (f d)) = ds.map f := by simp
theorem fm_filter {p : D → Bool} {f : D → D} (ds : List D) : ds.filterMap (fun d => if p d = true then some (f d) else none) = (ds.filter p).map f := by
  induction ds with
  | nil => rfl
  | cons d ds ih => cases e : p d <;> simp [e, ih]
theorem lc_map {ds : List D} {fin : List D → Cells → Prop} {gd : DG} {te : DE} {δ : DSt} {C : Cells} (f : D → D) (hl : ds.length ≤ sizeLine)
    (hs : ∀ d, d ∈ ds → ∀ K : D → Cells → Prop, K (f d) C → gd d δ C fun δ2 C2 => te δ2 C2 K) (hd : fin (ds.map f) C) : dLcW fin (itFix ds) C gd dYes te δ := by
  refine lc_fix (fun d => some (f d)) hl (fun i d hi K hK => ?_) (by rw [fm_map]; exact hd)
  simp only [dYes, if_true]
  exact hs d (List.mem_of_getElem? hi) (fun y c => K (some y) c) hK
theorem lc_all {ds : List D} {gd : DG} {te : DE} {δ : DSt} {C : Cells} {R : D → Cells → Prop} (p : D → Bool) (hl : ds.length ≤ sizeLine)
    (hs : ∀ d, d ∈ ds → ∀ K : D → Cells → Prop, K (.bl (p d)) C → gd d δ C fun δ2 C2 => te δ2 C2 K) (hd : R (.bl (ds.all p)) C) : dLcW (fun acc C => oAll [.lst acc] C R) (itFix ds) C gd dYes te δ := by
  refine lc_map (fun d => .bl (p d)) hl hs ?_
  rw [oAll_lst (bools_map ds)]
  have : (ds.map p).all id = ds.all p := by rw [List.all_map]; rfl
  rw [this]
  exact hd
theorem lc_filter {ds : List D} {fin : List D → Cells → Prop} {gd : DG} {tt : DT} {te : DE} {δ : DSt} {C : Cells} (p : D → Bool) (f : D → D) (hl : ds.length ≤ sizeLine)
    (hs : ∀ d, d ∈ ds → ∀ K : Option D → Cells → Prop, K (if p d = true then some (f d) else none) C → gd d δ C fun δ2 C2 => tt δ2 C2 fun b C3 => if b = true then te δ2 C3 fun y C4 => K (some y) C4 else K none C3)
    (hd : fin ((ds.filter p).map f) C) : dLcW fin (itFix ds) C gd tt te δ :=
  lc_fix (fun d => if p d = true then some (f d) else none) hl (fun i d hi K hK => hs d (List.mem_of_getElem? hi) K hK) (by rw [fm_filter]; exact hd)
theorem cutL_drop {α : Type} (xs : List α) (k : Nat) : cutL xs (some (k : Int)) none = xs.drop k := by
  unfold cutL
  rw [HT.sIx_nat, HT.sIx_none]
  by_cases h : k ≤ xs.length
  · rw [Nat.min_eq_left h, List.take_of_length_le (by rw [List.length_drop]; omega)]
  · rw [Nat.min_eq_right (by omega), List.drop_eq_nil_of_le (Nat.le_refl _), List.drop_eq_nil_of_le (by omega), List.take_nil]
theorem cutL_take {α : Type} (xs : List α) (k : Nat) : cutL xs none (some (k : Int)) = xs.take k := by
  unfold cutL
  rw [HT.sIx_nat, HT.sIx_none, Nat.sub_zero, List.drop_zero]
  by_cases h : k ≤ xs.length
  · rw [Nat.min_eq_left h]
  · rw [Nat.min_eq_right (by omega), List.take_of_length_le (Nat.le_refl _), List.take_of_length_le (by omega)]
theorem cutL_1 {α : Type} (xs : List α) : cutL xs (some (1 : Int)) none = xs.drop 1 := cutL_drop xs 1
theorem slOk_tup {C : Cells} {ds : List D} {lo hi : Option Int} : slOk C (.tup ds) lo hi = some (.tup (cutL ds lo hi)) := rfl
theorem itOf_tup {C : Cells} {ds : List D} : itOf C (.tup ds) = some (itFix ds) := rfl
theorem itOf_lst {C : Cells} {ds : List D} : itOf C (.lst ds) = some (itFix ds) := rfl
theorem itOf_str {C : Cells} {z : Str} : itOf C (.str z) = some (itFix (chars z)) := rfl
theorem itOf_dct {C : Cells} {kvs : List (Key × D)} : itOf C (.dct kvs) = some (itFix (kvs.map fun kv => keyD kv.1)) := rfl
end DL
namespace DL
open PySem PySem.Spec L2
open PyProof.Rows hiding St kindOf
/-- a loop over what is walked, its body still folded -/
def LoopG (J : DIt) (g : DG) (tb : DS) (N : DEnds) (δ : DSt) (C : Cells) : Prop := ∃ W : Nat → Nat → DSt → Cells → Prop, (∃ m, W 0 m δ C) ∧ ∀ i m δ C, W i m δ C →
  (J.stop i C ∧ N.nx δ C) ∨ (J.go i C ∧ ∃ Nx : DSt → Cells → Prop, (∀ δ' C', Nx δ' C' → ∃ m', m' < m ∧ W (i + 1) m' δ' C') ∧ ∀ d, J.yld i C d → g d δ C fun δ2 C2 => tb { N with nx := Nx, ct := Nx, bk := N.nx } δ2 C2)
theorem dFor_eq {wi : DI} {g : DG} {tb : DS} {N : DEnds} {δ : DSt} {C : Cells} : dFor wi g tb N δ C = wi δ C fun J C1 => LoopG J g tb N δ C1 := rfl
section
variable {C : Cells} {p q : Addr} {c c' : Cell} {ds : List D} {kvs : List (Key × D)} {R : D → Cells → Prop} {x y : D}
theorem updC_at : updC C p c p = some c := by simp [updC]
theorem updC_comm (h : q ≠ p) : updC (updC C p c) q c' = updC (updC C q c') p c := by
  funext a; unfold updC; split <;> split <;> simp_all
theorem lstOf_upd : lstOf (updC C p (.lst ds)) (.ref p) = some ds := by simp [lstOf, updC_at, cellLst]
theorem dctOf_upd : dctOf (updC C p (.dct kvs)) (.ref p) = some kvs := by simp [dctOf, updC_at, cellDct]
theorem lstOf_at (h : C p = some (.lst ds)) : lstOf C (.ref p) = some ds := by simp [lstOf, h, cellLst]
theorem dctOf_dct : dctOf C (.dct kvs) = some kvs := rfl
theorem lstOf_lst : lstOf C (.lst ds) = some ds := rfl
theorem isLst_upd : isLst (updC C p (.lst ds)) (.ref p) = True := by unfold isLst; rw [lstOf_upd]; simp
theorem frz_upd (h : C p = none) : frzO (updC C p (.lst ds)) (.ref p) = some (.lst ds, C) := by
  unfold frzO; simp only [updC_at]; rw [delC_upd h]
theorem frz_updD (h : C p = none) : frzO (updC C p (.dct kvs)) (.ref p) = some (.dct kvs, C) := by
  unfold frzO; simp only [updC_at]; rw [delC_upd h]
theorem app_upd {d : D} : omAppend (.ref p) [d] (updC C p (.lst ds)) R = (ds.length < sizeLine ∧ R .non (updC C p (.lst (ds ++ [d])))) := propext ⟨by
  rintro ⟨p', ds', d', e1, e2, e3, h1, h2⟩
  cases e1; cases e2
  rw [updC_at] at e3
  cases e3
  rw [updC_upd] at h2
  exact ⟨h1, h2⟩, fun ⟨h1, h2⟩ => ⟨p, ds, d, rfl, rfl, updC_at, h1, by rw [updC_upd]; exact h2⟩⟩
theorem ext_upd {d : D} {es : List D} (h : lstOf (updC C p (.lst ds)) d = some es) (hl : ds.length + es.length ≤ sizeLine) (k : R .non (updC C p (.lst (ds ++ es)))) : omExtend (.ref p) [d] (updC C p (.lst ds)) R :=
  ⟨p, ds, d, es, rfl, rfl, updC_at, h, hl, by rw [updC_upd]; exact k⟩
theorem gdCons_cons {t : DG} {u : DGs} {d : D} {r : List D} {δ : DSt} {R : DSt → Cells → Prop} : gdCons t u (d :: r) δ C R = t d δ C fun δ' C' => u r δ' C' R := propext ⟨by
  rintro ⟨d', r', e, h⟩
  cases e
  exact h, fun h => ⟨d, r, rfl, h⟩⟩
theorem gdNil_nil {δ : DSt} {R : DSt → Cells → Prop} : gdNil [] δ C R = R δ C := by simp [gdNil]
theorem gdTup_tup {n : Nat} {t : DGs} {δ : DSt} {R : DSt → Cells → Prop} : gdTup n t (.tup ds) δ C R = (ds.length = n ∧ t ds δ C R) := by simp [gdTup, tupOf]
theorem gdUnl_lst {n : Nat} {t : DGs} {δ : DSt} {R : DSt → Cells → Prop} : gdUnl n t (.lst ds) δ C R = (ds.length = n ∧ t ds δ C R) := by simp [gdUnl, tupOf, lstOf]
end
theorem oEq_int {i j : Int} {C : Cells} {R : D → Cells → Prop} : oEq (.int i) (.int j) C R = R (.bl (decide (i = j))) C := by
  rw [oEq_ok rfl rfl]
  have : D.eqv (.int i) (.int j) = decide (i = j) := by show (i == j) = _; rw [Bool.eq_iff_iff, beq_iff_eq, decide_eq_true_eq]
  rw [this]
theorem oNe_int {i j : Int} {C : Cells} {R : D → Cells → Prop} : oNe (.int i) (.int j) C R = R (.bl (!decide (i = j))) C := by
  rw [oNe_ok rfl rfl]
  have : D.eqv (.int i) (.int j) = decide (i = j) := by show (i == j) = _; rw [Bool.eq_iff_iff, beq_iff_eq, decide_eq_true_eq]
  rw [this]
theorem oEq_bl {i j : Bool} {C : Cells} {R : D → Cells → Prop} : oEq (.bl i) (.bl j) C R = R (.bl (i == j)) C := by
  rw [oEq_ok rfl rfl]
  rfl
theorem ex_two {a b : D} {P : D → D → Prop} : (∃ v w, [a, b] = [v, w] ∧ P v w) = P a b := propext ⟨by
  rintro ⟨v, w, e, h⟩
  cases e
  exact h, fun h => ⟨a, b, rfl, h⟩⟩
theorem ex_three {a b c : D} {P : D → D → D → Prop} : (∃ u v w, [a, b, c] = [u, v, w] ∧ P u v w) = P a b c := propext ⟨by
  rintro ⟨u, v, w, e, h⟩
  cases e
  exact h, fun h => ⟨a, b, c, rfl, h⟩⟩
theorem sz_0 : (0 ≤ sizeLine) = True := by rw [sizeLine_eq]; simp
theorem sl_0 : (0 < sizeLine) = True := by rw [sizeLine_eq]; simp
theorem sz_1 : (1 ≤ sizeLine) = True := by rw [sizeLine_eq]; simp
theorem sl_1 : (1 < sizeLine) = True := by rw [sizeLine_eq]; simp
theorem sz_2 : (2 ≤ sizeLine) = True := by rw [sizeLine_eq]; simp
theorem sl_2 : (2 < sizeLine) = True := by rw [sizeLine_eq]; simp
theorem sz_3 : (3 ≤ sizeLine) = True := by rw [sizeLine_eq]; simp
theorem sl_3 : (3 < sizeLine) = True := by rw [sizeLine_eq]; simp
theorem sz_4 : (4 ≤ sizeLine) = True := by rw [sizeLine_eq]; simp
theorem sl_4 : (4 < sizeLine) = True := by rw [sizeLine_eq]; simp
theorem sz_5 : (5 ≤ sizeLine) = True := by rw [sizeLine_eq]; simp
theorem sl_5 : (5 < sizeLine) = True := by rw [sizeLine_eq]; simp
theorem sz_6 : (6 ≤ sizeLine) = True := by rw [sizeLine_eq]; simp
theorem sl_6 : (6 < sizeLine) = True := by rw [sizeLine_eq]; simp
theorem sz_7 : (7 ≤ sizeLine) = True := by rw [sizeLine_eq]; simp
theorem sl_7 : (7 < sizeLine) = True := by rw [sizeLine_eq]; simp
theorem sz_8 : (8 ≤ sizeLine) = True := by rw [sizeLine_eq]; simp
theorem sl_8 : (8 < sizeLine) = True := by rw [sizeLine_eq]; simp
theorem sz_9 : (9 ≤ sizeLine) = True := by rw [sizeLine_eq]; simp
theorem sl_9 : (9 < sizeLine) = True := by rw [sizeLine_eq]; simp
theorem sz_10 : (10 ≤ sizeLine) = True := by rw [sizeLine_eq]; simp
theorem sl_10 : (10 < sizeLine) = True := by rw [sizeLine_eq]; simp
theorem sz_11 : (11 ≤ sizeLine) = True := by rw [sizeLine_eq]; simp
theorem sl_11 : (11 < sizeLine) = True := by rw [sizeLine_eq]; simp
theorem sz_12 : (12 ≤ sizeLine) = True := by rw [sizeLine_eq]; simp
theorem sl_12 : (12 < sizeLine) = True := by rw [sizeLine_eq]; simp
theorem sz_13 : (13 ≤ sizeLine) = True := by rw [sizeLine_eq]; simp
theorem sl_13 : (13 < sizeLine) = True := by rw [sizeLine_eq]; simp
theorem sz_14 : (14 ≤ sizeLine) = True := by rw [sizeLine_eq]; simp
theorem sl_14 : (14 < sizeLine) = True := by rw [sizeLine_eq]; simp
end DL
namespace DL
open PySem PySem.Spec L2
open PyProof.Rows hiding St kindOf
/-- the fields with one written -/
def putFD (f : Str) (d : D) : List (Str × D) → List (Str × D)
  | [] => [(f, d)]
  | (g, x) :: r => if g = f then (g, d) :: r else (g, x) :: putFD f d r
section
variable {K : PySem.W.Frag} {G : Hp} {f : Str}
theorem RpF.length : ∀ {ds : List (Str × D)} {vs : List (Str × V)}, RpF K G ds vs → ds.length = vs.length
  | _, _, .nil => rfl
  | _, _, .cons _ t => by rw [List.length_cons, List.length_cons, RpF.length t]
theorem RpF.put {d : D} {v : V} (r : Rp K G d v) : ∀ {ds : List (Str × D)} {vs : List (Str × V)}, RpF K G ds vs → RpF K G (putFD f d ds) (putF f v vs)
  | _, _, .nil => .cons r .nil
  | _, _, .cons (f := g) r1 t => by
    show RpF K G (if g = f then (g, d) :: _ else (g, _) :: putFD f d _) (if g = f then (g, v) :: _ else (g, _) :: putF f v _)
    split
    · exact .cons r t
    · exact .cons r1 (RpF.put r t)
end
/-- e.f, e an instance of the class at cls -/
def dFld (cls : Addr) (te : DE) (f : Str) : DE := fun δ C R => te δ C fun x C1 => ∃ p fs d, x = .ref p ∧ C1 p = some (.ins cls fs) ∧ fs.lookup f = some d ∧ R d C1
/-- e.f = value -/
def dSetFld (cls : Addr) (to tv : DE) (f : Str) : DS := fun N δ C => tv δ C fun v C1 => to δ C1 fun x C2 => ∃ p fs, x = .ref p ∧ C2 p = some (.ins cls fs) ∧ fs.length < 1000 ∧ N.nx δ (updC C2 p (.ins cls (putFD f v fs)))
/-- e.f += value, -= value, of whole numbers -/
def dAugFld (cls : Addr) (to tv : DE) (g : Int → Int → Int) (f : Str) : DS := fun N δ C => to δ C fun x C1 => ∃ p fs d, x = .ref p ∧ C1 p = some (.ins cls fs) ∧ fs.lookup f = some d ∧ tv δ C1 fun y C2 => ∃ i j fs2, d = .int i ∧ y = .int j ∧ C2 p = some (.ins cls fs2) ∧ (putFD f (.int (g i j)) fs2).length < 1000 ∧ fs2.length < 1000 ∧
  N.nx δ (updC C2 p (.ins cls (putFD f (.int (g i j)) fs2)))
/-- e.m(..), e an instance of the class at cls -/
def dMeth (cls : Addr) (m : Str) (a : ASp) (te : DE) (t : DA) : DE := fun δ C R => te δ C fun x C1 => ∃ p fs, x = .ref p ∧ C1 p = some (.ins cls fs) ∧ fs.lookup m = none ∧ t δ C1 fun ds C2 => a (x :: ds) C2 R
/-- C(..) -/
def dMake (cls : Addr) (a : ASp) (t : DA) : DE := fun δ C R => t δ C fun ds C1 => ∀ p, C1 p = none → a (.ref p :: ds) (updC C1 p (.ins cls [])) fun v C2 => v = .non ∧ R (.ref p) C2
end DL
namespace DL
open PySem PySem.Spec L2
open PyProof.Rows hiding St kindOf
def dMtS (o : DOm) (to : DE) (t : DA) : DE := fun δ C R => to δ C fun x C1 => (∃ z, x = .str z) ∧ t δ C1 fun xs C2 => o x xs C2 R
end DL
namespace DL
open PySem PySem.Spec L2
open PyProof.Rows hiding St kindOf
end DL
namespace DL
open PySem PySem.Spec L2
open PyProof.Rows hiding St kindOf
/-- whole numbers and tuples of such, at most n deep -/
def okN : Nat → NestedKey → Bool
  | _, .num _ => true
  | n + 1, .tup ks => ks.all (okN n)
  | _, _ => false
theorem hIs_map : ∀ ks : List NestedKey, hIs ks = ks.map hI
  | [] => rfl
  | k :: ks => by rw [hIs, hIs_map ks]; rfl
theorem hashes_map (w : World) : ∀ ks : List NestedKey, NestedKey.hashes w ks = ks.map (NestedKey.hash w)
  | [] => rfl
  | k :: ks => by rw [NestedKey.hashes, hashes_map w ks]; rfl
theorem hash_ok (w : World) : ∀ (n : Nat) (k : NestedKey), okN n k = true → k.hash w = hI k
  | n, .num i, _ => by simp [NestedKey.hash, hI]
  | n, .none, h => by cases n <;> cases h
  | n, .text x, h => by cases n <;> cases h
  | 0, .tup ks, h => by cases h
  | n + 1, .tup ks, h => by
    have h : ks.all (okN n) = true := h
    rw [NestedKey.hash, hI, hIs_map, hashes_map]
    have e : ks.map (NestedKey.hash w) = ks.map hI := List.map_congr_left fun k hk => hash_ok w n k (List.all_eq_true.mp h k hk)
    rw [e]
theorem depthAll_leN {n : Nat} : ∀ {ks : List NestedKey}, (∀ k ∈ ks, k.depth ≤ n) → NestedKey.depthAll ks ≤ n
  | [], _ => by simp [NestedKey.depthAll]
  | k :: ks, h => by
    have h1 := h k (by simp)
    have h2 := depthAll_leN (ks := ks) fun e he => h e (by simp [he])
    simp only [NestedKey.depthAll]
    omega
theorem depth_ok : ∀ (n : Nat) (k : NestedKey), okN n k = true → k.depth ≤ n
  | n, .num i, _ => by simp [NestedKey.depth]
  | n, .none, h => by cases n <;> cases h
  | n, .text x, h => by cases n <;> cases h
  | 0, .tup ks, h => by cases h
  | n + 1, .tup ks, h => by
    have h : ks.all (okN n) = true := h
    have := depthAll_leN (ks := ks) fun k hk => depth_ok n k (List.all_eq_true.mp h k hk)
    rw [NestedKey.depth]
    omega
theorem nkL_map : ∀ ds : List D, nkL ds = ds.map nkD
  | [] => rfl
  | d :: ds => by rw [nkL, nkL_map ds]; rfl
theorem nk_inj : ∀ (n : Nat) (x y : D), isNk n x = true → isNk n y = true → nkD x = nkD y → x = y
  | n, .int i, .int j, _, _, e => by simp [nkD] at e; rw [e]
  | n, .int i, .tup ds, _, _, e => by simp [nkD] at e
  | n, .tup ds, .int i, _, _, e => by simp [nkD] at e
  | 0, .tup ds, .tup es, h, _, _ => by cases h
  | n + 1, .tup ds, .tup es, h, h', e => by
    have h : ds.all (isNk n) = true := h
    have h' : es.all (isNk n) = true := h'
    rw [nkD, nkD, nkL_map, nkL_map] at e
    injection e with e
    have key : ∀ (ds es : List D), ds.all (isNk n) = true → es.all (isNk n) = true → ds.map nkD = es.map nkD → ds = es := by
      intro ds
      induction ds with
      | nil => intro es _ _ e; cases es with
        | nil => rfl
        | cons a b => cases e
      | cons d ds ih => intro es h h' e; cases es with
        | nil => cases e
        | cons a b =>
          simp only [List.all_cons, Bool.and_eq_true] at h h'
          simp only [List.map_cons, List.cons.injEq] at e
          rw [nk_inj n d a h.1 h'.1 e.1, ih b h.2 h'.2 e.2]
    rw [key ds es h h' e]
  | n, .non, _, h, _, _ => by cases n <;> cases h
  | n, .bl _, _, h, _, _ => by cases n <;> cases h
  | n, .str _, _, h, _, _ => by cases n <;> cases h
  | n, .lst _, _, h, _, _ => by cases n <;> cases h
  | n, .dct _, _, h, _, _ => by cases n <;> cases h
  | n, .ref _, _, h, _, _ => by cases n <;> cases h
  | n, .ty _, _, h, _, _ => by cases n <;> cases h
  | n, _, .non, _, h, _ => by cases n <;> cases h
  | n, _, .bl _, _, h, _ => by cases n <;> cases h
  | n, _, .str _, _, h, _ => by cases n <;> cases h
  | n, _, .lst _, _, h, _ => by cases n <;> cases h
  | n, _, .dct _, _, h, _ => by cases n <;> cases h
  | n, _, .ref _, _, h, _ => by cases n <;> cases h
  | n, _, .ty _, _, h, _ => by cases n <;> cases h
theorem tk_nk {d : D} (h : isTk d = true) : isNk 8 d = true := by
  cases d <;> first | exact h | cases h
theorem tk_inj {x y : D} (h : isTk x = true) (h' : isTk y = true) (e : nkD x = nkD y) : x = y := nk_inj 8 x y (tk_nk h) (tk_nk h') e
mutual
inductive NkV (K : PySem.W.Frag) (H : Hp) : NestedKey → V → Prop
  | int (i : Int) : NkV K H (.num i) (.int i)
  | tup {a : Addr} {xs : List V} {ks : List NestedKey} : SqT K H a xs → NkVs K H ks xs → NkV K H (.tup ks) (.ref a)
inductive NkVs (K : PySem.W.Frag) (H : Hp) : List NestedKey → List V → Prop
  | nil : NkVs K H [] []
  | cons {k : NestedKey} {v : V} {ks : List NestedKey} {vs : List V} : NkV K H k v → NkVs K H ks vs → NkVs K H (k :: ks) (v :: vs)
end
section
variable {X : Cx} {pins : List (Addr × Obj)} {σ : St} {H : Hp} {s : Shared}
mutual
theorem NkV.at (I : Inv X pins σ H s) : ∀ {k : NestedKey} {v : V} {u : Value}, NkV X.K H k v → RelV v u → NestedIs s.heap k u
  | _, _, _, .int i, r => by
    obtain ⟨t, rfl⟩ := r
    exact .int i t
  | _, _, _, .tup h hs, r => by
    obtain rfl := r
    obtain ⟨its, rv, p, _⟩ := I.tuple h
    obtain ⟨o, ho, hc, n, hd⟩ := p
    exact .tup ho hc hd (by simpa using NkVs.at I hs rv)
theorem NkVs.at (I : Inv X pins σ H s) : ∀ {ks : List NestedKey} {vs : List V} {us : List Value}, NkVs X.K H ks vs → Vals vs us → NestedAll s.heap ks us
  | _, _, _, .nil, .nil => .nil
  | _, _, _, .cons h t, .cons r rs => .cons (NkV.at I h r) (NkVs.at I t rs)
end
end
/-- a dict with tuple keys is read -/
def XD (K : PySem.W.Frag) (H : Hp) (a : Addr) (xs : List (NestedKey × Addr × Value)) : Prop := Rd H a (.ext (isKeyed a xs)) ∧ ∀ x ∈ xs, NkV K H x.1 (.ref x.2.1) ∧ okN 8 x.1 = true
theorem ent_of {P : Program} {w : World} {xs : List (NestedKey × Addr × Value)} (h : ∀ x ∈ xs, okN 8 x.1 = true) : xs.map entK = xs.map (entryOfKey (nestedKind P w)) :=
  List.map_congr_left fun x hx => by
    show (⟨hI x.1, _, _⟩ : DictEntry) = ⟨x.1.hash w, _, _⟩
    rw [hash_ok w 8 x.1 (h x hx)]
section
variable {X : Cx} {pins : List (Addr × Obj)} {σ : St} {H : Hp} {s : Shared} {a : Addr} {xs : List (NestedKey × Addr × Value)}
theorem XD.at (I : Inv X pins σ H s) (x : XD X.K H a xs) : (a == sysModules) = false ∧ xs.length ≤ sizeLine ∧ s.heap.DictOfH (nestedKind X.prog X.w) a xs := by
  obtain ⟨rd, hk⟩ := x
  obtain ⟨⟨o, es, ep, ho, hx, hd, he, hn, hs, hl⟩, _, _⟩ := rd.ok I.hok
  refine ⟨hs, hl, o, es, ep, ho, hx, hd, ?_, fun y hy => ⟨NkV.at I (hk y hy).1 rfl, depth_ok 8 _ (hk y hy).2⟩, hn⟩
  rw [he]
  exact ent_of fun y hy => (hk y hy).2
end
end DL
namespace DL
open PySem PySem.Spec L2
open PyProof.Rows hiding St kindOf
def getN (kvs : List (D × D)) (k : D) : Option D := (kvs.find? fun kv => decide (kv.1 = k)).map (·.2)
def putN (kvs : List (D × D)) (k d : D) : List (D × D) := if (getN kvs k).isSome = true then kvs.map fun kv => if kv.1 = k then (kv.1, d) else kv else kvs ++ [(k, d)]
def cellDcn : Cell → Option (List (D × D))
  | .dcn kvs => some kvs
  | .lck _ (.dcn kvs) => some kvs
  | _ => none
def dcnOf (C : Cells) : D → Option (List (D × D))
  | .ref p => (C p).bind cellDcn
  | _ => none
section
variable {K : PySem.W.Frag} {G H : Hp} {F C : Cells} {d : D} {v : V}
theorem RpN.get {k : D} (hk : isTk k = true) : ∀ {kvs : List (D × D)} {xs : List (NestedKey × Addr × Value)}, RpN K G kvs xs →
    (∀ d, getN kvs k = some d → ∃ p v, atKey xs (nkD k) = some p ∧ RelV v p.2 ∧ Rp K G d v) ∧ (getN kvs k = none → atKey xs (nkD k) = none)
  | _, _, .nil => ⟨fun d e => by simp [getN] at e, fun _ => rfl⟩
  | _, _, .cons (k := l) (d := d0) (v := v0) h r1 r2 r3 t => by
    obtain ⟨h1, h2⟩ := RpN.get hk t
    by_cases he : l = k
    · subst he
      simp only [getN, atKey, List.find?_cons, decide_true, Option.map_some]
      exact ⟨fun d e => by cases e; exact ⟨_, _, rfl, r3, r2⟩, fun e => by cases e⟩
    · have hne : ¬ nkD l = nkD k := fun e => he (tk_inj h hk e)
      simp only [getN, atKey, List.find?_cons, he, hne, decide_false] at h1 h2 ⊢
      exact ⟨h1, h2⟩
theorem RpN.some {k : D} (hk : isTk k = true) {kvs : List (D × D)} {xs : List (NestedKey × Addr × Value)} (r : RpN K G kvs xs) : (atKey xs (nkD k)).isSome = (getN kvs k).isSome := by
  obtain ⟨h1, h2⟩ := r.get hk
  cases e : getN kvs k with
  | none => rw [h2 e]; rfl
  | some d => obtain ⟨p, v, e1, _⟩ := h1 d e; rw [e1]; rfl
theorem RpN.repl {k : D} {u : Value} (hk : isTk k = true) (r : Rp K G d v) (rv : RelV v u) : ∀ {kvs : List (D × D)} {xs : List (NestedKey × Addr × Value)}, RpN K G kvs xs → RpN K G (kvs.map fun kv => if kv.1 = k then (kv.1, d) else kv) (xs.map (putAt (nkD k) u))
  | _, _, .nil => .nil
  | _, _, .cons (k := l) h0 r1 r2 r3 t => by
    simp only [List.map_cons]
    by_cases he : l = k
    · subst he
      rw [if_pos rfl]
      unfold putAt
      rw [if_pos rfl]
      exact .cons h0 r1 r rv (RpN.repl hk r rv t)
    · rw [if_neg he]
      unfold putAt
      rw [if_neg (fun e => he (tk_inj h0 hk e))]
      exact .cons h0 r1 r2 r3 (RpN.repl hk r rv t)
theorem RpN.append : ∀ {kvs ls : List (D × D)} {xs ys : List (NestedKey × Addr × Value)}, RpN K G kvs xs → RpN K G ls ys → RpN K G (kvs ++ ls) (xs ++ ys)
  | _, _, _, _, .nil, h => h
  | _, _, _, _, .cons a b c e t, h => .cons a b c e (RpN.append t h)
theorem RpN.put {k : D} {b : Addr} {u : Value} (hk : isTk k = true) (rk : Rp K G k (.ref b)) (r : Rp K G d v) (rv : RelV v u) {kvs : List (D × D)} {xs : List (NestedKey × Addr × Value)} (h : RpN K G kvs xs) : RpN K G (putN kvs k d) (storedH xs (nkD k) b u) := by
  unfold putN storedH
  rw [h.some hk]
  split
  · exact h.repl hk r rv
  · exact h.append (.cons hk rk r rv .nil)
end
/-- d[k] = v -/
def dPutN (td ty tv : DE) : DS := fun D δ C => tv δ C fun v C1 => td δ C1 fun x C2 => ty δ C2 fun y C3 => ∃ p kvs, x = .ref p ∧ C3 p = some (.dcn kvs) ∧ isTk y = true ∧ kvs.length < sizeLine ∧ D.nx δ (updC C3 p (.dcn (putN kvs y v)))
/-- d.get(k, x) -/
def dGetN2 (td ty tx : DE) : DE := fun δ C R => td δ C fun x C1 => (dcnOf C1 x).isSome = true ∧ ty δ C1 fun y C2 => tx δ C2 fun z C3 => ∃ kvs, dcnOf C3 x = some kvs ∧ isTk y = true ∧ R ((getN kvs y).getD z) C3
def dDctN : DE := fun _ C R => ∀ p, C p = none → R (.ref p) (updC C p (.dcn []))
end DL
namespace DL
open PySem PySem.Spec L2
open PyProof.Rows hiding St kindOf
/-- a dict's cell -/
def isDc : Cell → Bool
  | .dct _ => true
  | .dcn _ => true
  | _ => false
/-- back from the lock -/
def unl (p : Addr) (o : Obj) {α : Type} (R : α → Cells → Prop) : α → Cells → Prop := fun x C => ∃ c, C p = some (.lck o c) ∧ R x (updC C p c)
def dLockS (t : DS) : DS := fun N δ C => ∃ p c, C p = some c ∧ isDc c = true ∧ ∀ o, t ⟨unl p o N.nx, unl p o N.rt, unl p o N.bk, unl p o N.ct⟩ δ (updC C p (.lck o c))
def dLockE (t : DE) : DE := fun δ C R => ∃ p c, C p = some c ∧ isDc c = true ∧ ∀ o, t δ (updC C p (.lck o c)) (unl p o R)
/-- a dict's entries, keys as data -/
def entsOf : Cell → Option (List (D × D))
  | .dct kvs => some (kvs.map fun kv => (keyD kv.1, kv.2))
  | .dcn kvs => some kvs
  | _ => none
/-- the locked dict at p: f of each entry -/
def itLk (p : Addr) (o : Obj) (f : D × D → D) : DIt := ⟨fun i C => ∃ c es, C p = some (.lck o c) ∧ entsOf c = some es ∧ i < es.length, fun i C d => ∃ c es e, C p = some (.lck o c) ∧ entsOf c = some es ∧ es[i]? = some e ∧ d = f e, fun i C => ∃ c es, C p = some (.lck o c) ∧ entsOf c = some es ∧ es.length ≤ i⟩
def diLk (f : D × D → D) (td : DE) : DI := fun δ C R => td δ C fun x C1 => ∃ p o c, x = .ref p ∧ C1 p = some (.lck o c) ∧ isDc c = true ∧ R (itLk p o f) C1
end DL
namespace DL
open PySem PySem.Spec L2
open PyProof.Rows hiding St kindOf
/-- the walk of a dict comprehension: acc so far, st stores an entry -/
def dDcG {α : Type} (nil : α) (st : α → D → D → (α → Prop) → Prop) (fin : α → Cells → Prop) (J : DIt) (C1 : Cells) (gd : DG) (tt : DT) (tk te : DE) (δ : DSt) : Prop :=
  ∃ W : Nat → Nat → α → Cells → Prop, (∃ m, W 0 m nil C1) ∧ ∀ i m acc C, W i m acc C → (J.stop i C ∧ fin acc C) ∨ (J.go i C ∧ ∃ N : α → Cells → Prop, (∀ acc' C', N acc' C' → ∃ m', m' < m ∧ W (i + 1) m' acc' C') ∧
    ∀ d, J.yld i C d → gd d δ C fun δ2 C2 => tt δ2 C2 fun b C3 => if b = true then tk δ2 C3 fun x C4 => te δ2 C4 fun y C5 => st acc x y fun acc' => N acc' C5 else N acc C3)
def stK : List (Key × D) → D → D → (List (Key × D) → Prop) → Prop := fun acc x y P => ∃ k, keyOf x = some k ∧ acc.length < sizeLine ∧ P (putD acc k y)
def stN : List (D × D) → D → D → (List (D × D) → Prop) → Prop := fun acc x y P => isTk x = true ∧ acc.length < sizeLine ∧ P (putN acc x y)
/-- the dict may be written (a cell) -/
def dDcC (wi : DI) (gd : DG) (tt : DT) (tk te : DE) (vs : List Nat) : DE := fun δ C R => wi δ C fun J C1 => dDcG [] stK (fun acc C => ∀ p, C p = none → R (.ref p) (updC C p (.dct acc))) J C1 gd tt tk te (wipeD δ vs)
def dDcN (wi : DI) (gd : DG) (tt : DT) (tk te : DE) (vs : List Nat) : DE := fun δ C R => wi δ C fun J C1 => dDcG [] stN (fun acc C => ∀ p, C p = none → R (.ref p) (updC C p (.dcn acc))) J C1 gd tt tk te (wipeD δ vs)
end DL
namespace DL
open PySem PySem.Spec L2
open PyProof.Rows hiding St kindOf
theorem each_at {K : PySem.W.Frag} {G : Hp} : ∀ {vs : List Value} {ds : List D}, vs.length = ds.length → (∀ (i : Nat) (u : Value), vs[i]? = some u → ∃ d, ds[i]? = some d ∧ Rv K G u d) → PySem.W.EachIs (Rv K G) vs ds
  | [], [], _, _ => .nil
  | [], _ :: _, h, _ => by cases h
  | _ :: _, [], h, _ => by cases h
  | v :: vs, d :: ds, h, q => by
    obtain ⟨d', h1, h2⟩ := q 0 v rfl
    have h1 : d = d' := Option.some.inj h1
    subst h1
    exact .cons h2 (each_at (by simpa using h) fun i u e => by simpa using q (i + 1) u (by simpa using e))
section
variable {X : Cx} {pins : List (Addr × Obj)} {σ : St} {H : Hp} {s : Shared} {Q : VK} {v : Value}
/-- what the sort asks of the gathered values, and what it tells -/
def Gathered (X : Cx) (pins : List (Addr × Obj)) (σ : St) (Q : VK) (vs : List Value) (s' : Shared) : Prop := ∃ H', Inv X pins σ H' s' ∧ vs.length ≤ sizeLine ∧ ∃ κ, PySem.W.SortsAt X.prog X.w X.A.in1.in1 { s' with heap := PySem.W.sortingHeap (s'.heap.push (seqObj "list" vs.toArray 0)) s'.heap.objs.size vs } κ vs ∧
  ∃ ys, Vals ys (PySem.W.sortVals κ false vs vs) ∧ ∀ p, H' p = none → Q (.ref p) (upd H' p (.lst ys))
theorem sorted_src (hcol : wpAny (model X.prog X.w) X.A.in1 (collect v) (Gathered X pins σ Q) X.xe s) : wpAny (model X.prog X.w) X.A (call (.builtin "sorted") [v]) (EP X pins σ Q) X.xe s := by
  refine Calls.call_function_entry PyProof.Rows.kind_sorted PyProof.Rows.plain_sorted PyProof.Rows.entry_sorted (PyProof.Rows.args_sorted1 _) ?_
  unfold Builtin.«sorted»
  refine wpAny_bind (m := checkCount "sorted" 1 1 _) (wpAny_pure ?_)
  refine wpAny_bind (thn hcol ?_)
  rintro vs s1 ⟨H1, I1, hl, κ, S, ys, rv, q⟩
  refine wpAny_bind (wpAny_newList ?_ hl)
  have hoL : (s1.heap.push (seqObj "list" vs.toArray 0)).get? s1.heap.objs.size = some (seqObj "list" vs.toArray 0) := Heap.get?_push_size _ rfl
  show wpAny _ _ _ _ _ { s1 with heap := s1.heap.push (seqObj "list" vs.toArray 0) }
  refine wpAny_bind (wpAny_holding (wpAny_call_entry PyProof.Rows.slot_list_sort ⟨_, hoL, rfl⟩ PyProof.Rows.entry_list_sort
    (PySem.W.list_sort_vals (κ := κ) (s := { s1 with heap := s1.heap.push (seqObj "list" vs.toArray 0) }) hoL S hl ⟨_, rfl, ?_⟩) (PyProof.Rows.args_list_sort _)))
  obtain ⟨n, hn⟩ := PyProof.Rows.sortedHeap_at (vs := vs) (out := (PySem.W.sortVals κ false vs vs).toArray) hoL
  have hp : H1 s1.heap.objs.size = none := I1.fresh
  have hlen : ys.length ≤ sizeLine := by rw [rv.length, PySem.W.sortVals_length false rfl]; exact hl
  refine wpAny_pure ⟨_, rfl, .ref s1.heap.objs.size, upd H1 s1.heap.objs.size (.lst ys), I1.laid (t' := s1.toks) (fun b u e => ?_) (Nat.le_refl _) ⟨hlen, _, n, rv, hn⟩, rfl, q _ hp⟩
  have hb : b < s1.heap.objs.size := Heap.lt_size e
  rw [PyProof.Rows.sortedHeap_old (Nat.ne_of_lt hb) (by rw [size_push']; exact Nat.lt_succ_of_lt hb)]
  exact Heap.get?_push_of_some _ e
/-- values that stand for data which may be sorted -/
theorem gathered_data (hu : X.A.units + 64 < cLine) {G F C : _} {vs : List Value} {ds : List D} {s' : Shared} {H' : Hp} {R : D → Cells → Prop} (I : Inv X pins σ H' s') (A : Ab X.K F G H' C) (e : PySem.W.EachIs (Rv X.K G) vs ds) (so : SortOk ds) (hl : ds.length ≤ sizeLine) (q : R (.lst (sortD ds)) C) (k : ToE X.K F G R Q) : Gathered X pins σ Q vs s' := by
  refine ⟨H', I, by rw [e.length]; exact hl, PySem.W.dataKind (PySem.W.sortingHeap (s'.heap.push (seqObj "list" vs.toArray 0)) s'.heap.objs.size vs) (ds.map toPy), ?_, ?_⟩
  · have er := rv_reads I A.sub e so.ok
    refine PySem.W.SortsAt.data (s := { s' with heap := PySem.W.sortingHeap (s'.heap.push (seqObj "list" vs.toArray 0)) s'.heap.objs.size vs }) (PySem.W.each_map (R := fun v d => ∃ as, Reads (PySem.W.sortingHeap (s'.heap.push (seqObj "list" vs.toArray 0)) s'.heap.objs.size vs) v d as) toPy (er.mono fun _ _ ⟨as, r⟩ => ⟨as, PyProof.Rows.Reads.keeps (fun b o hb => PySem.W.sortingHeap_old (Nat.ne_of_lt (Heap.lt_size hb)) (Heap.get?_push_of_some _ hb)) r⟩)) so.al so.so (PySem.W.bound_map fun d hd => ?_)
    have := (okD_lay 50 d (List.all_eq_true.mp so.ok d hd)).2
    show X.A.units + 2 + _ < _
    omega
  · have er := rv_reads I A.sub e so.ok
    have er' := er.mono fun _ _ ⟨as, r⟩ => (⟨as, PyProof.Rows.Reads.keeps (fun b o hb => PySem.W.sortingHeap_old (Nat.ne_of_lt (Heap.lt_size hb)) (Heap.get?_push_of_some _ hb)) r⟩ : ∃ as, Reads (PySem.W.sortingHeap (s'.heap.push (seqObj "list" vs.toArray 0)) s'.heap.objs.size vs) _ (toPy _) as)
    have eo := PySem.W.sortVals_data false e er' so.al
    obtain ⟨ys, h1, h2⟩ := each_rv eo
    exact ⟨ys, h2, fun p hp => k.new A hp q (.lst (.inl upd_same) (h1.mono (A.grow hp).2))⟩
end
end DL
namespace DL
open PySem PySem.Spec L2
open PyProof.Rows hiding St kindOf
open L2.DX (itemsO itemsO_ok takeT)
/-- list(e.values()) -/
def dListV (te : DE) : DE := fun δ C R => te δ C fun x C1 => ∃ p c es, x = .ref p ∧ C1 p = some c ∧ entsOf c = some es ∧ es.length ≤ sizeLine ∧ R (.lst (es.map (·.2))) C1
theorem nd_inj {α : Type} : ∀ {l : List α}, l.Nodup → ∀ {i j : Nat} {a : α}, l[i]? = some a → l[j]? = some a → i = j
  | [], _, i, j, a, h1, _ => by simp at h1
  | x :: l, h, 0, 0, a, _, _ => rfl
  | x :: l, h, 0, j + 1, a, h1, h2 => by
    simp at h1 h2
    subst h1
    exact absurd (List.mem_of_getElem? h2) (List.nodup_cons.mp h).1
  | x :: l, h, i + 1, 0, a, h1, h2 => by
    simp at h1 h2
    subst h2
    exact absurd (List.mem_of_getElem? h1) (List.nodup_cons.mp h).1
  | x :: l, h, i + 1, j + 1, a, h1, h2 => congrArg (· + 1) (nd_inj (List.nodup_cons.mp h).2 (i := i) (j := j) (a := a) (by simpa using h1) (by simpa using h2))
end DL
namespace DL
open PySem PySem.Spec L2
open PyProof.Rows hiding St kindOf
def dPop1 (td ty : DE) : DE := fun δ C R => td δ C fun x C1 => (∃ p kvs, x = .ref p ∧ C1 p = some (.dct kvs)) ∧ ty δ C1 fun y C2 => ∃ p kvs k d, x = .ref p ∧ C2 p = some (.dct kvs) ∧ keyOf y = some k ∧ getK kvs k = some d ∧ R d (updC C2 p (.dct (delK kvs k)))
def dPop2 (td ty tx : DE) : DE := fun δ C R => td δ C fun x C1 => (∃ p kvs, x = .ref p ∧ C1 p = some (.dct kvs)) ∧ ty δ C1 fun y C2 => tx δ C2 fun z C3 => ∃ p kvs k, x = .ref p ∧ C3 p = some (.dct kvs) ∧ keyOf y = some k ∧
  match getK kvs k with
  | some d => R d (updC C3 p (.dct (delK kvs k)))
  | none => R z C3
/-- d a cell, d2 another -/
def dUpd (td ty : DE) : DE := fun δ C R => td δ C fun x C1 => (∃ p kvs, x = .ref p ∧ C1 p = some (.dct kvs)) ∧ ty δ C1 fun y C2 => ∃ p q kvs ms, x = .ref p ∧ y = .ref q ∧ p ≠ q ∧ C2 p = some (.dct kvs) ∧ C2 q = some (.dct ms) ∧ kvs.length + ms.length ≤ sizeLine ∧ R .non (updC C2 p (.dct (mergeD kvs ms)))
section
variable {X : Cx}
/-- xs.pop() of a cell -/
def dPopL (to : DE) : DE := fun δ C R => to δ C fun x C1 => ∃ p ds d, x = .ref p ∧ C1 p = some (.lst ds) ∧ ds.getLast? = some d ∧ R d (updC C1 p (.lst ds.dropLast))
end
end DL
namespace DL
open PySem PySem.Spec L2
open PyProof.Rows hiding St kindOf
abbrev Asn := Cells → Prop
def subC (C D : Cells) : Prop := ∀ a c, C a = some c → D a = some c
theorem subC.refl (C : Cells) : subC C C := fun _ _ h => h
theorem subC.trans {A B C : Cells} (h : subC A B) (k : subC B C) : subC A C := fun a c e => k a c (h a c e)
def apart (C D : Cells) : Prop := ∀ a, C a = none ∨ D a = none
theorem apart.symm {C D : Cells} (h : apart C D) : apart D C := fun a => (h a).symm
theorem apart.sub {A B C D : Cells} (h : apart C D) (k : subC A C) (l : subC B D) : apart A B := fun a => by
  rcases h a with h | h
  · exact .inl (by cases e : A a with | none => rfl | some c => rw [k a c e] at h; cases h)
  · exact .inr (by cases e : B a with | none => rfl | some c => rw [l a c e] at h; cases h)
/-- a cell -/
def at_ (p : Addr) (c : Cell) : Asn := fun C => C p = some c
/-- P owns p; with c' there it is P' -/
def Own (P P' : Asn) (p : Addr) (c' : Cell) : Prop := ∀ C, P C → (∃ c, C p = some c) ∧ P' (updC C p c')
end DL
namespace DL
open PySem PySem.Spec L2
open PyProof.Rows hiding St kindOf
end DL
namespace DL
open PySem PySem.Spec L2
open PyProof.Rows hiding St kindOf
/-- what stands while max walks -/
structure Mx (X : Cx) (pins : List (Addr × Obj)) (σ : St) (F C : Cells) (G0 : Hp) (f : Addr) (fo : Obj) (H G : Hp) (s : Shared) : Prop where
  inv : Inv X pins σ H s
  ab : Ab X.K F G H C
  sm : Same G0 G
  fg : s.heap.get? f = some fo
  ff : H f = none
theorem Rv.mono {K : PySem.W.Frag} {G G' : Hp} {u : Value} {d : D} (s : Same G G') (r : Rv K G u d) : Rv K G' u d := by
  obtain ⟨v, r1, r2⟩ := r
  exact ⟨v, r1.mono s, r2⟩
section
variable {X : Cx} {pins : List (Addr × Obj)} {σ : St} {F C : Cells} {G0 : Hp} {f l it S : Addr} {fo : Obj} {ds : List D} {key : D → D} {x : D}
/-- one call of the function -/
def Turn (X : Cx) (pins : List (Addr × Obj)) (σ : St) (F C : Cells) (G0 : Hp) (f : Addr) (fo : Obj) (ds : List D) (key : D → D) : Prop :=
  ∀ (d : D) (u : Value) (s : Shared) (H G : Hp), d ∈ ds → Rv X.K G u d → Mx X pins σ F C G0 f fo H G s →
    wpAny (model X.prog X.w) X.A.in1 (call (.ref f) [u]) (fun ku s' => ∃ H' G', Un (frs X.stack) [] H H' s.heap s'.heap ∧ Mx X pins σ F C G0 f fo H' G' s' ∧ Same G G' ∧ Rv X.K G' ku (key d)) (fun _ _ => False) s
end
end DL
namespace DL
open PySem PySem.Spec L2 LamX
open PyProof.Rows hiding St kindOf
/-- the table cell, behind the making -/
theorem Ab.tab {K : PySem.W.Frag} {F C : Cells} {G H : Hp} {P : Addr} {q : Str} (A : Ab K F G H C) (h : C P = some (.tab q)) : ∃ ps : Array Value, H P = some (.tbl ps) ∧ TriplesOk ps.toList ∧ ∀ (pos : Pos) (cv : Value), codeAmong pos ps.toList = some cv → ∃ c, cv = .ref c ∧ G c = some (CodeO c q) := by
  obtain ⟨_, u, hu, ok⟩ := A.cell _ _ h
  cases ok
  exact ⟨_, hu, by assumption, by assumption⟩
/-- a def whose code object is known -/
structure FunC (K : PySem.W.Frag) (x qual : Str) (st : Stmt) (f : Addr) (fd : FuncData) (cdv : Value) : Prop where
  ex : ∃ (oc : Value) (od : Option Addr) (kV doc pm : Value) (an : Option Addr) (ct : Value) (osl : Array (Option Value)),
    fd = PySem.W.fnOf x qual (defArgs st) (defBody st) (defScope st) .none kV doc pm an cdv ct ∧ K.lookup f = some ⟨oc, od, .func fd, osl⟩ ∧ PySem.W.codeIn K cdv qual = true
theorem funC_mk {K : PySem.W.Frag} {x qual : Str} {st : Stmt} {f : Addr} {oc : Value} {od an : Option Addr} {osl : Array (Option Value)} {kV doc pm cdv ct : Value} (l : K.lookup f = some ⟨oc, od, .func (PySem.W.fnOf x qual (defArgs st) (defBody st) (defScope st) .none kV doc pm an cdv ct), osl⟩)
    (c : PySem.W.codeIn K cdv qual = true) : FunC K x qual st f (PySem.W.fnOf x qual (defArgs st) (defBody st) (defScope st) .none kV doc pm an cdv ct) cdv := ⟨⟨oc, od, kV, doc, pm, an, ct, osl, rfl, l, c⟩⟩
end DL
namespace DL
open PySem PySem.Spec L2
open PyProof.Rows hiding St kindOf
end DL
namespace L2
open PySem PySem.Spec PyProof.Rows
end L2
namespace DL
open PySem PySem.Spec L2
open PyProof.Rows hiding St kindOf
end DL
namespace DL
open PySem PySem.Spec L2
open PyProof.Rows hiding St kindOf
end DL
namespace DL
open PySem PySem.Spec L2
open PyProof.Rows hiding St kindOf
end DL
namespace DL
open PySem PySem.Spec L2
open PyProof.Rows hiding St kindOf
end DL
namespace DL
open PySem PySem.Spec L2
open PyProof.Rows hiding St
section
variable {Pg : Program} {w : World} {A : Around} {E : Value → Shared → Prop} {s : Shared}
/-- the object of a set that is just made -/
abbrev newSet (w : World) : Obj := { cls := .type "set", dict := none, data := .set #[] 0 (.fresh 0 0 (!w.params.followText "set-order")) }
theorem make_set1 (x : Value) {Qm : Value → Shared → Prop} (k : Qm (.ref s.heap.objs.size) { s with heap := s.heap.push (newSet w) }) :
    codeAny (model Pg w) A (.call (.builtin "set.__new__") ⟨[.type "set", x], []⟩) (wants Qm E) s := by
  refine codeAny_of_tree ?_
  show wpAny _ A.in1 (checkBuiltinCall "set.__new__" ⟨[.type "set", x], []⟩ >>= fun _ => again (.builtin "set.__new__" ⟨[.type "set", x], []⟩)) _ _ s
  refine wpAny_bind (wpAny_of_eq (PySem.F.newCall_set_1 x) (wpAny_pure ⟨plainId_quiet PySem.F.plain_set_new _, ?_⟩))
  refine codeAny_builtin PySem.F.entry_set_new ?_
  rw [Around.under_plainId PySem.F.plain_set_new _]
  unfold Builtin.«set.__new__» Builtin.Frozenset.newClass
  have sub := sub_set_self
  obtain ⟨hp, gs, dr, tk, os⟩ := s
  dsimp only
  wp_walk
  refine wpAny_askSetting (wpAny_pure ?_)
  simp only [newObj]
  exact wpAny_bind (wpAny_alloc (wpAny_pure (wpAny_pure k)))
end
end DL
namespace DL
open PySem PySem.Spec L2
open PyProof.Rows hiding St
section
variable {X : Cx}
theorem rpl_nums {K : PySem.W.Frag} {G : Hp} : ∀ ms : List Int, RpL K G (ms.map .int) (ms.map V.int)
  | [] => .nil
  | a :: ms => .cons (.int a) (rpl_nums ms)
end
end DL
namespace DL
open PySem PySem.Spec L2
open PyProof.Rows hiding St
end DL
namespace DL
open PySem PySem.Spec L2
open PyProof.Rows hiding St
/-- an exception: its class, its fields -/
abbrev XcD := Addr × List (Str × D)
/-- .. as the heap has it: the class, the dict -/
def XRp (K : PySem.W.Frag) (G : Hp) (xd : XcD) (cls : Value) (d : Option Addr) : Prop := cls = .ref xd.1 ∧ ((d = none ∧ xd.2 = []) ∨ ∃ dd fs, d = some dd ∧ G dd = some (.xd fs) ∧ ∀ f v, xd.2.lookup f = some v → ∃ u, fs.lookup f = some u ∧ Rp K G v u)
section
variable (K : PySem.W.Frag) (F0 : Cells) (G0 : Hp)
def ToX (F : Cells) (G : Hp) (RX : XcD → Cells → Prop) (E : XK) : Prop := ∀ xd C, RX xd C → ∀ cls d H' G', Same G G' → Ab K F G' H' C → XRp K G' xd cls d → E cls d H'
end
theorem XRp.mono {K : PySem.W.Frag} {G G' : Hp} {xd : XcD} {cls : Value} {d : Option Addr} (h : XRp K G xd cls d) (s : Same G G') : XRp K G' xd cls d := by
  refine ⟨h.1, h.2.imp id ?_⟩
  rintro ⟨dd, fs, e, hg, hf⟩
  exact ⟨dd, fs, e, s _ _ hg, fun f v hv => by obtain ⟨u, h1, h2⟩ := hf f v hv; exact ⟨u, h1, h2.mono s⟩⟩
end DL
namespace DL
open PySem PySem.Spec L2
open PyProof.Rows hiding St
end DL
namespace DL
open PySem PySem.Spec L2
open PyProof.Rows hiding St
end DL
namespace DL
open PySem PySem.Spec L2
open PyProof.Rows hiding St
end DL
namespace DL
open PySem PySem.Spec L2 LamX
open PyProof.Rows hiding St
/-- what a lambda without parameters promises -/
abbrev AL := Cells → (D → Cells → Prop) → (XcD → Cells → Prop) → Prop
def liftL (K : PySem.W.Frag) (G0 : Hp) (a : AL) (E : XK) (H : Hp) (Q : VK) : Prop := ∃ F G C R RX, Same G0 G ∧ Ab K F G H C ∧ a C R RX ∧ ToE K F G R Q ∧ ToX K F G RX E
def noE : XK := fun _ _ _ => False
/-- what the def that gets a lambda makes of its promise -/
def GivesL (X : Cx) (k : Nat) (Ng : List Str) (x : Str) (sg : Scope) (g : Addr) (cdg : Value) (bg : List Stmt) (a : Str) (q : Str) (aW : AL → Cells → (D → Cells → Prop) → Prop) : Prop :=
  ∀ (f c' : Addr) (s : Shared) (H : Hp) (Q : VK) (al : AL) (F : Cells) (G : Hp) (C : Cells) (R : D → Cells → Prop), Room k (X.A.deeper (envOfC x sg s.heap.objs.size g cdg)) →
    (∀ (W : WX) (pn : List (Addr × Obj)) (xe : Value → Shared → Prop) (E : XK) (p1 p2 : Pos), Takes ((cxOf CX0 X.prog X.w X.K X.mg X.base Ng x sg g cdg X.A X.stack s H noE).tr pn xe) W → (∀ cls d σ' H', E cls d H' → W cls d σ' H') →
      PE ((cxOf CX0 X.prog X.w X.K X.mg X.base Ng x sg g cdg X.A X.stack s H noE).tr pn xe) (.Call (.Name a p1) [] [] p2) (fun σZ HZ Q => σZ[0]? = some (some (.ref f)) ∧ HZ c' = some (CodeO c' q) ∧ liftL X.K G al E HZ Q)) →
    G c' = some (CodeO c' q) → Ab X.K F G H C → aW al C R → ToE X.K F G R Q →
    ∃ t, PSs (cxOf CX0 X.prog X.w X.K X.mg X.base Ng x sg g cdg X.A X.stack s H noE).nox bg t ∧ t { nx := fun _ H' => Q .non H', rt := Q } (L2.start Ng [.ref f]) H
end DL
namespace DL
open PySem PySem.Spec L2 LamX
open PyProof.Rows hiding St
end DL
namespace DL
open PySem PySem.Spec L2 LamX
open PyProof.Rows hiding St
end DL
namespace DL
open PySem PySem.Spec L2
open PyProof.Rows hiding St kindOf
end DL
namespace DL
open PySem PySem.Spec L2
open PyProof.Rows hiding St
end DL
namespace DL
open PySem PySem.Spec L2
open PyProof.Rows hiding St
end DL
namespace DL
open PySem PySem.Spec L2 LamX
open PyProof.Rows hiding St
theorem GivesL.weak {X : Cx} {k : Nat} {Ng : List Str} {x : Str} {sg : Scope} {g : Addr} {cdg : Value} {bg : List Stmt} {a q : Str} {aW bW : AL → Cells → (D → Cells → Prop) → Prop} (h : GivesL X k Ng x sg g cdg bg a q aW) (hw : ∀ al C R, bW al C R → aW al C R) : GivesL X k Ng x sg g cdg bg a q bW :=
  fun f c' s H Q al F G C R hr act hc A hW k => h f c' s H Q al F G C R hr act hc A (hw al C R hW) k
end DL
namespace L2
open PySem PySem.Spec PyProof.Rows
end L2
namespace DL
open PySem PySem.Spec L2
open PyProof.Rows hiding St kindOf
open L2.DX (itemsO itemsO_ok takeT)
end DL
namespace DL
open PySem PySem.Spec L2 LamX
open PyProof.Rows hiding St
end DL
namespace L2
open PySem PySem.Spec PyProof.Rows
end L2
namespace DL
open PySem PySem.Spec L2
open PyProof.Rows hiding St kindOf
end DL
namespace DL
open PySem PySem.Spec L2
open PyProof.Rows hiding St
end DL
namespace L2
open PySem PySem.Spec PyProof.Rows
end L2
namespace DL
open PySem PySem.Spec L2
open PyProof.Rows hiding St kindOf
end DL
namespace DL
open PySem PySem.Spec L2 LamX
open PyProof.Rows hiding St
end DL
namespace DL
open PySem PySem.Spec L2 LamX
open PyProof.Rows hiding St
/-- what is known of the function object of a lambda made in X; gs: what stays that it leans on -/
def LamO (X : Cx) (params : Arguments) (body : Expr) (scope : Scope) (o : Obj) (gs : List (Addr × HO)) : Prop := ∃ (c' : Addr) (pm ctv : Value), o = PySem.W.kla_obj "<lambda>" (X.env.qual ++ "<lambda>") params body scope (cloFrom X.env.cells scope.names []) pm c' ctv ∧ gs = [(c', CodeO c' (X.env.qual ++ "<lambda>"))]
def LamOD (X : Cx) (params : Arguments) (body : Expr) (scope : Scope) (n0 : Int) (o : Obj) (gs : List (Addr × HO)) : Prop := ∃ (c' T : Addr) (doc pm ctv : Value), o = PySem.W.kdv_obj "<lambda>" (X.env.qual ++ "<lambda>") params (.expr body) scope (cloFrom X.env.cells scope.names []) (.ref T) doc pm c' ctv ∧ gs = [(c', CodeO c' (X.env.qual ++ "<lambda>")), (T, .tup [.int n0])]
end DL
namespace DL
open PySem PySem.Spec L2 LamX
open PyProof.Rows hiding St
end DL
namespace DL
open PySem PySem.Spec L2 LamX
open PyProof.Rows hiding St
end DL
namespace DL
open PySem PySem.Spec L2 LamX
open PyProof.Rows hiding St
/-- what is told of the function object of the lambda e made in X -/
def LamE (X : Cx) (e : Expr) (o : Obj) (gs : List (Addr × HO)) : Prop := match e with
  | .Lambda params body scope _ => LamO X params body scope o gs ∨ ∃ n0, LamOD X params body scope n0 o gs
  | _ => False
/-- .. made without defaults, with one -/
theorem LamE.plain {X : Cx} {params : Arguments} {body : Expr} {scope : Scope} {pos : Pos} {o : Obj} {gs : List (Addr × HO)} (h : LamO X params body scope o gs) : LamE X (.Lambda params body scope pos) o gs := .inl h
end DL
namespace DL
open PySem PySem.Spec L2
open PyProof.Rows hiding St kindOf
end DL
namespace DL
open PySem PySem.Spec L2 LamX
open PyProof.Rows hiding St
end DL
namespace L2
open PySem PySem.Spec
open PyProof.Rows hiding St
end L2
namespace DL
open PySem PySem.Spec L2
open PyProof.Rows hiding St kindOf
end DL
namespace DL
open PySem PySem.Spec L2
open PyProof.Rows hiding St kindOf
end DL
namespace L2
open PySem PySem.Spec
open PyProof.Rows hiding St
end L2
namespace DL
open PySem PySem.Spec L2
open PyProof.Rows hiding St kindOf
end DL
namespace XF
open PySem PySem.Spec PyProof.Rows L2 HotX
abbrev St := L2.St
section
variable {X : Cx} {pins : List (Addr × Obj)} {σ : St} {H : Hp} {s : Shared}
/-- an exception's record, noted by a frame (its entry T), beside all that is tracked -/
structure Rec (X : Cx) (pins : List (Addr × Obj)) (H : Hp) (h : Heap) (a T : Addr) (oe oT : Obj) (vs ts : Array Value) (cls : Value) (d : Option Addr) : Prop where
  ge : h.get? a = some oe
  gT : h.get? T = some oT
  de : oe.data = .fields vs
  dT : oT.data = .fields ts
  z : Zc cls d oe
  v1 : vs[1]? = some (.ref T)
  t3 : ∃ x, ts[3]? = some x
  ne : T ≠ a
  na : H a = none
  nT : H T = none
  s0 : ∀ b o, X.s_0.heap.get? b = some o → b ≠ a ∧ b ≠ T
  pn : ∀ p ∈ X.pn ++ pins, p.1 ≠ a ∧ p.1 ≠ T
theorem Rec.at_ {h h' : Heap} {a T : Addr} {oe oT : Obj} {vs ts : Array Value} {cls : Value} {d : Option Addr} {H' : Hp} (R : Rec X pins H h a T oe oT vs ts cls d) (ea : h'.get? a = some oe) (eT : h'.get? T = some oT) (na : H' a = none) (nT : H' T = none) : Rec X pins H' h' a T oe oT vs ts cls d :=
  ⟨ea, eT, R.de, R.dT, R.z, R.v1, R.t3, R.ne, na, nT, R.s0, R.pn⟩
end
end XF
namespace XF
open PySem PySem.Spec PyProof.Rows L2 HotX
end XF
namespace XF
open PySem PySem.Spec PyProof.Rows L2 HotX
end XF
namespace DL
open PySem PySem.Spec L2
open PyProof.Rows hiding St kindOf
end DL
namespace XF
open PySem PySem.Spec PyProof.Rows L2 HotX L2H
structure TurnQ (P : Program) (w : World) (K : PySem.W.Frag) (tg : Expr) (J : It) (fp : List Addr) (it : Addr) (tn : Nat → Heap → Prop) : Prop where
  obj : ∀ i h, tn i h → ∀ b ∈ fp, ∃ o, h.get? b = some o ∧ ∀ v, o.data ≠ .cell v
  keep : ∀ i h h', tn i h → (∀ b ∈ fp, ∀ o, h.get? b = some o → h'.get? b = some o) → tn i h'
  item : ∀ (X : Cx), X.prog = P → X.w = w → X.K = K → ∀ (i : Nat) (pins : List (Addr × Obj)) (s : Shared) (σ : St) (H : Hp) (E : Value → Shared → Prop), Inv X pins σ H s → (∀ b ∈ fp, FpOk X pins H b) → tn i s.heap → J.go i H → wpAny (model P w) X.A (pyNext (.ref it))
    (fun r t => ∃ u, r = some u ∧ wpAny (model P w) X.A (letOwnedTupleGo tg (.ref it) u) (fun _ t' => ∃ x G, Inv X pins σ G t' ∧ RelV x u ∧ J.yld i H x G ∧ tn (i + 1) t'.heap ∧ ∀ b ∈ fp, G b = none) E t) E s
  done : ∀ (X : Cx), X.prog = P → X.w = w → X.K = K → ∀ (i : Nat) (pins : List (Addr × Obj)) (s : Shared) (σ : St) (H : Hp) (E : Value → Shared → Prop), Inv X pins σ H s → (∀ b ∈ fp, FpOk X pins H b) → tn i s.heap → J.stop i H → ∀ z, HotAt X.A z s.heap ∧ z ∉ fp →
    wpAny (model P w) X.A (pyNext (.ref it)) (fun r t => r = none ∧ Inv X pins σ H t) E s
  self : ∀ (A : Around) (i : Nat) (s : Shared) (Q : Value → Shared → Prop) (E : Value → Shared → Prop), tn i s.heap → Q (.ref it) s → wpAny (model P w) A (pyIter (.ref it)) Q E s
def PIEQ (X : Cx) (pins : List (Addr × Obj)) (σ : St) (tg : Expr) (R : It → Hp → Prop) (v : Value) (t : Shared) : Prop :=
  ∃ (it : Addr) (fp : List Addr) (tn : Nat → Heap → Prop) (J : It) (G : Hp), v = .ref it ∧ Inv X pins σ G t ∧ TurnQ X.prog X.w X.K tg J fp it tn ∧ tn 0 t.heap ∧ (∀ b ∈ fp, FpOk X pins G b) ∧ R J G
structure PIQ (X : Cx) (tg iter : Expr) (wi : TI) : Prop where
  run : ∀ (pins : List (Addr × Obj)) (s : Shared) (σ : St) (H : Hp) (R : It → Hp → Prop), Inv X pins σ H s → wi σ H R → wpAny (model X.prog X.w) X.A (eval iter X.env) (fun v t => wpAny (model X.prog X.w) X.A (pyIter v) (PIEQ X pins σ tg R) X.xe t) X.xe s
theorem PIQ.weak {X : Cx} {tg iter : Expr} {wi wi' : TI} (h : PIQ X tg iter wi) (k : ∀ σ H R, wi' σ H R → wi σ H R) : PIQ X tg iter wi' := ⟨fun pins s σ H R I q => h.run pins s σ H R I (k _ _ _ q)⟩
end XF
namespace DL
open PySem PySem.Spec PyProof.Rows L2 HotX XF L2H
end DL
namespace XF
open PySem PySem.Spec PyProof.Rows L2 HotX L2H
end XF
namespace DL
open PySem PySem.Spec PyProof.Rows L2 HotX XF L2H
end DL
namespace DL
open PySem PySem.Spec PyProof.Rows L2 HotX XF L2H
end DL
namespace DL
open PySem PySem.Spec L2
open PyProof.Rows hiding St
end DL
namespace DL
open PySem PySem.Spec L2
open PyProof.Rows hiding St kindOf
end DL
namespace L2
open PySem PySem.Spec PyProof.Rows
/-- 1 + 5 + 25 + .. -/
def geo : Nat → Nat
  | 0 => 0
  | k + 1 => geo k * 5 + 1
theorem geo_pow (k : Nat) : geo k * 4 + 1 = 5 ^ k := by
  induction k with
  | zero => rfl
  | succ k ih =>
    rw [Nat.pow_succ, ← ih]
    show (geo k * 5 + 1) * 4 + 1 = _
    omega
theorem geo_add (a b : Nat) : geo (a + b) = 5 ^ a * geo b + geo a := by
  have h1 := geo_pow (a + b)
  have h2 := geo_pow a
  have h3 := geo_pow b
  rw [Nat.pow_add] at h1
  have h4 : 5 ^ a * 5 ^ b = 5 ^ a * geo b * 4 + 5 ^ a := by
    rw [← h3, Nat.mul_add, Nat.mul_one, Nat.mul_assoc]
  omega
theorem lcg_geo (m : Nat) : ∀ k, lcgN m k = geo k % (m + 1)
  | 0 => (Nat.zero_mod _).symm
  | k + 1 => by
    show (lcgN m k * 5 + 1) % (m + 1) = (geo k * 5 + 1) % (m + 1)
    rw [lcg_geo m k, Nat.add_mod, Nat.mod_mul_mod, ← Nat.add_mod]
section
variable {M : Nat}
theorem geo_mul {b : Nat} (h : M ∣ geo b) : ∀ q, M ∣ geo (q * b)
  | 0 => by rw [Nat.zero_mul]; exact Nat.dvd_zero M
  | q + 1 => by
    rw [Nat.succ_mul, geo_add]
    exact Nat.dvd_add (Nat.dvd_mul_left_of_dvd h _) (geo_mul h q)
theorem geo_rest {a b : Nat} (ha : M ∣ geo a) (hb : M ∣ geo b) : M ∣ geo (a % b) := by
  have h := Nat.mod_add_div a b
  rw [← h, geo_add, Nat.mul_comm b] at ha
  exact (Nat.dvd_add_right (Nat.dvd_mul_left_of_dvd (geo_mul hb _) _)).mp ha
theorem geo_gcd : ∀ (a b : Nat), M ∣ geo a → M ∣ geo b → M ∣ geo (Nat.gcd a b) := fun a b => by
  induction a, b using Nat.gcd.induction with
  | H0 n => intro _ h; rw [Nat.gcd_zero_left]; exact h
  | H1 m n hm ih =>
    intro h1 h2
    rw [Nat.gcd_rec]
    exact ih (geo_rest h2 h1) h1
end
/-- what is asked of a mask: two numbers looked at -/
structure MaskW (m : Nat) : Prop where
  ex : ∃ p, 1 ≤ p ∧ m + 1 = 2 ^ p ∧ geo (2 ^ p) % 2 ^ p = 0 ∧ geo (2 ^ (p - 1)) % 2 ^ p ≠ 0
  up : m ≤ 8191
theorem geo_of (k : Nat) : geo k = (5 ^ k - 1) / 4 := by
  have := geo_pow k
  omega
theorem maskW {p : Nat} (h1 : 1 ≤ p) (h2 : p ≤ 13) (h3 : (5 ^ 2 ^ p - 1) / 4 % 2 ^ p = 0) (h4 : (5 ^ 2 ^ (p - 1) - 1) / 4 % 2 ^ p ≠ 0) : MaskW (2 ^ p - 1) := by
  have hp := Nat.two_pow_pos p
  have hq : 2 ^ p ≤ 2 ^ 13 := Nat.pow_le_pow_right (by omega) h2
  exact ⟨⟨p, h1, by omega, by rw [geo_of]; exact h3, by rw [geo_of]; exact h4⟩, by omega⟩
theorem mask_7 : MaskW 7 := maskW (p := 3) (by decide) (by decide) (by decide +kernel) (by decide +kernel)
theorem mask_31 : MaskW 31 := maskW (p := 5) (by decide) (by decide) (by decide +kernel) (by decide +kernel)
theorem mask_127 : MaskW 127 := maskW (p := 7) (by decide) (by decide) (by decide +kernel) (by decide +kernel)
theorem mask_511 : MaskW 511 := maskW (p := 9) (by decide) (by decide) (by decide +kernel) (by decide +kernel)
theorem mask_2047 : MaskW 2047 := maskW (p := 11) (by decide) (by decide) (by decide +kernel) (by decide +kernel)
theorem mask_8191 : MaskW 8191 := maskW (p := 13) (by decide) (by decide) (by decide +kernel) (by decide +kernel)
theorem half_of {d p : Nat} (hp : 1 ≤ p) (hd : d ∣ 2 ^ p) (hl : d < 2 ^ p) : d ∣ 2 ^ (p - 1) := by
  obtain ⟨e, he⟩ := hd
  rcases Nat.mod_two_eq_zero_or_one e with h | h
  · obtain ⟨f, rfl⟩ : ∃ f, e = 2 * f := ⟨e / 2, by omega⟩
    refine ⟨f, ?_⟩
    have h2 : 2 ^ p = 2 ^ (p - 1) * 2 := by rw [← Nat.pow_succ, show (p - 1).succ = p by omega]
    have h3 : d * (2 * f) = d * f * 2 := by rw [Nat.mul_comm 2 f, Nat.mul_assoc]
    omega
  · exfalso
    have hc : Nat.Coprime e 2 := by
      have h1 : Nat.gcd e 2 ∣ 2 := Nat.gcd_dvd_right e 2
      have h2 : Nat.gcd e 2 ∣ e := Nat.gcd_dvd_left e 2
      have h3 := Nat.le_of_dvd (by decide) h1
      have h4 : Nat.gcd e 2 ≠ 0 := fun z => by rw [z] at h1; exact absurd (Nat.eq_zero_of_zero_dvd h1) (by decide)
      have h5 : Nat.gcd e 2 ≠ 2 := fun z => by rw [z] at h2; omega
      show Nat.gcd e 2 = 1
      omega
    have h6 : e ∣ 1 := by
      have h7 : e ∣ 2 ^ p * 1 := ⟨d, by rw [Nat.mul_one, he, Nat.mul_comm]⟩
      exact (hc.pow_right p).dvd_of_dvd_mul_left h7
    have h8 : e = 1 := Nat.dvd_one.mp h6
    rw [h8, Nat.mul_one] at he
    omega
/-- no two of a round alike -/
theorem MaskW.apart {m : Nat} (h : MaskW m) {a b : Nat} (hab : a < b) (hb : b ≤ m) : lcgN m a ≠ lcgN m b := fun e => by
  obtain ⟨p, p1, ep, g1, g2⟩ := h.ex
  rw [lcg_geo, lcg_geo, ep] at e
  obtain ⟨c, rfl⟩ : ∃ c, b = a + c := ⟨b - a, by omega⟩
  rw [geo_add] at e
  have h1 : 2 ^ p ∣ 5 ^ a * geo c := by
    have h2 : (5 ^ a * geo c + geo a) % 2 ^ p = (0 + geo a) % 2 ^ p := by rw [Nat.zero_add]; exact e.symm
    exact Nat.dvd_of_mod_eq_zero (by
      have h3 := Nat.sub_mod_eq_zero_of_mod_eq h2
      rwa [Nat.zero_add, Nat.add_sub_cancel] at h3)
  have hco : Nat.Coprime (2 ^ p) (5 ^ a) := Nat.Coprime.pow p a (by decide)
  have h3 : 2 ^ p ∣ geo c := hco.dvd_of_dvd_mul_left h1
  have h4 := geo_gcd _ _ h3 (Nat.dvd_of_mod_eq_zero g1)
  have hc0 : 0 < c := by omega
  have hcl : c < 2 ^ p := by omega
  have h5 : Nat.gcd c (2 ^ p) < 2 ^ p := Nat.lt_of_le_of_lt (Nat.gcd_le_left _ hc0) hcl
  obtain ⟨e, he⟩ := half_of p1 (Nat.gcd_dvd_right c (2 ^ p)) h5
  refine g2 (Nat.mod_eq_zero_of_dvd ?_)
  rw [he, Nat.mul_comm]
  exact geo_mul h4 e
theorem lcg_le (m k : Nat) : lcgN m k ≤ m := by
  rw [lcg_geo]
  exact Nat.le_of_lt_succ (Nat.mod_lt _ (Nat.succ_pos _))
theorem MaskW.all {m : Nat} (h : MaskW m) {j : Nat} (hj : j ≤ m) : ∃ b, b ≤ m ∧ lcgN m b = j := by
  rcases Classical.em (∃ b, b ≤ m ∧ lcgN m b = j) with c | c
  · exact c
  · exfalso
    have nd : ((List.range (m + 1)).map (lcgN m)).Nodup := by
      unfold List.Nodup
      rw [List.pairwise_map]
      refine List.Pairwise.imp_of_mem (R := (· < ·)) (fun {a b} ha hb hab => h.apart hab (Nat.le_of_lt_succ (List.mem_range.mp hb))) List.pairwise_lt_range
    have h1 := nat_nodup_len (j :: (List.range (m + 1)).map (lcgN m)) (List.range (m + 1)) (List.nodup_cons.mpr ⟨fun hm => by
      obtain ⟨b, hb, e⟩ := List.mem_map.mp hm
      exact c ⟨b, Nat.le_of_lt_succ (List.mem_range.mp hb), e⟩, nd⟩) fun x hx => List.mem_range.mpr (by
      rcases List.mem_cons.mp hx with rfl | hx
      · omega
      · obtain ⟨b, _, rfl⟩ := List.mem_map.mp hx
        exact Nat.lt_succ_of_le (lcg_le m b))
    rw [List.length_cons, List.length_map, List.length_range] at h1
    omega
theorem MaskW.again {m : Nat} (h : MaskW m) (k : Nat) : lcgN m (m + 1 + k) = lcgN m k := by
  obtain ⟨p, p1, ep, g1, g2⟩ := h.ex
  rw [lcg_geo, lcg_geo, Nat.add_comm, geo_add, ep]
  have h1 : (5 ^ k * geo (2 ^ p)) % 2 ^ p = 0 := by rw [Nat.mul_mod, g1, Nat.mul_zero, Nat.zero_mod]
  rw [Nat.add_mod, h1, Nat.zero_add, Nat.mod_mod]
theorem MaskW.round {m : Nat} (h : MaskW m) {i j : Nat} (hi : i ≤ m) (hj : j ≤ m) : ∃ k, k ≤ m ∧ lcgI m i k = j := by
  obtain ⟨a, ha, rfl⟩ := h.all hi
  obtain ⟨b, hb, rfl⟩ := h.all hj
  by_cases c : a ≤ b
  · refine ⟨b - a, by omega, ?_⟩
    rw [lcgN_add]
    congr 1
    omega
  · refine ⟨b + (m + 1) - a, by omega, ?_⟩
    rw [lcgN_add, show a + (b + (m + 1) - a) = m + 1 + b by omega]
    exact h.again b
/-- each slot stands on the way that a hash goes, early enough -/
theorem MaskW.meets {m : Nat} (hm : MaskW m) (h : Int) {j : Nat} (hj : j ≤ m) : (∃ n, n < SetTable.turns m ∧ runI m (SetTable.bits h) n = j) ∧ ∃ k, k < 10 * SetTable.turns m ∧ way m h k = j := by
  obtain ⟨k, hk, e⟩ := hm.round (runI_le m (SetTable.bits h) 12) hj
  have e2 : runI m (SetTable.bits h) (12 + k) = j := by rw [runI_tail (bits_lt h), e]
  obtain ⟨s, hs, e3⟩ := run_nth m (SetTable.bits h) (12 + k)
  have ht : SetTable.turns m = m + 15 := rfl
  refine ⟨⟨12 + k, by omega, e2⟩, s, by omega, ?_⟩
  show (nth m _ s).j = j
  rw [e3]
  exact e2
theorem wayW_le (m : Nat) (h : Int) (k : Nat) : way m h k ≤ m := by
  have h1 : SetTable.bits h % (m + 1) ≤ m := Nat.le_of_lt_succ (Nat.mod_lt _ (Nat.succ_pos m))
  have h2 := runEnd_bd h1
  have h3 := nth_in (m := m) k (runAt m (SetTable.bits h % (m + 1)) (SetTable.bits h)) (by show SetTable.bits h % (m + 1) + (SetTable.runEnd m (SetTable.bits h % (m + 1)) - SetTable.bits h % (m + 1)) ≤ m; omega)
  exact Nat.le_trans (Nat.le_add_right _ _) h3
end L2
namespace L2
open PySem PySem.Spec PyProof.Rows
/-- each entry is met on its own way, behind full slots -/
structure TabW (t : SetTable) (hs : List Int) : Prop where
  msk : MaskW t.mask
  no : t.dummies = #[]
  up : Ris t.place.toList
  ln : t.place.size = hs.length
  met : ∀ (i j : Nat) (h : Int), hs[i]? = some h → t.place.toList[i]? = some j → ∃ k, way t.mask h k = j ∧ ∀ k', k' < k → way t.mask h k' ∈ t.place.toList
section
variable {t : SetTable} {hs : List Int}
theorem TabW.len (T : TabW t hs) : t.place.toList.length = hs.length := T.ln
/-- a way comes to a gap -/
theorem TabW.gap (T : TabW t hs) (hl : hs.length ≤ t.mask) (h : Int) : ∃ K, K < 10 * SetTable.turns t.mask ∧ way t.mask h K ∉ t.place.toList ∧ ∀ k, k < K → way t.mask h k ∈ t.place.toList := by
  obtain ⟨j, hj, hn⟩ := st_missing t.place.toList (t.mask + 1) (by rw [T.len]; omega)
  obtain ⟨k, hk, e⟩ := (T.msk.meets h (Nat.le_of_lt_succ hj)).2
  obtain ⟨K, h1, h2, h3⟩ := st_least (p := fun k => way t.mask h k ∉ t.place.toList) k (by rw [e]; exact hn)
  exact ⟨K, by omega, h2, fun c hc => Classical.byContradiction fun z => h3 c hc z⟩
theorem TabW.ahead (T : TabW t hs) {h : Int} {K i j : Nat} (hK : way t.mask h K ∉ t.place.toList) (hi : hs[i]? = some h) (hj : t.place.toList[i]? = some j) : ∃ k, k < K ∧ way t.mask h k = j := by
  obtain ⟨k, e, hb⟩ := T.met i j h hi hj
  have h1 : ¬ K < k := fun z => hK (hb K z)
  have h2 : k ≠ K := fun z => hK (by rw [← z, e]; exact List.mem_of_getElem? hj)
  exact ⟨k, by omega, e⟩
/-- one more entry, at the gap of its way -/
theorem TabW.more (T : TabW t hs) {h : Int} {K j p : Nat} (hj : way t.mask h K = j) (hp : SetTable.below t.place j = p) (hn : j ∉ t.place.toList) (hb : ∀ k, k < K → way t.mask h k ∈ t.place.toList) :
    p ≤ hs.length ∧ TabW (t.put j).1 (hs.take p ++ h :: hs.drop p) ∧ (t.put j).1.place.size = hs.length + 1 := by
  have h1 := (below_cut T.up j).1
  rw [hp] at h1
  have h2 : p ≤ t.place.toList.length := h1
  have h3 : p ≤ hs.length := by rw [← T.ln]; exact h1
  have ep : (t.put j).1.place.toList = t.place.toList.take p ++ j :: t.place.toList.drop p := by rw [put_place, hp]
  have es : (t.put j).1.place.size = hs.length + 1 := by
    have : (t.put j).1.place.toList.length = t.place.toList.length + 1 := by rw [ep, len_ins _ h2]
    rw [T.len] at this
    exact this
  have old : ∀ {x : Nat}, x ∈ t.place.toList → x ∈ (t.put j).1.place.toList := fun hx => by rw [ep]; exact mem_ins.mpr (.inr hx)
  refine ⟨h3, ⟨T.msk, put_dm T.no j, ?_, by rw [es, len_ins _ h3], fun i j2 h' e1 e2 => ?_⟩, es⟩
  · exact ris_insert T.up fun z => hn (List.mem_of_getElem? (by rw [Array.getElem?_toList]; exact z))
  · show ∃ k, way t.mask h' k = j2 ∧ _
    rw [tins_get _ h3] at e1
    rw [ep, tins_get _ h2] at e2
    have go : ∀ i, hs[i]? = some h' → t.place.toList[i]? = some j2 → ∃ k, way t.mask h' k = j2 ∧ ∀ k', k' < k → way t.mask h' k' ∈ (t.put j).1.place.toList := fun i a1 a2 => by
      obtain ⟨k, b1, b2⟩ := T.met i j2 h' a1 a2
      exact ⟨k, b1, fun k' hk => old (b2 k' hk)⟩
    split at e1
    · rename_i c
      rw [if_pos c] at e2
      exact go i e1 e2
    · rename_i c
      rw [if_neg c] at e2
      split at e1
      · rename_i c2
        rw [if_pos c2] at e2
        cases e1
        cases e2
        exact ⟨K, hj, fun k' hk => old (hb k' hk)⟩
      · rename_i c2
        rw [if_neg c2] at e2
        exact go (i - 1) e1 e2
end
theorem freeW {m : Nat} (hm : MaskW m) (owner : Array (Option Nat)) (h : Int) {j : Nat} (hj : j ≤ m) (hf : oAt owner j = none) :
    ∃ K, SetTable.layClean.free m owner (SetTable.turns m) (SetTable.bits h % (m + 1)) (SetTable.bits h) = some (way m h K) ∧ oAt owner (way m h K) = none ∧ ∀ k, k < K → oAt owner (way m h k) ≠ none := by
  obtain ⟨n, hn, e⟩ := (hm.meets h hj).1
  have ew : way m h (off m (SetTable.bits h % (m + 1)) (SetTable.bits h) n) = j := by
    unfold way
    rw [nth_off, itL_run]
    exact e
  obtain ⟨K, k1, k2, k3⟩ := st_least (p := fun k => oAt owner (way m h k) = none) _ (show oAt owner (way m h (off m (SetTable.bits h % (m + 1)) (SetTable.bits h) n)) = none by rw [ew]; exact hf)
  refine ⟨K, free_spec m owner _ n _ _ K hn k1 (fun k hk => ?_) ?_, k2, k3⟩
  · rw [Option.isNone_eq_false_iff]
    exact Option.isSome_iff_ne_none.mpr (k3 k hk)
  · rw [Option.isNone_iff_eq_none]
    exact k2
theorem Own.next {m : Nat} (hm : MaskW m) {done : List Int} {owner : Array (Option Nat)} (W : Own m done owner) (hl : done.length ≤ m) (h : Int) :
    ∃ j, SetTable.layClean.free m owner (SetTable.turns m) (SetTable.bits h % (m + 1)) (SetTable.bits h) = some j ∧ Own m (done ++ [h]) (owner.setIfInBounds j (some done.length)) := by
  obtain ⟨ps, p1, p2⟩ := W.ps
  obtain ⟨g, hg, gn⟩ := st_missing ps (m + 1) (by omega)
  have hg0 : oAt owner g = none := Classical.byContradiction fun z => gn (p2 g (Nat.le_of_lt_succ hg) z)
  obtain ⟨K, a1, a2, a3⟩ := freeW hm owner h (Nat.le_of_lt_succ hg) hg0
  have hin : way m h K < owner.size := by rw [W.sz]; exact Nat.lt_succ_of_le (wayW_le m h K)
  generalize hj : way m h K = j at a1 a2 hin
  have at0 := oAt_set_self (owner := owner) (some done.length) hin
  have at1 : ∀ i, i ≠ j → oAt (owner.setIfInBounds j (some done.length)) i = oAt owner i := fun i hi => oAt_set_ne _ hi
  have full : ∀ i, oAt owner i ≠ none → oAt (owner.setIfInBounds j (some done.length)) i ≠ none := fun i hi => by
    rcases Classical.em (i = j) with rfl | c
    · rw [at0]; simp
    · rw [at1 i c]; exact hi
  refine ⟨j, a1, ⟨by rw [Array.size_setIfInBounds, W.sz], fun i k hi e => ?_, fun k hk => ?_, j :: ps, by rw [List.length_cons, p1, List.length_append, List.length_singleton], fun i hi e => ?_⟩⟩
  · rcases Classical.em (i = j) with rfl | c
    · rw [at0] at e
      cases e
      exact ⟨h, K, by rw [List.getElem?_append_right (Nat.le_refl _), Nat.sub_self]; rfl, hj, fun k' hk' => full _ (a3 k' hk')⟩
    · rw [at1 i c] at e
      obtain ⟨h', K', b1, b2, b3⟩ := W.at_ i k hi e
      exact ⟨h', K', by rw [List.getElem?_append_left (List.getElem?_eq_some_iff.mp b1).1]; exact b1, b2, fun k' hk' => full _ (b3 k' hk')⟩
  · rw [List.length_append, List.length_singleton] at hk
    rcases Nat.lt_or_ge k done.length with c | c
    · obtain ⟨i, hi, e⟩ := W.all k c
      exact ⟨i, hi, by rw [at1 i fun z => by rw [z, a2] at e; cases e]; exact e⟩
    · have : k = done.length := by omega
      exact ⟨j, by rw [W.sz] at hin; omega, by rw [at0, this]⟩
  · rcases Classical.em (i = j) with rfl | c
    · exact List.mem_cons_self
    · rw [at1 i c] at e
      exact List.mem_cons_of_mem _ (p2 i hi e)
theorem layW {m : Nat} (hm : MaskW m) : ∀ (rest done : List Int) (owner : Array (Option Nat)), Own m done owner → done.length + rest.length ≤ m →
    ∃ o2, rest.foldl (stepF m) (some (owner, done.length)) = some (o2, (done ++ rest).length) ∧ Own m (done ++ rest) o2
  | [], done, owner, W, _ => ⟨owner, by rw [List.append_nil]; rfl, by rw [List.append_nil]; exact W⟩
  | h :: rest, done, owner, W, hl => by
    rw [List.length_cons] at hl
    obtain ⟨j, e, W2⟩ := W.next hm (by omega) h
    have el : (done ++ [h]).length = done.length + 1 := List.length_append
    obtain ⟨o2, e2, W3⟩ := layW hm rest _ _ W2 (by rw [el]; omega)
    rw [el, List.append_assoc, List.singleton_append] at e2
    rw [List.append_assoc, List.singleton_append] at W3
    exact ⟨o2, by rw [List.foldl_cons, stepF_some e]; exact e2, W3⟩
theorem relaidW (t : SetTable) {hs : Array Int} {wanted M : Nat} (hw : SetTable.sizeAbove wanted - 1 = M) (hM : MaskW M) (hn : hs.size ≤ M) :
    ∃ t2 order, t.relaid hs wanted = some (t2, order) ∧ order.toList.Perm (List.range hs.size) ∧ TabW t2 (order.toList.map fun i => hs.getD i 0) ∧ t2.mask = M ∧ t2.led = t.led ∧ t2.plain = t.plain := by
  obtain ⟨owner, e, W⟩ := layW hM hs.toList [] _ (Own.init M) (by rw [List.length_nil, Array.length_toList]; omega)
  rw [List.nil_append] at e W
  have hlay : SetTable.layClean M hs = some owner := by
    rw [layClean_eq]
    show (hs.toList.foldl (stepF M) (some (Array.replicate (M + 1) none, ([] : List Int).length))).map _ = _
    rw [e]
    rfl
  have hr : t.relaid hs wanted = some (tabOf t M owner, ((liveOf M owner).map (·.2)).toArray) := by rw [relaid_eq, hw, hlay]; rfl
  generalize hl : liveOf M owner = l at hr
  have lm : ∀ j k, (j, k) ∈ l ↔ j ≤ M ∧ oAt owner j = some k := fun j k => by rw [← hl]; exact mem_live W.sz
  have hris : Ris (l.map (·.1)) := by
    rw [← hl]
    exact (ris_live (fun j => owner.getD j none) (List.range (M + 1)) (by unfold Ris; exact List.pairwise_lt_range)).1
  have hnd : (l.map (·.1)).Nodup := hris.imp fun h => Nat.ne_of_lt h
  have hall : ∀ k, k < hs.size → k ∈ l.map (·.2) := fun k hk => by
    obtain ⟨j, b1, b2⟩ := W.all k (by rw [Array.length_toList]; exact hk)
    exact List.mem_map.mpr ⟨(j, k), (lm j k).mpr ⟨b1, b2⟩, rfl⟩
  have hlen : l.length = hs.size := by
    obtain ⟨ps, p1, p2⟩ := W.ps
    have a := nat_nodup_len (l.map (·.1)) ps hnd fun x hx => by
      obtain ⟨⟨j, k⟩, hq, rfl⟩ := List.mem_map.mp hx
      obtain ⟨b1, b2⟩ := (lm j k).mp hq
      exact p2 j b1 (by rw [b2]; simp)
    have b := nat_nodup_len (List.range hs.size) (l.map (·.2)) List.nodup_range fun k hk => hall k (List.mem_range.mp hk)
    have hz : hs.toList.length = hs.size := rfl
    rw [List.length_map, p1] at a
    rw [List.length_map, List.length_range] at b
    omega
  have epl : (tabOf t M owner).place.toList = l.map (·.1) := by rw [← hl]; rfl
  refine ⟨_, _, hr, ?_, ⟨hM, rfl, by rw [epl]; exact hris, ?_, fun i j h e1 e2 => ?_⟩, rfl, rfl, rfl⟩
  · exact perm_range hs.size (l.map (·.2)) (by rw [List.length_map, hlen]) hall
  · rw [← Array.length_toList, epl]
    simp only [List.length_map]
  · show ∃ k, way M h k = j ∧ ∀ k', k' < k → way M h k' ∈ (tabOf t M owner).place.toList
    have e1 : ((l.map (·.2)).map fun i => hs.getD i 0)[i]? = some h := e1
    rw [epl] at e2 ⊢
    rw [List.getElem?_map, List.getElem?_map] at e1
    rw [List.getElem?_map] at e2
    cases hq : l[i]? with
    | none => rw [hq] at e2; cases e2
    | some q =>
      rw [hq] at e1 e2
      have e1 : hs.getD q.2 0 = h := Option.some.inj e1
      have e2 : q.1 = j := Option.some.inj e2
      obtain ⟨b1, b2⟩ := (lm q.1 q.2).mp (List.mem_of_getElem? hq)
      obtain ⟨h0, K, c1, c2, c3⟩ := W.at_ q.1 q.2 b1 b2
      have eh : h0 = h := by
        rw [← e1, Array.getD_eq_getD_getElem?, ← Array.getElem?_toList, c1]
        rfl
      rw [eh] at c2 c3
      refine ⟨K, c2.trans e2, fun k' hk' => ?_⟩
      obtain ⟨k2, hk2⟩ := Option.ne_none_iff_exists'.mp (c3 k' hk')
      exact List.mem_map.mpr ⟨(way M h k', k2), (lm _ _).mpr ⟨wayW_le M h k', hk2⟩, rfl⟩
end L2
namespace L2
open PySem PySem.Spec PyProof.Rows
section
variable {P : Program} {w : World} {A : Around} {E : Value → Shared → Prop} {s : Shared}
/-- the set at a holds the tuples of L -/
structure SetW (P : Program) (w : World) (h : Heap) (a : Addr) (L : List (Addr × List Int)) (es : Array (Int × Value)) (ep : Nat) (t : SetTable) : Prop where
  obj : ∃ o, h.get? a = some o ∧ o.ExactSet ∧ o.data = .set es ep t
  rws : es.toList = rowsOf P w L
  tb : TabW t (L.map fun p => thash P w p.2)
  nd : (L.map (·.2)).Nodup
  tps : ∀ p ∈ L, IsT P w h p.2 p.1
  pln : t.plain = true
  ldd : w.params.followText "set-order" = true ∨ t.led = true
  rm : L.length * 5 < t.mask * 3
  fw : L.length ≤ 4096
  ms : t.mask = 7 ∨ t.mask = 31 ∨ t.mask = 127 ∨ t.mask = 511 ∨ t.mask = 2047 ∨ t.mask = 8191
variable {a : Addr} {L : List (Addr × List Int)} {es : Array (Int × Value)} {ep : Nat} {t : SetTable}
theorem rows_len (h : es.toList = rowsOf P w L) : es.size = L.length := by
  have := congrArg List.length h
  rw [rowsOf, List.length_map, Array.length_toList] at this
  exact this
theorem rows_get (h : es.toList = rowsOf P w L) {i : Nat} {p : Addr × List Int} (hp : L[i]? = some p) : es[i]? = some (thash P w p.2, Value.ref p.1) := by
  rw [← Array.getElem?_toList, h, rowsOf, List.getElem?_map, hp]
  rfl
theorem SetW.plc (R : SetW P w s.heap a L es ep t) : t.place.size = L.length := by
  have := R.tb.ln
  rwa [List.length_map] at this
theorem fits_of {n : Nat} (h1 : t.place.size = n) (h2 : t.dummies = #[]) (h3 : n ≤ t.mask) : t.fits n = true := by
  have : t.fill = n := by
    show t.place.size + t.dummies.size = n
    rw [h1, h2]
    rfl
  unfold SetTable.fits
  rw [this, h1, Bool.and_eq_true]
  exact ⟨beq_self_eq_true n, decide_eq_true h3⟩
theorem SetW.fts (R : SetW P w s.heap a L es ep t) : t.fits es.size = true := by
  have h := R.rm
  exact fits_of (by rw [R.plc, rows_len R.rws]) R.tb.no (by rw [rows_len R.rws]; omega)
theorem MaskW.odd {m : Nat} (h : MaskW m) : m % 2 = 1 := by
  obtain ⟨p, p1, e, _⟩ := h.ex
  have : 2 ^ p = 2 ^ (p - 1) * 2 := by rw [← Nat.pow_succ, show (p - 1).succ = p by omega]
  omega
theorem SetW.keeps (R : SetW P w s.heap a L es ep t) : t.gaveWay = false := by
  show (t.mask % 2 == 0) = false
  rw [R.tb.msk.odd]
  rfl
/-- the c-th look on the way of h -/
abbrev look (m : Nat) (h : Int) (c : Nat) : SetTable.Probe := nth m (runAt m (SetTable.bits h % (m + 1)) (SetTable.bits h)) c
theorem look_dm (m : Nat) (h : Int) (c : Nat) : (look m h c).dummy = none := by
  have step : ∀ (n : Nat) (p : SetTable.Probe), p.dummy = none → (nth m p n).dummy = none := fun n => by
    induction n with
    | zero => exact fun _ h => h
    | succ n ih => exact fun p h => ih _ (by unfold adv; split <;> exact h)
  exact step c _ rfl
theorem look_add (m : Nat) (h : Int) (c q : Nat) : nth m (look m h c) q = look m h (c + q) := (nth_add m c _ q).symm
theorem searchW (R : SetW P w s.heap a L es ep t) {x : Addr} {k : List Int} (hx : IsT P w s.heap k x) (hu : A.units < cLine) {g : Int} (hg : thash P w k = g) {K : Nat} (hKf : K < 10 * SetTable.turns t.mask) (hK : way t.mask g K ∉ t.place.toList) (hKb : ∀ c, c < K → way t.mask g c ∈ t.place.toList)
    {Q : SetFound → Shared → Prop} (hin : k ∈ L.map (·.2) → Q (.there none) s) (hout : k ∉ L.map (·.2) → Q (.free (way t.mask g K) false) s) :
    ∀ (f c : Nat) (st : Option SetTable.Probe), st.getD (t.probeStart g) = look t.mask g c → c ≤ K → K - c < f → (∀ (i : Nat) (p : Addr × List Int), L[i]? = some p → p.2 = k → ∃ c2, c ≤ c2 ∧ c2 < K ∧ t.place.toList[i]? = some (way t.mask g c2)) →
      wpAny (model P w) A (setSearchFrom a (.ref x) g true f st) Q E s := by
  obtain ⟨o, ho, hex, hd⟩ := R.obj
  intro f
  induction f with
  | zero => intro c st _ _ h; exact absurd h (Nat.not_lt_zero _)
  | succ f ih =>
    intro c st hst hc hf hre
    have jw : ∀ q, (nth t.mask (look t.mask g c) q).j = way t.mask g (c + q) := fun q => by rw [look_add]
    have sp := go_spec t R.tb.up R.tb.no (fun i => (es[i]?.map fun e : Int × Value => e.1).getD 0) g (10 * SetTable.turns t.mask) (K - c) (look t.mask g c) (look_dm _ _ _) (by omega)
      (fun q hq => by rw [jw]; exact hKb _ (by omega)) (by rw [jw, show c + (K - c) = K by omega]; exact hK)
    have hh : ∀ (i : Nat) (p : Addr × List Int), L[i]? = some p → p.2 = k → (es[i]?.map fun e : Int × Value => e.1).getD 0 = g := fun i p hp hk => by
      rw [rows_get R.rws hp, hk, ← hg]
      rfl
    -- where k's own entry is passed, it is of equal hash
    have pass : ∀ q, (∀ k' i', k' < q → t.place.toList[i']? = some (nth t.mask (look t.mask g c) k').j → (es[i']?.map fun e : Int × Value => e.1).getD 0 ≠ g) → ∀ (i : Nat) (p : Addr × List Int), L[i]? = some p → p.2 = k → ∃ c2, c + q ≤ c2 ∧ c2 < K ∧ t.place.toList[i]? = some (way t.mask g c2) := fun q hq i p hp hk => by
      obtain ⟨c2, a1, a2, a3⟩ := hre i p hp hk
      refine ⟨c2, ?_, a2, a3⟩
      rcases Nat.lt_or_ge c2 (c + q) with z | z
      · exact absurd (hh i p hp hk) (hq (c2 - c) i (by omega) (by rw [jw, show c + (c2 - c) = c2 by omega]; exact a3))
      · exact z
    rw [setSearchFrom_succ]
    refine wpAny_bind (wpAny_setState_of ho hd R.fts ?_)
    dsimp only
    refine wp_if_neg (by rw [R.keeps]; exact Bool.false_ne_true) ?_
    try refine wpAny_bind (wpAny_pure ?_)
    have epr : t.probe (fun i => (es[i]?.map fun e : Int × Value => e.1).getD 0) g (st.getD (t.probeStart g)) = SetTable.probe.go t (fun i => (es[i]?.map fun e : Int × Value => e.1).getD 0) g (10 * SetTable.turns t.mask) (look t.mask g c) := by rw [hst]; rfl
    rw [epr]
    rcases sp with ⟨q, i, hq, hi, hhi, hno, e⟩ | ⟨hno, e⟩
    · rw [e, look_add, look_add]
      rw [jw] at hi
      dsimp only
      have hil : i < L.length := by
        have h1 := (List.getElem?_eq_some_iff.mp hi).1
        rw [Array.length_toList, R.plc] at h1
        exact h1
      obtain ⟨p, hp⟩ : ∃ p, L[i]? = some p := ⟨_, List.getElem?_eq_getElem hil⟩
      have hpm : p ∈ L := List.mem_of_getElem? hp
      have hent := rows_get R.rws hp
      have go : wpAny (model P w) A (searchRest a (.ref x) g true f es t (way t.mask g (c + q)) i (look t.mask g (c + (q + 1)))) Q E s := by
        unfold searchRest
        rw [hent]
        dsimp only
        refine wpAny_bind (wpAny_holding (wpAny_eqBool_tuple hu (R.tps p hpm) hx ?_))
        refine wpAny_bind (wpAny_setState_of ho hd R.fts ?_)
        dsimp only
        rcases Classical.em (p.2 = k) with hk | hk
        · refine wp_if_pos (by simp [hk]) (wpAny_pure (hin ?_))
          exact List.mem_map.mpr ⟨p, hpm, hk⟩
        · refine wp_if_neg (by simp [hk]) ?_
          try refine wpAny_bind (wpAny_pure ?_)
          rw [sameMem]
          dsimp only
          have hsl := slot_live R.tb.up hi
          simp only [if_true, hsl, hent]
          refine wpAny_bind (wpAny_isSame_ref_self (wpAny_bind (wpAny_pure ?_)))
          simp only [if_true]
          refine wp_if_neg (by simp [hk]) ?_
          refine ih (c + (q + 1)) (some _) rfl (by omega) (by omega) fun i2 p2 hp2 hk2 => ?_
          obtain ⟨c2, b1, b2, b3⟩ := pass q hno i2 p2 hp2 hk2
          refine ⟨c2, ?_, b2, b3⟩
          rcases Nat.lt_or_ge c2 (c + (q + 1)) with z | z
          · exfalso
            have ec : c2 = c + q := by omega
            rw [ec] at b3
            have h2 := slot_live R.tb.up b3
            rw [hsl] at h2
            cases h2
            rw [hp] at hp2
            cases hp2
            exact hk hk2
          · exact z
      rcases Bool.eq_false_or_eq_true t.led with hl | hl
      · refine wp_if_neg (by simp [hl]) ?_
        try refine wpAny_bind (wpAny_pure ?_)
        exact go
      · refine wp_if_pos (by simp [hl]) (wpAny_bind (seen_tup hx (fun y hy => ?_) ?_))
        · obtain ⟨e2, he, rfl⟩ := List.mem_map.mp hy
          have h1 : e2 ∈ es.toList := by
            have h2 : e2 ∈ es ∧ e2.1 = g := by simpa using he
            simpa using h2.1
          rw [R.rws] at h1
          obtain ⟨p2, hp2, rfl⟩ := List.mem_map.mp h1
          exact ⟨p2.2, p2.1, rfl, R.tps p2 hp2⟩
        · refine wp_if_neg (by decide) ?_
          try refine wpAny_bind (wpAny_pure ?_)
          exact go
    · rw [e, jw, show c + (K - c) = K by omega]
      dsimp only
      refine wpAny_pure (hout fun hm => ?_)
      obtain ⟨p, hp, hk⟩ := List.mem_map.mp hm
      obtain ⟨i, hi⟩ := List.getElem?_of_mem hp
      obtain ⟨c2, b1, b2, b3⟩ := pass (K - c) hno i p hi hk
      omega
/-- as adding asks -/
theorem seekW (R : SetW P w s.heap a L es ep t) {x : Addr} {k : List Int} (hx : IsT P w s.heap k x) (hu : A.units < cLine) {g : Int} (hg : thash P w k = g) {Q : SetFound → Shared → Prop} (hin : k ∈ L.map (·.2) → Q (.there none) s)
    (hout : ∀ K, k ∉ L.map (·.2) → way t.mask g K ∉ t.place.toList → (∀ c, c < K → way t.mask g c ∈ t.place.toList) → Q (.free (way t.mask g K) false) s) : wpAny (model P w) A (setSearch a (.ref x) g true) Q E s := by
  have h1 := R.rm
  have h2 := R.tb.msk.up
  obtain ⟨K, k1, k2, k3⟩ := R.tb.gap (by rw [List.length_map]; omega) g
  have ht : SetTable.turns t.mask = t.mask + 15 := rfl
  refine searchW R hx hu hg k1 k2 k3 hin (fun z => hout K z k2 k3) 100000 0 none rfl (Nat.zero_le _) (by omega) fun i p hp hk => ?_
  have h3 : (L.map fun p => thash P w p.2)[i]? = some g := by rw [List.getElem?_map, hp, ← hg, ← hk]; rfl
  have hil : i < t.place.toList.length := by
    rw [Array.length_toList, R.plc]
    exact (List.getElem?_eq_some_iff.mp hp).1
  have h4 := List.getElem?_eq_getElem hil
  obtain ⟨c, c1, c2⟩ := R.tb.ahead k2 h3 h4
  exact ⟨c, Nat.zero_le _, c1, by rw [h4, c2]⟩
end
end L2
namespace L2
open PySem PySem.Spec PyProof.Rows
section
variable {P : Program} {w : World} {A : Around} {E : Value → Shared → Prop} {s : Shared} {a : Addr} {L : List (Addr × List Int)} {es : Array (Int × Value)} {ep : Nat} {t : SetTable}
/-- what is told once a set was written: the heap but for it, its new state -/
def Wrote (P : Program) (w : World) (h : Heap) (a : Addr) (K : List (Addr × List Int) → Heap → Prop) : Prop := ∀ h' L' es' ep' t', Heap.SameBut a h h' → SetW P w h' a L' es' ep' t' → K L' h'
theorem relayW {o : Obj} (ho : s.heap.get? a = some o) (hex : o.ExactSet) (hd : o.data = .set es ep t) (hr : es.toList = rowsOf P w L) (hz : t.place.size = es.size) (hm : t.dummies = #[]) (hl : es.size ≤ t.mask)
    (nd : (L.map (·.2)).Nodup) (tps : ∀ p ∈ L, IsT P w s.heap p.2 p.1) (pln : t.plain = true) (ldd : w.params.followText "set-order" = true ∨ t.led = true) (fw : L.length ≤ 4096) {wd M : Nat}
    (hM : M = 7 ∨ M = 31 ∨ M = 127 ∨ M = 511 ∨ M = 2047 ∨ M = 8191) (hw : SetTable.sizeAbove wd = M + 1) (hn : L.length * 5 < M * 3) {Q : Unit → Shared → Prop} (hQ : Wrote P w s.heap a fun L' h' => L'.Perm L → Q () { s with heap := h' }) :
    wpAny (model P w) A (setRelay a wd) Q E s := by
  have hW : MaskW M := by
    rcases hM with rfl | rfl | rfl | rfl | rfl | rfl
    · exact mask_7
    · exact mask_31
    · exact mask_127
    · exact mask_511
    · exact mask_2047
    · exact mask_8191
  have hes := rows_len hr
  have hsl := sizeLine_eq
  have hM2 := hW.up
  obtain ⟨t2, order, e, hp, T, e1, e2, e3⟩ := relaidW t (hs := es.map (·.1)) (wanted := wd) (M := M) (by rw [hw]; rfl) hW (by rw [Array.size_map, hes]; omega)
  rw [Array.size_map, hes] at hp
  obtain ⟨L2, r1, r2, r3⟩ := order_rows L es order hr hp
  rw [← r3] at T
  have h2 : (order.filterMap (es[·]?)).size = es.size := by rw [rows_len r1, r2.length_eq, hes]
  rw [setRelay_eq]
  refine wpAny_bind (wpAny_setState_of ho hd (fits_of hz hm hl) ?_)
  dsimp only
  refine wp_if_neg (by rw [hw]; omega) ?_
  try refine wpAny_bind (wpAny_pure ?_)
  rw [e]
  dsimp only
  refine wpAny_bind ?_
  refine wp_if_neg (by rw [h2]; simp) ?_
  try refine wpAny_bind (wpAny_pure ?_)
  refine wpAny_pure ?_
  dsimp only
  have sb : Heap.SameBut a s.heap (s.heap.update a (Obj.putSet (order.filterMap (es[·]?)) t2)) := Heap.SameBut.update ..
  refine wpAny_storeSet_of ho hd ?_ (by rw [h2, hes]; omega)
  refine hQ _ L2 _ (ep + 1) t2 sb ⟨⟨_, store_at ho hd, ⟨hex.1, hex.2.1, hex.2.2⟩, rfl⟩, r1, T, (r2.map (·.2)).nodup_iff.mpr nd, fun p hp2 => isT_same (tps p (r2.mem_iff.mp hp2)) ho hd sb, by rw [e3]; exact pln, by rw [e2]; exact ldd, by rw [r2.length_eq, e1]; exact hn, by rw [r2.length_eq]; exact fw, by rw [e1]; exact hM⟩ r2
theorem sizes : SetTable.sizeAbove (SetTable.grown 5) = 31 + 1 ∧ SetTable.sizeAbove (SetTable.grown 19) = 127 + 1 ∧ SetTable.sizeAbove (SetTable.grown 77) = 511 + 1 ∧ SetTable.sizeAbove (SetTable.grown 307) = 2047 + 1 ∧ SetTable.sizeAbove (SetTable.grown 1229) = 8191 + 1 := by decide +kernel
/-- a tuple is put in, or stands there already -/
theorem addW (R : SetW P w s.heap a L es ep t) {x : Addr} {k : List Int} (hx : IsT P w s.heap k x) (hu : A.units < cLine) (hl : k ∉ L.map (·.2) → L.length + 1 ≤ 4096) {Q : Bool → Shared → Prop}
    (hQ : ∀ b, Wrote P w s.heap a fun L' h' => (k ∈ L.map (·.2) → L' = L) → (k ∉ L.map (·.2) → L'.Perm ((x, k) :: L)) → Q b { s with heap := h' }) : wpAny (model P w) A (setAddHashed a (.ref x) (thash P w k)) Q E s := by
  obtain ⟨o, ho, hex, hd⟩ := R.obj
  have hes := rows_len R.rws
  have hrm := R.rm
  have hsl := sizeLine_eq
  unfold setAddHashed
  refine wpAny_holding ?_
  rw [show (100000 : Nat) = 99999 + 1 from rfl, setAddHashedIn_succ]
  refine wpAny_bind (wpAny_setState_of ho hd R.fts ?_)
  dsimp only
  refine wp_if_neg (by simp [byScan, Value.scannable]) ?_
  try refine wpAny_bind (wpAny_pure ?_)
  generalize hg : thash P w k = g
  refine wpAny_bind (seekW R hx hu hg (fun hm => ?_) fun K hm hK hb => ?_)
  · dsimp only
    exact wpAny_pure (hQ false s.heap L es ep t (Heap.SameBut.refl a s.heap) R (fun _ => rfl) fun z => absurd hm z)
  have hl := hl hm
  dsimp only
  refine wpAny_bind (wpAny_setState_of ho hd R.fts ?_)
  dsimp only
  generalize hj : way t.mask g K = j at hK ⊢
  obtain ⟨p, hp⟩ : ∃ p, SetTable.below t.place j = p := ⟨_, rfl⟩
  obtain ⟨m1, m2, m3⟩ := R.tb.more hj hp hK hb
  have ep2 : (t.put j).2 = p := hp
  have eplain : (t.put j).1.plain = true := R.pln
  have emask : (t.put j).1.mask = t.mask := rfl
  have eled : (t.put j).1.led = t.led := rfl
  generalize t.put j = pt at m2 m3 ep2 eplain emask eled ⊢
  obtain ⟨t1, p1⟩ := pt
  dsimp only at m2 m3 ep2 eplain emask eled ⊢
  subst ep2
  first
    | (refine wpAny_bind ?_; refine wp_if_pos eplain ?_; refine hashBy_tup hx ?_)
    | refine wp_if_pos eplain (wpAny_bind (hashBy_tup hx ?_))
  simp only [if_true]
  rw [List.length_map] at m1 m3
  have hrow : (SetTable.insertAt es p1 (g, Value.ref x)).toList = rowsOf P w (L.take p1 ++ (x, k) :: L.drop p1) := by
    rw [SetTable.toList_insertAt, rows_put, R.rws, hg]
  have hhs : (L.take p1 ++ (x, k) :: L.drop p1).map (fun q => thash P w q.2) = (L.map fun q => thash P w q.2).take p1 ++ g :: (L.map fun q => thash P w q.2).drop p1 := by
    rw [List.map_append, List.map_cons, List.map_take, List.map_drop, hg]
  rw [← hhs] at m2
  have pm := put_perm L p1 (x, k)
  generalize L.take p1 ++ (x, k) :: L.drop p1 = L1 at hrow m2 pm
  have hlen : L1.length = L.length + 1 := pm.length_eq
  have hes1 := rows_len hrow
  generalize SetTable.insertAt es p1 (g, Value.ref x) = es1 at hrow hes1 ⊢
  have sb : Heap.SameBut a s.heap (s.heap.update a (Obj.putSet es1 t1)) := Heap.SameBut.update ..
  have ho1 := store_at (es' := es1) (t' := t1) ho hd
  refine wpAny_bind (wpAny_storeSet_of ho hd ?_ (by rw [hes1, hlen]; omega))
  generalize s.heap.update a (Obj.putSet es1 t1) = h1 at sb ho1 ⊢
  have nd1 : (L1.map (·.2)).Nodup := (pm.map (·.2)).nodup_iff.mpr (List.nodup_cons.mpr ⟨hm, R.nd⟩)
  have tps1 : ∀ q ∈ L1, IsT P w h1 q.2 q.1 := fun q hq => by
    rcases List.mem_cons.mp (pm.mem_iff.mp hq) with rfl | hq
    · exact isT_same hx ho hd sb
    · exact isT_same (R.tps q hq) ho hd sb
  have ldd1 : w.params.followText "set-order" = true ∨ t1.led = true := by rw [eled]; exact R.ldd
  have hfill : t1.fill = L.length + 1 := by
    show t1.place.size + t1.dummies.size = _
    rw [m3, m2.no]
    rfl
  have hms := R.ms
  have pz1 : t1.place.size = es1.size := by rw [m3, hes1, hlen]
  by_cases hf : t1.tooFull = true
  · first
      | (refine wpAny_bind ?_; refine wp_if_pos (by simp [hf]) ?_)
      | (refine wp_if_pos (by simp [hf]) ?_; refine wpAny_bind ?_)
    have hfl : (L.length + 1) * 5 ≥ t.mask * 3 := by
      have h2 : decide (t1.fill * 5 ≥ t1.mask * 3) = true := hf
      rw [hfill, emask, decide_eq_true_eq] at h2
      exact h2
    rw [hes]
    have go : ∀ M n, n = L.length + 1 → (M = 7 ∨ M = 31 ∨ M = 127 ∨ M = 511 ∨ M = 2047 ∨ M = 8191) → SetTable.sizeAbove (SetTable.grown n) = M + 1 → n * 5 < M * 3 → n ≤ t.mask →
        wpAny (model P w) A (setRelay a (SetTable.grown (L.length + 1))) (fun _ s' => wpAny (model P w) A (pure true) Q E s') E { s with heap := h1 } := fun M n en hM hw hn hk => by
      rw [← en]
      refine relayW (s := { s with heap := h1 }) ho1 ⟨hex.1, hex.2.1, hex.2.2⟩ rfl hrow pz1 m2.no (by rw [hes1, hlen, emask]; omega) nd1 tps1 eplain ldd1 (by rw [hlen]; exact hl) hM hw (by rw [hlen]; omega) fun h2 L2 es2 ep2 t2 sb2 R2 pm2 => ?_
      exact wpAny_pure (hQ true h2 L2 es2 ep2 t2 (sb.trans sb2) R2 (fun z => absurd z hm) fun _ => pm2.trans pm)
    obtain ⟨s1, s2, s3, s4, s5⟩ := sizes
    rcases hms with e | e | e | e | e | e <;> rw [e] at hfl hrm
    · exact go 31 5 (by omega) (by simp) s1 (by omega) (by omega)
    · exact go 127 19 (by omega) (by simp) s2 (by omega) (by omega)
    · exact go 511 77 (by omega) (by simp) s3 (by omega) (by omega)
    · exact go 2047 307 (by omega) (by simp) s4 (by omega) (by omega)
    · exact go 8191 1229 (by omega) (by simp) s5 (by omega) (by omega)
    · omega
  · first
      | refine wp_if_neg (by simp [hf]) ?_
      | (refine wpAny_bind ?_; refine wp_if_neg (by simp [hf]) ?_; refine wpAny_pure ?_)
    have hfl : (L.length + 1) * 5 < t.mask * 3 := by
      have h2 : ¬ decide (t1.fill * 5 ≥ t1.mask * 3) = true := hf
      rw [hfill, emask, decide_eq_true_eq] at h2
      omega
    refine wpAny_pure (hQ true h1 L1 es1 (ep + 1) t1 sb ⟨⟨_, ho1, ⟨hex.1, hex.2.1, hex.2.2⟩, rfl⟩, hrow, m2, nd1, tps1, eplain, ldd1, by rw [hlen, emask]; exact hfl, by rw [hlen]; exact hl, by rw [emask]; exact hms⟩ (fun z => absurd z hm) fun _ => pm)
end
end L2
namespace L2
open PySem PySem.Spec PyProof.Rows
section
variable {P : Program} {w : World} {A : Around} {E : Value → Shared → Prop} {s : Shared}
theorem SetW.hold {h h' : Heap} {a : Addr} {L : List (Addr × List Int)} {es : Array (Int × Value)} {ep : Nat} {t : SetTable} (R : SetW P w h a L es ep t) (ha : ∀ o, h.get? a = some o → h'.get? a = some o) (ht : ∀ p ∈ L, IsT P w h' p.2 p.1) : SetW P w h' a L es ep t := by
  obtain ⟨⟨o, ho, r⟩, h2, h3, h4, _, h6, h7, h8, h9, h10⟩ := R
  exact ⟨⟨o, ha o ho, r⟩, h2, h3, h4, ht, h6, h7, h8, h9, h10⟩
theorem setW_new {h : Heap} {a : Addr} (ho : h.get? a = some { cls := .type "set", dict := none, data := .set #[] 0 (.fresh 0 0 (!w.params.followText "set-order")) }) : SetW P w h a [] #[] 0 (.fresh 0 0 (!w.params.followText "set-order")) := by
  refine ⟨⟨_, ho, ⟨rfl, rfl, rfl⟩, rfl⟩, rfl, ⟨mask_7, rfl, List.Pairwise.nil, rfl, fun i j h hi => (by simp at hi)⟩, List.nodup_nil, fun p hp => (by cases hp), rfl, ?_, (by show 0 * 5 < 7 * 3; decide), (by show 0 ≤ 4096; decide), .inl rfl⟩
  cases hc : w.params.followText "set-order"
  · exact .inr rfl
  · exact .inl rfl
/-- how many of them differ -/
def Few4 (ks : List (Addr × List Int)) : Prop := ∀ L : List (Addr × List Int), (L.map (·.2)).Nodup → (∀ p ∈ L, p ∈ ks) → L.length ≤ 4096
theorem loopW {I : Addr} {fp wr : List Addr} {G : Array GenState → Array GenState → Prop} {n : Nat} {Pv : Nat → Value → Prop} {St : Nat → Shared → Prop} {R : Result → Shared → Prop}
    (W : WalksS P w A.in1 I fp wr G n Pv St) (S : Addr) (hSf : S ∉ fp) (ks : List (Addr × List Int)) (hn : n = ks.length) (h4 : Few4 ks) (hval : ∀ i v, Pv i v → ∃ p, ks[i]? = some p ∧ v = .ref p.1)
    (h0 : Heap) (hk : ∀ p ∈ ks, IsT P w h0 p.2 p.1) (hS0 : h0.get? S = none) (hw0 : ∀ b ∈ wr, h0.get? b = none) (hu : A.in1.units < cLine) :
    ∀ (m i : Nat) (s : Shared), n - i = m → i ≤ n → St i s → (∀ b o, h0.get? b = some o → s.heap.get? b = some o) → (∃ L es ep t, SetW P w s.heap S L es ep t ∧ Got ks i L) →
      (∀ s' L es ep t, Moved (S :: wr) G s s' → SetW P w s'.heap S L es ep t → Got ks n L → (∀ b o, h0.get? b = some o → s'.heap.get? b = some o) → R (.ok (.ret .none)) s') →
      codeAny (model P w) A (.builtin "set.update.loop" ⟨[.ref S, .ref I], []⟩) R s := by
  have hSw : S ∉ wr := fun z => hSf (W.sub _ z)
  have big : ∀ b ∈ wr, b ∈ S :: wr := fun _ hb => List.mem_cons_of_mem S hb
  have past : ∀ {s s' : Shared}, Moved wr G s s' → (∀ b o, h0.get? b = some o → s.heap.get? b = some o) → ∀ b o, h0.get? b = some o → s'.heap.get? b = some o := fun hm hp b o e =>
    hm.heap b o (fun hb => by have := hw0 b hb; rw [e] at this; cases this) (hp b o e)
  have ofks : ∀ {i : Nat} {L : List (Addr × List Int)}, Got ks i L → ∀ p ∈ L, p ∈ ks := fun g p hp => List.mem_of_mem_take (g.sub p hp)
  have moved : ∀ {s s' : Shared} {L : List (Addr × List Int)} {es : Array (Int × Value)} {ep : Nat} {t : SetTable} {i : Nat}, Moved wr G s s' → (∀ b o, h0.get? b = some o → s'.heap.get? b = some o) → Got ks i L → SetW P w s.heap S L es ep t → SetW P w s'.heap S L es ep t := fun hm hp g hS =>
    hS.hold (fun o e => hm.heap S o hSw e) fun p hq => isT_keep (hk p (ofks g p hq)) hp
  intro m
  induction m with
  | zero =>
    intro i s hm hi hst hkp ⟨L, es, ep, t, hS, g⟩ hR
    have hin : i = n := by omega
    subst hin
    refine codeAny_builtin F.entry_set_update_loop ?_
    rw [Around.under_plainId F.plain_set_update_loop _]
    show wpAny _ A.in1 (pyNext (.ref I) >>= _) _ _ s
    refine wpAny_bind (W.done s _ _ hst fun s' hmv => ?_)
    show wpAny _ A.in1 (ret Value.none) _ _ s'
    have hp := past hmv hkp
    exact wpAny_pure (hR s' L es ep t (hmv.mono big) (moved hmv hp g hS) g hp)
  | succ m ih =>
    intro i s hm hi hst hkp ⟨L, es, ep, t, hS, g⟩ hR
    have hlt : i < n := by omega
    refine codeAny_builtin F.entry_set_update_loop ?_
    rw [Around.under_plainId F.plain_set_update_loop _]
    show wpAny _ A.in1 (pyNext (.ref I) >>= _) _ _ s
    refine wpAny_bind (W.item i s _ _ hlt hst fun v s' hv hst' hmv => ?_)
    obtain ⟨p, hp, rfl⟩ := hval i v hv
    have hps := past hmv hkp
    have hS2 := moved hmv hps g hS
    have hx : IsT P w s'.heap p.2 p.1 := isT_keep (hk p (List.mem_of_getElem? hp)) hps
    show wpAny _ A.in1 (holding [Value.ref p.1] (setAdd S (.ref p.1)) >>= _) _ _ s'
    refine wpAny_bind (wpAny_holding ?_)
    unfold setAdd
    refine wpAny_holding (wpAny_bind (wpAny_pyHash_tuple hu hx ?_))
    refine addW (s := { s' with toks := s'.toks + (p.2.length + 1) }) hS2 hx hu (fun hnew => ?_) fun b h' L' es' ep' t' hsb hS3 c1 c2 => ?_
    · refine h4 (p :: L) (List.nodup_cons.mpr ⟨hnew, hS.nd⟩) fun q hq => ?_
      rcases List.mem_cons.mp hq with rfl | hq
      · exact List.mem_of_getElem? hp
      · exact ofks g q hq
    · have g2 : Got ks (i + 1) L' := by
        rcases Classical.em (p.2 ∈ L.map (·.2)) with c | c
        · rw [c1 c]; exact g.same hp c
        · exact g.more hp (c2 c)
      have hps2 : ∀ b o, h0.get? b = some o → h'.get? b = some o := fun b o e => (hsb.2 b fun z => by rw [z, hS0] at e; cases e).trans (hps b o e)
      refine wpAny_pure ⟨plainId_quiet F.plain_set_update_loop _, ih (i + 1) _ (by omega) hlt (W.frame _ s' _ _ hst' (Nat.le_add_right _ _) fun b hb o e => ?_) hps2 ⟨L', es', ep', t', hS3, g2⟩ fun s2 L2 es2 ep2 t2 hm2 hS4 g3 hp3 => ?_⟩
      · rw [hsb.2 b fun z : b = S => hSf (z ▸ hb)]
        exact e
      · refine hR s2 L2 es2 ep2 t2 (Moved.trans W.gtrans ((hmv.mono big).then_heap (Nat.le_add_right _ _) fun b o hb e => ?_) hm2) hS4 g3 hp3
        rw [hsb.2 b fun z : b = S => hb (by rw [z]; exact List.mem_cons_self)]
        exact e
end
end L2
namespace DL
open PySem PySem.Spec L2
open PyProof.Rows hiding St
section
variable {Pg : Program} {w : World} {A : Around} {E : Value → Shared → Prop} {s : Shared}
theorem setW_of {l : Addr} {items : Array Value} {Q : Value → Shared → Prop} (ks : List (Addr × List Int)) (quiet : A.handled = none) (isl : s.heap.IsList l items) (hit : items.toList = ks.map fun p => Value.ref p.1) (hk : ∀ p ∈ ks, IsT Pg w s.heap p.2 p.1)
    (h4 : Few4 ks) (hu : A.units + 3 < cLine)
    (k : ∀ (h' : Heap) (tk : Nat) L es ep t, SetW Pg w h' s.heap.objs.size L es ep t → Got ks ks.length L → (∀ b o, s.heap.get? b = some o → h'.get? b = some o) → Q (.ref s.heap.objs.size) { s with heap := h', toks := tk }) :
    wpAny (model Pg w) A (call (.type "set") [.ref l]) Q E s := by
  have isz : items.size = ks.length := by
    have := congrArg List.length hit
    rw [Array.length_toList, List.length_map] at this
    exact this
  obtain ⟨c0, tl0, way⟩ := PySem.F.called_set.mro
  have mkd := PySem.F.called_set.made
  have sub := PySem.F.called_set.sub
  refine wpAny_call (codeAny_of_tree (?_ : wpAny _ _ (callAny (.type "set") _) _ _ _))
  refine wpAny_pure ⟨Code.quiet_builtin _ (by decide +kernel), ?_⟩
  refine codeAny_builtin PySem.F.entry_type_call ?_
  rw [Around.under_plain (weight_type_call_type "set" [.ref l] []) rfl]
  have nt := PySem.F.called_set.notType
  have cc := PySem.F.called_set.canCreate
  have tc := PySem.F.typeCall_set_1 (.ref l)
  repeat (any_goals (first | assumption | wp_step))
  refine codeAny_mono (make_set1 (.ref l) (E := E) (Qm := fun ob s1 => ob = .ref s.heap.objs.size ∧ s1 = { s with heap := s.heap.push (newSet w) }) ⟨rfl, rfl⟩) fun r s1 hr => ?_
  cases r with
  | error e => exact hr
  | ok fl =>
    cases fl with
    | ret ob =>
      obtain ⟨rfl, rfl⟩ := hr
      have here : (s.heap.push (newSet w)).get? s.heap.objs.size = some (newSet w) := Heap.get?_push_size _ rfl
      have ty : Shared.TypeIs { s with heap := s.heap.push (newSet w) } (.ref s.heap.objs.size) "set" := ⟨_, here, rfl⟩
      have lk := PySem.F.called_set.init.lookup
      have bd := PySem.F.called_set.init.bind (.ref s.heap.objs.size)
      repeat (any_goals (first | assumption | wp_step))
      refine codeAny_mono (codeAny_call_builtin (R := wants (fun r s2 => r = .none ∧ ∃ h' tk L es ep t, s2 = { s with heap := h', toks := tk } ∧ SetW Pg w h' s.heap.objs.size L es ep t ∧ Got ks ks.length L ∧ ∀ b o, s.heap.get? b = some o → h'.get? b = some o) E)
        PySem.F.called_set.init.plain PySem.F.entry_set_init (check_set_init_1 ty ?_)) fun r2 s2 hr2 => ?_
      · have pushed := isl.push (newSet w)
        obtain ⟨ol, gl, cl, nl, dl⟩ := isl
        obtain ⟨oc, od, oa, os⟩ := ol
        simp only at cl dl
        subst cl; subst dl
        have gl2 : (s.heap.push (newSet w)).get? l = some { cls := .type "list", dict := od, data := .seq items nl, slots := os } := Heap.get?_push_of_some _ gl
        have n1 := PySem.F.sub_list_set
        have n2 := PySem.F.sub_list_frozenset
        have n3 : (Value.type "list" == Value.type "dict") = false := by decide
        unfold Builtin.«set.__init__» noKeywords Builtin.Frozenset.updateFrom
        generalize hPI : pyIter = PI
        wp_walk
        subst hPI
        refine wpAny_pyIter_list pushed (wpAny_bind (wpAny_runValue ?_))
        have lls : l < s.heap.objs.size := Heap.lt_size gl
        have sz : (s.heap.push (newSet w)).objs.size = s.heap.objs.size + 1 := Heap.size_push _ _
        have q3 : A.in1.in1.in1.handled = none := by simp [quiet]
        have apart : l ≠ (s.heap.push (newSet w)).objs.size := by rw [sz]; exact Nat.ne_of_lt (Nat.lt_succ_of_lt lls)
        have gone : ∀ b, s.heap.objs.size ≤ b → s.heap.get? b = none := fun b hb => by
          cases q : s.heap.get? b with
          | none => rfl
          | some o => exact absurd (Nat.lt_of_lt_of_le (Heap.lt_size q) hb) (Nat.lt_irrefl _)
        refine loopW ((Walks.list q3 _ l apart items).toS) s.heap.objs.size (fun hm => by
            rw [sz] at hm
            rcases List.mem_cons.mp hm with e | e
            · exact absurd e (Nat.ne_of_lt (Nat.lt_succ_self _))
            · exact absurd (List.mem_singleton.mp e) (Nat.ne_of_gt lls)) ks isz h4 (fun i v hv => ?hval) s.heap hk (gone _ (Nat.le_refl _)) (fun b hb => gone b (by rw [List.mem_singleton.mp hb, sz]; exact Nat.le_succ _)) hu
          (items.size - 0) 0 _ rfl (Nat.zero_le _) ⟨⟨_, Heap.get?_push_size _ rfl, rfl, rfl⟩, pushed.push _⟩ (fun b o e => Heap.get?_push_of_some _ (Heap.get?_push_of_some _ e)) ⟨[], #[], 0, _, setW_new (Heap.get?_push_of_some _ here), Got.zero ks⟩ fun s3 L es ep t mv hS g kp => ?hend
        case hval =>
          have q : items.toList[i]? = some v := by rw [Array.getElem?_toList]; exact hv
          rw [hit, List.getElem?_map] at q
          obtain ⟨p, h1, h2⟩ := Option.map_eq_some_iff.mp q
          exact ⟨p, h1, h2.symm⟩
        case hend =>
          obtain ⟨h3, g3, d3, t3, o3⟩ := s3
          obtain rfl : g3 = s.gens := mv.gens
          obtain rfl : d3 = s.drawn := mv.drawn
          obtain rfl : o3 = s.os := mv.os
          refine wpAny_pure ?_
          show wpAny _ _ (ret Value.none) _ _ _
          rw [isz] at g
          exact wpAny_pure ⟨rfl, h3, t3, L, es, ep, t, rfl, hS, g, kp⟩
      · cases r2 with
        | error e => exact hr2
        | ok fl2 =>
          cases fl2 with
          | ret r =>
            obtain ⟨rfl, h', tk, L, es, ep, t, rfl, hS, g, kp⟩ := hr2
            repeat (any_goals (first | assumption | wp_step))
            exact k _ _ _ _ _ _ hS g kp
          | _ => exact hr2.elim
    | _ => exact hr.elim
end
end DL
namespace L2
open PySem PySem.Spec PyProof.Rows
section
variable {P : Program} {w : World} {A : Around} {E : Value → Shared → Prop} {s : Shared} {a : Addr} {L : List (Addr × List Int)} {es : Array (Int × Value)} {ep : Nat} {t : SetTable}
theorem SetW.at_ (R : SetW P w s.heap a L es ep t) : SetAt s.heap a es ep t := by
  obtain ⟨o, ho, hex, hd⟩ := R.obj
  exact ⟨o, ho, hex.1, hd⟩
theorem iterW (R : SetW P w s.heap a L es ep t) {Q : Value → Shared → Prop} (hQ : ∀ s2 I, SetIt P w s a es s2 I → Q (.ref I) s2) : wpAny (model P w) A (pyIter (.ref a)) Q E s := by
  have at1 := R.at_
  have fts := R.fts
  obtain ⟨o, ho, hc, hd⟩ := id at1
  have ty : s.TypeIs (.ref a) "set" := ⟨o, ho, hc⟩
  have ne : a ≠ s.heap.objs.size := Nat.ne_of_lt (Heap.lt_size ho)
  have dr : (!t.plain && decide (es.size > 1)) = false := by rw [R.pln]; rfl
  refine wpAny_pyIter_slot ty F.slot_set_iter (wpAny_call_entry F.slot_set_iter ty entry_s_iter ?_ (F.args_set_iter_1 _))
  unfold Builtin.«frozenset.__iter__»
  refine wpAny_bind (m := Builtin.Frozenset.slot0 "__iter__" _) (wpAny_of_eq (a := a) (by rfl) ?_)
  refine wpAny_bind (m := Builtin.Frozenset.sizeOf a) ?_
  unfold Builtin.Frozenset.sizeOf
  refine wpAny_bind (wpAny_setEntries_of ho hd fts (wpAny_pure ?_))
  first | refine wpAny_bind (setDrawn_at at1 fts ?_) | refine wpAny_bind (wpAny_bind (setDrawn_at at1 fts ?_))
  rw [dr, Bool.and_false]
  refine wp_if_neg Bool.false_ne_true ?_
  first | refine wpAny_bind (wpAny_pure ?_) | refine wpAny_pure ?_
  refine wpAny_bind (wpAny_setEpoch_of ho hd fts ?_)
  refine wpAny_bind (wpAny_newObj_type (wpAny_pure ⟨_, rfl, "set_iterator", _, ⟨_, Heap.get?_push_size _ rfl, rfl⟩, slot_si_next.lookup, ?_⟩))
  have reach : ∀ b ∈ [s.heap.objs.size, a], b = a ∨ s.heap.objs.size ≤ b := fun b hb => by
    rcases List.mem_cons.mp hb with rfl | hb
    · exact .inr (Nat.le_refl _)
    · exact .inl (List.mem_singleton.mp hb)
  cases hb : w.params.followText "set-order" with
  | true =>
    refine hQ _ _ (SetIt.of (fun A' hA' => walks_text (P := P) (ep := ep) hA' ne fts hb) (out := (pickOrder (w.params.setOrder a ep) es).toList.map (·.2)) (by rw [List.length_map, Array.length_toList]) (fun b u e => Heap.get?_push_of_some _ e) rfl rfl rfl (Nat.le_refl _) reach ((pick_perm (w.params.setOrder a ep) es).map _)
      (fun j v q => by rw [List.getElem?_map, Array.getElem?_toList]; exact q) ⟨⟨_, Heap.get?_push_size _ rfl, rfl, rfl⟩, at1.at fun u e => Heap.get?_push_of_some _ e⟩)
  | false =>
    have led : t.led = true := R.ldd.resolve_left (by rw [hb]; exact Bool.false_ne_true)
    refine hQ _ _ (SetIt.of (fun A' hA' => walks_led (P := P) (ep := ep) hA' ne fts R.tb.up hb dr led) (out := es.toList.map (·.2)) (by rw [List.length_map, Array.length_toList]) (fun b u e => Heap.get?_push_of_some _ e) rfl rfl rfl (Nat.le_refl _) reach (List.Perm.refl _)
      (fun j v q => by rw [List.getElem?_map, Array.getElem?_toList]; exact q) ⟨⟨_, Heap.get?_push_size _ rfl, rfl, rfl⟩, at1.at fun u e => Heap.get?_push_of_some _ e⟩)
/-- its tuples, in some order, as a list -/
theorem gatherW (R : SetW P w s.heap a L es ep t) (hh : A.handled = none) {Q : List Value → Shared → Prop}
    (hQ : ∀ s2 out, (∀ b o, s.heap.get? b = some o → s2.heap.get? b = some o) → s.heap.objs.size ≤ s2.heap.objs.size → s2.gens = s.gens → s2.os = s.os → out.Perm (L.map fun p => Value.ref p.1) → Q out s2) : wpAny (model P w) A (collect (.ref a)) Q E s := by
  have hsl := sizeLine_eq
  have at1 := R.at_
  obtain ⟨o, ho, hc, hd⟩ := id at1
  have lt := Heap.lt_size ho
  have hperm : es.toList.map (·.2) = L.map fun p => Value.ref p.1 := by
    rw [R.rws, rowsOf, List.map_map]
    rfl
  generalize hN : s.heap.objs.size = N at hQ lt
  unfold collect
  refine wpAny_bind (wpAny_runValue (codeAny_builtin F.entry_proto_collect ?_))
  rw [Around.under_plainId F.plain_proto_collect _]
  show wpAny _ A.in1 (newList [] >>= fun l => again (.builtin "list.__iadd__" ⟨[l, .ref a], []⟩)) _ _ s
  refine wpAny_bind (wpAny_newObj_type (wpAny_pure ⟨plainId_quiet F.plain_list_iadd _, codeAny_builtin F.entry_list_iadd ?_⟩))
  rw [Around.under_plainId F.plain_list_iadd _, hN]
  have keep1 : ∀ b u, s.heap.get? b = some u → (s.heap.push { cls := .type "list", data := .seq ([] : List Value).toArray }).get? b = some u := fun b u e => Heap.get?_push_of_some _ e
  have new1 : (s.heap.push { cls := .type "list", data := .seq ([] : List Value).toArray }).get? N = some { cls := .type "list", data := .seq ([] : List Value).toArray } := by rw [← hN]; exact Heap.get?_push_size _ rfl
  have size1 : (s.heap.push { cls := .type "list", data := .seq ([] : List Value).toArray }).objs.size = N + 1 := by rw [size_push', hN]
  have R1 : SetW P w ({ s with heap := s.heap.push { cls := .type "list", data := .seq ([] : List Value).toArray } } : Shared).heap a L es ep t := R.hold (fun u e => keep1 a u e) fun p hp => isT_keep (R.tps p hp) keep1
  show wpAny _ A.in1 (Builtin.List.listExtendWith (.ref N) (.ref a) (.ref N)) _ _ _
  unfold Builtin.List.listExtendWith
  have ne : N ≠ a := Nat.ne_of_gt lt
  refine wpAny_bind (wpAny_typeOf (T := "set") ⟨o, keep1 a o ho, hc⟩ ?_)
  simp only [show Builtin.List.listSameRef (.ref N) (.ref a) = false by simp [Builtin.List.listSameRef, ne], show (Value.type "set" == Value.type "list") = false by decide, show (Value.type "set" == Value.type "tuple") = false by decide, Bool.or_false, Bool.false_eq_true, if_false]
  refine wpAny_bind (iterW R1 fun s2 I hit => ?_)
  obtain ⟨fp, St, out, Pv, k2, g2, o2, t2, hI, hfp, hp, hW, hPv, hst⟩ := hit
  have hI2 : N + 1 ≤ I := by rw [← size1]; exact hI
  have off : N ∉ fp := fun hm => by
    rcases hfp _ hm with z | z
    · exact ne z
    · have z : (s.heap.push { cls := .type "list", data := .seq ([] : List Value).toArray }).objs.size ≤ N := z
      omega
  have ty2 : s2.TypeIs (.ref a) "set" := ⟨o, k2 a o (keep1 a o ho), hc⟩
  refine wpAny_bind (wpAny_holding ?_)
  unfold Builtin.List.listLengthHint
  refine wpAny_bind (wpAny_specialOf ty2 F.slot_set_len.lookup ?_)
  (generalize hid : ("set.__len__" : String) = id0; (fail_if_success (clear hid id0)); wp_delta; rw [show splitId id0 = some ("set", "__len__") from by subst hid; decide +kernel]; subst hid)
  refine wpAny_bind (wpAny_isInstance (b := true) ty2 sub_set_self ?_)
  show wpAny _ A.in1 (typeOf (.ref a) >>= _) _ _ _
  refine wpAny_bind (wpAny_typeOf ty2 (wpAny_pure ?_))
  show wpAny _ A.in1 (rule "list.extend.makes-room" >>= fun _ => Builtin.List.listTouch (.ref N) >>= fun _ => again (.builtin "list.extend.loop" ⟨[.ref N, .ref I, .ref N], []⟩)) _ _ _
  refine wpAny_bind (wpAny_rule (wpAny_bind ?_))
  have l2 := k2 N _ new1
  show wpAny _ A.in1 (updateSeq N (·.push .none) >>= fun _ => updateSeq N (·.pop)) _ _ _
  refine wpAny_bind (wpAny_updateSeq l2 rfl ?_)
  have l3 := Heap.get?_update_self (Obj.mapSeq (·.push Value.none)) l2 rfl
  refine wpAny_updateSeq l3 rfl ?_
  have l4 := Heap.get?_update_self (Obj.mapSeq (·.pop)) l3 rfl
  have rest : ∀ b u, b ≠ N → s2.heap.get? b = some u → ((s2.heap.update N (Obj.mapSeq (·.push Value.none))).update N (Obj.mapSeq (·.pop))).get? b = some u := fun b u hb e =>
    (Heap.get?_update_other _ _ (Ne.symm hb)).trans ((Heap.get?_update_other _ _ (Ne.symm hb)).trans e)
  have few : out.length ≤ sizeLine := by
    rw [hp.length_eq, hperm, List.length_map]
    have := R.fw
    omega
  have W := hW A.in1 hh
  refine wpAny_pure ⟨plainId_quiet F.plain_extend_loop _, codeAny_extend_loopS W.toS few _ off _ out.length 0 _ _ _ rfl (Nat.zero_le _) (W.frame 0 _ _ hst fun b hb u e => rest b u (fun z => off (z ▸ hb)) e) l4 (ItemsOf.nil Pv) fun s3 acc c3 hm l5 hacc => ?_⟩
  show wpAny _ A (load N >>= _) _ _ s3
  refine wpAny_bind (wpAny_load l5 (wpAny_pure ?_))
  show Q acc.toList s3
  rw [items_out hacc hPv]
  refine hQ s3 out (fun b u e => ?_) (Nat.le_of_lt (Heap.lt_size l5)) (Eq.trans hm.gens g2) (Eq.trans hm.os o2) (by rw [← hperm]; exact hp)
  have hb : b < N := by rw [← hN]; exact Heap.lt_size e
  refine hm.heap b u (fun z => ?_) (rest b u (Nat.ne_of_lt hb) (k2 b u (keep1 b u e)))
  have z : b = N ∨ b = I := by
    rcases List.mem_cons.mp z with z | z
    · first | exact .inl z | exact .inr z
    · have z := List.mem_singleton.mp z
      first | exact .inr z | exact .inl z
  rcases z with z | z
  · rw [z] at hb
    exact absurd hb (Nat.lt_irrefl _)
  · rw [z] at hb
    exact absurd (Nat.lt_of_lt_of_le hb (Nat.le_of_succ_le hI2)) (Nat.lt_irrefl _)
end
end L2
namespace DL
open PySem PySem.Spec L2
open PyProof.Rows hiding St
/-- a tuple of whole numbers, as data -/
def tupI (z : List Int) : D := .tup (z.map .int)
theorem perm_map_inv {α β : Type} {f : α → β} : ∀ {out : List β} {L : List α}, out.Perm (L.map f) → ∃ L' : List α, L'.Perm L ∧ out = L'.map f
  | [], L, h => by
    have := h.length_eq
    rw [List.length_map] at this
    exact ⟨[], by rw [List.length_eq_zero_iff.mp this.symm], rfl⟩
  | o :: out, L, h => by
    obtain ⟨p, hp, rfl⟩ := List.mem_map.mp (h.mem_iff.mp (List.mem_cons_self))
    obtain ⟨l1, l2, rfl⟩ := List.append_of_mem hp
    have h2 : (f p :: out).Perm (f p :: (l1 ++ l2).map f) := h.trans (by rw [List.map_append, List.map_append, List.map_cons]; exact List.perm_middle)
    obtain ⟨L', h3, rfl⟩ := perm_map_inv (List.perm_cons _ |>.mp h2)
    exact ⟨p :: L', (h3.cons p).trans List.perm_middle.symm, rfl⟩
section
variable {K : PySem.W.Frag} {G : Hp}
theorem rpl_intsE : ∀ {z : List Int} {xs : List V}, RpL K G (z.map .int) xs → xs = z.map V.int
  | [], _, .nil => rfl
  | n :: z, _, .cons a b => by
    cases a
    rw [rpl_intsE b, List.map_cons]
theorem keys_of : ∀ {xs : List (List Int)} {vs : List V}, RpL K G (xs.map tupI) vs → ∃ ks : List (Addr × List Int), vs = ks.map (fun p => V.ref p.1) ∧ ks.map (·.2) = xs ∧ ∀ p ∈ ks, SqT K G p.1 (p.2.map V.int)
  | [], _, .nil => ⟨[], rfl, rfl, fun _ h => (by cases h)⟩
  | z :: xs, _, .cons a b => by
    obtain ⟨ks, rfl, h2, h3⟩ := keys_of b
    cases a with
    | tup h1 h4 =>
      rename_i a vs
      have := rpl_intsE h4
      subst this
      refine ⟨(a, z) :: ks, rfl, by rw [List.map_cons, h2], fun p hp => ?_⟩
      rcases List.mem_cons.mp hp with rfl | hp
      · exact h1
      · exact h3 p hp
theorem rp_tupI {a : Addr} {z : List Int} (h : SqT K G a (z.map V.int)) : Rp K G (tupI z) (.ref a) := .tup h (rpl_nums z)
end
theorem few_of {ks : List (Addr × List Int)} {Lm : List (List Int)} (h : ∀ z ∈ ks.map (·.2), z ∈ Lm) (hl : Lm.length ≤ 4096) : Few4 ks := fun L hn hs => by
  have : ∀ {l m : List (List Int)}, l.Nodup → (∀ x ∈ l, x ∈ m) → l.length ≤ m.length := fun {l} => by
    induction l with
    | nil => intro m _ _; exact Nat.zero_le _
    | cons a l ih =>
      intro m hn h
      obtain ⟨h1, h2⟩ := List.nodup_cons.mp hn
      have ha := h a (by simp)
      have := ih (m := m.erase a) h2 fun x hx => (List.mem_erase_of_ne (fun e => h1 (by rw [← e]; exact hx))).mpr (h x (by simp [hx]))
      rw [List.length_erase_of_mem ha] at this
      have : 0 < m.length := List.length_pos_of_mem ha
      simp only [List.length_cons]
      omega
  have q := this hn fun z hz => by
    obtain ⟨p, hp, rfl⟩ := List.mem_map.mp hz
    exact h _ (List.mem_map.mpr ⟨p, hs p hp, rfl⟩)
  rw [List.length_map] at q
  omega
theorem tups_sort (zs : List (List Int)) (hne : ∀ z ∈ zs, z ≠ []) : SortOk (zs.map tupI) := by
  have ok : ∀ ns : List Int, (ns.map D.int).all (okD 48) = true := fun ns => List.all_eq_true.mpr fun d hd => by
    obtain ⟨n, _, rfl⟩ := List.mem_map.mp hd
    rfl
  have al : ∀ ns ms : List Int, PySem.W.alikeAll (toPyL (ns.map D.int)) (toPyL (ms.map D.int)) = true := fun ns => by
    induction ns with
    | nil => intro ms; simp [toPyL, PySem.W.alikeAll]
    | cons a ns ih =>
      intro ms
      cases ms with
      | nil => simp [toPyL, PySem.W.alikeAll]
      | cons b ms => simp only [List.map_cons, toPyL, PySem.W.alikeAll, toPy, PySem.W.alike, ih ms, Bool.and_self]
  refine ⟨List.all_eq_true.mpr fun d hd => ?_, fun d hd e he => ?_, .inl fun d hd => ?_⟩
  · obtain ⟨m, _, rfl⟩ := List.mem_map.mp hd
    have h := ok m
    have h2 : ∀ x ∈ m.map D.int, okD 49 x = true := fun x hx => by
      obtain ⟨n, _, rfl⟩ := List.mem_map.mp hx
      rfl
    simp only [tupI, okD]
    exact List.all_eq_true.mpr h2
  · obtain ⟨m', hm', rfl⟩ := List.mem_map.mp hd
    obtain ⟨n', hn', rfl⟩ := List.mem_map.mp he
    obtain ⟨m, _, rfl⟩ := List.mem_map.mp hm'
    obtain ⟨n, _, rfl⟩ := List.mem_map.mp hn'
    simp only [tupI, toPy, PySem.W.alike, al]
  · obtain ⟨m', hm', rfl⟩ := List.mem_map.mp hd
    obtain ⟨m, hm, rfl⟩ := List.mem_map.mp hm'
    have := hne m hm
    cases m with
    | nil => exact absurd rfl this
    | cons a m => exact ⟨_, _, rfl⟩
section
variable {X : Cx}
/-- sorted(set(e)), e a list of tuples of whole numbers -/
def dSortedSetT (te : DE) : DE := fun δ C R => te δ C fun x C1 => ∃ xs Lm : List (List Int), lstOf C1 x = some (xs.map tupI) ∧ (∀ z ∈ xs, z ∈ Lm) ∧ Lm.length ≤ 4096 ∧ (∀ z ∈ xs, z ≠ []) ∧
  ∀ zs : List (List Int), zs.Nodup → (∀ z, z ∈ zs ↔ z ∈ xs) → R (.lst (sortD (zs.map tupI))) C1
/-- len(set(e)), e a list of tuples of whole numbers that differ -/
def dLenSetT (te : DE) : DE := fun δ C R => te δ C fun x C1 => ∃ xs : List (List Int), lstOf C1 x = some (xs.map tupI) ∧ xs.Nodup ∧ xs.length ≤ 4096 ∧ R (.int (xs.length : Nat)) C1
theorem got_keys {ks L : List (Addr × List Int)} (g : Got ks ks.length L) : ∀ z, z ∈ L.map (·.2) ↔ z ∈ ks.map (·.2) := fun z => by
  constructor
  · intro h
    obtain ⟨p, hp, rfl⟩ := List.mem_map.mp h
    exact List.mem_map.mpr ⟨p, List.mem_of_mem_take (g.sub p hp), rfl⟩
  · intro h
    obtain ⟨p, hp, rfl⟩ := List.mem_map.mp h
    exact g.all p (by rw [List.take_length]; exact hp)
/-- the set is made -/
theorem set_run {pins : List (Addr × Obj)} {s : Shared} {σ : St} {H : Hp} {F C : Cells} {G : Hp} {x : D} {v : V} {u : Value} {xs Lm : List (List Int)} {Q : Value → Shared → Prop} {E : Value → Shared → Prop} (hc : X.calm = true) (hu : X.A.units + 64 < cLine) (I : Inv X pins σ H s) (A : Ab X.K F G H C) (rx : Rp X.K G x v) (ru : RelV v u)
    (hl : lstOf C x = some (xs.map tupI)) (hm : ∀ z ∈ xs, z ∈ Lm) (hn : Lm.length ≤ 4096)
    (k : ∀ (ks L : List (Addr × List Int)) es ep t (s1 : Shared) (r : Addr), ks.map (·.2) = xs → (∀ p ∈ ks, SqT X.K G p.1 (p.2.map V.int)) → Inv X pins σ H s1 → SetW X.prog X.w s1.heap r L es ep t → Got ks ks.length L → Q (.ref r) s1) :
    wpAny (model X.prog X.w) X.A (call (.type "set") [u]) Q E s := by
  obtain ⟨a, as, rfl, ha, ra⟩ := lst_at A rx hl
  obtain ⟨ks, rfl, hks, hsq⟩ := keys_of ra
  obtain rfl : u = Value.ref a := ru
  obtain ⟨its, rv, pl, hz⟩ := I.list (.inl ha)
  refine setW_of ks (I.ok.hd hc) pl.isList (by simpa using refs_of_vals rv) (fun p hp => I.isT (sqT_mono A.sub (hsq p hp))) (few_of (by rw [hks]; exact hm) hn) (by omega) fun h' tk L es ep t hS g kp => ?_
  exact k ks L es ep t _ _ hks hsq (I.kept kp) hS g
theorem de_sortedSetT {e : Expr} {te : DE} {p0 p1 pos cpos : Pos} (hc : X.calm = true) (hu : X.A.units + 64 < cLine) (hg : Gl X "sorted") (hm : X.mg "sorted" = none) (hg2 : Gl X "set") (hm2 : X.mg "set" = none) (he : PE X e (liftE X.K te))
    (hs1 : starEach [e] X.env = (false, eval e X.env) :: starEach [] X.env := by rfl) :
    PE X (.Call (.Name "sorted" p0) [.Call (.Name "set" p1) [e] [] cpos] [] pos) (liftE X.K (dSortedSetT te)) := by
  refine ⟨fun pins s σ H Q I h => ?_⟩
  obtain ⟨F, G, δ, C, R, A, S, q, k⟩ := h
  refine Call_ (ld_blt I hg hm PyProof.Rows.boot_sorted ?_)
  refine PyProof.Rows.callWith_builtin1 (PyProof.Rows.args_cons ?_ rfl) rfl rfl
  refine Call_ (ld_blt I hg2 hm2 PyProof.Rows.boot_set ?_)
  refine PyProof.Rows.callWith_type1 (PyProof.Rows.args_cons (thn (he.run pins s σ H (fun v H1 => ∃ G1 C1 x, Same G G1 ∧ Ab X.K F G1 H1 C1 ∧ Rp X.K G1 x v ∧ _) I ⟨F, G, δ, C, _, A, S, q, fun x C1 hx v H1 G1 sm A1 r1 => ⟨G1, C1, x, sm, A1, r1, hx⟩⟩) fun u s1 ⟨v, H1, I1, ru, G1, C1, x, sm, A1, r1, xs, Lm, hl, hm4, hn4, hne, q1⟩ => PyProof.Rows.args_nil ?_) hs1) hs1 rfl
  refine set_run hc hu I1 A1 r1 ru hl hm4 hn4 fun ks L es ep t s2 r hks hsq I2 hS g => PyProof.Rows.args_nil ?_
  refine sorted_src (gatherW (A := X.A.in1) hS (by show X.A.handled = none; exact I2.ok.hd hc) fun s3 out kk sz gg oo pm => ?_)
  have I3 : Inv X pins σ H1 s3 := I2.call' (ch := []) oo (Un.kept kk) (I2.hok.kept kk) (by rw [gg]; exact I2.bare) (fun _ z => nomatch z)
  obtain ⟨L', p', rfl⟩ := perm_map_inv pm
  have hd : ∀ z, z ∈ L'.map (·.2) ↔ z ∈ xs := fun z => ((p'.map (·.2)).mem_iff).trans ((got_keys g z).trans (by rw [hks]))
  have nd : (L'.map (·.2)).Nodup := (p'.map (·.2)).nodup_iff.mpr hS.nd
  have hlen : L'.length ≤ 4096 := by rw [p'.length_eq]; exact hS.fw
  have e : PySem.W.EachIs (Rv X.K G1) (L'.map fun p => Value.ref p.1) ((L'.map (·.2)).map tupI) := each_at (by simp) fun i u hi => by
    rw [List.getElem?_map] at hi
    obtain ⟨p, h1, rfl⟩ := Option.map_eq_some_iff.mp hi
    have hp : p ∈ ks := List.mem_of_mem_take (g.sub p (p'.mem_iff.mp (List.mem_of_getElem? h1)))
    exact ⟨tupI p.2, by rw [List.getElem?_map, List.getElem?_map, h1]; rfl, .ref p.1, rp_tupI (hsq p hp), rfl⟩
  exact gathered_data hu I3 A1 e (tups_sort _ fun z hz => hne z ((hd z).mp hz)) (by rw [List.length_map, List.length_map, sizeLine_eq]; omega) (q1 _ nd hd) fun d C2 hr v2 H2 G2 s2 A2 r2 => k d C2 hr v2 H2 G2 (sm.trans s2) A2 r2
theorem de_lenSetT {e : Expr} {te : DE} {p0 p1 pos cpos : Pos} (hc : X.calm = true) (hu : X.A.units + 64 < cLine) (hg : Gl X "len") (hm : X.mg "len" = none) (hg2 : Gl X "set") (hm2 : X.mg "set" = none) (he : PE X e (liftE X.K te))
    (hs1 : starEach [e] X.env = (false, eval e X.env) :: starEach [] X.env := by rfl) :
    PE X (.Call (.Name "len" p0) [.Call (.Name "set" p1) [e] [] cpos] [] pos) (liftE X.K (dLenSetT te)) := by
  refine ⟨fun pins s σ H Q I h => ?_⟩
  obtain ⟨F, G, δ, C, R, A, S, q, k⟩ := h
  refine Call_ (ld_blt I hg hm PySem.boot_len ?_)
  refine PyProof.Rows.callWith_builtin1 (PyProof.Rows.args_cons ?_ rfl) rfl rfl
  refine Call_ (ld_blt I hg2 hm2 PyProof.Rows.boot_set ?_)
  refine PyProof.Rows.callWith_type1 (PyProof.Rows.args_cons (thn (he.run pins s σ H (fun v H1 => ∃ G1 C1 x, Same G G1 ∧ Ab X.K F G1 H1 C1 ∧ Rp X.K G1 x v ∧ _) I ⟨F, G, δ, C, _, A, S, q, fun x C1 hx v H1 G1 sm A1 r1 => ⟨G1, C1, x, sm, A1, r1, hx⟩⟩) fun u s1 ⟨v, H1, I1, ru, G1, C1, x, sm, A1, r1, xs, hl, hnd, hn4, q1⟩ => PyProof.Rows.args_nil ?_) hs1) hs1 rfl
  refine set_run hc hu I1 A1 r1 ru hl (Lm := xs) (fun _ h => h) hn4 fun ks L es ep t s2 r hks hsq I2 hS g => PyProof.Rows.args_nil ?_
  obtain ⟨o, ho, hex, hd⟩ := id hS.at_
  obtain ⟨o', ho', hex2, hd'⟩ := hS.obj
  have eo : o' = o := by rw [ho] at ho'; exact (Option.some.inj ho').symm
  subst eo
  have pm : (L.map (·.2)).Perm xs := (List.perm_ext_iff_of_nodup hS.nd hnd).mpr fun z => (got_keys g z).trans (by rw [hks])
  have hln : es.size = xs.length := by rw [rows_len hS.rws, ← pm.length_eq, List.length_map]
  refine call_len_set ho hex2 hd hS.fts (by rw [hln] <;> omega) ⟨.int (xs.length : Nat), H1, I2.tok _, ⟨_, by rw [hln]⟩, k _ _ q1 _ H1 G1 sm A1 (.int _)⟩
end
end DL
namespace RR
open PySem PySem.Spec L2 DL
open PyProof.Rows hiding St
def t__law_row : DS := dSeq (dAsg (dC (.int 7)) (gdName 1)) (dSeq (dFor (diSeq (dVar 0)) (gdName 2) (dAsg (dOp oMod (dOp oAdd (dOp oAdd (dOp oMul (dVar 1) (dC (.int 48271))) (dVar 2)) (dC (.int 11))) (dC (.int 2147483647))) (gdName 1))) (dRet (dLstC (dCons (dVar 0) (dCons (dC (.int 0)) (dCons (dC (.int 0)) (dCons (dVar 1) (dNil))))))))
def t__law_taken : DS := dSeq (dIfS (dTest (dOp oGt (dOp oIx (dVar 0) (dC (.int 2))) (dC (.int 0)))) (dSeq (dAsg (dOp oMod (dOp oIx (dVar 0) (dC (.int 2))) (dVar 1)) (gdName 2)) (dSeq (dAsg (dOp oDiv (dOp oIx (dVar 0) (dC (.int 2))) (dVar 1)) (gdSubL (dVar 0) (dC (.int 2)))) (dRet (dVar 2)))) (dNext)) (dSeq (dIfS (dTest (dOp oLt (dOp oIx (dVar 0) (dC (.int 1))) (dFn oLen (dCons (dOp oIx (dVar 0) (dC (.int 0))) (dNil))))) (dSeq (dAsg (dOp oIx (dOp oIx (dVar 0) (dC (.int 0))) (dOp oIx (dVar 0) (dC (.int 1)))) (gdName 3)) (dSeq (dAsg (dOp oAdd (dOp oIx (dVar 0) (dC (.int 1))) (dC (.int 1))) (gdSubL (dVar 0) (dC (.int 1)))) (dSeq (dIfS (dTest (dOp oGe (dVar 3) (dOp oPow (dC (.int 10)) (dC (.int 18))))) (dAsg (dOp oDiv (dVar 3) (dVar 1)) (gdSubL (dVar 0) (dC (.int 2)))) (dNext)) (dRet (dOp oMod (dVar 3) (dVar 1)))))) (dNext)) (dSeq (dAsg (dOp oMod (dOp oAdd (dOp oMul (dOp oIx (dVar 0) (dC (.int 3))) (dC (.int 48271))) (dC (.int 12345))) (dC (.int 2147483647))) (gdSubL (dVar 0) (dC (.int 3)))) (dRet (dOp oMod (dOp oDiv (dOp oIx (dVar 0) (dC (.int 3))) (dC (.int 1009))) (dVar 1)))))
def t__law_worth (a__law_taken : ASp) : DS := dRet (dOp oIx (dLst (dCons (dC (.str "a")) (dCons (dC (.str "b")) (dCons (dC (.int 0)) (dCons (dC (.int 1)) (dCons (dC (.int 2)) (dCons (dC (.str "c")) (dCons (dC (.int 99)) (dCons (dOp oSub (dC (.int 0)) (dC (.int 99))) (dNil)))))))))) (dOp oIx (dLst (dCons (dC (.int 0)) (dCons (dC (.int 1)) (dCons (dC (.int 2)) (dCons (dC (.int 3)) (dCons (dC (.int 4)) (dCons (dC (.int 0)) (dCons (dC (.int 1)) (dCons (dC (.int 2)) (dCons (dC (.int 3)) (dCons (dC (.int 5)) (dCons (dC (.int 6)) (dCons (dC (.int 7)) (dNil)))))))))))))) (dCall a__law_taken [] (dCons (dVar 0) (dCons (dC (.int 12)) (dNil))))))
def t__law_pattern (a__law_taken : ASp) (a__law_worth : ASp) : DS := dSeq (dAsg (dTup (dCons (dOp oIx (dLst (dCons (dC (.str "on")) (dCons (dC (.str "is")) (dCons (dC (.str "big")) (dNil))))) (dCall a__law_taken [] (dCons (dVar 0) (dCons (dC (.int 3)) (dNil))))) (dNil))) (gdName 2)) (dSeq (dFor (diRng1 (dCons (dOp oIx (dLst (dCons (dC (.int 1)) (dCons (dC (.int 2)) (dCons (dC (.int 2)) (dCons (dC (.int 0)) (dCons (dC (.int 4)) (dNil))))))) (dCall a__law_taken [] (dCons (dVar 0) (dCons (dC (.int 5)) (dNil))))) (dNil))) (gdName 3) (dSeq (dAsg (dLst (dCons (dCall a__law_worth [] (dCons (dVar 0) (dNil))) (dCons (dC (.str "_")) (dCons (dOp oIx (dVar 1) (dCall a__law_taken [] (dCons (dVar 0) (dCons (dC (.int 3)) (dNil))))) (dCons (dOp oIx (dVar 1) (dCall a__law_taken [] (dCons (dVar 0) (dCons (dC (.int 2)) (dNil))))) (dNil)))))) (gdName 4)) (dAsg (dOp oAdd (dVar 2) (dTup (dCons (dOp oIx (dVar 4) (dCall a__law_taken [] (dCons (dVar 0) (dCons (dC (.int 4)) (dNil))))) (dNil)))) (gdName 2)))) (dRet (dVar 2)))
def t__law_letters : DS := dRet (dLc (diSeq (dSlice (dVar 0) (dPart (dC (.int 1))) (dNoPart))) (gdName 1) (dAnd (dTest (dFn oIsi (dCons (dVar 1) (dCons (dC (.ty "str")) (dNil))))) (dAnd (dTest (dChain oLe oLe (dC (.str "A")) (dVar 1) (dC (.str "Z")))) (dTest (dOp oEq (dFn oLen (dCons (dVar 1) (dNil))) (dC (.int 1)))))) (dVar 1) [1])
def t__law_template (a__law_taken : ASp) (a__law_worth : ASp) : DS := dSeq (dAsg (dTup (dCons (dOp oIx (dLst (dCons (dC (.str "on")) (dCons (dC (.str "is")) (dCons (dC (.str "big")) (dNil))))) (dCall a__law_taken [] (dCons (dVar 0) (dCons (dC (.int 3)) (dNil))))) (dNil))) (gdName 2)) (dSeq (dFor (diRng1 (dCons (dOp oIx (dLst (dCons (dC (.int 1)) (dCons (dC (.int 2)) (dCons (dC (.int 2)) (dCons (dC (.int 0)) (dNil)))))) (dCall a__law_taken [] (dCons (dVar 0) (dCons (dC (.int 4)) (dNil))))) (dNil))) (gdName 3) (dSeq (dAsg (dCall a__law_worth [] (dCons (dVar 0) (dNil))) (gdName 4)) (dSeq (dIfS (dAnd (dTest (dOp oNe (dVar 1) (dLst (dNil)))) (dTest (dOp oGt (dCall a__law_taken [] (dCons (dVar 0) (dCons (dC (.int 3)) (dNil)))) (dC (.int 0))))) (dSeq (dAsg (dOp oIx (dVar 1) (dCall a__law_taken [] (dCons (dVar 0) (dCons (dFn oLen (dCons (dVar 1) (dNil))) (dNil))))) (gdName 4)) (dIfS (dTest (dOp oEq (dCall a__law_taken [] (dCons (dVar 0) (dCons (dC (.int 3)) (dNil)))) (dC (.int 0)))) (dAsg (dTup (dCons (dVar 4) (dCons (dOp oIx (dLst (dCons (dC (.int 1)) (dCons (dOp oSub (dC (.int 0)) (dC (.int 1))) (dCons (dC (.int 0)) (dCons (dC (.int 50)) (dNil)))))) (dCall a__law_taken [] (dCons (dVar 0) (dCons (dC (.int 4)) (dNil))))) (dNil)))) (gdName 4)) (dNext))) (dNext)) (dAsg (dOp oAdd (dVar 2) (dTup (dCons (dVar 4) (dNil)))) (gdName 2))))) (dRet (dVar 2)))
def t__law_rule (a__law_taken : ASp) (a__law_pattern : ASp) (a__law_letters : ASp) (a__law_worth : ASp) (a__law_template : ASp) : DS := dSeq (dAsg (dTup (dCons (dLst (dNil)) (dCons (dLstC (dNil)) (dNil)))) (gdTup 2 (gdCons (gdName 2) (gdCons (gdName 3) (gdNil))))) (dSeq (dFor (diRng1 (dCons (dOp oIx (dLst (dCons (dC (.int 1)) (dCons (dC (.int 2)) (dCons (dC (.int 2)) (dCons (dC (.int 3)) (dCons (dC (.int 4)) (dNil))))))) (dCall a__law_taken [] (dCons (dVar 0) (dCons (dC (.int 5)) (dNil))))) (dNil))) (gdName 4) (dSeq (dAsg (dIf (dTest (dOp oGt (dVar 4) (dC (.int 0)))) (dCall a__law_taken [] (dCons (dVar 0) (dCons (dC (.int 8)) (dNil)))) (dC (.int 0))) (gdName 5)) (dIfS (dOr (dTest (dOp oLt (dVar 5) (dC (.int 4)))) (dAnd (dTest (dOp oGt (dVar 5) (dC (.int 5)))) (dTest (dOp oEq (dVar 2) (dLst (dNil)))))) (dSeq (dDrop (dMtL omAppend (dVar 3) (dCons (dTup (dCons (dC (.str "is")) (dCons (dCall a__law_pattern [] (dCons (dVar 0) (dCons (dC (.str "XYZ")) (dNil)))) (dNil)))) (dNil)))) (dAsg (dOp oAdd (dVar 2) (dCall a__law_letters [] (dCons (dOp oIx (dOp oIx (dVar 3) (dUn oNeg (dC (.int 1)))) (dC (.int 1))) (dNil)))) (gdName 2))) (dIfS (dTest (dOp oLt (dVar 5) (dC (.int 6)))) (dDrop (dMtL omAppend (dVar 3) (dCons (dTup (dCons (dC (.str "not")) (dCons (dCall a__law_pattern [] (dCons (dVar 0) (dCons (dC (.str "XYW")) (dNil)))) (dNil)))) (dNil)))) (dSeq (dAsg (dOp oIx (dVar 2) (dCall a__law_taken [] (dCons (dVar 0) (dCons (dFn oLen (dCons (dVar 2) (dNil))) (dNil))))) (gdName 6)) (dSeq (dAsg (dOp oIx (dLst (dCons (dCall a__law_worth [] (dCons (dVar 0) (dNil))) (dCons (dOp oIx (dVar 2) (dCall a__law_taken [] (dCons (dVar 0) (dCons (dFn oLen (dCons (dVar 2) (dNil))) (dNil))))) (dNil)))) (dCall a__law_taken [] (dCons (dVar 0) (dCons (dC (.int 2)) (dNil))))) (gdName 7)) (dSeq (dAsg (dIf (dTest (dOp oEq (dCall a__law_taken [] (dCons (dVar 0) (dCons (dC (.int 2)) (dNil)))) (dC (.int 0)))) (dTup (dCons (dVar 6) (dCons (dVar 7) (dNil)))) (dTup (dCons (dVar 7) (dCons (dVar 6) (dNil))))) (gdName 8)) (dDrop (dMtL omAppend (dVar 3) (dCons (dOp oAdd (dTup (dCons (dOp oIx (dLst (dCons (dC (.str "less")) (dCons (dC (.str "same")) (dCons (dC (.str "unlike")) (dNil))))) (dCall a__law_taken [] (dCons (dVar 0) (dCons (dC (.int 3)) (dNil))))) (dNil))) (dVar 8)) (dNil))))))))))) (dSeq (dAsg (dLc (diRng1 (dCons (dFn oLen (dCons (dVar 3) (dNil))) (dNil))) (gdName 4) (dTest (dOp oEq (dOp oIx (dOp oIx (dVar 3) (dVar 4)) (dC (.int 0))) (dC (.str "is")))) (dVar 4) [4]) (gdName 9)) (dSeq (dAsg (dLstC (dNil)) (gdName 10)) (dSeq (dFor (diRng1 (dCons (dOp oIx (dLst (dCons (dC (.int 1)) (dCons (dC (.int 1)) (dCons (dC (.int 2)) (dCons (dC (.int 3)) (dNil)))))) (dCall a__law_taken [] (dCons (dVar 0) (dCons (dC (.int 4)) (dNil))))) (dNil))) (gdName 4) (dSeq (dAsg (dCall a__law_taken [] (dCons (dVar 0) (dCons (dC (.int 8)) (dNil)))) (gdName 5)) (dIfS (dTest (dOp oEq (dVar 5) (dC (.int 0)))) (dDrop (dMtL omAppend (dVar 10) (dCons (dTup (dCons (dC (.str "take")) (dCons (dOp oIx (dVar 9) (dCall a__law_taken [] (dCons (dVar 0) (dCons (dFn oLen (dCons (dVar 9) (dNil))) (dNil))))) (dNil)))) (dNil)))) (dDrop (dMtL omAppend (dVar 10) (dCons (dTup (dCons (dOp oIx (dLst (dCons (dC (.str "say")) (dCons (dC (.str "add")) (dCons (dC (.str "add")) (dCons (dC (.str "hold")) (dCons (dC (.str "hold")) (dCons (dC (.str "hold")) (dCons (dC (.str "hold")) (dNil))))))))) (dOp oSub (dVar 5) (dC (.int 1)))) (dCons (dCall a__law_template [] (dCons (dVar 0) (dCons (dVar 2) (dNil)))) (dNil)))) (dNil))))))) (dRet (dTup (dCons (dVar 1) (dCons (dOp oSub (dCall a__law_taken [] (dCons (dVar 0) (dCons (dC (.int 3)) (dNil)))) (dC (.int 1))) (dCons (dFn oTuple (dCons (dVar 3) (dNil))) (dCons (dFn oTuple (dCons (dVar 10) (dNil))) (dNil)))))))))))
def t_is_word : DS := dSeq (dIfS (dOr (dNot (dTest (dFn oIsi (dCons (dVar 0) (dCons (dC (.ty "str")) (dNil)))))) (dNot (dTest (dChain oLe oLe (dC (.int 1)) (dFn oLen (dCons (dVar 0) (dNil))) (dC (.int 4)))))) (dRet (dC (.bl false))) (dNext)) (dRet (dFn oAll (dCons (dLc (diSeq (dVar 0)) (gdName 1) (dYes) (dOp oIn (dVar 1) (dC (.str "abcdefghijklmnopqrstuvwxyz"))) [1]) (dNil))))
def t_is_number : DS := dRet (dAndV (dFn oIsi (dCons (dVar 0) (dCons (dC (.ty "int")) (dNil)))) (dAndV (dNotV (dFn oIsi (dCons (dVar 0) (dCons (dC (.ty "bool")) (dNil))))) (dChain oLe oLe (dVar 1) (dVar 0) (dVar 2))))
def t_is_worth (a_is_word : ASp) (a_is_number : ASp) : DS := dRet (dOrV (dCall a_is_word [] (dCons (dVar 0) (dNil))) (dCall a_is_number [] (dCons (dVar 0) (dCons (dOp oSub (dC (.int 0)) (dC (.int 99))) (dCons (dC (.int 99)) (dNil))))))
def t_is_blank : DS := dRet (dAndV (dFn oIsi (dCons (dVar 0) (dCons (dC (.ty "str")) (dNil)))) (dAndV (dOp oEq (dFn oLen (dCons (dVar 0) (dNil))) (dC (.int 1))) (dOp oIn (dVar 0) (dC (.str "ABCDEFGHIJKLMNOPQRSTUVWXYZ")))))
def t_is_pattern (a_is_word : ASp) (a_is_worth : ASp) (a_is_blank : ASp) : DS := dSeq (dIfS (dOr (dNot (dTest (dFn oIsi (dCons (dVar 0) (dCons (dC (.ty "tuple")) (dNil)))))) (dOr (dNot (dTest (dChain oLe oLe (dC (.int 1)) (dFn oLen (dCons (dVar 0) (dNil))) (dC (.int 5))))) (dNot (dTest (dCall a_is_word [] (dCons (dOp oIx (dVar 0) (dC (.int 0))) (dNil))))))) (dRet (dC (.bl false))) (dNext)) (dRet (dFn oAll (dCons (dLc (diSeq (dSlice (dVar 0) (dPart (dC (.int 1))) (dNoPart))) (gdName 1) (dYes) (dOrV (dCall a_is_worth [] (dCons (dVar 1) (dNil))) (dOrV (dCall a_is_blank [] (dCons (dVar 1) (dNil))) (dAndV (dFn oIsi (dCons (dVar 1) (dCons (dC (.ty "str")) (dNil)))) (dOp oEq (dVar 1) (dC (.str "_")))))) [1]) (dNil))))
def t_is_side (a_is_worth : ASp) (a_is_blank : ASp) : DS := dRet (dOrV (dCall a_is_worth [] (dCons (dVar 0) (dNil))) (dAndV (dCall a_is_blank [] (dCons (dVar 0) (dNil))) (dOp oIn (dVar 0) (dVar 1))))
def t_is_want (a_is_pattern : ASp) (a_is_side : ASp) : DS := dSeq (dIfS (dOr (dNot (dTest (dFn oIsi (dCons (dVar 0) (dCons (dC (.ty "tuple")) (dNil)))))) (dOr (dTest (dOp oEq (dVar 0) (dTup (dNil)))) (dNot (dTest (dFn oIsi (dCons (dOp oIx (dVar 0) (dC (.int 0))) (dCons (dC (.ty "str")) (dNil)))))))) (dRet (dC (.bl false))) (dNext)) (dSeq (dIfS (dTest (dOp oIn (dOp oIx (dVar 0) (dC (.int 0))) (dTup (dCons (dC (.str "is")) (dCons (dC (.str "not")) (dNil)))))) (dRet (dAndV (dOp oEq (dFn oLen (dCons (dVar 0) (dNil))) (dC (.int 2))) (dCall a_is_pattern [] (dCons (dOp oIx (dVar 0) (dC (.int 1))) (dNil))))) (dNext)) (dRet (dAndV (dOp oIn (dOp oIx (dVar 0) (dC (.int 0))) (dC (.tup [(.str "less"), (.str "same"), (.str "unlike")]))) (dAndV (dOp oEq (dFn oLen (dCons (dVar 0) (dNil))) (dC (.int 3))) (dFn oAll (dCons (dLc (diSeq (dSlice (dVar 0) (dPart (dC (.int 1))) (dNoPart))) (gdName 2) (dYes) (dCall a_is_side [] (dCons (dVar 2) (dCons (dVar 1) (dNil)))) [2]) (dNil)))))))
def t_blanks_of (a_is_blank : ASp) : DS := dRet (dLc (diSeq (dSlice (dVar 0) (dPart (dC (.int 1))) (dNoPart))) (gdName 1) (dTest (dCall a_is_blank [] (dCons (dVar 1) (dNil)))) (dVar 1) [1])
def t_is_template (a_is_word : ASp) (a_is_blank : ASp) (a_is_number : ASp) (a_is_side : ASp) : DS := dSeq (dIfS (dOr (dNot (dTest (dFn oIsi (dCons (dVar 0) (dCons (dC (.ty "tuple")) (dNil)))))) (dOr (dNot (dTest (dChain oLe oLe (dC (.int 1)) (dFn oLen (dCons (dVar 0) (dNil))) (dC (.int 5))))) (dNot (dTest (dCall a_is_word [] (dCons (dOp oIx (dVar 0) (dC (.int 0))) (dNil))))))) (dRet (dC (.bl false))) (dNext)) (dSeq (dFor (diSeq (dSlice (dVar 0) (dPart (dC (.int 1))) (dNoPart))) (gdName 2) (dIfS (dTest (dFn oIsi (dCons (dVar 2) (dCons (dC (.ty "tuple")) (dNil))))) (dSeq (dIfS (dOr (dTest (dOp oNe (dFn oLen (dCons (dVar 2) (dNil))) (dC (.int 2)))) (dOr (dNot (dTest (dCall a_is_blank [] (dCons (dOp oIx (dVar 2) (dC (.int 0))) (dNil))))) (dTest (dOp oNotIn (dOp oIx (dVar 2) (dC (.int 0))) (dVar 1))))) (dRet (dC (.bl false))) (dNext)) (dIfS (dNot (dTest (dCall a_is_number [] (dCons (dOp oIx (dVar 2) (dC (.int 1))) (dCons (dOp oSub (dC (.int 0)) (dC (.int 99))) (dCons (dC (.int 99)) (dNil))))))) (dRet (dC (.bl false))) (dNext))) (dIfS (dNot (dTest (dCall a_is_side [] (dCons (dVar 2) (dCons (dVar 1) (dNil)))))) (dRet (dC (.bl false))) (dNext)))) (dRet (dC (.bl true))))
def t_is_deed (a_is_number : ASp) (a_is_template : ASp) : DS := dSeq (dIfS (dOr (dNot (dTest (dFn oIsi (dCons (dVar 0) (dCons (dC (.ty "tuple")) (dNil)))))) (dOr (dTest (dOp oNe (dFn oLen (dCons (dVar 0) (dNil))) (dC (.int 2)))) (dNot (dTest (dFn oIsi (dCons (dOp oIx (dVar 0) (dC (.int 0))) (dCons (dC (.ty "str")) (dNil)))))))) (dRet (dC (.bl false))) (dNext)) (dSeq (dIfS (dTest (dOp oEq (dOp oIx (dVar 0) (dC (.int 0))) (dC (.str "take")))) (dRet (dAndV (dCall a_is_number [] (dCons (dOp oIx (dVar 0) (dC (.int 1))) (dCons (dC (.int 0)) (dCons (dOp oSub (dFn oLen (dCons (dVar 1) (dNil))) (dC (.int 1))) (dNil))))) (dOp oEq (dOp oIx (dOp oIx (dVar 1) (dOp oIx (dVar 0) (dC (.int 1)))) (dC (.int 0))) (dC (.str "is"))))) (dNext)) (dRet (dAndV (dOp oIn (dOp oIx (dVar 0) (dC (.int 0))) (dC (.tup [(.str "add"), (.str "hold"), (.str "say")]))) (dCall a_is_template [] (dCons (dOp oIx (dVar 0) (dC (.int 1))) (dCons (dVar 2) (dNil)))))))
def t_bad_part (a_is_word : ASp) (a_is_number : ASp) (a_is_want : ASp) (a_blanks_of : ASp) (a_is_deed : ASp) : DS := dSeq (dIfS (dOr (dNot (dTest (dFn oIsi (dCons (dVar 0) (dCons (dC (.ty "tuple")) (dNil)))))) (dTest (dOp oNe (dFn oLen (dCons (dVar 0) (dNil))) (dC (.int 4))))) (dRet (dUn oNeg (dC (.int 1)))) (dNext)) (dSeq (dAsg (dVar 0) (gdTup 4 (gdCons (gdName 2) (gdCons (gdName 3) (gdCons (gdName 4) (gdCons (gdName 5) (gdNil))))))) (dSeq (dIfS (dOr (dNot (dTest (dCall a_is_word [] (dCons (dVar 2) (dNil))))) (dTest (dOp oIn (dVar 2) (dVar 1)))) (dRet (dC (.int 0))) (dNext)) (dSeq (dIfS (dNot (dTest (dCall a_is_number [] (dCons (dVar 3) (dCons (dOp oSub (dC (.int 0)) (dC (.int 9))) (dCons (dC (.int 9)) (dNil))))))) (dRet (dC (.int 1))) (dNext)) (dSeq (dIfS (dOr (dNot (dTest (dFn oIsi (dCons (dVar 4) (dCons (dC (.ty "tuple")) (dNil)))))) (dNot (dTest (dChain oLe oLe (dC (.int 1)) (dFn oLen (dCons (dVar 4) (dNil))) (dC (.int 5)))))) (dRet (dC (.int 2))) (dNext)) (dSeq (dAsg (dLstC (dNil)) (gdName 6)) (dSeq (dFor (diEnum (dCons (dVar 4) (dNil))) (gdTup 2 (gdCons (gdName 7) (gdCons (gdName 8) (gdNil)))) (dSeq (dIfS (dOr (dNot (dTest (dCall a_is_want [] (dCons (dVar 8) (dCons (dVar 6) (dNil)))))) (dAnd (dTest (dOp oEq (dVar 7) (dC (.int 0)))) (dTest (dOp oNe (dOp oIx (dVar 8) (dC (.int 0))) (dC (.str "is")))))) (dRet (dC (.int 2))) (dNext)) (dDrop (dMtL omExtend (dVar 6) (dCons (dIf (dTest (dOp oEq (dOp oIx (dVar 8) (dC (.int 0))) (dC (.str "is")))) (dCall a_blanks_of [] (dCons (dOp oIx (dVar 8) (dC (.int 1))) (dNil))) (dLst (dNil))) (dNil)))))) (dSeq (dIfS (dOr (dNot (dTest (dFn oIsi (dCons (dVar 5) (dCons (dC (.ty "tuple")) (dNil)))))) (dNot (dTest (dChain oLe oLe (dC (.int 1)) (dFn oLen (dCons (dVar 5) (dNil))) (dC (.int 4)))))) (dRet (dC (.int 3))) (dNext)) (dRet (dIf (dTest (dFn oAll (dCons (dLc (diSeq (dVar 5)) (gdName 9) (dYes) (dCall a_is_deed [] (dCons (dVar 9) (dCons (dVar 4) (dCons (dVar 6) (dNil))))) [9]) (dNil)))) (dC .non) (dC (.int 3)))))))))))
def t_need_rules (a_bad_part : ASp) : DS := dSeq (dIfS (dOr (dNot (dTest (dFn oIsi (dCons (dVar 0) (dCons (dC (.ty "tuple")) (dNil)))))) (dTest (dOp oEq (dVar 0) (dTup (dNil))))) (dNever) (dNext)) (dSeq (dAsg (dLstC (dNil)) (gdName 1)) (dFor (diEnum (dCons (dVar 0) (dNil))) (gdTup 2 (gdCons (gdName 2) (gdCons (gdName 3) (gdNil)))) (dSeq (dAsg (dIf (dTest (dOp oEq (dVar 2) (dC (.int 8)))) (dUn oNeg (dC (.int 1))) (dCall a_bad_part [] (dCons (dVar 3) (dCons (dVar 1) (dNil))))) (gdName 4)) (dSeq (dIfS (dTest (dOp oIsNot (dVar 4) (dC .non))) (dNever) (dNext)) (dDrop (dMtL omAppend (dVar 1) (dCons (dOp oIx (dVar 3) (dC (.int 0))) (dNil))))))))
def t_is_thing (a_is_word : ASp) (a_is_worth : ASp) : DS := dSeq (dIfS (dOr (dNot (dTest (dFn oIsi (dCons (dVar 0) (dCons (dC (.ty "tuple")) (dNil)))))) (dOr (dNot (dTest (dChain oLe oLe (dC (.int 1)) (dFn oLen (dCons (dVar 0) (dNil))) (dC (.int 5))))) (dNot (dTest (dCall a_is_word [] (dCons (dOp oIx (dVar 0) (dC (.int 0))) (dNil))))))) (dRet (dC (.bl false))) (dNext)) (dRet (dFn oAll (dCons (dLc (diSeq (dSlice (dVar 0) (dPart (dC (.int 1))) (dNoPart))) (gdName 1) (dYes) (dCall a_is_worth [] (dCons (dVar 1) (dNil))) [1]) (dNil))))
def t_is_alike : DS := dRet (dAndV (dOp oEq (dOp oIx (dVar 0) (dC (.int 0))) (dOp oIx (dVar 1) (dC (.int 0)))) (dOp oEq (dFn oLen (dCons (dVar 0) (dNil))) (dFn oLen (dCons (dVar 1) (dNil)))))
def t_are_same : DS := dRet (dAndV (dOp oEq (dFn oIsi (dCons (dVar 0) (dCons (dC (.ty "str")) (dNil)))) (dFn oIsi (dCons (dVar 1) (dCons (dC (.ty "str")) (dNil))))) (dOp oEq (dVar 0) (dVar 1)))
def t_fitted (a_is_alike : ASp) (a_is_blank : ASp) (a_are_same : ASp) : DS := dSeq (dIfS (dNot (dTest (dCall a_is_alike [] (dCons (dVar 0) (dCons (dVar 1) (dNil)))))) (dRet (dC .non)) (dNext)) (dSeq (dAsg (dFn oDictC (dCons (dVar 2) (dNil))) (gdName 3)) (dSeq (dFor (diZip (dCons (dSlice (dVar 0) (dPart (dC (.int 1))) (dNoPart)) (dCons (dSlice (dVar 1) (dPart (dC (.int 1))) (dNoPart)) (dNil)))) (gdTup 2 (gdCons (gdName 4) (gdCons (gdName 5) (gdNil)))) (dIfS (dTest (dCall a_is_blank [] (dCons (dVar 4) (dNil)))) (dIfS (dNot (dTest (dCall a_are_same [] (dCons (dSetd (dVar 3) (dVar 4) (dVar 5)) (dCons (dVar 5) (dNil)))))) (dRet (dC .non)) (dNext)) (dIfS (dAnd (dTest (dOp oNe (dVar 4) (dC (.str "_")))) (dNot (dTest (dCall a_are_same [] (dCons (dVar 4) (dCons (dVar 5) (dNil))))))) (dRet (dC .non)) (dNext)))) (dRet (dFrz (dVar 3)))))
def t_side_of (a_is_blank : ASp) : DS := dRet (dIf (dTest (dCall a_is_blank [] (dCons (dVar 0) (dNil)))) (dOp oIx (dVar 1) (dVar 0)) (dVar 0))
def t_holds (a_side_of : ASp) (a_are_same : ASp) : DS := dSeq (dPar 2 3 (dCons (dCall a_side_of [] (dCons (dOp oIx (dVar 0) (dC (.int 1))) (dCons (dVar 1) (dNil)))) (dCons (dCall a_side_of [] (dCons (dOp oIx (dVar 0) (dC (.int 2))) (dCons (dVar 1) (dNil)))) (dNil)))) (dSeq (dIfS (dTest (dOp oEq (dOp oIx (dVar 0) (dC (.int 0))) (dC (.str "less")))) (dRet (dAndV (dNotV (dFn oIsi (dCons (dVar 2) (dCons (dC (.ty "str")) (dNil))))) (dAndV (dNotV (dFn oIsi (dCons (dVar 3) (dCons (dC (.ty "str")) (dNil))))) (dOp oLt (dVar 2) (dVar 3))))) (dNext)) (dRet (dOp oEq (dCall a_are_same [] (dCons (dVar 2) (dCons (dVar 3) (dNil)))) (dOp oEq (dOp oIx (dVar 0) (dC (.int 0))) (dC (.str "same"))))))
def t__law_thing (a__law_taken : ASp) (a__law_worth : ASp) : DS := dSeq (dAsg (dOp oIx (dLst (dCons (dC (.str "on")) (dCons (dC (.str "is")) (dCons (dC (.str "big")) (dNil))))) (dCall a__law_taken [] (dCons (dVar 0) (dCons (dC (.int 3)) (dNil))))) (gdName 1)) (dRet (dOp oAdd (dTup (dCons (dVar 1) (dNil))) (dFn oTuple (dCons (dLc (diRng1 (dCons (dOp oIx (dLst (dCons (dC (.int 1)) (dCons (dC (.int 2)) (dCons (dC (.int 1)) (dCons (dC (.int 0)) (dCons (dC (.int 4)) (dCons (dC (.int 1)) (dNil)))))))) (dCall a__law_taken [] (dCons (dVar 0) (dCons (dC (.int 6)) (dNil))))) (dNil))) (gdName 2) (dYes) (dCall a__law_worth [] (dCons (dVar 0) (dNil))) [2]) (dNil)))))
def t_need_things (a_is_thing : ASp) : DS := dSeq (dIfS (dNot (dTest (dFn oIsi (dCons (dVar 0) (dCons (dC (.ty "list")) (dNil)))))) (dNever) (dNext)) (dFor (diEnum (dCons (dVar 0) (dNil))) (gdTup 2 (gdCons (gdName 1) (gdCons (gdName 2) (gdNil)))) (dIfS (dOr (dTest (dOp oEq (dVar 1) (dC (.int 30)))) (dNot (dTest (dCall a_is_thing [] (dCons (dVar 2) (dNil)))))) (dNever) (dNext)))
def t_numbered : DS := dSeq (dAsg (dLstC (dNil)) (gdName 1)) (dSeq (dFor (diSeq (dVar 0)) (gdName 2) (dIfS (dTest (dOp oNotIn (dVar 2) (dLc (diSeq (dVar 1)) (gdTup 2 (gdCons (gdName 3) (gdCons (gdName 4) (gdNil)))) (dYes) (dVar 4) [3, 4]))) (dDrop (dMtL omAppend (dVar 1) (dCons (dTup (dCons (dFn oLen (dCons (dVar 1) (dNil))) (dCons (dVar 2) (dNil)))) (dNil)))) (dNext))) (dRet (dFrz (dVar 1))))
def t_passed (a_fitted : ASp) (a_holds : ASp) : DS := dSeq (dAsg (dLstC (dNil)) (gdName 3)) (dSeq (dFor (diSeq (dVar 1)) (gdTup 2 (gdCons (gdName 4) (gdCons (gdName 5) (gdNil)))) (dIfS (dTest (dOp oEq (dOp oIx (dVar 0) (dC (.int 0))) (dC (.str "is")))) (dFor (diSeq (dVar 2)) (gdTup 2 (gdCons (gdName 6) (gdCons (gdName 7) (gdNil)))) (dSeq (dAsg (dCall a_fitted [] (dCons (dOp oIx (dVar 0) (dC (.int 1))) (dCons (dVar 7) (dCons (dVar 5) (dNil))))) (gdName 8)) (dIfS (dTest (dOp oIsNot (dVar 8) (dC .non))) (dDrop (dMtL omAppend (dVar 3) (dCons (dTup (dCons (dOp oAdd (dVar 4) (dTup (dCons (dVar 6) (dNil)))) (dCons (dVar 8) (dNil)))) (dNil)))) (dNext)))) (dIfS (dTest (dOp oEq (dOp oIx (dVar 0) (dC (.int 0))) (dC (.str "not")))) (dIfS (dTest (dFn oAll (dCons (dLc (diSeq (dVar 2)) (gdTup 2 (gdCons (gdName 6) (gdCons (gdName 7) (gdNil)))) (dYes) (dOp oIs (dCall a_fitted [] (dCons (dOp oIx (dVar 0) (dC (.int 1))) (dCons (dVar 7) (dCons (dVar 5) (dNil))))) (dC .non)) [6, 7]) (dNil)))) (dDrop (dMtL omAppend (dVar 3) (dCons (dTup (dCons (dVar 4) (dCons (dVar 5) (dNil)))) (dNil)))) (dNext)) (dIfS (dTest (dCall a_holds [] (dCons (dVar 0) (dCons (dVar 5) (dNil))))) (dDrop (dMtL omAppend (dVar 3) (dCons (dTup (dCons (dVar 4) (dCons (dVar 5) (dNil)))) (dNil)))) (dNext))))) (dRet (dFrz (dVar 3))))
def t_matches_of (a_passed : ASp) : DS := dSeq (dAsg (dLstC (dNil)) (gdName 2)) (dSeq (dFor (diEnum (dCons (dVar 0) (dNil))) (gdTup 2 (gdCons (gdName 3) (gdCons (gdName 4) (gdNil)))) (dSeq (dAsg (dLst (dCons (dTup (dCons (dTup (dNil)) (dCons (dDct0) (dNil)))) (dNil))) (gdName 5)) (dSeq (dFor (diSeq (dOp oIx (dVar 4) (dC (.int 2)))) (gdName 6) (dAsg (dCall a_passed [] (dCons (dVar 6) (dCons (dVar 5) (dCons (dVar 1) (dNil))))) (gdName 5))) (dDrop (dMtL omExtend (dVar 2) (dCons (dLc (diSeq (dVar 5)) (gdTup 2 (gdCons (gdName 7) (gdCons (gdName 8) (gdNil)))) (dYes) (dTup (dCons (dVar 3) (dCons (dVar 7) (dNil)))) [7, 8]) (dNil))))))) (dRet (dFn oSortedC (dCons (dVar 2) (dNil)))))
def t_matching (a_need_rules : ASp) (a_need_things : ASp) (a_numbered : ASp) (a_matches_of : ASp) : DS := dSeq (dDrop (dCall a_need_rules [] (dCons (dVar 0) (dNil)))) (dSeq (dDrop (dCall a_need_things [] (dCons (dVar 1) (dNil)))) (dRet (dCall a_matches_of [] (dCons (dVar 0) (dCons (dCall a_numbered [] (dCons (dVar 1) (dNil))) (dNil))))))
end RR
namespace RR
open PySem PySem.Spec L2 DL
open PyProof.Rows hiding St
def t_law (a__law_row : ASp) (a__law_rule : ASp) (a__law_taken : ASp) (a__law_thing : ASp) (a__law_pattern : ASp) (a_matching : ASp) (a__law_letters : ASp) (a__law_worth : ASp) : DS := dSeq (dAsg (dCall a__law_row [] (dCons (dVar 0) (dNil))) (gdName 1)) (dSeq (dFor (diRng1 (dCons (dC (.int 5)) (dNil))) (gdName 2) (dSeq (dAsg (dCall a__law_rule [] (dCons (dVar 1) (dCons (dC (.str "r")) (dNil)))) (gdTup 4 (gdCons (gdName 3) (gdCons (gdName 4) (gdCons (gdName 5) (gdCons (gdName 6) (gdNil))))))) (dSeq (dAsg (dLc (diRng1 (dCons (dCall a__law_taken [] (dCons (dVar 1) (dCons (dC (.int 9)) (dNil)))) (dNil))) (gdName 22) (dYes) (dCall a__law_thing [] (dCons (dVar 1) (dNil))) [22]) (gdName 7)) (dSeq (dPar 8 6 (dCons (dCall a__law_pattern [] (dCons (dVar 1) (dCons (dC (.str "XYZ")) (dNil)))) (dCons (dTup (dCons (dTup (dCons (dC (.str "say")) (dCons (dTup (dCons (dC (.str "on")) (dNil))) (dNil)))) (dNil))) (dNil)))) (dSeq (dAsg (dSlice (dLc (diSeq (dVar 5)) (gdName 14) (dOr (dTest (dOp oLt (dFn oLen (dCons (dVar 5) (dNil))) (dC (.int 5)))) (dTest (dOp oNe (dVar 14) (dOp oIx (dVar 5) (dUn oNeg (dC (.int 1))))))) (dVar 14) [14]) (dNoPart) (dPart (dC (.int 4)))) (gdName 9)) (dSeq (dAsg (dLc (diSeq (dCall a_matching [] (dCons (dTup (dCons (dTup (dCons (dC (.str "r")) (dCons (dC (.int 0)) (dCons (dFn oTuple (dCons (dVar 9) (dNil))) (dCons (dVar 6) (dNil)))))) (dNil))) (dCons (dVar 7) (dNil))))) (gdTup 2 (gdCons (gdName 23) (gdCons (gdName 24) (gdNil)))) (dYes) (dVar 24) [23, 24]) (gdName 10)) (dSeq (dAsg (dLc (diSeq (dCall a_matching [] (dCons (dTup (dCons (dTup (dCons (dC (.str "r")) (dCons (dC (.int 0)) (dCons (dOp oAdd (dFn oTuple (dCons (dVar 9) (dNil))) (dTup (dCons (dTup (dCons (dC (.str "not")) (dCons (dVar 8) (dNil)))) (dNil)))) (dCons (dVar 6) (dNil)))))) (dNil))) (dCons (dVar 7) (dNil))))) (gdTup 2 (gdCons (gdName 22) (gdCons (gdName 25) (gdNil)))) (dYes) (dVar 25) [22, 25]) (gdName 11)) (dSeq (dAsg (dLc (diSeq (dCall a_matching [] (dCons (dTup (dCons (dTup (dCons (dC (.str "r")) (dCons (dC (.int 0)) (dCons (dOp oAdd (dFn oTuple (dCons (dVar 9) (dNil))) (dTup (dCons (dTup (dCons (dC (.str "is")) (dCons (dVar 8) (dNil)))) (dNil)))) (dCons (dVar 6) (dNil)))))) (dNil))) (dCons (dVar 7) (dNil))))) (gdTup 2 (gdCons (gdName 22) (gdCons (gdName 25) (gdNil)))) (dYes) (dVar 25) [22, 25]) (gdName 12)) (dSeq (dIfS (dTest (dOp oNe (dFn oSorted (dCons (dOp oAdd (dVar 11) (dSortedSetT (dLc (diSeq (dVar 12)) (gdName 25) (dYes) (dSlice (dVar 25) (dNoPart) (dPart (dOp oSub (dFn oLen (dCons (dVar 25) (dNil))) (dC (.int 1))))) [25]))) (dNil))) (dVar 10))) (dRet (dC (.bl false))) (dNext)) (dSeq (dAsg (dLst (dNil)) (gdName 13)) (dSeq (dFor (diSeq (dVar 9)) (gdName 14) (dAsg (dOp oAdd (dVar 13) (dIf (dTest (dOp oEq (dOp oIx (dVar 14) (dC (.int 0))) (dC (.str "is")))) (dCall a__law_letters [] (dCons (dOp oIx (dVar 14) (dC (.int 1))) (dNil))) (dLst (dNil)))) (gdName 13))) (dIfS (dTest (dOp oNe (dVar 13) (dLst (dNil)))) (dSeq (dPar 15 16 (dCons (dOp oIx (dVar 13) (dCall a__law_taken [] (dCons (dVar 1) (dCons (dFn oLen (dCons (dVar 13) (dNil))) (dNil))))) (dCons (dOp oIx (dLst (dCons (dCall a__law_worth [] (dCons (dVar 1) (dNil))) (dCons (dOp oIx (dVar 13) (dC (.int 0))) (dNil)))) (dCall a__law_taken [] (dCons (dVar 1) (dCons (dC (.int 2)) (dNil))))) (dNil)))) (dSeq (dAsg (dLst (dNil)) (gdName 17)) (dSeq (dFor (diSeq (dLst (dCons (dC (.str "same")) (dCons (dC (.str "unlike")) (dNil))))) (gdName 18) (dSeq (dAsg (dTup (dCons (dC (.str "r")) (dCons (dC (.int 0)) (dCons (dOp oAdd (dFn oTuple (dCons (dVar 9) (dNil))) (dTup (dCons (dTup (dCons (dVar 18) (dCons (dVar 15) (dCons (dVar 16) (dNil))))) (dNil)))) (dCons (dVar 6) (dNil)))))) (gdName 19)) (dAsg (dOp oAdd (dVar 17) (dLc (diSeq (dCall a_matching [] (dCons (dTup (dCons (dVar 19) (dNil))) (dCons (dVar 7) (dNil))))) (gdTup 2 (gdCons (gdName 22) (gdCons (gdName 25) (gdNil)))) (dYes) (dVar 25) [22, 25])) (gdName 17)))) (dSeq (dAsg (dLst (dNil)) (gdName 20)) (dSeq (dFor (diSeq (dLst (dCons (dTup (dCons (dVar 15) (dCons (dVar 16) (dNil)))) (dCons (dTup (dCons (dVar 16) (dCons (dVar 15) (dNil)))) (dNil))))) (gdName 21) (dSeq (dAsg (dTup (dCons (dC (.str "r")) (dCons (dC (.int 0)) (dCons (dOp oAdd (dFn oTuple (dCons (dVar 9) (dNil))) (dTup (dCons (dOp oAdd (dTup (dCons (dC (.str "less")) (dNil))) (dVar 21)) (dNil)))) (dCons (dVar 6) (dNil)))))) (gdName 19)) (dAsg (dOp oAdd (dVar 20) (dLc (diSeq (dCall a_matching [] (dCons (dTup (dCons (dVar 19) (dNil))) (dCons (dVar 7) (dNil))))) (gdTup 2 (gdCons (gdName 22) (gdCons (gdName 25) (gdNil)))) (dYes) (dVar 25) [22, 25])) (gdName 20)))) (dIfS (dOr (dTest (dOp oNe (dFn oSorted (dCons (dVar 17) (dNil))) (dVar 10))) (dOr (dTest (dOp oNe (dLenSetT (dVar 20)) (dFn oLen (dCons (dVar 20) (dNil))))) (dTest (dOp oNe (dLc (diSeq (dVar 20)) (gdName 25) (dTest (dOp oNotIn (dVar 25) (dVar 10))) (dVar 25) [25]) (dLst (dNil)))))) (dRet (dC (.bl false))) (dNext))))))) (dNext))))))))))))) (dRet (dC (.bl true))))
end RR
namespace RR
open PySem PySem.Spec L2 DL
open PyProof.Rows hiding St kindOf
local macro_rules | `(tactic| walk_at "dl") => `(tactic| simp (config := { failIfUnchanged := false }) only [↓ex_two, ↓ex_three, dFor_eq, updC_at, updC_upd, lstOf_upd, dctOf_upd, dctOf_dct, lstOf_lst, isLst_upd, app_upd, dSeq, dNext, dRet, dRetN, dDrop, dIfS, dNever, dAsg, dPar, dPut, gdName, sz_0, sl_0, sz_1, sl_1, sz_2, sl_2, sz_3, sl_3, sz_4, sl_4, sz_5, sl_5, sz_6, sl_6, sz_7, sl_7, sz_8, sl_8, sz_9, sl_9, sz_10, sl_10, sz_11, sl_11, sz_12, sl_12, sz_13, sl_13, sz_14, sl_14, exists_eq, gdCons_cons, gdNil_nil, gdTup_tup, gdUnl_lst, Nat.succ_eq_add_one, Nat.zero_add, dAnd, dOr, dNot, dTest, dAndV, dOrV, dNotV, dIf, dChain, dOp, dUn, dFn, dCall, dNil, dCons, dVar, dC, dTup, dLst, dLstC, dDct0, dDct0C, dPart, dNoPart, dSlice, dLc, dLcC, diSeq, diZip, diEnum, diRng1, diRng2, dYes, dMtL, dSetd, dFrz,
  dstart, List.map, List.replicate, List.length, List.append, List.cons_append, List.nil_append, List.append_nil, List.getElem?_cons_zero, List.getElem?_cons_succ, Option.some.injEq, exists_eq_left', exists_eq_left, wipeD,
  List.cons.injEq, and_true, true_and, D.bl.injEq, D.int.injEq, D.str.injEq, D.tup.injEq, D.lst.injEq, D.dct.injEq, if_true, if_false, Bool.false_eq_true, Bool.not_true, Bool.not_false, Bool.not_not, ite_true, ite_false, reduceIte, List.set_cons_zero, List.set_cons_succ, Option.map_some, Option.isSome_some, and_false, false_and, exists_const,
  slOk_tup, itOf_tup, itOf_lst, itOf_str, itOf_dct, cutL_1, oLe_int, oLt_int, oGe_int, oGt_int, oAdd_int, oSub_int, oIs_non, oIsNot_non, oLen_tup, oLen_lst, oIx_tup, oIx_lst, atI_0, atI_1, atI_2, atI_3, atI_m1, atI_cast, oIn_str, oEq_int, oNe_int, oEq_bl, ex_some,
  bl_and, bl_or, bl_andT, bl_orT, Nat.sub_self, Nat.add_sub_cancel, Nat.reduceSub, Nat.reduceAdd])
/-- data, at most n deep, its texts and rows not too long -/
def datD : Nat → D → Bool
  | _, .non => true
  | _, .bl _ => true
  | _, .int _ => true
  | _, .str x => PyData.strOk x && decide (x.length ≤ 16000000)
  | n + 1, .tup ds => ds.all (datD n) && decide (ds.length ≤ 16000000)
  | n + 1, .lst ds => ds.all (datD n) && decide (ds.length ≤ 16000000)
  | _, _ => false
theorem datD_ok : ∀ {n : Nat} {d : D}, datD n d = true → okD n d = true
  | 0, d, h => by cases d <;> first | rfl | (simp [datD] at h; done) | (simp only [datD, Bool.and_eq_true] at h; exact h.1)
  | n + 1, d, h => by
    cases d <;> first
      | rfl
      | (simp [datD] at h; done)
      | (simp only [datD, Bool.and_eq_true] at h
         first
          | exact h.1
          | exact List.all_eq_true.mpr fun e he => datD_ok (List.all_eq_true.mp h.1 e he))
theorem datD_dat {n : Nat} {d : D} (h : datD n d = true) : dat d = true := by
  cases d <;> first | rfl | (cases n <;> simp [datD] at h)
theorem ml : (16000000 : Nat) ≤ sizeLine := by rw [sizeLine_eq]; decide
theorem datD_str {n : Nat} {z : Str} (h : datD n (.str z) = true) : z.length ≤ sizeLine := by
  have h : (PyData.strOk z && decide (z.length ≤ 16000000)) = true := by cases n <;> exact h
  rw [Bool.and_eq_true, decide_eq_true_eq] at h
  exact Nat.le_trans h.2 ml
theorem datD_tup {n : Nat} {ds : List D} (h : datD n (.tup ds) = true) : ∃ m, n = m + 1 ∧ ds.all (datD m) = true ∧ ds.length ≤ 16000000 := by
  cases n with
  | zero => simp [datD] at h
  | succ m =>
    simp only [datD, Bool.and_eq_true, decide_eq_true_eq] at h
    exact ⟨m, rfl, h.1, h.2⟩
def isNumD (d : D) (lo hi : Int) : Bool := match d with
  | .int i => decide (lo ≤ i) && decide (i ≤ hi)
  | _ => false
def a_is_number : ASp := fun ds C R => ∃ d lo hi, ds = [d, .int lo, .int hi] ∧ dat d = true ∧ R (.bl (isNumD d lo hi)) C
theorem rd_is_number : ∀ ds C R, a_is_number ds C R → t_is_number { nx := fun _ C' => R .non C', rt := R } (dstart ["part", "low", "high"] ds) C := by
  rintro ds C R ⟨d, lo, hi, rfl, hd, h⟩
  unfold t_is_number
  walk_at "dl"
  simp only [oIsi_int hd, oIsi_bool hd, D.bl.injEq, exists_eq_left', ex_some]
  cases d <;> simp [isIntD, isBlD, oLe, isNumD] at h ⊢ <;> first | exact h | skip
  rename_i i
  by_cases h1 : lo ≤ i <;> simp [h1] at h ⊢ <;> exact h
abbrev SMALL : Str := "abcdefghijklmnopqrstuvwxyz"
abbrev GREAT : Str := "ABCDEFGHIJKLMNOPQRSTUVWXYZ"
def isWordD (d : D) : Bool := match d with
  | .str z => decide (1 ≤ z.length) && decide (z.length ≤ 4) && z.cps.toList.all fun c => strIn ⟨#[c]⟩ SMALL
  | _ => false
def a_is_word : ASp := fun ds C R => ∃ d, ds = [d] ∧ datD 50 d = true ∧ R (.bl (isWordD d)) C
theorem chars_len (z : Str) : (chars z).length = z.length := by unfold chars; rw [List.length_map]; simp [Str.length]
theorem rd_is_word : ∀ ds C R, a_is_word ds C R → t_is_word { nx := fun _ C' => R .non C', rt := R } (dstart ["part", "sign"] ds) C := by
  rintro ds C R ⟨d, rfl, hd, h⟩
  unfold t_is_word
  walk_at "dl"
  simp only [oIsi_str (datD_dat hd), D.bl.injEq, exists_eq_left', ex_some]
  cases d <;> simp only [isStrD, isWordD, Bool.not_true, Bool.not_false, if_true, if_false, Bool.false_eq_true] at h ⊢ <;> first | exact h | skip
  rename_i z
  simp only [oLen_str (datD_str hd)]
  walk_at "dl"
  by_cases h1 : (1 : Int) ≤ (z.length : Nat)
  · by_cases h2 : ((z.length : Nat) : Int) ≤ 4
    · have e1 : 1 ≤ z.length := by omega
      have e2 : z.length ≤ 4 := by omega
      simp only [h1, h2, decide_true, if_true, D.bl.injEq, exists_eq_left', Bool.not_true, Bool.false_eq_true, if_false, itOf, ex_some]
      refine lc_fix (fun d => some (.bl (match d with | .str c => strIn c SMALL | _ => false))) (by rw [chars_len]; exact datD_str hd) (fun i d hi K hK => ?_) ?_
      · walk_at "dl"
        unfold chars at hi
        rw [List.getElem?_map] at hi
        obtain ⟨c, _, rfl⟩ := Option.map_eq_some_iff.mp hi
        walk_at "dl"
        exact hK
      · rw [fm_map]
        unfold chars
        rw [List.map_map]
        have : (z.cps.toList.map ((fun d => D.bl (match d with | .str c => strIn c SMALL | _ => false)) ∘ fun c => D.str ⟨#[c]⟩)) = z.cps.toList.map fun c => D.bl (strIn ⟨#[c]⟩ SMALL) := rfl
        rw [this, oAll_lst (bools_map _)]
        simp only [e1, e2, decide_true, Bool.true_and] at h
        have e3 : (z.cps.toList.map fun c => strIn ⟨#[c]⟩ SMALL).all id = z.cps.toList.all fun c => strIn ⟨#[c]⟩ SMALL := by rw [List.all_map]; rfl
        rw [e3]
        exact h
    · have e2 : ¬ z.length ≤ 4 := by omega
      simp [h1, h2, e2] at h ⊢
      exact h
  · have e1 : ¬ 1 ≤ z.length := by omega
    simp [h1, e1] at h ⊢
    exact h
theorem datD_all {n m : Nat} : ∀ {d : D}, n ≤ m → datD n d = true → datD m d = true := by
  intro d h
  induction n generalizing m d with
  | zero => intro q; cases d <;> first | (simp [datD] at q; done) | (cases m <;> exact q)
  | succ n ih =>
    intro q
    obtain ⟨m, rfl⟩ : ∃ k, m = k + 1 := ⟨m - 1, by omega⟩
    cases d <;> first
      | exact q
      | (simp only [datD, Bool.and_eq_true, List.all_eq_true] at q ⊢
         exact ⟨fun e he => ih (by omega) (q.1 e he), q.2⟩)
theorem datD_item {n : Nat} {ds : List D} {d : D} (h : datD n (.tup ds) = true) (hd : d ∈ ds) : datD n d = true := by
  obtain ⟨m, rfl, h1, _⟩ := datD_tup h
  exact datD_all (Nat.le_succ m) (List.all_eq_true.mp h1 d hd)
theorem datD_len {n : Nat} {ds : List D} (h : datD n (.tup ds) = true) : ds.length ≤ sizeLine := by
  obtain ⟨m, rfl, _, h2⟩ := datD_tup h
  exact Nat.le_trans h2 ml
theorem dat_ok {d : D} (h : datD 50 d = true) : okD 60 d = true := datD_ok (datD_all (by omega) h)
def isWorthD (d : D) : Bool := isWordD d || isNumD d (-99) 99
def a_is_worth : ASp := fun ds C R => ∃ d, ds = [d] ∧ datD 50 d = true ∧ R (.bl (isWorthD d)) C
theorem rd_is_worth : ∀ ds C R, a_is_worth ds C R → t_is_worth a_is_word a_is_number { nx := fun _ C' => R .non C', rt := R } (dstart ["part"] ds) C := by
  rintro ds C R ⟨d, rfl, hd, h⟩
  unfold t_is_worth
  walk_at "dl"
  refine ⟨d, rfl, hd, ?_⟩
  simp only [D.bl.injEq, exists_eq_left']
  unfold isWorthD at h
  cases e : isWordD d with
  | true => rw [e] at h; exact h
  | false =>
    rw [e] at h
    simp only [Bool.false_eq_true, if_false]
    refine ⟨d, -99, 99, by first | rfl | simp, datD_dat hd, ?_⟩
    exact h
def isBlankD (d : D) : Bool := match d with
  | .str z => decide (z.length = 1) && strIn z GREAT
  | _ => false
def a_is_blank : ASp := fun ds C R => ∃ d, ds = [d] ∧ datD 50 d = true ∧ R (.bl (isBlankD d)) C
theorem rd_is_blank : ∀ ds C R, a_is_blank ds C R → t_is_blank { nx := fun _ C' => R .non C', rt := R } (dstart ["part"] ds) C := by
  rintro ds C R ⟨d, rfl, hd, h⟩
  unfold t_is_blank
  walk_at "dl"
  simp only [oIsi_str (datD_dat hd), D.bl.injEq, exists_eq_left', ex_some]
  cases d <;> simp only [isStrD, isBlankD, if_true, if_false, Bool.false_eq_true] at h ⊢ <;> first | exact h | skip
  rename_i z
  simp only [oLen_str (datD_str hd)]
  walk_at "dl"
  have e : decide (((z.length : Nat) : Int) = 1) = decide (z.length = 1) := by
    rw [decide_eq_decide]; omega
  rw [e]
  exact h
def isThingD (d : D) : Bool := match d with
  | .tup (w :: ps) => decide (ps.length ≤ 4) && isWordD w && ps.all isWorthD
  | _ => false
def a_is_thing : ASp := fun ds C R => ∃ d, ds = [d] ∧ datD 50 d = true ∧ R (.bl (isThingD d)) C
theorem rd_is_thing : ∀ ds C R, a_is_thing ds C R → t_is_thing a_is_word a_is_worth { nx := fun _ C' => R .non C', rt := R } (dstart ["part", "one"] ds) C := by
  rintro ds C R ⟨d, rfl, hd, h⟩
  unfold t_is_thing
  walk_at "dl"
  simp only [oIsi_tuple (datD_dat hd), D.bl.injEq, exists_eq_left', ex_some]
  cases d <;> simp only [isTupD, isThingD, if_true, if_false, Bool.false_eq_true, Bool.not_true, Bool.not_false] at h ⊢ <;> first | exact h | skip
  rename_i ds
  walk_at "dl"
  cases ds with
  | nil =>
    simp at h ⊢
    exact h
  | cons w ps =>
    have hw : datD 50 w = true := datD_item hd (by simp)
    have e1 : (1 : Int) ≤ (((w :: ps).length : Nat) : Int) := by rw [List.length_cons]; omega
    by_cases e2 : (((w :: ps).length : Nat) : Int) ≤ 5
    · have e3 : ps.length ≤ 4 := by rw [List.length_cons] at e2; omega
      simp only [e3, decide_true, Bool.true_and] at h
      simp only [e1, e2, decide_true, if_true, D.bl.injEq, exists_eq_left', Bool.not_true, Bool.false_eq_true, if_false, List.getElem?_cons_zero, ex_some]
      refine ⟨w, by simp, hw, ?_⟩
      simp only [D.bl.injEq, exists_eq_left', List.drop_succ_cons, List.drop_zero]
      cases ew : isWordD w with
      | false => rw [ew] at h; simpa using h
      | true =>
        rw [ew] at h
        simp only [Bool.not_true, Bool.false_eq_true, if_false]
        refine lc_all isWorthD (by have := datD_len hd; rw [List.length_cons] at this; omega) (fun d hm K hK => ?_) (by simpa using h)
        walk_at "dl"
        exact ⟨d, rfl, datD_item hd (by simp [hm]), hK⟩
    · have e3 : ¬ ps.length ≤ 4 := by rw [List.length_cons] at e2; omega
      simp only [e3, decide_false, Bool.false_and] at h
      simp only [e1, e2, decide_true, decide_false, if_true, D.bl.injEq, exists_eq_left', Bool.not_false]
      exact h
def eqStrD (d : D) (z : Str) : Bool := match d with
  | .str x => x == z
  | _ => false
abbrev ANYS : Str := "_"
def isPartD (d : D) : Bool := isWorthD d || (isBlankD d || eqStrD d ANYS)
def isPatternD (d : D) : Bool := match d with
  | .tup (w :: ps) => decide (ps.length ≤ 4) && isWordD w && ps.all isPartD
  | _ => false
def a_is_pattern : ASp := fun ds C R => ∃ d, ds = [d] ∧ datD 50 d = true ∧ R (.bl (isPatternD d)) C
theorem rd_is_pattern : ∀ ds C R, a_is_pattern ds C R → t_is_pattern a_is_word a_is_worth a_is_blank { nx := fun _ C' => R .non C', rt := R } (dstart ["part", "one"] ds) C := by
  rintro ds C R ⟨d, rfl, hd, h⟩
  unfold t_is_pattern
  walk_at "dl"
  simp only [oIsi_tuple (datD_dat hd), D.bl.injEq, exists_eq_left', ex_some]
  cases d <;> simp only [isTupD, isPatternD, if_true, if_false, Bool.false_eq_true, Bool.not_true, Bool.not_false] at h ⊢ <;> first | exact h | skip
  rename_i ds
  walk_at "dl"
  cases ds with
  | nil =>
    simp at h ⊢
    exact h
  | cons w ps =>
    have hw : datD 50 w = true := datD_item hd (by simp)
    have e1 : (1 : Int) ≤ (((w :: ps).length : Nat) : Int) := by rw [List.length_cons]; omega
    by_cases e2 : (((w :: ps).length : Nat) : Int) ≤ 5
    · have e3 : ps.length ≤ 4 := by rw [List.length_cons] at e2; omega
      simp only [e3, decide_true, Bool.true_and] at h
      simp only [e1, e2, decide_true, if_true, D.bl.injEq, exists_eq_left', Bool.not_true, Bool.false_eq_true, if_false, List.getElem?_cons_zero, ex_some]
      refine ⟨w, by simp, hw, ?_⟩
      simp only [D.bl.injEq, exists_eq_left', List.drop_succ_cons, List.drop_zero]
      cases ew : isWordD w with
      | false => rw [ew] at h; simpa using h
      | true =>
        rw [ew] at h
        simp only [Bool.not_true, Bool.false_eq_true, if_false]
        refine lc_all isPartD (by have := datD_len hd; rw [List.length_cons] at this; omega) (fun d hm K hK => ?_) (by simpa using h)
        have hdd : datD 50 d = true := datD_item hd (by simp [hm])
        walk_at "dl"
        refine ⟨d, rfl, hdd, ?_⟩
        unfold isPartD at hK
        cases e4 : isWorthD d with
        | true => rw [e4] at hK; exact ⟨_, rfl, hK⟩
        | false =>
          rw [e4] at hK
          refine ⟨_, rfl, d, rfl, hdd, ?_⟩
          cases e5 : isBlankD d with
          | true => rw [e5] at hK; exact ⟨_, rfl, hK⟩
          | false =>
            rw [e5] at hK
            refine ⟨_, rfl, ?_⟩
            simp only [Bool.false_eq_true, if_false, oIsi_str (datD_dat hdd), D.bl.injEq, exists_eq_left']
            cases d <;> simp only [isStrD, if_true, if_false, Bool.false_eq_true] <;> first | exact hK | skip
            rw [oEq_ok (dat_ok hdd) (show okD 60 (D.str ANYS) = true by decide +kernel)]
            exact hK
    · have e3 : ¬ ps.length ≤ 4 := by rw [List.length_cons] at e2; omega
      simp only [e3, decide_false, Bool.false_and] at h
      simp only [e1, e2, decide_true, decide_false, if_true, D.bl.injEq, exists_eq_left', Bool.not_false]
      exact h
/-- the same, of worths -/
def sameD (x y : D) : Bool := (isStrD x == isStrD y) && D.eqv x y
def a_are_same : ASp := fun ds C R => ∃ x y, ds = [x, y] ∧ datD 50 x = true ∧ datD 50 y = true ∧ R (.bl (sameD x y)) C
theorem rd_are_same : ∀ ds C R, a_are_same ds C R → t_are_same { nx := fun _ C' => R .non C', rt := R } (dstart ["one", "other"] ds) C := by
  rintro ds C R ⟨x, y, rfl, hx, hy, h⟩
  unfold t_are_same
  walk_at "dl"
  simp only [oIsi_str (datD_dat hx), oIsi_str (datD_dat hy), oEq_ok (show okD 60 (D.bl _) = true from rfl) (show okD 60 (D.bl _) = true from rfl), D.eqv, D.bl.injEq, exists_eq_left', oEq_ok (dat_ok hx) (dat_ok hy), bl_and]
  exact h
def alikeD (p t : D) : Bool := match p, t with
  | .tup (a :: ps), .tup (b :: ts) => D.eqv a b && decide (ps.length = ts.length)
  | _, _ => false
def a_is_alike : ASp := fun ds C R => ∃ a ps b ts, ds = [.tup (a :: ps), .tup (b :: ts)] ∧ datD 50 (.tup (a :: ps)) = true ∧ datD 50 (.tup (b :: ts)) = true ∧ R (.bl (alikeD (.tup (a :: ps)) (.tup (b :: ts)))) C
theorem rd_is_alike : ∀ ds C R, a_is_alike ds C R → t_is_alike { nx := fun _ C' => R .non C', rt := R } (dstart ["pattern", "thing"] ds) C := by
  rintro ds C R ⟨a, ps, b, ts, rfl, hp, ht, h⟩
  unfold t_is_alike
  walk_at "dl"
  have ha := datD_item hp (List.mem_cons_self (a := a) (l := ps))
  have hb := datD_item ht (List.mem_cons_self (a := b) (l := ts))
  simp only [oEq_ok (dat_ok ha) (dat_ok hb), D.bl.injEq, exists_eq_left', oEq_ok (show okD 60 (D.int _) = true from rfl) (show okD 60 (D.int _) = true from rfl), D.eqv, bl_and]
  have e : decide (((ps.length + 1 : Nat) : Int) = ((ts.length + 1 : Nat) : Int)) = decide (ps.length = ts.length) := by
    rw [decide_eq_decide]; omega
  rw [e]
  exact h
def fit1 (k : List (Key × D)) (p t : D) : Option (List (Key × D)) :=
  if isBlankD p = true then (match keyOf p with
    | none => none
    | some kk => match getK k kk with
      | some v => if sameD v t = true then some k else none
      | none => if sameD t t = true then some (putD k kk t) else none)
  else if eqStrD p ANYS = true ∨ sameD p t = true then some k else none
def fitL : List (Key × D) → List (D × D) → Option (List (Key × D))
  | k, [] => some k
  | k, (p, t) :: r => (fit1 k p t).bind fun k' => fitL k' r
def fittedD (p t : D) (k : List (Key × D)) : Option (List (Key × D)) := match p, t with
  | .tup (a :: ps), .tup (b :: ts) => if alikeD (.tup (a :: ps)) (.tup (b :: ts)) = true then fitL k (ps.zip ts) else none
  | _, _ => none
def optD (o : Option (List (Key × D))) : D := match o with
  | some k => .dct k
  | none => .non
/-- what is known: few, worths -/
def KnOk (k : List (Key × D)) : Prop := k.length ≤ 1000 ∧ ∀ kv ∈ k, datD 50 kv.2 = true
theorem getK_mem {k : List (Key × D)} {kk : Key} {d : D} (h : getK k kk = some d) : ∃ kv ∈ k, kv.2 = d := by
  obtain ⟨kv, h1, h2⟩ := Option.map_eq_some_iff.mp h
  exact ⟨kv, List.mem_of_find?_eq_some h1, h2⟩
theorem putD_len (k : List (Key × D)) (kk : Key) (d : D) : (putD k kk d).length ≤ k.length + 1 := by
  unfold putD
  split
  · rw [List.length_map]; omega
  · simp
theorem putD_mem {k : List (Key × D)} {kk : Key} {d : D} {kv : Key × D} (h : kv ∈ putD k kk d) : kv.2 = d ∨ kv ∈ k := by
  unfold putD at h
  split at h
  · obtain ⟨x, hx, e⟩ := List.mem_map.mp h
    split at e
    · exact .inl (by rw [← e])
    · exact .inr (by rw [← e]; exact hx)
  · rcases List.mem_append.mp h with h | h
    · exact .inr h
    · simp at h; exact .inl (by rw [h])
theorem fit1_len {k k' : List (Key × D)} {p t : D} (h : fit1 k p t = some k') : k'.length ≤ k.length + 1 ∧ ∀ kv ∈ k', kv ∈ k ∨ kv.2 = t := by
  unfold fit1 at h
  split at h
  · split at h
    · cases h
    · split at h
      · split at h
        · cases h; exact ⟨by omega, fun kv hk => .inl hk⟩
        · cases h
      · split at h
        · cases h; exact ⟨putD_len _ _ _, fun kv hk => (putD_mem hk).symm⟩
        · cases h
  · split at h
    · cases h; exact ⟨by omega, fun kv hk => .inl hk⟩
    · cases h
theorem fitL_app : ∀ {k : List (Key × D)} {r s : List (D × D)}, fitL k (r ++ s) = (fitL k r).bind fun k' => fitL k' s
  | k, [], s => by simp [fitL]
  | k, (a, b) :: r, s => by
    simp only [List.cons_append, fitL]
    cases e : fit1 k a b with
    | none => rfl
    | some k' => exact fitL_app (k := k') (r := r)
theorem zip_at {ps ts : List D} {i : Nat} {p t : D} (hp : ps[i]? = some p) (ht : ts[i]? = some t) : (ps.zip ts)[i]? = some (p, t) := List.getElem?_zip_eq_some.mpr ⟨hp, ht⟩
theorem take_snoc {α : Type} {l : List α} {i : Nat} {x : α} (h : l[i]? = some x) : l.take (i + 1) = l.take i ++ [x] := by
  rw [List.take_succ, h]; rfl
theorem split_at {α : Type} {l : List α} {i : Nat} {x : α} (h : l[i]? = some x) : l = l.take i ++ x :: l.drop (i + 1) := by
  obtain ⟨hi, e⟩ := List.getElem?_eq_some_iff.mp h
  rw [← e, ← List.drop_eq_getElem_cons hi, List.take_append_drop]
def a_fitted : ASp := fun ds C R => ∃ a ps b ts k, ds = [.tup (a :: ps), .tup (b :: ts), .dct k] ∧ datD 50 (.tup (a :: ps)) = true ∧ datD 50 (.tup (b :: ts)) = true ∧ KnOk k ∧ ps.length ≤ 100 ∧ R (optD (fittedD (.tup (a :: ps)) (.tup (b :: ts)) k)) C
theorem rd_fitted : ∀ ds C R, a_fitted ds C R → t_fitted a_is_alike a_is_blank a_are_same { nx := fun _ C' => lss R .non C', rt := lss R } (dstart ["pattern", "thing", "known", "found", "part", "worth"] ds) C := by
  rintro ds C R ⟨a, ps, b, ts, k, rfl, hp, ht, hk, hl, h⟩
  unfold t_fitted
  walk_at "dl"
  refine ⟨a, ps, b, ts, rfl, hp, ht, ?_⟩
  simp only [D.bl.injEq, exists_eq_left']
  simp only [fittedD] at h
  cases e : alikeD (.tup (a :: ps)) (.tup (b :: ts)) with
  | false => rw [e] at h; exact lss_of h
  | true =>
    rw [e] at h
    simp only [Bool.not_true, Bool.false_eq_true, if_false, if_true] at h ⊢
    rw [oDictC_def]
    refine ⟨k, rfl, fun q hq => ?_⟩
    have el : ps.length = ts.length := by
      simp only [alikeD, Bool.and_eq_true, decide_eq_true_eq] at e
      exact e.2
    walk_at "dl"
    refine ⟨.inl ⟨rfl, rfl⟩, ?_⟩
    obtain ⟨Pv, hPv⟩ : ∃ Pv : Nat → DSt → Cells → Prop, ∀ i δ C', Pv i δ C' ↔ ∃ o1 o2 k', δ = [some (.tup (a :: ps)), some (.tup (b :: ts)), some (.dct k), some (.ref q), o1, o2] ∧ C' = updC C q (.dct k') ∧ fitL k ((ps.zip ts).take i) = some k' ∧ k'.length ≤ k.length + i ∧ ∀ kv ∈ k', datD 50 kv.2 = true := ⟨_, fun _ _ _ => Iff.rfl⟩
    refine for_zip (x := .tup ((a :: ps).drop 1)) (y := .tup ((b :: ts).drop 1)) (ds := ps) (es := ts) (fun _ => rfl) (fun _ => rfl) el Pv
      ((hPv _ _ _).mpr ⟨none, none, k, rfl, rfl, rfl, by omega, hk.2⟩) ?_ ?_
    · intro i p t δ C' hi hj hv
      obtain ⟨o1, o2, k', rfl, rfl, hf, hkl, hkd⟩ := (hPv _ _ _).mp hv
      have hpd : datD 50 p = true := datD_item hp (List.mem_cons_of_mem _ (List.mem_of_getElem? hi))
      have htd : datD 50 t = true := datD_item ht (List.mem_cons_of_mem _ (List.mem_of_getElem? hj))
      have hil : i < ps.length := (List.getElem?_eq_some_iff.mp hi).1
      have hz := zip_at hi hj
      have bad : fit1 k' p t = none → fitL k (ps.zip ts) = none := fun e => by
        rw [split_at hz, fitL_app, hf]
        simp [fitL, e]
      have good : ∀ k2, fit1 k' p t = some k2 → fitL k ((ps.zip ts).take (i + 1)) = some k2 ∧ k2.length ≤ k.length + (i + 1) ∧ ∀ kv ∈ k2, datD 50 kv.2 = true := fun k2 e => by
        obtain ⟨l1, l2⟩ := fit1_len e
        refine ⟨?_, by omega, fun kv hkv => ?_⟩
        · rw [take_snoc hz, fitL_app, hf]
          simp [fitL, e]
        · rcases l2 kv hkv with q | q
          · exact hkd kv q
          · rw [q]; exact htd
      have fin : ∀ C2, fit1 k' p t = none → lss R .non (updC C q C2) := fun C2 e => by
        rw [bad e] at h
        exact lss_upd hq h
      have go : ∀ k2, fit1 k' p t = some k2 → Pv (i + 1) [some (.tup (a :: ps)), some (.tup (b :: ts)), some (.dct k), some (.ref q), some p, some t] (updC C q (.dct k2)) := fun k2 e => by
        obtain ⟨g1, g2, g3⟩ := good k2 e
        exact (hPv _ _ _).mpr ⟨_, _, _, rfl, rfl, g1, g2, g3⟩
      walk_at "dl"
      refine ⟨p, rfl, hpd, _, rfl, ?_⟩
      have h50 : k'.length < sizeLine := by have := hk.1; have := ml; omega
      unfold fit1 at fin go
      cases eb : isBlankD p with
      | true =>
        simp only [if_true, eb] at fin go ⊢
        obtain ⟨z, rfl⟩ : ∃ z, p = .str z := by cases p <;> first | exact ⟨_, rfl⟩ | (simp [isBlankD] at eb)
        refine ⟨by rw [dctOf_upd]; rfl, q, k', .inr z, rfl, updC_at, rfl, h50, ?_⟩
        simp only [DL.keyOf] at fin go
        cases eg : getK k' (.inr z) with
        | none =>
          simp only [eg] at fin go ⊢
          walk_at "dl"
          refine ⟨t, t, rfl, htd, htd, _, rfl, ?_⟩
          cases es : sameD t t with
          | true =>
            simp only [es, if_true] at fin go
            walk_at "dl"
            exact go _ rfl
          | false =>
            simp only [es, Bool.false_eq_true, if_false] at fin go
            walk_at "dl"
            exact fin _ (by first | trivial | rfl)
        | some v =>
          simp only [eg] at fin go ⊢
          obtain ⟨kv, hkv, rfl⟩ := getK_mem eg
          walk_at "dl"
          refine ⟨kv.2, t, rfl, hkd kv hkv, htd, _, rfl, ?_⟩
          cases es : sameD kv.2 t with
          | true =>
            simp only [es, if_true] at fin go
            walk_at "dl"
            exact go _ rfl
          | false =>
            simp only [es, Bool.false_eq_true, if_false] at fin go
            walk_at "dl"
            exact fin _ (by first | trivial | rfl)
      | false =>
        simp only [Bool.false_eq_true, if_false, eb] at fin go ⊢
        rw [oNe_ok (dat_ok hpd) (show okD 60 (D.str ANYS) = true by decide +kernel)]
        have ea : D.eqv p (.str ANYS) = eqStrD p ANYS := by cases p <;> rfl
        rw [ea]
        walk_at "dl"
        cases e1 : eqStrD p ANYS with
        | true =>
          simp only [e1, true_or, if_true] at fin go
          walk_at "dl"
          exact go _ rfl
        | false =>
          walk_at "dl"
          refine ⟨p, t, rfl, hpd, htd, _, rfl, ?_⟩
          simp only [e1, Bool.false_eq_true, false_or] at fin go
          cases es : sameD p t with
          | true =>
            simp only [es, if_true] at fin go
            walk_at "dl"
            exact go _ rfl
          | false =>
            simp only [es, Bool.false_eq_true, if_false] at fin go
            walk_at "dl"
            exact fin _ (by first | trivial | rfl)
    · intro δ C' hv
      obtain ⟨o1, o2, k', rfl, rfl, hf, hkl, hkd⟩ := (hPv _ _ _).mp hv
      walk_at "dl"
      rw [List.take_of_length_le (by rw [List.length_zip]; omega)] at hf
      rw [hf] at h
      exact ⟨_, _, frz_updD hq, lss_of h⟩
theorem oIn_at {x y : D} {C : Cells} {bs : List D} {R : D → Cells → Prop} (h : lstOf C y = some bs) (h1 : okD 60 x = true) (h2 : bs.all (okD 60) = true) : oIn x y C R = R (.bl (bs.any fun z => D.eqv z x)) C := by
  cases y <;> first | (simp [lstOf] at h; done) | skip
  · cases h
    exact oIn_lst h1 h2
  · rename_i p
    refine oIn_of ?_
    have e1 : dctOf C (.ref p) = none := by
      have h : (C p).bind cellLst = some bs := h
      show (C p).bind cellDct = none
      cases e : C p with
      | none => rfl
      | some c =>
        rw [e] at h
        cases c <;> first | rfl | (simp [cellLst] at h; done) | skip
        rename_i n c
        cases c <;> first | rfl | (simp [cellLst] at h; done)
    unfold inO
    simp only [DL.strOf, tupOf, e1, h]
    exact if_pos ⟨h1, h2⟩
def memD (x : D) (bs : List D) : Bool := bs.any fun z => D.eqv z x
def allDat (bs : List D) : Bool := bs.all (datD 50)
theorem allDat_ok {bs : List D} (h : allDat bs = true) : bs.all (okD 60) = true := List.all_eq_true.mpr fun d hd => dat_ok (List.all_eq_true.mp h d hd)
def blanksL (ps : List D) : List D := (ps.drop 1).filter isBlankD
def a_blanks_of : ASp := fun ds C R => ∃ ps, ds = [.tup ps] ∧ datD 50 (.tup ps) = true ∧ R (.lst (blanksL ps)) C
theorem rd_blanks_of : ∀ ds C R, a_blanks_of ds C R → t_blanks_of a_is_blank { nx := fun _ C' => R .non C', rt := R } (dstart ["pattern", "part"] ds) C := by
  rintro ds C R ⟨ps, rfl, hd, h⟩
  unfold t_blanks_of
  walk_at "dl"
  refine lc_filter isBlankD id (by have := datD_len hd; rw [List.length_drop]; omega) (fun d hm K hK => ?_) (by rw [List.map_id]; exact h)
  walk_at "dl"
  refine ⟨d, rfl, datD_item hd (List.mem_of_mem_drop hm), ?_⟩
  cases e : isBlankD d with
  | true => rw [e] at hK; walk_at "dl"; exact hK
  | false => rw [e] at hK; walk_at "dl"; exact hK
def isSideD (d : D) (bs : List D) : Bool := isWorthD d || (isBlankD d && memD d bs)
def a_is_side : ASp := fun ds C R => ∃ d y bs, ds = [d, y] ∧ datD 50 d = true ∧ lstOf C y = some bs ∧ allDat bs = true ∧ R (.bl (isSideD d bs)) C
theorem rd_is_side : ∀ ds C R, a_is_side ds C R → t_is_side a_is_worth a_is_blank { nx := fun _ C' => R .non C', rt := R } (dstart ["part", "known"] ds) C := by
  rintro ds C R ⟨d, y, bs, rfl, hd, hb, hbd, h⟩
  unfold t_is_side
  walk_at "dl"
  refine ⟨d, rfl, hd, ?_⟩
  unfold isSideD at h
  cases e : isWorthD d with
  | true => rw [e] at h; walk_at "dl"; exact h
  | false =>
    rw [e] at h
    walk_at "dl"
    refine ⟨d, rfl, hd, ?_⟩
    cases e2 : isBlankD d with
    | false => rw [e2] at h; walk_at "dl"; exact h
    | true =>
      rw [e2] at h
      walk_at "dl"
      rw [oIn_at hb (dat_ok hd) (allDat_ok hbd)]
      exact h
abbrev ISS : Str := "is"
abbrev NOTS : Str := "not"
abbrev LESSS : Str := "less"
abbrev SAMES : Str := "same"
abbrev UNLS : Str := "unlike"
def isWantD (d : D) (bs : List D) : Bool := match d with
  | .tup (.str z :: r) => if (z == ISS || z == NOTS) = true then (match r with
      | [p] => isPatternD p
      | _ => false)
    else ((z == LESSS || z == SAMES || z == UNLS) && decide (r.length = 2)) && r.all fun x => isSideD x bs
  | _ => false
def a_is_want : ASp := fun ds C R => ∃ d y bs, ds = [d, y] ∧ datD 50 d = true ∧ lstOf C y = some bs ∧ allDat bs = true ∧ R (.bl (isWantD d bs)) C
theorem rd_is_want : ∀ ds C R, a_is_want ds C R → t_is_want a_is_pattern a_is_side { nx := fun _ C' => R .non C', rt := R } (dstart ["part", "known", "want"] ds) C := by
  rintro ds C R ⟨d, y, bs, rfl, hd, hb, hbd, h⟩
  unfold t_is_want
  walk_at "dl"
  simp only [oIsi_tuple (datD_dat hd), D.bl.injEq, exists_eq_left']
  cases d <;> simp only [isTupD, isWantD, if_true, if_false, Bool.false_eq_true, Bool.not_true, Bool.not_false] at h ⊢ <;> first | exact h | skip
  rename_i ds
  rw [oEq_ok (dat_ok hd) (show okD 60 (D.tup []) = true from rfl)]
  cases ds with
  | nil =>
    walk_at "dl"
    exact h
  | cons w r =>
    have hw : datD 50 w = true := datD_item hd (by simp)
    have e0 : D.eqv (.tup (w :: r)) (.tup []) = false := by simp [D.eqv, D.eqvL]
    rw [e0]
    walk_at "dl"
    simp only [oIsi_str (datD_dat hw), D.bl.injEq, exists_eq_left']
    cases w <;> simp only [isStrD, if_true, if_false, Bool.false_eq_true, Bool.not_true, Bool.not_false] at h ⊢ <;> first | exact h | skip
    rename_i z
    rw [oIn_tup rfl rfl]
    walk_at "dl"
    simp only [List.any, D.eqv, Bool.or_false]
    have e1 : (ISS == z || NOTS == z) = (z == ISS || z == NOTS) := by rw [Bool.beq_comm (a := ISS), Bool.beq_comm (a := NOTS)]
    rw [e1]
    cases ez : (z == ISS || z == NOTS) with
    | true =>
      rw [ez] at h
      walk_at "dl"
      rcases r with _ | ⟨p, _ | ⟨p2, r⟩⟩
      · exact h
      · refine ⟨p, rfl, p, rfl, datD_item hd (by simp), ?_⟩
        exact h
      · have e2 : (((D.str z :: p :: p2 :: r).length : Nat) : Int) ≠ 2 := by simp only [List.length_cons]; omega
        walk_at "dl"
        rw [show decide ((((r.length + 1 + 1 + 1 : Nat)) : Int) = 2) = false from decide_eq_false (by omega)]
        walk_at "dl"
        exact h
    | false =>
      rw [ez] at h
      walk_at "dl"
      rw [oIn_tup rfl rfl]
      walk_at "dl"
      simp only [List.any, D.eqv, Bool.or_false]
      have e1 : (LESSS == z || (SAMES == z || UNLS == z)) = (z == LESSS || z == SAMES || z == UNLS) := by rw [Bool.beq_comm (a := LESSS), Bool.beq_comm (a := SAMES), Bool.beq_comm (a := UNLS), Bool.or_assoc]
      rw [e1]
      cases e3 : (z == LESSS || z == SAMES || z == UNLS) with
      | false => rw [e3] at h; walk_at "dl"; exact h
      | true =>
        rw [e3] at h
        have e4 : decide ((((r.length + 1 : Nat)) : Int) = 3) = decide (r.length = 2) := by rw [decide_eq_decide]; omega
        walk_at "dl"
        rw [e4]
        cases e5 : decide (r.length = 2) with
        | false => rw [e5] at h; walk_at "dl"; exact h
        | true =>
          rw [e5] at h
          walk_at "dl"
          refine lc_all (fun x => isSideD x bs) (by have := datD_len hd; rw [List.length_cons] at this; show r.length ≤ _; omega) (fun d hm K hK => ?_) h
          have hm : d ∈ r := hm
          walk_at "dl"
          exact ⟨d, y, bs, rfl, datD_item hd (by simp [hm]), hb, hbd, hK⟩
def isPlaceD (bs : List D) (d : D) : Bool := match d with
  | .tup [a, b] => isBlankD a && memD a bs && isNumD b (-99) 99
  | .tup _ => false
  | d => isSideD d bs
def isTemplateD (d : D) (bs : List D) : Bool := match d with
  | .tup (w :: ps) => decide (ps.length ≤ 4) && isWordD w && ps.all (isPlaceD bs)
  | _ => false
def a_is_template : ASp := fun ds C R => ∃ d y bs, ds = [d, y] ∧ datD 50 d = true ∧ lstOf C y = some bs ∧ allDat bs = true ∧ R (.bl (isTemplateD d bs)) C
theorem rd_is_template : ∀ ds C R, a_is_template ds C R → t_is_template a_is_word a_is_blank a_is_number a_is_side { nx := fun _ C' => R .non C', rt := R } (dstart ["part", "known", "one"] ds) C := by
  rintro ds C R ⟨d, y, bs, rfl, hd, hb, hbd, h⟩
  unfold t_is_template
  walk_at "dl"
  simp only [oIsi_tuple (datD_dat hd), D.bl.injEq, exists_eq_left']
  cases d <;> simp only [isTupD, isTemplateD, if_true, if_false, Bool.false_eq_true, Bool.not_true, Bool.not_false] at h ⊢ <;> first | exact h | skip
  rename_i ds
  walk_at "dl"
  cases ds with
  | nil =>
    walk_at "dl"
    exact h
  | cons w ps =>
    have hw : datD 50 w = true := datD_item hd (by simp)
    have e1 : (1 : Int) ≤ (((ps.length + 1 : Nat)) : Int) := by omega
    by_cases e3 : ps.length ≤ 4
    · have e2 : (((ps.length + 1 : Nat)) : Int) ≤ 5 := by omega
      simp only [e3, decide_true, Bool.true_and] at h
      walk_at "dl"
      simp only [e1, e2, decide_true]
      walk_at "dl"
      refine ⟨w, by simp, hw, ?_⟩
      cases ew : isWordD w with
      | false => rw [ew] at h; walk_at "dl"; exact h
      | true =>
        rw [ew] at h
        walk_at "dl"
        obtain ⟨Pv, hPv⟩ : ∃ Pv : Nat → DSt → Cells → Prop, ∀ i δ C', Pv i δ C' ↔ ∃ o, δ = [some (.tup (w :: ps)), some y, o] ∧ C' = C ∧ (ps.take i).all (isPlaceD bs) = true := ⟨_, fun _ _ _ => Iff.rfl⟩
        refine for_fix (ds := ps) Pv ((hPv _ _ _).mpr ⟨none, rfl, rfl, rfl⟩) (fun i d δ C' hi hv => ?_) (fun δ C' hv => ?_)
        · obtain ⟨o, rfl, rfl, hal⟩ := (hPv _ _ _).mp hv
          have hd' : datD 50 d = true := datD_item hd (List.mem_cons_of_mem _ (List.mem_of_getElem? hi))
          have good : isPlaceD bs d = true → Pv (i + 1) [some (.tup (w :: ps)), some y, some d] C' := fun e => (hPv _ _ _).mpr ⟨_, rfl, rfl, by rw [take_snoc hi, List.all_append, hal]; simp [e]⟩
          have bad : isPlaceD bs d = false → R (.bl false) C' := fun e => by
            have : ps.all (isPlaceD bs) = false := List.all_eq_false.mpr ⟨d, List.mem_of_getElem? hi, by simp [e]⟩
            rw [this] at h
            exact h
          walk_at "dl"
          simp only [oIsi_tuple (datD_dat hd'), D.bl.injEq, exists_eq_left']
          have side : isTupD d = false → isPlaceD bs d = isSideD d bs := fun e => by cases d <;> first | rfl | (cases e)
          cases et : isTupD d with
          | false =>
            rw [side et] at good bad
            walk_at "dl"
            refine ⟨d, y, bs, rfl, hd', hb, hbd, ?_⟩
            cases e : isSideD d bs with
            | true => walk_at "dl"; exact good e
            | false => walk_at "dl"; exact bad e
          | true =>
            obtain ⟨qs, rfl⟩ : ∃ qs, d = .tup qs := by cases d <;> first | exact ⟨_, rfl⟩ | cases et
            walk_at "dl"
            rcases qs with _ | ⟨a, _ | ⟨b, _ | ⟨c, qs⟩⟩⟩
            · exact bad rfl
            · exact bad rfl
            · have ha := datD_item hd' (show a ∈ [a, b] by simp)
              have hb' := datD_item hd' (show b ∈ [a, b] by simp)
              simp only [isPlaceD] at good bad
              walk_at "dl"
              simp only [show decide (((2 : Nat) : Int) = 2) = true from rfl]
              walk_at "dl"
              refine ⟨a, rfl, ha, ?_⟩
              cases ea : isBlankD a with
              | false => rw [ea] at bad; walk_at "dl"; exact bad rfl
              | true =>
                rw [ea] at bad good
                walk_at "dl"
                rw [oNotIn_eq, oIn_at hb (dat_ok ha) (allDat_ok hbd)]
                walk_at "dl"
                cases em : memD a bs with
                | false =>
                  rw [em] at bad
                  rw [show (bs.any fun z => D.eqv z a) = false from em]
                  walk_at "dl"
                  exact bad rfl
                | true =>
                  rw [em] at bad good
                  rw [show (bs.any fun z => D.eqv z a) = true from em]
                  walk_at "dl"
                  refine ⟨b, -99, 99, rfl, datD_dat hb', ?_⟩
                  cases eb : isNumD b (-99) 99 with
                  | false => walk_at "dl"; exact bad (by simp [eb])
                  | true => walk_at "dl"; exact good (by simp [eb])
            · walk_at "dl"
              rw [show decide ((((qs.length + 1 + 1 + 1 : Nat)) : Int) = 2) = false from decide_eq_false (by omega)]
              walk_at "dl"
              exact bad rfl
        · obtain ⟨o, rfl, rfl, hal⟩ := (hPv _ _ _).mp hv
          walk_at "dl"
          rw [List.take_length] at hal
          rw [hal] at h
          exact h
    · have e2 : ¬ (((ps.length + 1 : Nat)) : Int) ≤ 5 := by omega
      simp only [e3, decide_false, Bool.false_and] at h
      walk_at "dl"
      simp only [e1, e2, decide_true, decide_false]
      walk_at "dl"
      exact h
abbrev TAKES : Str := "take"
def tellerD (z : Str) : Bool := z == "add" || z == "hold" || z == "say"
/-- the want of a number looks for a thing -/
def isWantAt (ws : List D) (d : D) : Bool := match d with
  | .int i => (match atI ws i with
    | some (.tup (.str z :: _)) => z == ISS
    | _ => false)
  | _ => false
def isDeedD (d : D) (ws bs : List D) : Bool := match d with
  | .tup [.str z, x] => if z == TAKES then isNumD x 0 (ws.length - 1 : Int) && isWantAt ws x else tellerD z && isTemplateD x bs
  | _ => false
/-- a want, as far as it was looked at -/
def headStr (d : D) : Bool := match d with
  | .tup (.str _ :: _) => true
  | _ => false
theorem want_head {d : D} {bs : List D} (h : isWantD d bs = true) : headStr d = true := by
  cases d <;> first | (simp [isWantD] at h; done) | skip
  rename_i ds
  cases ds with
  | nil => simp [isWantD] at h
  | cons w r => cases w <;> first | rfl | (simp [isWantD] at h; done)
def a_is_deed : ASp := fun ds C R => ∃ d ws y bs, ds = [d, .tup ws, y] ∧ datD 50 d = true ∧ datD 50 (.tup ws) = true ∧ ws.all headStr = true ∧ lstOf C y = some bs ∧ allDat bs = true ∧ R (.bl (isDeedD d ws bs)) C
theorem eqv_str {a b : Str} : D.eqv (.str a) (.str b) = (a == b) := rfl
theorem rd_is_deed : ∀ ds C R, a_is_deed ds C R → t_is_deed a_is_number a_is_template { nx := fun _ C' => R .non C', rt := R } (dstart ["part", "wants", "known"] ds) C := by
  rintro ds C R ⟨d, ws, y, bs, rfl, hd, hw, hh, hb, hbd, h⟩
  unfold t_is_deed
  walk_at "dl"
  simp only [oIsi_tuple (datD_dat hd), D.bl.injEq, exists_eq_left']
  cases d <;> simp only [isTupD, isDeedD, if_true, if_false, Bool.false_eq_true, Bool.not_true, Bool.not_false] at h ⊢ <;> first | exact h | skip
  rename_i ds
  walk_at "dl"
  rcases ds with _ | ⟨a, _ | ⟨b, _ | ⟨c, qs⟩⟩⟩
  · exact h
  · have h : R (.bl false) C := by cases a <;> exact h
    exact h
  · have ha := datD_item hd (show a ∈ [a, b] by simp)
    have hb' := datD_item hd (show b ∈ [a, b] by simp)
    walk_at "dl"
    simp only [show decide (((2 : Nat) : Int) = 2) = true from rfl]
    walk_at "dl"
    simp only [oIsi_str (datD_dat ha), D.bl.injEq, exists_eq_left']
    cases a <;> simp only [isStrD, if_true, if_false, Bool.false_eq_true, Bool.not_true, Bool.not_false] at h ⊢ <;> first | exact h | skip
    rename_i z
    rw [oEq_ok (dat_ok ha) (show okD 60 (D.str TAKES) = true by decide +kernel), eqv_str]
    walk_at "dl"
    cases ez : (z == TAKES) with
    | true =>
      rw [ez] at h
      walk_at "dl"
      refine ⟨b, 0, (ws.length : Int) - 1, rfl, datD_dat hb', ?_⟩
      cases en : isNumD b 0 ((ws.length : Int) - 1) with
      | false => rw [en] at h; walk_at "dl"; exact h
      | true =>
        rw [en] at h
        walk_at "dl"
        obtain ⟨i, rfl⟩ : ∃ i, b = .int i := by cases b <;> first | exact ⟨_, rfl⟩ | (simp [isNumD] at en)
        simp only [isNumD, Bool.and_eq_true, decide_eq_true_eq] at en
        obtain ⟨n, rfl⟩ : ∃ n : Nat, i = (n : Int) := ⟨i.toNat, by omega⟩
        have hn : n < ws.length := by omega
        walk_at "dl"
        refine ⟨ws[n], List.getElem?_eq_getElem hn, ?_⟩
        have hm : ws[n] ∈ ws := List.getElem_mem hn
        have hs := List.all_eq_true.mp hh _ hm
        have hdw := datD_item hw hm
        simp only [isWantAt, atI_cast, List.getElem?_eq_getElem hn] at h
        generalize ws[n] = x at h hs hdw ⊢
        cases x <;> first | (simp [headStr] at hs; done) | skip
        rename_i ds
        cases ds with
        | nil => simp [headStr] at hs
        | cons v r =>
          cases v <;> first | (simp [headStr] at hs; done) | skip
          walk_at "dl"
          have hv := datD_item hdw List.mem_cons_self
          rw [oEq_ok (dat_ok hv) (show okD 60 (D.str ISS) = true by decide +kernel), eqv_str]
          exact h
    | false =>
      rw [ez] at h
      walk_at "dl"
      rw [oIn_tup rfl rfl]
      walk_at "dl"
      simp only [List.any, D.eqv, Bool.or_false]
      have e1 : ((("add" : Str) == z) || ((("hold" : Str) == z) || (("say" : Str) == z))) = tellerD z := by
        unfold tellerD
        rw [Bool.beq_comm (a := ("add" : Str)), Bool.beq_comm (a := ("hold" : Str)), Bool.beq_comm (a := ("say" : Str)), Bool.or_assoc]
      rw [e1]
      cases et : tellerD z with
      | false => rw [et] at h; walk_at "dl"; exact h
      | true =>
        rw [et] at h
        walk_at "dl"
        exact ⟨b, y, bs, rfl, hb', hb, hbd, h⟩
  · have h : R (.bl false) C := by cases a <;> exact h
    walk_at "dl"
    rw [show decide ((((qs.length + 1 + 1 + 1 : Nat)) : Int) = 2) = false from decide_eq_false (by omega)]
    walk_at "dl"
    exact h
/-- wants in order, each with the blanks of those ahead -/
def wantsBs : List D → List D → Option (List D)
  | bs, [] => some bs
  | bs, w :: ws => if isWantD w bs = true then (match w with
      | .tup (.str z :: .tup ps :: _) => wantsBs (if z == ISS then bs ++ blanksL ps else bs) ws
      | _ => wantsBs bs ws)
    else none
def firstIs (ws : List D) : Bool := match ws with
  | .tup (.str z :: _) :: _ => z == ISS
  | _ => false
def badPartD (d : D) (names : List D) : D := match d with
  | .tup [name, rank, wants, deeds] =>
    if (!isWordD name || memD name names) = true then .int 0
    else if isNumD rank (-9) 9 = false then .int 1
    else match wants with
      | .tup ws => if ws.length < 1 ∨ 5 < ws.length ∨ firstIs ws = false then .int 2
        else match wantsBs [] ws with
          | none => .int 2
          | some bs => match deeds with
            | .tup qs => if qs.length < 1 ∨ 4 < qs.length then .int 3 else if (qs.all fun q => isDeedD q ws bs) = true then .non else .int 3
            | _ => .int 3
      | _ => .int 2
  | _ => .int (-1)
theorem oEq_str {x y : Str} {C : Cells} {R : D → Cells → Prop} (hx : PyData.strOk x = true) (hy : PyData.strOk y = true) : oEq (.str x) (.str y) C R = R (.bl (x == y)) C := oEq_ok (x := .str x) (y := .str y) hx hy
theorem oNe_str {x y : Str} {C : Cells} {R : D → Cells → Prop} (hx : PyData.strOk x = true) (hy : PyData.strOk y = true) : oNe (.str x) (.str y) C R = R (.bl (!(x == y))) C := oNe_ok (x := .str x) (y := .str y) hx hy
theorem datD_sok {n : Nat} {z : Str} (h : datD n (.str z) = true) : PyData.strOk z = true := by
  have h : (PyData.strOk z && decide (z.length ≤ 16000000)) = true := by cases n <;> exact h
  exact (Bool.and_eq_true _ _ ▸ h).1
theorem okIS : PyData.strOk ISS = true := by decide +kernel
theorem blanksL_len (ps : List D) : (blanksL ps).length ≤ ps.length := by
  unfold blanksL
  refine Nat.le_trans (List.length_filter_le _ _) ?_
  rw [List.length_drop]; omega
theorem blanksL_mem {ps : List D} {x : D} (h : x ∈ blanksL ps) : x ∈ ps ∧ isBlankD x = true := by
  obtain ⟨h1, h2⟩ := List.mem_filter.mp h
  exact ⟨List.mem_of_mem_drop h1, h2⟩
/-- what one want adds -/
def wantAdd (bs : List D) (w : D) : List D := match w with
  | .tup (.str z :: .tup ps :: _) => if z == ISS then bs ++ blanksL ps else bs
  | _ => bs
theorem wantsBs_cons {bs : List D} {w : D} {ws : List D} : wantsBs bs (w :: ws) = if isWantD w bs = true then wantsBs (wantAdd bs w) ws else none := by
  show (if isWantD w bs = true then (match w with
      | .tup (.str z :: .tup ps :: _) => wantsBs (if z == ISS then bs ++ blanksL ps else bs) ws
      | _ => wantsBs bs ws)
    else none) = _
  split
  · unfold wantAdd
    split <;> rfl
  · rfl
theorem wantsBs_snoc {w : D} : ∀ {ws : List D} {bs : List D}, wantsBs bs (ws ++ [w]) = (wantsBs bs ws).bind fun b => if isWantD w b = true then some (wantAdd b w) else none
  | [], bs => by simp [wantsBs_cons, wantsBs]
  | v :: ws, bs => by
    rw [List.cons_append, wantsBs_cons, wantsBs_cons]
    split
    · exact wantsBs_snoc
    · rfl
theorem wantsBs_none {w : D} {r : List D} : ∀ {ws : List D} {bs b : List D}, wantsBs bs ws = some b → isWantD w b = false → wantsBs bs (ws ++ w :: r) = none
  | [], bs, b, h, e => by
    cases h
    rw [List.nil_append, wantsBs_cons, if_neg (by simp [e])]
  | v :: ws, bs, b, h, e => by
    rw [wantsBs_cons] at h
    rw [List.cons_append, wantsBs_cons]
    split at h
    · rename_i g
      rw [if_pos g]
      exact wantsBs_none h e
    · cases h
theorem pattern_tup {d : D} (h : isPatternD d = true) : ∃ w ps, d = .tup (w :: ps) ∧ ps.length ≤ 4 := by
  cases d <;> first | (simp [isPatternD] at h; done) | skip
  rename_i ds
  cases ds with
  | nil => simp [isPatternD] at h
  | cons w ps =>
    simp only [isPatternD, Bool.and_eq_true, decide_eq_true_eq] at h
    exact ⟨w, ps, rfl, h.1.1⟩
/-- the shapes a want can have -/
theorem want_cases {d : D} {bs : List D} (h : isWantD d bs = true) : (∃ z p, d = .tup [.str z, p] ∧ (z = ISS ∨ z = NOTS) ∧ isPatternD p = true) ∨ (∃ z x y, d = .tup [.str z, x, y] ∧ (z = LESSS ∨ z = SAMES ∨ z = UNLS) ∧ isSideD x bs = true ∧ isSideD y bs = true) := by
  cases d <;> first | (simp [isWantD] at h; done) | skip
  rename_i ds
  cases ds with
  | nil => simp [isWantD] at h
  | cons w r =>
    cases w <;> first | (simp [isWantD] at h; done) | skip
    rename_i z
    simp only [isWantD] at h
    split at h
    · rename_i hz
      rcases r with _ | ⟨p, _ | ⟨q, r⟩⟩
      · cases h
      · refine .inl ⟨z, p, rfl, ?_, h⟩
        simpa using hz
      · cases h
    · rename_i hz
      simp only [Bool.and_eq_true, decide_eq_true_eq, Bool.or_eq_true, beq_iff_eq] at h
      obtain ⟨⟨h1, h2⟩, h3⟩ := h
      rcases r with _ | ⟨p, _ | ⟨q, _ | ⟨q2, r⟩⟩⟩ <;> first | (simp at h2; done) | skip
      simp only [List.all_cons, List.all_nil, Bool.and_true, Bool.and_eq_true] at h3
      exact .inr ⟨z, p, q, rfl, by rcases h1 with (h1 | h1) | h1 <;> simp [h1], h3.1, h3.2⟩
theorem wantAdd_len {w : D} {bs : List D} (h : isWantD w bs = true) : (wantAdd bs w).length ≤ bs.length + 5 := by
  rcases want_cases h with ⟨z, p, rfl, hz, hp⟩ | ⟨z, x, y, rfl, hz, hx, hy⟩
  · obtain ⟨w, ps, rfl, hl⟩ := pattern_tup hp
    simp only [wantAdd]
    split
    · rw [List.length_append]
      have := blanksL_len (w :: ps)
      rw [List.length_cons] at this
      omega
    · omega
  · unfold wantAdd
    split
    · rename_i e
      injection e with e
      injection e with e1 e2
      injection e1 with e1
      subst e1
      have : (z == ISS) = false := by rcases hz with rfl | rfl | rfl <;> decide +kernel
      rw [this]
      simp
    · omega
theorem wantAdd_dat {w : D} {bs : List D} (hb : allDat bs = true) (hw : datD 50 w = true) : allDat (wantAdd bs w) = true := by
  unfold wantAdd
  split
  · rename_i z ps r
    split
    · rw [allDat, List.all_append, Bool.and_eq_true]
      refine ⟨hb, List.all_eq_true.mpr fun x hx => ?_⟩
      exact datD_item (datD_item hw (show D.tup ps ∈ [D.str z, D.tup ps] ++ r by simp)) (blanksL_mem hx).1
    · exact hb
  · exact hb
def a_bad_part : ASp := fun ds C R => ∃ d y bs, ds = [d, y] ∧ datD 50 d = true ∧ lstOf C y = some bs ∧ allDat bs = true ∧ R (badPartD d bs) C
theorem rd_bad_part : ∀ ds C R, a_bad_part ds C R → t_bad_part a_is_word a_is_number a_is_want a_blanks_of a_is_deed { nx := fun _ C' => lss R .non C', rt := lss R } (dstart ["rule", "names", "name", "rank", "wants", "deeds", "known", "number", "want", "deed"] ds) C := by
  rintro ds C R ⟨d, y, bs, rfl, hd, hb, hbd, h⟩
  unfold t_bad_part
  walk_at "dl"
  simp only [oIsi_tuple (datD_dat hd), D.bl.injEq, exists_eq_left']
  cases d <;> simp only [isTupD, if_true, if_false, Bool.false_eq_true, Bool.not_true, Bool.not_false] at h ⊢ <;> first | exact lss_of h | skip
  rename_i ds
  by_cases h4 : ds.length = 4
  rotate_left
  · have e : badPartD (.tup ds) bs = .int (-1) := by
      rcases ds with _ | ⟨a, _ | ⟨b, _ | ⟨c, _ | ⟨d, _ | ⟨e, r⟩⟩⟩⟩⟩ <;> first | rfl | (exact absurd rfl h4)
    rw [e] at h
    walk_at "dl"
    rw [show decide (((ds.length : Nat) : Int) = 4) = false from decide_eq_false (by omega)]
    walk_at "dl"
    exact lss_of h
  obtain ⟨name, rank, wants, deeds, rfl⟩ : ∃ a b c d, ds = [a, b, c, d] := by
    rcases ds with _ | ⟨a, _ | ⟨b, _ | ⟨c, _ | ⟨d, _ | ⟨e, r⟩⟩⟩⟩⟩ <;> first | exact ⟨_, _, _, _, rfl⟩ | (simp at h4; done)
  have hn := datD_item hd (show name ∈ [name, rank, wants, deeds] by simp)
  have hr := datD_item hd (show rank ∈ [name, rank, wants, deeds] by simp)
  have hw := datD_item hd (show wants ∈ [name, rank, wants, deeds] by simp)
  have hq := datD_item hd (show deeds ∈ [name, rank, wants, deeds] by simp)
  walk_at "dl"
  simp only [show decide (((4 : Nat) : Int) = 4) = true from rfl]
  walk_at "dl"
  refine ⟨name, rfl, hn, ?_⟩
  simp only [badPartD] at h
  cases en : isWordD name with
  | false =>
    simp only [en, Bool.not_false, Bool.true_or, if_true] at h
    walk_at "dl"
    exact lss_of h
  | true =>
    simp only [en, Bool.not_true, Bool.false_or] at h
    walk_at "dl"
    rw [oIn_at hb (dat_ok hn) (allDat_ok hbd)]
    walk_at "dl"
    cases em : memD name bs with
    | true =>
      rw [em, if_pos rfl] at h
      rw [show (bs.any fun z => D.eqv z name) = true from em]
      walk_at "dl"
      exact lss_of h
    | false =>
      rw [em, if_neg (by simp)] at h
      rw [show (bs.any fun z => D.eqv z name) = false from em]
      walk_at "dl"
      refine ⟨rank, -9, 9, rfl, datD_dat hr, ?_⟩
      cases ek : isNumD rank (-9) 9 with
      | false =>
        rw [ek, if_pos rfl] at h
        walk_at "dl"
        exact lss_of h
      | true =>
        rw [ek, if_neg (by simp)] at h
        walk_at "dl"
        simp only [oIsi_tuple (datD_dat hw), D.bl.injEq, exists_eq_left']
        cases wants <;> simp only [isTupD, if_true, if_false, Bool.false_eq_true, Bool.not_true, Bool.not_false] at h ⊢ <;> first | exact lss_of h | skip
        rename_i ws
        walk_at "dl"
        by_cases hl1 : ws.length < 1
        · rw [if_pos (.inl hl1)] at h
          rw [show decide ((1 : Int) ≤ (ws.length : Nat)) = false from decide_eq_false (by omega)]
          walk_at "dl"
          exact lss_of h
        rw [show decide ((1 : Int) ≤ (ws.length : Nat)) = true from decide_eq_true (by omega)]
        by_cases hl2 : 5 < ws.length
        · rw [if_pos (.inr (.inl hl2))] at h
          rw [show decide (((ws.length : Nat) : Int) ≤ 5) = false from decide_eq_false (by omega)]
          walk_at "dl"
          exact lss_of h
        rw [show decide (((ws.length : Nat) : Int) ≤ 5) = true from decide_eq_true (by omega)]
        walk_at "dl"
        intro q hqn
        obtain ⟨Pv, hPv⟩ : ∃ Pv : Nat → DSt → Cells → Prop, ∀ i δ C', Pv i δ C' ↔ ∃ o1 o2 kb, δ = [some (.tup [name, rank, .tup ws, deeds]), some y, some name, some rank, some (.tup ws), some deeds, some (.ref q), o1, o2, none] ∧ C' = updC C q (.lst kb) ∧ wantsBs [] (ws.take i) = some kb ∧ kb.length ≤ 5 * i ∧ allDat kb = true ∧ (ws.take i).all headStr = true ∧ (0 < i → firstIs ws = true) := ⟨_, fun _ _ _ => Iff.rfl⟩
        refine ⟨rfl, for_enum (x := .tup ws) (ds := ws) (fun _ => rfl) Pv ((hPv _ _ _).mpr ⟨none, none, [], rfl, rfl, rfl, by simp, rfl, rfl, by omega⟩) (fun i w δ C' hi hv => ?_) (fun δ C' hv => ?_)⟩
        · obtain ⟨o1, o2, kb, rfl, rfl, hkb, hkl, hkd, hhd, hfi⟩ := (hPv _ _ _).mp hv
          have hil : i < ws.length := (List.getElem?_eq_some_iff.mp hi).1
          have hwd := datD_item hw (List.mem_of_getElem? hi)
          have bad : isWantD w kb = false ∨ firstIs ws = false → lss R (.int 2) (updC C q (.lst kb)) := fun e => by
            refine lss_upd hqn ?_
            rcases e with e | e
            · have : wantsBs [] ws = none := by rw [split_at hi]; exact wantsBs_none hkb e
              rw [this] at h
              split at h <;> exact h
            · rw [if_pos (.inr (.inr e))] at h
              exact h
          walk_at "dl"
          refine ⟨w, .ref q, kb, rfl, hwd, lstOf_upd, hkd, ?_⟩
          cases ew : isWantD w kb with
          | false => walk_at "dl"; exact bad (.inl ew)
          | true =>
            have good : firstIs ws = true → ∀ kb2, kb2 = wantAdd kb w → Pv (i + 1) [some (.tup [name, rank, .tup ws, deeds]), some y, some name, some rank, some (.tup ws), some deeds, some (.ref q), some (.int (i : Nat)), some w, none] (updC C q (.lst kb2)) := fun e kb2 e2 => by
              subst e2
              refine (hPv _ _ _).mpr ⟨_, _, _, rfl, rfl, ?_, ?_, wantAdd_dat hkd hwd, ?_, fun _ => e⟩
              · rw [take_snoc hi, wantsBs_snoc, hkb]
                show (if isWantD w kb = true then some (wantAdd kb w) else none) = _
                rw [if_pos ew]
              · have := wantAdd_len ew; omega
              · rw [take_snoc hi, List.all_append, hhd]
                simp [want_head ew]
            have hkl2 : kb.length + 5 ≤ sizeLine := by have := ml; omega
            walk_at "dl"
            rcases want_cases ew with ⟨z, p, rfl, hz, hp⟩ | ⟨z, x, x2, rfl, hz, hx, hy⟩
            all_goals
              have hzd := datD_item hwd (show D.str z ∈ D.str z :: _ from List.mem_cons_self)
              have hfst : i = 0 → firstIs ws = (z == ISS) := fun e => by
                subst e
                rcases ws with _ | ⟨v, r⟩
                · cases hi
                · cases hi; rfl
              have hsec : i ≠ 0 → firstIs ws = true := fun e => hfi (by omega)
              have hz0 : z = NOTS ∨ z = LESSS ∨ z = SAMES ∨ z = UNLS → (z == ISS) = false := by rintro (rfl | rfl | rfl | rfl) <;> decide +kernel
              have hi0 : decide ((i : Int) = 0) = decide (i = 0) := by rw [decide_eq_decide]; omega
              rw [hi0]
              walk_at "dl"
              simp only [oEq_str (datD_sok hzd) okIS, oNe_str (datD_sok hzd) okIS]
              walk_at "dl"
            · obtain ⟨v, ps, rfl, hpl⟩ := pattern_tup hp
              have hpd := datD_item hwd (show D.tup (v :: ps) ∈ [D.str z, D.tup (v :: ps)] by simp)
              cases ez : (z == ISS) with
              | true =>
                have hf : firstIs ws = true := by
                  by_cases e : i = 0
                  · rw [hfst e, ez]
                  · exact hsec e
                have fin : isLst (updC C q (.lst kb)) (.ref q) ∧ a_blanks_of [.tup (v :: ps)] (updC C q (.lst kb)) fun x C1 => omExtend (.ref q) [x] C1 fun x C1 => Pv (i + 1) [some (.tup [name, rank, .tup ws, deeds]), some y, some name, some rank, some (.tup ws), some deeds, some (.ref q), some (.int (i : Nat)), some (.tup [.str z, .tup (v :: ps)]), none] C1 := by
                  refine ⟨by rw [isLst_upd]; trivial, _, rfl, hpd, ?_⟩
                  refine ext_upd (es := blanksL (v :: ps)) rfl ?_ (good hf _ ?_)
                  · have := blanksL_len (v :: ps)
                    rw [List.length_cons] at this
                    omega
                  · simp only [wantAdd, ez, if_true]
                by_cases e : i = 0
                · simp only [e, decide_true] at fin ⊢
                  walk_at "dl"
                  simpa only [isLst_upd, true_and] using fin
                · simp only [e, decide_false]
                  walk_at "dl"
                  simpa only [isLst_upd, true_and] using fin
              | false =>
                have ea : wantAdd kb (.tup [.str z, .tup (v :: ps)]) = kb := by simp only [wantAdd, ez]; simp
                by_cases e : i = 0
                · rw [show decide (i = 0) = true from decide_eq_true e]
                  simp (config := { failIfUnchanged := false }) only [ez]
                  walk_at "dl"
                  exact bad (.inr (by rw [hfst e, ez]))
                · rw [show decide (i = 0) = false from decide_eq_false e]
                  simp (config := { failIfUnchanged := false }) only [ez]
                  walk_at "dl"
                  exact ext_upd (es := []) rfl (by simp; omega) (good (hsec e) (kb ++ []) (by rw [ea, List.append_nil]))
            · have ez := hz0 (.inr hz)
              have ea : wantAdd kb (.tup [.str z, x, x2]) = kb := by
                unfold wantAdd
                split
                · rename_i e
                  injection e with e
                  injection e with e1 e2
                  injection e1 with e1
                  subst e1
                  rw [ez]
                  simp
                · rfl
              by_cases e : i = 0
              · rw [show decide (i = 0) = true from decide_eq_true e]
                simp (config := { failIfUnchanged := false }) only [ez]
                walk_at "dl"
                exact bad (.inr (by rw [hfst e, ez]))
              · rw [show decide (i = 0) = false from decide_eq_false e]
                simp (config := { failIfUnchanged := false }) only [ez]
                walk_at "dl"
                exact ext_upd (es := []) rfl (by simp; omega) (good (hsec e) (kb ++ []) (by rw [ea, List.append_nil]))
        · obtain ⟨o1, o2, kb, rfl, rfl, hkb, hkl, hkd, hhd, hfi⟩ := (hPv _ _ _).mp hv
          rw [List.take_length] at hkb hhd
          have hf := hfi (by omega)
          rw [if_neg (by rw [hf]; rintro (h | h | h) <;> first | omega | cases h), hkb] at h
          simp only at h
          walk_at "dl"
          simp only [oIsi_tuple (datD_dat hq), D.bl.injEq, exists_eq_left']
          cases deeds <;> simp only [isTupD, if_true, if_false, Bool.false_eq_true, Bool.not_true, Bool.not_false] at h ⊢ <;> first | exact lss_upd hqn h | skip
          rename_i qs
          walk_at "dl"
          by_cases hl3 : qs.length < 1
          · rw [if_pos (.inl hl3)] at h
            rw [show decide ((1 : Int) ≤ (qs.length : Nat)) = false from decide_eq_false (by omega)]
            walk_at "dl"
            exact lss_upd hqn h
          rw [show decide ((1 : Int) ≤ (qs.length : Nat)) = true from decide_eq_true (by omega)]
          by_cases hl4 : 4 < qs.length
          · rw [if_pos (.inr hl4)] at h
            rw [show decide (((qs.length : Nat) : Int) ≤ 4) = false from decide_eq_false (by omega)]
            walk_at "dl"
            exact lss_upd hqn h
          rw [if_neg (by omega)] at h
          rw [show decide (((qs.length : Nat) : Int) ≤ 4) = true from decide_eq_true (by omega)]
          walk_at "dl"
          refine lc_all (fun x => isDeedD x ws kb) (datD_len hq) (fun d hm K hK => ?_) ?_
          · walk_at "dl"
            exact ⟨d, ws, .ref q, kb, rfl, datD_item hq hm, hw, hhd, lstOf_upd, hkd, hK⟩
          · refine ⟨_, rfl, ?_⟩
            cases e : qs.all fun q => isDeedD q ws kb with
            | true => rw [e] at h; walk_at "dl"; exact lss_upd hqn h
            | false => rw [e] at h; walk_at "dl"; exact lss_upd hqn h
theorem okSAME : PyData.strOk SAMES = true := by decide +kernel
theorem okLESS : PyData.strOk LESSS = true := by decide +kernel
theorem okNOT : PyData.strOk NOTS = true := by decide +kernel
def sideD (k : List (Key × D)) (p : D) : Option D := if isBlankD p = true then (match p with
    | .str z => getK k (.inr z)
    | _ => none)
  else some p
def a_side_of : ASp := fun ds C R => ∃ p k v, ds = [p, .dct k] ∧ datD 50 p = true ∧ sideD k p = some v ∧ R v C
theorem rd_side_of : ∀ ds C R, a_side_of ds C R → t_side_of a_is_blank { nx := fun _ C' => R .non C', rt := R } (dstart ["part", "known"] ds) C := by
  rintro ds C R ⟨p, k, v, rfl, hp, hs, h⟩
  unfold t_side_of
  walk_at "dl"
  refine ⟨p, rfl, hp, ?_⟩
  unfold sideD at hs
  cases e : isBlankD p with
  | false =>
    rw [e] at hs
    cases hs
    walk_at "dl"
    exact h
  | true =>
    rw [e, if_pos rfl] at hs
    cases p <;> first | (cases e; done) | skip
    walk_at "dl"
    rw [oIx_dct rfl]
    exact ⟨v, hs, h⟩
def ltD (a b : D) : Bool := match a, b with
  | .int i, .int j => decide (i < j)
  | _, _ => false
def holdsD (z : Str) (a b : D) : Bool := if (z == LESSS) = true then ltD a b else sameD a b == (z == SAMES)
theorem worth_cases {d : D} (h : isWorthD d = true) : (∃ i, d = .int i) ∨ ∃ z, d = .str z := by
  unfold isWorthD at h
  cases d <;> first | exact .inl ⟨_, rfl⟩ | exact .inr ⟨_, rfl⟩ | (simp [isWordD, isNumD] at h; done)
def a_holds : ASp := fun ds C R => ∃ z x y k a b, ds = [.tup [.str z, x, y], .dct k] ∧ datD 50 (.tup [.str z, x, y]) = true ∧ sideD k x = some a ∧ sideD k y = some b ∧ datD 50 a = true ∧ datD 50 b = true ∧ isWorthD a = true ∧ isWorthD b = true ∧ R (.bl (holdsD z a b)) C
theorem rd_holds : ∀ ds C R, a_holds ds C R → t_holds a_side_of a_are_same { nx := fun _ C' => R .non C', rt := R } (dstart ["test", "known", "one", "other"] ds) C := by
  rintro ds C R ⟨z, x, y, k, a, b, rfl, hd, h1, h2, ha, hb, wa, wb, h⟩
  unfold t_holds
  have hz := datD_item hd (show D.str z ∈ [.str z, x, y] by simp)
  walk_at "dl"
  refine ⟨x, k, a, rfl, datD_item hd (show x ∈ [.str z, x, y] by simp), h1, y, k, b, rfl, datD_item hd (show y ∈ [.str z, x, y] by simp), h2, ?_⟩
  walk_at "dl"
  simp only [oEq_str (datD_sok hz) okLESS]
  walk_at "dl"
  unfold holdsD at h
  cases e : (z == LESSS) with
  | true =>
    rw [e, if_pos rfl] at h
    walk_at "dl"
    simp only [oIsi_str (datD_dat ha), oIsi_str (datD_dat hb)]
    rcases worth_cases wa with ⟨i, rfl⟩ | ⟨i, rfl⟩ <;> rcases worth_cases wb with ⟨j, rfl⟩ | ⟨j, rfl⟩ <;> (simp only [isStrD]; walk_at "dl"; simpa [ltD] using h)
  | false =>
    rw [e, if_neg (by simp)] at h
    walk_at "dl"
    refine ⟨a, b, rfl, ha, hb, ?_⟩
    walk_at "dl"
    simp only [oEq_str (datD_sok hz) okSAME]
    walk_at "dl"
    exact h
abbrev Kn := List (Key × D)
abbrev S1 := List Int × Kn
def sD (s : S1) : D := .tup [.tup (s.1.map .int), .dct s.2]
def itD (it : Int × D) : D := .tup [.int it.1, it.2]
def passS (w : D) (its : List (Int × D)) (s : S1) : List S1 := match w with
  | .tup [.str z, p] => if (z == ISS) = true then its.filterMap fun it => (fittedD p it.2 s.2).map fun k => (s.1 ++ [it.1], k)
    else if (its.all fun it => (fittedD p it.2 s.2).isNone) = true then [s] else []
  | .tup [.str z, x, y] => match sideD s.2 x, sideD s.2 y with
    | some a, some b => if holdsD z a b = true then [s] else []
    | _, _ => []
  | _ => []
/-- what is known is enough for the blanks bs -/
def KnFor (bs : List D) (k : Kn) : Prop := KnOk k ∧ (∀ kv ∈ k, isWorthD kv.2 = true) ∧ ∀ z, memD (.str z) bs = true → ∃ v, getK k (.inr z) = some v
def ThOk (t : D) : Prop := datD 50 t = true ∧ isThingD t = true
theorem thing_tup {d : D} (h : isThingD d = true) : ∃ w ps, d = .tup (w :: ps) ∧ ps.length ≤ 4 ∧ ps.all isWorthD = true := by
  cases d <;> first | (simp [isThingD] at h; done) | skip
  rename_i ds
  cases ds with
  | nil => simp [isThingD] at h
  | cons w ps =>
    simp only [isThingD, Bool.and_eq_true, decide_eq_true_eq] at h
    exact ⟨w, ps, rfl, h.1.1, h.2⟩
def a_passed : ASp := fun ds C R => ∃ w bs, ∃ ss : List S1, ∃ its : List (Int × D), ds = [w, .lst (ss.map sD), .lst (its.map itD)] ∧ datD 50 w = true ∧ isWantD w bs = true ∧ (∀ s ∈ ss, KnFor bs s.2 ∧ s.1.length ≤ 100) ∧ (∀ it ∈ its, ThOk it.2) ∧ its.length ≤ 30 ∧ ss.length * max 1 its.length ≤ 16000000 ∧ R (.lst ((ss.flatMap (passS w its)).map sD)) C
theorem len_take {α : Type} (l : List α) (i : Nat) : (l.take i).length ≤ l.length := by rw [List.length_take]; omega
theorem passS_len {w : D} {its : List (Int × D)} {s : S1} (h : 1 ≤ its.length) : (passS w its s).length ≤ its.length := by
  unfold passS
  split
  · split
    · exact List.length_filterMap_le _ _
    · split <;> simp <;> omega
  · split
    · split <;> simp <;> omega
    · simp
  · simp
theorem passS_len1 (w : D) (its : List (Int × D)) (s : S1) : (passS w its s).length ≤ max 1 its.length := by
  by_cases e : 1 ≤ its.length
  · have := passS_len (w := w) (s := s) e; omega
  · have : its = [] := List.length_eq_zero_iff.mp (by omega)
    subst this
    unfold passS
    split
    · split
      · simp
      · simp
    · split
      · split <;> simp
      · simp
    · simp
theorem pass_len (w : D) (its : List (Int × D)) (l : List S1) : (l.flatMap (passS w its)).length ≤ l.length * max 1 its.length := by
  induction l with
  | nil => simp
  | cons a l ih =>
    rw [List.flatMap_cons, List.length_append, List.length_cons, Nat.add_mul]
    have := passS_len1 w its a
    omega
theorem optD_isNon (o : Option Kn) : isNon (optD o) = o.isNone := by cases o <;> rfl
theorem strIn_one {c : Nat} {y : Str} (h : strIn ⟨#[c]⟩ y = true) : c ∈ y.cps.toList := by
  refine Classical.byContradiction fun hc => ?_
  have : Builtin.Str.occurrences y ⟨#[c]⟩ 0 y.length 1 = [] := PySem.W.occ_nil_of_no y ⟨#[c]⟩ 1 fun i hi => by
    cases e : Builtin.Str.subAt y ⟨#[c]⟩ i with
    | false => rfl
    | true =>
      exfalso
      apply hc
      have e : y.cps.extract i (i + 1) = #[c] := by simpa [Builtin.Str.subAt, Str.length] using e
      have hm : c ∈ (y.cps.extract i (i + 1)).toList := by rw [e]; simp
      rw [Array.toList_extract] at hm
      exact List.mem_of_mem_drop (List.mem_of_mem_take (by simpa [List.extract] using hm))
  unfold strIn at h
  rw [this] at h
  cases h
theorem blank_one {d : D} (h : isBlankD d = true) : ∃ c, d = .str ⟨#[c]⟩ ∧ 65 ≤ c ∧ c ≤ 90 := by
  cases d <;> first | (cases h; done) | skip
  rename_i z
  simp only [isBlankD, Bool.and_eq_true, decide_eq_true_eq] at h
  obtain ⟨h1, h2⟩ := h
  obtain ⟨⟨l⟩⟩ := z
  simp only [Str.length, List.size_toArray] at h1
  obtain ⟨c, rfl⟩ := List.length_eq_one_iff.mp h1
  have hm := strIn_one h2
  have : ∀ c ∈ (GREAT : Str).cps.toList, 65 ≤ c ∧ c ≤ 90 := by decide +kernel
  exact ⟨c, rfl, this c hm⟩
theorem word_letters {z : Str} (h : isWordD (.str z) = true) : ∀ c ∈ z.cps.toList, 97 ≤ c ∧ c ≤ 122 := by
  simp only [isWordD, Bool.and_eq_true] at h
  intro c hc
  have hm := strIn_one (List.all_eq_true.mp h.2 c hc)
  have : ∀ c ∈ (SMALL : Str).cps.toList, 97 ≤ c ∧ c ≤ 122 := by decide +kernel
  exact this c hm
/-- a blank is no worth -/
theorem blank_worth {d : D} (h : isBlankD d = true) : isWorthD d = false := by
  obtain ⟨c, rfl, h1, h2⟩ := blank_one h
  cases e : isWorthD (.str ⟨#[c]⟩) with
  | false => rfl
  | true =>
    unfold isWorthD at e
    have e : isWordD (.str ⟨#[c]⟩) = true := by simpa [isNumD] using e
    have := word_letters e c (by simp)
    omega
theorem side_ok {x : D} {bs : List D} {k : Kn} (hd : datD 50 x = true) (h : isSideD x bs = true) (hk : KnFor bs k) : ∃ a, sideD k x = some a ∧ datD 50 a = true ∧ isWorthD a = true := by
  unfold sideD
  cases e : isBlankD x with
  | false =>
    unfold isSideD at h
    rw [e] at h
    exact ⟨x, by simp, hd, by simpa using h⟩
  | true =>
    unfold isSideD at h
    rw [blank_worth e, e] at h
    obtain ⟨c, rfl, _⟩ := blank_one e
    obtain ⟨a, h1⟩ := hk.2.2 ⟨#[c]⟩ (by simpa using h)
    obtain ⟨kv, hkv, rfl⟩ := getK_mem h1
    exact ⟨kv.2, by simpa using h1, hk.1.2 kv hkv, hk.2.1 kv hkv⟩
theorem rd_passed : ∀ ds C R, a_passed ds C R → t_passed a_fitted a_holds { nx := fun _ C' => lss R .non C', rt := lss R } (dstart ["want", "some", "things", "found", "numbers", "known", "number", "thing", "more"] ds) C := by
  rintro ds C R ⟨w, bs, ss, its, rfl, hw, hwant, hss, hits, hil, hsl, h⟩
  unfold t_passed
  walk_at "dl"
  intro q hq
  obtain ⟨Pv, hPv⟩ : ∃ Pv : Nat → DSt → Cells → Prop, ∀ i δ C', Pv i δ C' ↔ ∃ o1 o2 o3 o4 o5, δ = [some w, some (.lst (ss.map sD)), some (.lst (its.map itD)), some (.ref q), o1, o2, o3, o4, o5] ∧ C' = updC C q (.lst (((ss.take i).flatMap (passS w its)).map sD)) := ⟨_, fun _ _ _ => Iff.rfl⟩
  refine for_fix Pv ((hPv _ _ _).mpr ⟨none, none, none, none, none, rfl, rfl⟩) (fun i d δ C' hi hv => ?_) (fun δ C' hv => ?_)
  · obtain ⟨o1, o2, o3, o4, o5, rfl, rfl⟩ := (hPv _ _ _).mp hv
    rw [List.getElem?_map] at hi
    obtain ⟨s, hi2, rfl⟩ := Option.map_eq_some_iff.mp hi
    have hsm := List.mem_of_getElem? hi2
    obtain ⟨⟨hkn, hkf⟩, hsn⟩ := hss s hsm
    have hlen : ((ss.take i).flatMap (passS w its)).length + 31 ≤ sizeLine := by
      have h2 := pass_len w its (ss.take i)
      have h3 : (ss.take i).length ≤ ss.length := len_take _ _
      have h4 := Nat.mul_le_mul_right (max 1 its.length) h3
      rw [sizeLine_eq]
      omega
    have next : ∀ o1 o2 o3 ls, ls = passS w its s → Pv (i + 1) [some w, some (.lst (ss.map sD)), some (.lst (its.map itD)), some (.ref q), some (.tup (s.1.map .int)), some (.dct s.2), o1, o2, o3] (updC C q (.lst ((((ss.take i).flatMap (passS w its)).map sD) ++ ls.map sD))) := fun o1 o2 o3 ls e => by
      subst e
      refine (hPv _ _ _).mpr ⟨_, _, _, _, _, rfl, ?_⟩
      rw [take_snoc hi2, List.flatMap_append, List.map_append]
      simp
    rw [show sD s = .tup [.tup (s.1.map .int), .dct s.2] from rfl]
    walk_at "dl"
    rcases want_cases hwant with ⟨z, p, rfl, hz, hp⟩ | ⟨z, x, y, rfl, hz, hx, hy⟩
    · have hzd := datD_item hw (show D.str z ∈ [D.str z, p] by simp)
      have hpd := datD_item hw (show p ∈ [D.str z, p] by simp)
      obtain ⟨v, ps, rfl, hpl⟩ := pattern_tup hp
      walk_at "dl"
      simp only [oEq_str (datD_sok hzd) okIS]
      walk_at "dl"
      cases ez : (z == ISS) with
      | true =>
        walk_at "dl"
        have epass : passS (.tup [.str z, .tup (v :: ps)]) its s = its.filterMap fun it => (fittedD (.tup (v :: ps)) it.2 s.2).map fun k => (s.1 ++ [it.1], k) := by simp only [passS, ez, if_true]
        obtain ⟨Pw, hPw⟩ : ∃ Pw : Nat → DSt → Cells → Prop, ∀ j δ C', Pw j δ C' ↔ ∃ o1 o2 o3, δ = [some (.tup [.str z, .tup (v :: ps)]), some (.lst (ss.map sD)), some (.lst (its.map itD)), some (.ref q), some (.tup (s.1.map .int)), some (.dct s.2), o1, o2, o3] ∧ C' = updC C q (.lst ((((ss.take i).flatMap (passS (.tup [.str z, .tup (v :: ps)]) its)).map sD) ++ ((its.take j).filterMap fun it => (fittedD (.tup (v :: ps)) it.2 s.2).map fun k => (s.1 ++ [it.1], k)).map sD)) := ⟨_, fun _ _ _ => Iff.rfl⟩
        refine for_fix Pw ((hPw _ _ _).mpr ⟨o3, o4, o5, rfl, by rw [List.take_zero, List.filterMap_nil, List.map_nil, List.append_nil]⟩) (fun j d δ C' hj hv => ?_) (fun δ C' hv => ?_)
        · obtain ⟨o1, o2, o3, rfl, rfl⟩ := (hPw _ _ _).mp hv
          rw [List.getElem?_map] at hj
          obtain ⟨it, hj2, rfl⟩ := Option.map_eq_some_iff.mp hj
          obtain ⟨htd, htt⟩ := hits it (List.mem_of_getElem? hj2)
          obtain ⟨u, us, eu, hul, huw⟩ := thing_tup htt
          rw [show itD it = .tup [.int it.1, it.2] from rfl]
          walk_at "dl"
          rw [eu] at htd ⊢
          refine ⟨v, ps, u, us, s.2, rfl, hpd, htd, hkn, by omega, ?_⟩
          walk_at "dl"
          rw [optD_isNon]
          have hj3 : j < its.length := (List.getElem?_eq_some_iff.mp hj2).1
          have hlen2 : (((its.take j).filterMap fun it => (fittedD (.tup (v :: ps)) it.2 s.2).map fun k => (s.1 ++ [it.1], k))).length ≤ 30 := by
            refine Nat.le_trans (List.length_filterMap_le _ _) ?_
            exact Nat.le_trans (len_take _ _) (by omega)
          cases ef : fittedD (.tup (v :: ps)) (.tup (u :: us)) s.2 with
          | none =>
            walk_at "dl"
            refine (hPw _ _ _).mpr ⟨_, _, _, rfl, ?_⟩
            rw [take_snoc hj2, List.filterMap_append]
            simp [eu, ef]
          | some k2 =>
            walk_at "dl"
            rw [oAdd_tup (by simp only [List.length_map]; rw [sizeLine_eq]; simp; omega)]
            walk_at "dl"
            refine ⟨by simp only [List.length_append, List.length_map]; omega, (hPw _ _ _).mpr ⟨_, _, _, rfl, ?_⟩⟩
            rw [take_snoc hj2, List.filterMap_append]
            simp [eu, ef, sD, optD]
        · obtain ⟨o1, o2, o3, rfl, rfl⟩ := (hPw _ _ _).mp hv
          rw [List.length_map, List.take_length]
          walk_at "dl"
          exact next _ _ _ _ epass.symm
      | false =>
        have ez2 : z = NOTS := by rcases hz with rfl | rfl <;> first | rfl | (simp at ez; done)
        subst ez2
        simp only [oEq_str okNOT okNOT]
        walk_at "dl"
        rw [show (NOTS == NOTS) = true from by decide +kernel]
        walk_at "dl"
        have epass : passS (.tup [.str NOTS, .tup (v :: ps)]) its s = if (its.all fun it => (fittedD (.tup (v :: ps)) it.2 s.2).isNone) = true then [s] else [] := by simp only [passS, ez]; rfl
        refine lc_all (fun d => match d with
          | .tup [_, t] => (fittedD (.tup (v :: ps)) t s.2).isNone
          | _ => false) (by rw [List.length_map, sizeLine_eq]; omega) (fun d hm K hK => ?_) ?_
        · obtain ⟨it, hit, rfl⟩ := List.mem_map.mp hm
          obtain ⟨htd, htt⟩ := hits it hit
          obtain ⟨u, us, eu, hul, huw⟩ := thing_tup htt
          rw [show itD it = .tup [.int it.1, it.2] from rfl] at hK ⊢
          walk_at "dl"
          rw [eu] at htd ⊢
          refine ⟨v, ps, u, us, s.2, rfl, hpd, htd, hkn, by omega, ?_⟩
          show K (.bl (DL.isNon (optD _))) _
          rw [optD_isNon]
          simp only [eu] at hK
          exact hK
        · rw [List.all_map]
          have e2 : (its.all ((fun d => match d with
            | .tup [_, t] => (fittedD (.tup (v :: ps)) t s.2).isNone
            | _ => false) ∘ itD)) = its.all fun it => (fittedD (.tup (v :: ps)) it.2 s.2).isNone := rfl
          rw [e2]
          cases ea : its.all fun it => (fittedD (.tup (v :: ps)) it.2 s.2).isNone with
          | true =>
            rw [ea, if_pos rfl] at epass
            walk_at "dl"
            exact ⟨by rw [List.length_map]; omega, next _ _ _ _ epass.symm⟩
          | false =>
            rw [ea, if_neg (by simp)] at epass
            walk_at "dl"
            have := next o3 o4 o5 _ epass.symm
            rw [List.map_nil, List.append_nil] at this
            exact this
    · have hzd := datD_item hw (show D.str z ∈ [D.str z, x, y] by simp)
      have ez : (z == ISS) = false := by rcases hz with rfl | rfl | rfl <;> decide +kernel
      have ez2 : (z == NOTS) = false := by rcases hz with rfl | rfl | rfl <;> decide +kernel
      walk_at "dl"
      simp only [oEq_str (datD_sok hzd) okIS, ez]
      walk_at "dl"
      simp only [oEq_str (datD_sok hzd) okNOT, ez2]
      walk_at "dl"
      obtain ⟨a, ha1, ha2, ha3⟩ := side_ok (datD_item hw (show x ∈ [D.str z, x, y] by simp)) hx ⟨hkn, hkf⟩
      obtain ⟨b, hb1, hb2, hb3⟩ := side_ok (datD_item hw (show y ∈ [D.str z, x, y] by simp)) hy ⟨hkn, hkf⟩
      have epass : passS (.tup [.str z, x, y]) its s = if holdsD z a b = true then [s] else [] := by simp only [passS, ha1, hb1]
      refine ⟨z, x, y, s.2, a, b, rfl, hw, ha1, hb1, ha2, hb2, ha3, hb3, ?_⟩
      walk_at "dl"
      cases eh : holdsD z a b with
      | true =>
        rw [eh, if_pos rfl] at epass
        walk_at "dl"
        exact ⟨by rw [List.length_map]; omega, next _ _ _ _ epass.symm⟩
      | false =>
        rw [eh, if_neg (by simp)] at epass
        walk_at "dl"
        have := next o3 o4 o5 _ epass.symm
        rw [List.map_nil, List.append_nil] at this
        exact this
  · obtain ⟨o1, o2, o3, o4, o5, rfl, rfl⟩ := (hPv _ _ _).mp hv
    rw [List.length_map, List.take_length]
    walk_at "dl"
    exact ⟨_, _, frz_upd hq, lss_of h⟩
theorem getK_put_self (k : Kn) (kk : Key) (d : D) : getK (putD k kk d) kk = some d := by
  unfold putD
  split
  · rename_i h
    induction k with
    | nil => simp at h
    | cons kv r ih =>
      rw [List.map_cons]
      by_cases e : kv.1 = kk
      · simp [getK, e]
      · simp only [getK, List.find?_cons, e, if_false, decide_false] at ih ⊢
        refine ih ?_
        simpa [e] using h
  · rename_i h
    have : k.find? (fun kv => decide (kv.1 = kk)) = none := by
      rw [List.find?_eq_none]
      intro x hx
      simp only [List.any_eq_true, not_exists, not_and] at h
      exact h x hx
    simp [getK, List.find?_append, this]
theorem getK_put_ne (k : Kn) {kk k2 : Key} (d : D) (hne : k2 ≠ kk) : getK (putD k kk d) k2 = getK k k2 := by
  unfold putD
  split
  · induction k with
    | nil => rfl
    | cons kv r ih =>
      rw [List.map_cons]
      by_cases h : kv.1 = k2
      · subst h
        simp [getK, hne]
      · by_cases e : kv.1 = kk
        · subst e
          rw [if_pos rfl]
          simp only [getK, List.find?_cons, h, decide_false] at ih ⊢
          by_cases ha : (r.any fun kv' => decide (kv'.1 = kv.1)) = true
          · exact ih ha
          · have : (r.map fun kv' => if kv'.1 = kv.1 then (kv'.1, d) else kv') = r := by
              rw [List.map_congr_left (g := id)]
              · simp
              · intro x hx
                have : x.1 ≠ kv.1 := fun e => ha (List.any_eq_true.mpr ⟨x, hx, by simp [e]⟩)
                simp [this]
            rw [this]
        · rw [if_neg e]
          simp only [getK, List.find?_cons, h, decide_false] at ih ⊢
          refine ih ?_
          simpa [e] using ‹((kv :: r).any fun kv => decide (kv.1 = kk)) = true›
  · have : kk ≠ k2 := fun e => hne e.symm
    simp [getK, List.find?_append, this]
theorem fit1_keep {k k' : Kn} {p t : D} {kk : Key} {v : D} (h : fit1 k p t = some k') (hv : getK k kk = some v) : getK k' kk = some v := by
  unfold fit1 at h
  split at h
  · split at h
    · cases h
    · split at h
      · split at h
        · cases h; exact hv
        · cases h
      · rename_i k2 hk2 hg
        split at h
        · cases h
          rw [getK_put_ne _ _ (by rintro rfl; rw [hg] at hv; cases hv)]
          exact hv
        · cases h
  · split at h
    · cases h; exact hv
    · cases h
theorem fit1_new {k k' : Kn} {z : Str} {t : D} (hb : isBlankD (.str z) = true) (h : fit1 k (.str z) t = some k') : ∃ v, getK k' (.inr z) = some v ∧ (v = t ∨ getK k (.inr z) = some v) := by
  unfold fit1 at h
  rw [if_pos hb] at h
  simp only [DL.keyOf] at h
  cases e : getK k (.inr z) with
  | some v =>
    simp only [e] at h
    split at h
    · cases h; exact ⟨v, e, .inr rfl⟩
    · cases h
  | none =>
    simp only [e] at h
    split at h
    · cases h; exact ⟨t, getK_put_self _ _ _, .inl rfl⟩
    · cases h
theorem fitL_keep {kk : Key} {v : D} : ∀ {r : List (D × D)} {k k' : Kn}, fitL k r = some k' → getK k kk = some v → getK k' kk = some v
  | [], _, _, h, hv => by cases h; exact hv
  | (p, t) :: r, k, k', h, hv => by
    simp only [fitL] at h
    obtain ⟨k2, h1, h2⟩ := Option.bind_eq_some_iff.mp h
    exact fitL_keep h2 (fit1_keep h1 hv)
theorem fitL_new {z : Str} (hb : isBlankD (.str z) = true) : ∀ {r : List (D × D)} {k k' : Kn}, fitL k r = some k' → (∀ pt ∈ r, isWorthD pt.2 = true) → (∀ v, getK k (.inr z) = some v → isWorthD v = true) → (∃ t, (D.str z, t) ∈ r) → ∃ v, getK k' (.inr z) = some v ∧ isWorthD v = true
  | [], _, _, h, _, _, ⟨_, hm⟩ => by cases hm
  | (p, t) :: r, k, k', h, hw, hk, ⟨u, hm⟩ => by
    simp only [fitL] at h
    obtain ⟨k2, h1, h2⟩ := Option.bind_eq_some_iff.mp h
    by_cases e : p = .str z
    · subst e
      obtain ⟨v, hv, hvv⟩ := fit1_new hb h1
      refine ⟨v, fitL_keep h2 hv, ?_⟩
      rcases hvv with rfl | hvv
      · exact hw (.str z, v) List.mem_cons_self
      · exact hk v hvv
    · refine fitL_new hb h2 (fun pt hpt => hw pt (by simp [hpt])) (fun v hv => ?_) ⟨u, by
        rcases List.mem_cons.mp hm with hm | hm
        · cases hm; exact absurd rfl e
        · exact hm⟩
      unfold fit1 at h1
      split at h1
      · rename_i hpb
        obtain ⟨y, rfl⟩ : ∃ y, p = .str y := by cases p <;> first | exact ⟨_, rfl⟩ | (cases hpb; done)
        simp only [DL.keyOf] at h1
        split at h1
        · split at h1
          · cases h1; exact hk v hv
          · cases h1
        · split at h1
          · cases h1
            rw [getK_put_ne _ _ (by rintro e2; cases e2; exact e rfl)] at hv
            exact hk v hv
          · cases h1
      · split at h1
        · cases h1; exact hk v hv
        · cases h1
theorem fitL_len : ∀ {r : List (D × D)} {k k' : Kn}, fitL k r = some k' → k'.length ≤ k.length + r.length ∧ ∀ kv ∈ k', kv ∈ k ∨ ∃ pt ∈ r, kv.2 = pt.2
  | [], _, _, h => by cases h; exact ⟨by omega, fun kv h => .inl h⟩
  | (p, t) :: r, k, k', h => by
    simp only [fitL] at h
    obtain ⟨k2, h1, h2⟩ := Option.bind_eq_some_iff.mp h
    obtain ⟨l1, m1⟩ := fit1_len h1
    obtain ⟨l2, m2⟩ := fitL_len h2
    refine ⟨by rw [List.length_cons]; omega, fun kv hkv => ?_⟩
    rcases m2 kv hkv with q | ⟨pt, q1, q2⟩
    · rcases m1 kv q with q | q
      · exact .inl q
      · exact .inr ⟨(p, t), by simp, q⟩
    · exact .inr ⟨pt, by simp [q1], q2⟩
theorem zip_right {ps ts : List D} {p : D} (h : p ∈ ps) (hl : ps.length = ts.length) : ∃ t, (p, t) ∈ ps.zip ts := by
  obtain ⟨i, hi, rfl⟩ := List.mem_iff_getElem.mp h
  exact ⟨ts[i]'(by omega), List.mem_iff_getElem.mpr ⟨i, by rw [List.length_zip]; omega, by rw [List.getElem_zip]⟩⟩
theorem memD_str {z : Str} {bs : List D} (h : memD (.str z) bs = true) : D.str z ∈ bs := by
  obtain ⟨x, hx, e⟩ := List.any_eq_true.mp h
  cases x <;> first | (cases e; done) | skip
  have e : ((_ : Str) == z) = true := e
  rw [beq_iff_eq] at e
  subst e
  exact hx
theorem fitted_for {bs : List D} {z : Str} {ps : List D} {v : D} {t : D} {k k' : Kn} (hz : (z == ISS) = true) (hpl : ps.length ≤ 4) (ht : ThOk t) (hk : KnFor bs k) (hl : k.length ≤ 900) (h : fittedD (.tup (v :: ps)) t k = some k') : KnFor (wantAdd bs (.tup [.str z, .tup (v :: ps)])) k' ∧ k'.length ≤ k.length + 4 := by
  obtain ⟨htd, htt⟩ := ht
  obtain ⟨u, us, rfl, hul, huw⟩ := thing_tup htt
  simp only [fittedD] at h
  split at h
  rotate_left
  · cases h
  rename_i ha
  have hlen : ps.length = us.length := by
    simp only [alikeD, Bool.and_eq_true, decide_eq_true_eq] at ha
    exact ha.2
  obtain ⟨l1, m1⟩ := fitL_len h
  have hzl : (ps.zip us).length ≤ 4 := by rw [List.length_zip]; omega
  refine ⟨⟨⟨by omega, fun kv hkv => ?_⟩, fun kv hkv => ?_, fun y hy => ?_⟩, by omega⟩
  · rcases m1 kv hkv with q | ⟨pt, q1, q2⟩
    · exact hk.1.2 kv q
    · rw [q2]
      exact datD_item htd (List.mem_cons_of_mem _ (List.of_mem_zip q1).2)
  · rcases m1 kv hkv with q | ⟨pt, q1, q2⟩
    · exact hk.2.1 kv q
    · rw [q2]
      exact List.all_eq_true.mp huw _ (List.of_mem_zip q1).2
  · simp only [wantAdd, hz, if_true] at hy
    have hy := memD_str hy
    rcases List.mem_append.mp hy with q | q
    · obtain ⟨w, hw1⟩ := hk.2.2 y (List.any_eq_true.mpr ⟨_, q, by simp [D.eqv]⟩)
      exact ⟨w, fitL_keep h hw1⟩
    · obtain ⟨q1, q2⟩ := List.mem_filter.mp q
      have q1 : D.str y ∈ ps := q1
      obtain ⟨w, hw, _⟩ := fitL_new q2 h (fun pt hpt => List.all_eq_true.mp huw _ (List.of_mem_zip hpt).2) (fun w hw => by
        obtain ⟨kv, hkv, rfl⟩ := getK_mem hw
        exact hk.2.1 kv hkv) (zip_right q1 hlen)
      exact ⟨w, hw⟩
theorem passS_for {w : D} {bs : List D} {its : List (Int × D)} {s s' : S1} (hw : isWantD w bs = true) (hits : ∀ it ∈ its, ThOk it.2) (hk : KnFor bs s.2) (hl : s.2.length ≤ 900) (h : s' ∈ passS w its s) : KnFor (wantAdd bs w) s'.2 ∧ s'.1.length ≤ s.1.length + 1 ∧ s'.2.length ≤ s.2.length + 4 := by
  rcases want_cases hw with ⟨z, p, rfl, hz, hp⟩ | ⟨z, x, y, rfl, hz, hx, hy⟩
  · obtain ⟨v, ps, rfl, hpl⟩ := pattern_tup hp
    cases ez : (z == ISS) with
    | true =>
      simp only [passS, ez, if_true] at h
      obtain ⟨it, hit, e⟩ := List.mem_filterMap.mp h
      obtain ⟨k', e1, rfl⟩ := Option.map_eq_some_iff.mp e
      obtain ⟨a, b⟩ := fitted_for ez hpl (hits it hit) hk hl e1
      exact ⟨a, by simp, b⟩
    | false =>
      have ea : wantAdd bs (.tup [.str z, .tup (v :: ps)]) = bs := by simp only [wantAdd, ez]; simp
      simp only [passS, ez] at h
      rw [ea]
      split at h
      · simp at *
      · split at h
        · simp at h; subst h; exact ⟨hk, by omega, by omega⟩
        · cases h
  · have ez : (z == ISS) = false := by rcases hz with rfl | rfl | rfl <;> decide +kernel
    have ea : wantAdd bs (.tup [.str z, x, y]) = bs := by
      unfold wantAdd
      split
      · rename_i e
        injection e with e
        injection e with e1 e2
        injection e1 with e1
        subst e1
        rw [ez]
        simp
      · rfl
    rw [ea]
    simp only [passS] at h
    split at h
    · split at h
      · simp at h; subst h; exact ⟨hk, by omega, by omega⟩
      · cases h
    · cases h
/-- the ways to meet wants -/
def ways (its : List (Int × D)) (ss : List S1) (ws : List D) : List S1 := ws.foldl (fun ss w => ss.flatMap (passS w its)) ss
theorem ways_snoc (its : List (Int × D)) (ss : List S1) (ws : List D) (w : D) : ways its ss (ws ++ [w]) = (ways its ss ws).flatMap (passS w its) := by
  unfold ways
  rw [List.foldl_append]
  rfl
structure RuleOk (r : D) : Prop where
  dat : datD 50 r = true
  sh : ∃ n m ws q bs, r = .tup [n, m, .tup ws, q] ∧ wantsBs [] ws = some bs ∧ ws.length ≤ 5
def ruleM (its : List (Int × D)) (i : Nat) (r : D) : List D := match r with
  | .tup [_, _, .tup ws, _] => (ways its [([], [])] ws).map fun s => .tup [.int (i : Nat), .tup (s.1.map .int)]
  | _ => []
def foundD (its : List (Int × D)) (rs : List D) : List D := rs.zipIdx.flatMap fun ri => ruleM its ri.2 ri.1
/-- every way of as many wants is good -/
theorem ways_ok {its : List (Int × D)} (hits : ∀ it ∈ its, ThOk it.2) : ∀ {ws : List D} {bs : List D}, wantsBs [] ws = some bs → ws.length ≤ 200 → (∀ s ∈ ways its [([], [])] ws, KnFor bs s.2 ∧ s.1.length ≤ ws.length ∧ s.2.length ≤ 4 * ws.length) ∧ (ways its [([], [])] ws).length ≤ (max 1 its.length) ^ ws.length := by
  intro ws
  suffices H : ∀ n (ws : List D) bs, ws.length = n → wantsBs [] ws = some bs → ws.length ≤ 200 → (∀ s ∈ ways its [([], [])] ws, KnFor bs s.2 ∧ s.1.length ≤ ws.length ∧ s.2.length ≤ 4 * ws.length) ∧ (ways its [([], [])] ws).length ≤ (max 1 its.length) ^ ws.length from fun {bs} => H _ ws bs rfl
  intro n
  induction n with
  | zero =>
    intro ws bs hl hb _
    obtain rfl := List.length_eq_zero_iff.mp hl
    cases hb
    refine ⟨fun s hs => ?_, by simp [ways]⟩
    simp only [ways, List.foldl_nil, List.mem_singleton] at hs
    subst hs
    exact ⟨⟨⟨by simp, fun _ h => by cases h⟩, fun _ h => (by cases h), fun z h => by cases h⟩, by simp, by simp⟩
  | succ n ih =>
    intro ws bs hl hb h200
    obtain ⟨ws, w, rfl⟩ : ∃ l x, ws = l ++ [x] := ⟨ws.dropLast, ws.getLast (by intro e; subst e; cases hl), (List.dropLast_concat_getLast _).symm⟩
    rw [List.length_append, List.length_singleton] at hl h200
    rw [wantsBs_snoc] at hb
    obtain ⟨b, hb1, hb2⟩ := Option.bind_eq_some_iff.mp hb
    split at hb2
    rotate_left
    · cases hb2
    rename_i hw
    cases hb2
    obtain ⟨i1, i2⟩ := ih ws b (by omega) hb1 (by omega)
    rw [ways_snoc]
    refine ⟨fun s hs => ?_, ?_⟩
    · obtain ⟨s0, h0, h1⟩ := List.mem_flatMap.mp hs
      obtain ⟨j1, j2, j3⟩ := i1 s0 h0
      obtain ⟨k1, k2, k3⟩ := passS_for hw hits j1 (by omega) h1
      rw [List.length_append, List.length_singleton]
      exact ⟨k1, by omega, by omega⟩
    · refine Nat.le_trans (pass_len w its _) ?_
      rw [List.length_append, List.length_singleton, Nat.pow_succ]
      exact Nat.mul_le_mul_right _ i2
theorem ints_ok : ∀ ns : List Int, (ns.map D.int).all (okD 48) = true
  | [] => rfl
  | _ :: ns => by rw [List.map_cons, List.all_cons, ints_ok ns]; rfl
theorem alike_ints : ∀ ns ms : List Int, PySem.W.alikeAll (toPyL (ns.map D.int)) (toPyL (ms.map D.int)) = true
  | [], _ => by simp [toPyL, PySem.W.alikeAll]
  | _ :: _, [] => by simp [toPyL, PySem.W.alikeAll]
  | a :: ns, b :: ms => by simp only [List.map_cons, toPyL, PySem.W.alikeAll, toPy, PySem.W.alike, alike_ints ns ms, Bool.and_self]
/-- a match: which rule, which things -/
def matchD (m : Nat × List Int) : D := .tup [.int (m.1 : Nat), .tup (m.2.map .int)]
theorem sort_matches (ms : List (Nat × List Int)) : SortOk (ms.map matchD) := by
  refine ⟨List.all_eq_true.mpr fun d hd => ?_, fun d hd e he => ?_, .inl fun d hd => ?_⟩
  · obtain ⟨m, _, rfl⟩ := List.mem_map.mp hd
    simp only [matchD, okD, List.all_cons, List.all_nil, Bool.and_true, Bool.true_and]
    exact ints_ok _
  · obtain ⟨m', hm', rfl⟩ := List.mem_map.mp hd
    obtain ⟨n', hn', rfl⟩ := List.mem_map.mp he
    obtain ⟨m, _, rfl⟩ := List.mem_map.mp hm'
    obtain ⟨n, _, rfl⟩ := List.mem_map.mp hn'
    simp only [matchD, toPy, toPyL, PySem.W.alike, PySem.W.alikeAll, alike_ints, Bool.and_self]
  · obtain ⟨m', hm', rfl⟩ := List.mem_map.mp hd
    obtain ⟨m, _, rfl⟩ := List.mem_map.mp hm'
    exact ⟨_, _, rfl⟩
theorem found_matches (its : List (Int × D)) (rs : List D) : ∃ ms : List (Nat × List Int), foundD its rs = ms.map matchD := by
  unfold foundD
  generalize rs.zipIdx = l
  induction l with
  | nil => exact ⟨[], rfl⟩
  | cons ri l ih =>
    obtain ⟨ms, e⟩ := ih
    rw [List.flatMap_cons, e]
    have : ∃ ns : List (Nat × List Int), ruleM its ri.2 ri.1 = ns.map matchD := by
      unfold ruleM
      split
      · exact ⟨(ways its [([], [])] _).map fun s => (ri.2, s.1), by rw [List.map_map]; rfl⟩
      · exact ⟨[], rfl⟩
    obtain ⟨ns, e2⟩ := this
    exact ⟨ns ++ ms, by rw [e2, List.map_append]⟩
theorem ruleM_len {its : List (Int × D)} (hits : ∀ it ∈ its, ThOk it.2) {i : Nat} {r : D} (hr : RuleOk r) : (ruleM its i r).length ≤ (max 1 its.length) ^ 5 := by
  obtain ⟨n, m, ws, q, bs, rfl, hb, hl⟩ := hr.sh
  simp only [ruleM, List.length_map]
  exact Nat.le_trans (ways_ok hits hb (by omega)).2 (Nat.pow_le_pow_right (by omega) hl)
def a_matches_of : ASp := fun ds C R => ∃ rs, ∃ its : List (Int × D), ds = [.tup rs, .lst (its.map itD)] ∧ (∀ r ∈ rs, RuleOk r) ∧ rs.length ≤ 8 ∧ (∀ it ∈ its, ThOk it.2) ∧ its.length ≤ 18 ∧ ∀ p, C p = none → R (.ref p) (updC C p (.lst (sortD (foundD its rs))))
theorem rd_matches_of : ∀ ds C R, a_matches_of ds C R → t_matches_of a_passed { nx := fun _ C' => lss R .non C', rt := lss R } (dstart ["rules", "things", "found", "number", "rule", "some", "want", "numbers", "known"] ds) C := by
  rintro ds C R ⟨rs, its, rfl, hrs, hrl, hits, hil, h⟩
  unfold t_matches_of
  walk_at "dl"
  intro q hq
  have hm5 : (max 1 its.length) ^ 5 ≤ 1889568 := by
    have : max 1 its.length ≤ 18 := by omega
    exact Nat.le_trans (Nat.pow_le_pow_left this 5) (by decide)
  obtain ⟨Pv, hPv⟩ : ∃ Pv : Nat → DSt → Cells → Prop, ∀ i δ C', Pv i δ C' ↔ ∃ o1 o2 o3 o4, δ = [some (.tup rs), some (.lst (its.map itD)), some (.ref q), o1, o2, o3, o4, none, none] ∧ C' = updC C q (.lst ((rs.zipIdx.take i).flatMap fun ri => ruleM its ri.2 ri.1)) := ⟨_, fun _ _ _ => Iff.rfl⟩
  refine ⟨rfl, for_enum (x := .tup rs) (ds := rs) (fun _ => rfl) Pv ((hPv _ _ _).mpr ⟨none, none, none, none, rfl, rfl⟩) (fun i r δ C' hi hv => ?_) (fun δ C' hv => ?_)⟩
  · obtain ⟨o1, o2, o3, o4, rfl, rfl⟩ := (hPv _ _ _).mp hv
    have hr := hrs r (List.mem_of_getElem? hi)
    have hzi : rs.zipIdx[i]? = some (r, i) := by rw [List.getElem?_zipIdx, hi]; simp
    have hrm := ruleM_len hits (i := i) hr
    have hacc : ((rs.zipIdx.take i).flatMap fun ri => ruleM its ri.2 ri.1).length ≤ i * 1889568 := by
      have : ∀ l : List (D × Nat), (∀ ri ∈ l, RuleOk ri.1) → (l.flatMap fun ri => ruleM its ri.2 ri.1).length ≤ l.length * 1889568 := fun l => by
        induction l with
        | nil => simp
        | cons a l ih =>
          intro hl
          rw [List.flatMap_cons, List.length_append, List.length_cons]
          have h1 := ruleM_len hits (i := a.2) (hl a (by simp))
          have h2 := ih fun ri hri => hl ri (by simp [hri])
          omega
      have := this (rs.zipIdx.take i) fun ri hri => by
        obtain ⟨x, j⟩ := ri
        have := List.mem_of_mem_take hri
        exact hrs _ (List.fst_mem_of_mem_zipIdx this)
      have h3 : (rs.zipIdx.take i).length ≤ i := by rw [List.length_take]; omega
      exact Nat.le_trans this (Nat.mul_le_mul_right _ h3)
    have hi8 : i < 8 := by have := (List.getElem?_eq_some_iff.mp hi).1; omega
    obtain ⟨n, m, ws, dd, bs, rfl, hb, hl⟩ := hr.sh
    walk_at "dl"
    have hwd : datD 50 (.tup ws) = true := datD_item hr.dat (by simp)
    obtain ⟨Pw, hPw⟩ : ∃ Pw : Nat → DSt → Cells → Prop, ∀ j δ C', Pw j δ C' ↔ ∃ o1, δ = [some (.tup rs), some (.lst (its.map itD)), some (.ref q), some (.int (i : Nat)), some (.tup [n, m, .tup ws, dd]), some (.lst ((ways its [([], [])] (ws.take j)).map sD)), o1, none, none] ∧ C' = updC C q (.lst ((rs.zipIdx.take i).flatMap fun ri => ruleM its ri.2 ri.1)) := ⟨_, fun _ _ _ => Iff.rfl⟩
    refine for_fix Pw ((hPw _ _ _).mpr ⟨o4, rfl, rfl⟩) (fun j w δ C' hj hv => ?_) (fun δ C' hv => ?_)
    · obtain ⟨o1, rfl, rfl⟩ := (hPw _ _ _).mp hv
      have hjl : j < ws.length := (List.getElem?_eq_some_iff.mp hj).1
      have hb' := hb
      rw [split_at hj] at hb'
      walk_at "dl"
      obtain ⟨b, hb1, hw⟩ : ∃ b, wantsBs [] (ws.take j) = some b ∧ isWantD w b = true := by
        have hx : wantsBs [] (ws.take (j + 1)) ≠ none := fun e => by
          have : ∀ (l r : List D) (b0 : List D), wantsBs b0 l = none → wantsBs b0 (l ++ r) = none := by
            intro l
            induction l with
            | nil => intro r b0 e; cases e
            | cons v l ih =>
              intro r b0 e
              rw [List.cons_append, wantsBs_cons]
              rw [wantsBs_cons] at e
              split
              · rename_i g; rw [if_pos g] at e; exact ih r _ e
              · rfl
          have := this _ (ws.drop (j + 1)) _ e
          rw [List.take_append_drop, hb] at this
          cases this
        rw [take_snoc hj, wantsBs_snoc] at hx
        cases e : wantsBs [] (ws.take j) with
        | none => rw [e] at hx; exact absurd rfl hx
        | some b =>
          rw [e] at hx
          refine ⟨b, rfl, ?_⟩
          cases e2 : isWantD w b with
          | true => rfl
          | false => simp [e2] at hx
      have hw5 := ways_ok hits hb1 (by have := len_take ws j; omega)
      refine ⟨w, b, ways its [([], [])] (ws.take j), its, rfl, datD_item hwd (List.mem_of_getElem? hj), hw, fun s hs => ⟨(hw5.1 s hs).1, by have := (hw5.1 s hs).2.1; have := len_take ws j; omega⟩, hits, by omega, ?_, (hPw _ _ _).mpr ⟨some w, ?_, rfl⟩⟩
      · have h1 := hw5.2
        have h2 : (ws.take j).length ≤ 4 := by rw [List.length_take]; omega
        have h3 : (max 1 its.length) ^ (ws.take j).length ≤ (max 1 its.length) ^ 4 := Nat.pow_le_pow_right (by omega) h2
        have h4 := Nat.mul_le_mul_right (max 1 its.length) (Nat.le_trans h1 h3)
        have h5 : (max 1 its.length) ^ 4 * max 1 its.length = (max 1 its.length) ^ 5 := (Nat.pow_succ _ _).symm
        exact Nat.le_trans h4 (by rw [h5]; exact Nat.le_trans hm5 (by decide))
      · rw [take_snoc hj, ways_snoc]
    · obtain ⟨o1, rfl, rfl⟩ := (hPw _ _ _).mp hv
      rw [List.take_length]
      have hwn : (ways its [([], [])] ws).length ≤ 1889568 := by
        have : (ruleM its i (.tup [n, m, .tup ws, dd])).length = (ways its [([], [])] ws).length := by simp only [ruleM, List.length_map]
        omega
      walk_at "dl"
      refine lc_map (fun d => match d with
        | .tup [x, _] => .tup [.int (i : Nat), x]
        | _ => .non) (by rw [List.length_map, sizeLine_eq]; omega) (fun d hd K hK => ?_) ?_
      · obtain ⟨s, _, rfl⟩ := List.mem_map.mp hd
        rw [show sD s = .tup [.tup (s.1.map .int), .dct s.2] from rfl] at hK ⊢
        walk_at "dl"
        exact hK
      · have e : ((ways its [([], [])] ws).map sD).map (fun d => match d with
            | .tup [x, _] => .tup [.int (i : Nat), x]
            | _ => .non) = ruleM its i (.tup [n, m, .tup ws, dd]) := by
          simp only [ruleM, List.map_map]
          rfl
        rw [e]
        refine ext_upd (es := ruleM its i (.tup [n, m, .tup ws, dd])) rfl (by rw [sizeLine_eq]; omega) ((hPv _ _ _).mpr ⟨_, _, _, _, rfl, ?_⟩)
        rw [take_snoc hzi, List.flatMap_append]
        simp
  · obtain ⟨o1, o2, o3, o4, rfl, rfl⟩ := (hPv _ _ _).mp hv
    rw [show rs.length = rs.zipIdx.length by simp, List.take_length]
    walk_at "dl"
    rw [oSortedC_def]
    obtain ⟨ms, e⟩ := found_matches its rs
    refine ⟨_, lstOf_upd, ?_, fun p hp => ?_⟩
    · rw [show (rs.zipIdx.flatMap fun ri => ruleM its ri.2 ri.1) = ms.map matchD from e]
      exact sort_matches ms
    · have hpq : p ≠ q := fun e => by subst e; rw [updC_at] at hp; cases hp
      rw [DL.updC_ne hpq] at hp
      refine ⟨_, fun a c e => ?_, h p hp⟩
      by_cases ha : a = q
      · subst ha
        rw [DL.updC_ne (Ne.symm hpq), hq] at e
        cases e
      · by_cases hap : a = p
        · subst hap
          rw [updC_at] at e ⊢
          exact e
        · rw [DL.updC_ne hap] at e ⊢
          rw [DL.updC_ne ha]
          exact e
theorem itOf_ref {C : Cells} {p : Addr} {ds : List D} (h : C p = some (.lst ds)) : itOf C (.ref p) = some (itLive p) := by
  show (match C p with | some (.lst _) => some (itLive p) | _ => none) = _
  rw [h]
/-- a list that stays as it is while it is walked -/
theorem for_liveP {p : Addr} {ds : List D} {g : DG} {tb : DS} {N : DEnds} {δ : DSt} {C : Cells} (Pv : Nat → DSt → Cells → Prop) (hx : ∀ i δ C, Pv i δ C → C p = some (.lst ds)) (h0 : Pv 0 δ C)
    (hs : ∀ i d δ C, ds[i]? = some d → Pv i δ C → g d δ C fun δ2 C2 => tb { N with nx := Pv (i + 1), ct := Pv (i + 1), bk := N.nx } δ2 C2) (hd : ∀ δ C, Pv ds.length δ C → N.nx δ C) :
    ∃ W : Nat → Nat → DSt → Cells → Prop, (∃ m, W 0 m δ C) ∧ ∀ i m δ C, W i m δ C →
      ((itLive p).stop i C ∧ N.nx δ C) ∨ ((itLive p).go i C ∧ ∃ Nx : DSt → Cells → Prop, (∀ δ' C', Nx δ' C' → ∃ m', m' < m ∧ W (i + 1) m' δ' C') ∧ ∀ d, (itLive p).yld i C d → g d δ C fun δ2 C2 => tb { N with nx := Nx, ct := Nx, bk := N.nx } δ2 C2) := by
  refine ⟨fun i m δ C => m = ds.length - i ∧ i ≤ ds.length ∧ Pv i δ C, ⟨ds.length, by simp, Nat.zero_le _, h0⟩, ?_⟩
  rintro i m δ C ⟨rfl, hi, q⟩
  have hx := hx i δ C q
  by_cases hlt : i < ds.length
  · refine .inr ⟨⟨ds, ds[i], hx, List.getElem?_eq_getElem hlt⟩, Pv (i + 1), fun δ' C' p' => ⟨ds.length - (i + 1), by omega, rfl, hlt, p'⟩, fun d y => ?_⟩
    obtain ⟨es, h1, h2⟩ := y
    rw [hx] at h1; cases h1
    exact hs i d δ C h2 q
  · have e : i = ds.length := by omega
    subst e
    exact .inl ⟨⟨ds, hx, Nat.le_refl _⟩, hd δ C q⟩
/-- a list, as a value or in a cell -/
def SeqY (C : Cells) (y : D) (ds : List D) : Prop := y = .lst ds ∨ ∃ p, y = .ref p ∧ C p = some (.lst ds)
theorem seqY_lst {C : Cells} {ds : List D} : SeqY C (.lst ds) ds := .inl rfl
theorem SeqY.upd {C : Cells} {y : D} {ds : List D} {q : Addr} {c : Cell} (h : SeqY C y ds) (hq : C q = none) : SeqY (updC C q c) y ds := by
  rcases h with rfl | ⟨p, rfl, hp⟩
  · exact .inl rfl
  · refine .inr ⟨p, rfl, ?_⟩
    rw [DL.updC_ne (fun e => by rw [e, hq] at hp; cases hp)]
    exact hp
theorem SeqY.seq {C : Cells} {y : D} {ds : List D} (h : SeqY C y ds) : seqOf C y = some ds := by
  rcases h with rfl | ⟨p, rfl, hp⟩
  · rfl
  · show (C p).bind _ = _; rw [hp]; rfl
theorem for_seqP {y : D} {ds : List D} {g : DG} {tb : DS} {N : DEnds} {δ : DSt} {C : Cells} (Pv : Nat → DSt → Cells → Prop) (hy : ∀ i δ C, Pv i δ C → SeqY C y ds) (h0 : Pv 0 δ C)
    (hs : ∀ i d δ C, ds[i]? = some d → Pv i δ C → g d δ C fun δ2 C2 => tb { N with nx := Pv (i + 1), ct := Pv (i + 1), bk := N.nx } δ2 C2) (hd : ∀ δ C, Pv ds.length δ C → N.nx δ C) :
    ∃ J, itOf C y = some J ∧ LoopG J g tb N δ C := by
  rcases hy 0 _ _ h0 with rfl | ⟨p, rfl, hp⟩
  · exact ⟨_, rfl, for_fix Pv h0 hs hd⟩
  · exact ⟨_, itOf_ref hp, for_liveP Pv (fun i δ C hv => by rcases hy i δ C hv with h | ⟨q, h, hq⟩ <;> cases h; exact hq) h0 hs hd⟩
theorem itOf_at {C : Cells} {p : Addr} {ds : List D} (h : C p = some (.lst ds)) : itOf C (.ref p) = some (itLive p) := by
  simp only [itOf, h]
theorem itOf_upd {C : Cells} {p : Addr} {ds : List D} : itOf (updC C p (.lst ds)) (.ref p) = some (itLive p) := itOf_at updC_at
/-- a comprehension over a list that may be written, but is not while it is walked -/
theorem lc_live {p : Addr} {ds : List D} {fin : List D → Cells → Prop} {gd : DG} {te : DE} {δ : DSt} {C : Cells} (f : D → D) (hC : C p = some (.lst ds)) (hl : ds.length ≤ sizeLine)
    (hs : ∀ d, d ∈ ds → ∀ K : D → Cells → Prop, K (f d) C → gd d δ C fun δ2 C2 => te δ2 C2 K) (hd : fin (ds.map f) C) : dLcW fin (itLive p) C gd dYes te δ := by
  refine ⟨fun i m acc C' => m = ds.length - i ∧ i ≤ ds.length ∧ C' = C ∧ acc = (ds.take i).map f, ⟨ds.length, by simp, Nat.zero_le _, rfl, by simp⟩, ?_⟩
  rintro i m acc C' ⟨rfl, hi, rfl, rfl⟩
  by_cases hlt : i < ds.length
  · refine .inr ⟨⟨ds, ds[i], hC, List.getElem?_eq_getElem hlt⟩, fun acc' C2 => C2 = C' ∧ acc' = (ds.take (i + 1)).map f, fun acc' C2 p' => ⟨ds.length - (i + 1), by omega, rfl, hlt, p'.1, p'.2⟩, fun d y => ?_⟩
    obtain ⟨ds2, e1, e2⟩ := y
    rw [hC] at e1
    cases e1
    simp only [dYes, if_true]
    refine hs d (List.mem_of_getElem? e2) (fun y C4 => _) ?_
    refine ⟨by rw [List.length_map]; have := len_take ds i; have : (ds.take i).length = i := by rw [List.length_take]; omega
               omega, rfl, ?_⟩
    rw [take_snoc e2, List.map_append]
    rfl
  · have e : i = ds.length := by omega
    subst e
    exact .inl ⟨⟨ds, hC, Nat.le_refl _⟩, by rw [List.take_length]; exact hd⟩
def distinctD (ts : List D) : List D := ts.foldl (fun acc t => if memD t acc = true then acc else acc ++ [t]) []
def numIt (ds : List D) : List (Int × D) := ds.zipIdx.map fun ti => ((ti.2 : Int), ti.1)
theorem numIt_snoc (ds : List D) (t : D) : numIt (ds ++ [t]) = numIt ds ++ [(((ds.length : Nat) : Int), t)] := by
  unfold numIt
  rw [List.zipIdx_append, List.map_append]
  simp
theorem numIt_snd (ds : List D) : (numIt ds).map (·.2) = ds := by
  unfold numIt
  rw [List.map_map]
  have : ((fun x : Int × D => x.2) ∘ fun ti : D × Nat => ((ti.2 : Int), ti.1)) = Prod.fst := rfl
  rw [this, List.zipIdx_map_fst]
theorem numIt_len (ds : List D) : (numIt ds).length = ds.length := by simp [numIt]
theorem distinct_snoc (ts : List D) (t : D) : distinctD (ts ++ [t]) = if memD t (distinctD ts) = true then distinctD ts else distinctD ts ++ [t] := by
  unfold distinctD
  rw [List.foldl_append]
  rfl
theorem distinct_mem {x : D} : ∀ {ts : List D}, x ∈ distinctD ts → x ∈ ts := by
  intro ts
  suffices H : ∀ n (ts : List D), ts.length = n → x ∈ distinctD ts → x ∈ ts from H _ ts rfl
  intro n
  induction n with
  | zero => intro ts hl h; obtain rfl := List.length_eq_zero_iff.mp hl; exact h
  | succ n ih =>
    intro ts hl h
    obtain ⟨ts, t, rfl⟩ : ∃ l x, ts = l ++ [x] := ⟨ts.dropLast, ts.getLast (by intro e; subst e; cases hl), (List.dropLast_concat_getLast _).symm⟩
    rw [distinct_snoc] at h
    rw [List.length_append, List.length_singleton] at hl
    split at h
    · exact List.mem_append_left _ (ih ts (by omega) h)
    · rcases List.mem_append.mp h with h | h
      · exact List.mem_append_left _ (ih ts (by omega) h)
      · exact List.mem_append_right _ h
theorem distinct_len : ∀ ts : List D, (distinctD ts).length ≤ ts.length := by
  intro ts
  suffices H : ∀ n (ts : List D), ts.length = n → (distinctD ts).length ≤ ts.length from H _ ts rfl
  intro n
  induction n with
  | zero => intro ts hl; obtain rfl := List.length_eq_zero_iff.mp hl; exact Nat.le_refl _
  | succ n ih =>
    intro ts hl
    obtain ⟨ts, t, rfl⟩ : ∃ l x, ts = l ++ [x] := ⟨ts.dropLast, ts.getLast (by intro e; subst e; cases hl), (List.dropLast_concat_getLast _).symm⟩
    rw [distinct_snoc]
    rw [List.length_append, List.length_singleton] at hl ⊢
    have := ih ts (by omega)
    split
    · omega
    · rw [List.length_append, List.length_singleton]; omega
def a_numbered : ASp := fun ds C R => ∃ y ts, ds = [y] ∧ SeqY C y ts ∧ (∀ t ∈ ts, datD 50 t = true) ∧ ts.length ≤ 1000 ∧ R (.lst ((numIt (distinctD ts)).map itD)) C
theorem rd_numbered : ∀ ds C R, a_numbered ds C R → t_numbered { nx := fun _ C' => lss R .non C', rt := lss R } (dstart ["things", "found", "thing", "_", "one"] ds) C := by
  rintro ds C R ⟨y, ts, rfl, hy, hts, hl, h⟩
  unfold t_numbered
  walk_at "dl"
  intro q hq
  obtain ⟨Pv, hPv⟩ : ∃ Pv : Nat → DSt → Cells → Prop, ∀ i δ C', Pv i δ C' ↔ ∃ o, δ = [some y, some (.ref q), o, none, none] ∧ C' = updC C q (.lst ((numIt (distinctD (ts.take i))).map itD)) := ⟨_, fun _ _ _ => Iff.rfl⟩
  refine for_seqP (ds := ts) Pv (fun i δ C' hv => by obtain ⟨_, _, rfl⟩ := (hPv _ _ _).mp hv; exact hy.upd hq) ((hPv _ _ _).mpr ⟨none, rfl, rfl⟩) (fun i t δ C' hi hv => ?_) (fun δ C' hv => ?_)
  · obtain ⟨o, rfl, rfl⟩ := (hPv _ _ _).mp hv
    have ht := hts t (List.mem_of_getElem? hi)
    have hdl := distinct_len (ts.take i)
    have htl := len_take ts i
    walk_at "dl"
    rw [itOf_upd]
    walk_at "dl"
    refine lc_live (ds := (numIt (distinctD (ts.take i))).map itD) (fun d => match d with
      | .tup [_, x] => x
      | _ => .non) updC_at (by rw [List.length_map, numIt_len]; have := ml; omega) (fun d hd K hK => ?_) ?_
    · obtain ⟨it, _, rfl⟩ := List.mem_map.mp hd
      rw [show itD it = .tup [.int it.1, it.2] from rfl] at hK ⊢
      walk_at "dl"
      exact hK
    · have e : ((numIt (distinctD (ts.take i))).map itD).map (fun d => match d with
          | .tup [_, x] => x
          | _ => .non) = distinctD (ts.take i) := by
        rw [List.map_map]
        exact numIt_snd _
      rw [e, oNotIn_eq, oIn_lst (dat_ok ht) (List.all_eq_true.mpr fun x hx => dat_ok (hts x (List.mem_of_mem_take (distinct_mem hx))))]
      walk_at "dl"
      have e2 : ((distinctD (ts.take i)).any fun z => D.eqv z t) = memD t (distinctD (ts.take i)) := rfl
      rw [e2]
      cases em : memD t (distinctD (ts.take i)) with
      | true =>
        walk_at "dl"
        refine (hPv _ _ _).mpr ⟨_, rfl, ?_⟩
        rw [take_snoc hi, distinct_snoc, if_pos em]
      | false =>
        walk_at "dl"
        rw [oLen_ref updC_at]
        walk_at "dl"
        refine ⟨by rw [List.length_map, numIt_len, sizeLine_eq]; omega, (hPv _ _ _).mpr ⟨_, rfl, ?_⟩⟩
        rw [take_snoc hi, distinct_snoc, if_neg (by simp [em]), numIt_snoc, List.map_append, List.length_map, numIt_len]
        rfl
  · obtain ⟨o, rfl, rfl⟩ := (hPv _ _ _).mp hv
    rw [List.take_length]
    walk_at "dl"
    exact ⟨_, _, frz_upd hq, lss_of h⟩
/-- good rules, their names each by itself -/
def rulesOk : List D → List D → Bool
  | _, [] => true
  | ns, r :: rs => isNon (badPartD r ns) && (match r with
    | .tup (n :: _) => rulesOk (ns ++ [n]) rs
    | _ => false)
theorem bad_none {r : D} {ns : List D} (hd : datD 50 r = true) (h : isNon (badPartD r ns) = true) : ∃ n m ws q bs, r = .tup [n, m, .tup ws, q] ∧ wantsBs [] ws = some bs ∧ ws.length ≤ 5 := by
  unfold badPartD at h
  split at h
  rotate_left
  · cases h
  split at h
  · cases h
  split at h
  · cases h
  split at h
  rotate_left
  · cases h
  split at h
  · cases h
  split at h
  · cases h
  rename_i hw _ bs e
  exact ⟨_, _, _, _, bs, rfl, e, by omega⟩
def a_need_rules : ASp := fun ds C R => ∃ rs, ds = [.tup rs] ∧ datD 50 (.tup rs) = true ∧ rs ≠ [] ∧ rs.length ≤ 8 ∧ rulesOk [] rs = true ∧ R .non C
theorem rules_step {ns : List D} {rs : List D} {i : Nat} {r : D} : rulesOk ns rs = true → rs[i]? = some r → ∀ nm, (∀ j d, j < i → rs[j]? = some d → ∃ n l, d = .tup (n :: l) ∧ nm[j]? = some n) → nm.length = i → isNon (badPartD r (ns ++ nm)) = true ∧ ∃ n l, r = .tup (n :: l) := by
  induction rs generalizing ns i with
  | nil => intro _ h; cases h
  | cons r0 rs ih =>
    intro h hi nm hj hn
    simp only [rulesOk, Bool.and_eq_true] at h
    obtain ⟨h1, h2⟩ := h
    split at h2
    rotate_left
    · cases h2
    rename_i n l
    cases i with
    | zero =>
      cases hi
      obtain rfl := List.length_eq_zero_iff.mp hn
      exact ⟨by rw [List.append_nil]; exact h1, n, l, rfl⟩
    | succ i =>
      obtain ⟨n', l', e1, e2⟩ := hj 0 _ (by omega) rfl
      cases e1
      rcases nm with _ | ⟨m, nm⟩
      · cases hn
      · cases e2
        have := ih h2 hi nm (fun j d hji hd => by
          obtain ⟨a, b, c1, c2⟩ := hj (j + 1) d (by omega) hd
          exact ⟨a, b, c1, c2⟩) (by simpa using hn)
        rw [List.append_assoc] at this
        exact this
theorem rd_need_rules : ∀ ds C R, a_need_rules ds C R → t_need_rules a_bad_part { nx := fun _ C' => lss R .non C', rt := lss R } (dstart ["rules", "names", "number", "rule", "part"] ds) C := by
  rintro ds C R ⟨rs, rfl, hd, hne, hl, hok, h⟩
  unfold t_need_rules
  walk_at "dl"
  simp only [oIsi_tuple (datD_dat hd), D.bl.injEq, exists_eq_left', isTupD]
  walk_at "dl"
  rw [oEq_ok (dat_ok hd) (show okD 60 (D.tup []) = true from rfl)]
  have e0 : D.eqv (.tup rs) (.tup []) = false := by
    cases rs with
    | nil => exact absurd rfl hne
    | cons a b => simp [D.eqv, D.eqvL]
  rw [e0]
  walk_at "dl"
  intro q hq
  obtain ⟨Pv, hPv⟩ : ∃ Pv : Nat → DSt → Cells → Prop, ∀ i δ C', Pv i δ C' ↔ ∃ o1 o2 o3 nm, δ = [some (.tup rs), some (.ref q), o1, o2, o3] ∧ C' = updC C q (.lst nm) ∧ (∀ j d, j < i → rs[j]? = some d → ∃ n l, d = .tup (n :: l) ∧ nm[j]? = some n) ∧ nm.length = i ∧ allDat nm = true := ⟨_, fun _ _ _ => Iff.rfl⟩
  refine ⟨rfl, for_enum (x := .tup rs) (ds := rs) (fun _ => rfl) Pv ((hPv _ _ _).mpr ⟨none, none, none, [], rfl, rfl, fun j d h => by omega, rfl, rfl⟩) (fun i r δ C' hi hv => ?_) (fun δ C' hv => ?_)⟩
  · obtain ⟨o1, o2, o3, nm, rfl, rfl, hj, hn, hnd⟩ := (hPv _ _ _).mp hv
    have hi8 : i < rs.length := (List.getElem?_eq_some_iff.mp hi).1
    have hrd := datD_item hd (List.mem_of_getElem? hi)
    obtain ⟨g1, n, l, rfl⟩ := rules_step hok hi nm hj hn
    walk_at "dl"
    rw [show decide ((i : Int) = 8) = false from decide_eq_false (by omega)]
    walk_at "dl"
    refine ⟨_, .ref q, nm, rfl, hrd, lstOf_upd, hnd, ?_⟩
    rw [List.nil_append] at g1
    walk_at "dl"
    rw [g1]
    walk_at "dl"
    refine ⟨by rw [sizeLine_eq]; omega, (hPv _ _ _).mpr ⟨_, _, _, _, rfl, rfl, fun j d hji hdj => ?_, by simp [hn], ?_⟩⟩
    · by_cases e : j < i
      · obtain ⟨a, b, c1, c2⟩ := hj j d e hdj
        exact ⟨a, b, c1, by rw [List.getElem?_append_left (by omega)]; exact c2⟩
      · have e2 : j = i := by omega
        subst e2
        rw [hi] at hdj
        cases hdj
        exact ⟨n, l, rfl, by rw [List.getElem?_append_right (by omega)]; simp [hn]⟩
    · rw [allDat, List.all_append, Bool.and_eq_true]
      exact ⟨hnd, by simp only [List.all_cons, List.all_nil, Bool.and_true]; exact datD_item hrd List.mem_cons_self⟩
  · obtain ⟨o1, o2, o3, nm, rfl, rfl, _⟩ := (hPv _ _ _).mp hv
    walk_at "dl"
    exact lss_upd hq h
theorem oIsi_kind {x : D} {T k : String} {C : Cells} {R : D → Cells → Prop} (h : DL.kindOf C x = some k) (hT : types.contains T = true) : oIsi [x, .ty T] C R = R (.bl (isiT k T)) C := by
  rw [oIsi_def]
  have e : isiO C x (.ty T) = some (isiT k T) := by
    show (if types.contains T = true then (DL.kindOf C x).map (fun k => isiT k T) else none) = _
    rw [if_pos hT, h]; rfl
  rw [e]; simp only [Option.some.injEq, exists_eq_left']
mutual
theorem eqv_refl : ∀ (n : Nat) (d : D), datD n d = true → D.eqv d d = true
  | _, .non, _ => rfl
  | _, .bl b, _ => by simp [D.eqv]
  | _, .int b, _ => by simp [D.eqv]
  | _, .str b, _ => by simp [D.eqv]
  | n + 1, .tup ds, h => by
    simp only [datD, Bool.and_eq_true] at h
    show D.eqvL ds ds = true
    exact eqvL_refl n ds h.1
  | n + 1, .lst ds, h => by
    simp only [datD, Bool.and_eq_true] at h
    show D.eqvL ds ds = true
    exact eqvL_refl n ds h.1
  | 0, .tup _, h => by cases h
  | 0, .lst _, h => by cases h
  | 0, .dct _, h => by cases h
  | n + 1, .dct _, h => by cases h
  | 0, .ref _, h => by cases h
  | n + 1, .ref _, h => by cases h
  | 0, .ty _, h => by cases h
  | n + 1, .ty _, h => by cases h
theorem eqvL_refl : ∀ (n : Nat) (ds : List D), ds.all (datD n) = true → D.eqvL ds ds = true
  | _, [], _ => rfl
  | n, d :: ds, h => by
    simp only [List.all_cons, Bool.and_eq_true] at h
    show (D.eqv d d && D.eqvL ds ds) = true
    rw [eqv_refl n d h.1, eqvL_refl n ds h.2]
    rfl
end
/-- enumerate of what stays while it is walked -/
theorem for_enumP {x : D} {ds : List D} {g : DG} {tb : DS} {N : DEnds} {δ : DSt} {C : Cells} (Pv : Nat → DSt → Cells → Prop) (hx : ∀ i δ C, Pv i δ C → seqOf C x = some ds) (h0 : Pv 0 δ C)
    (hs : ∀ i d δ C, ds[i]? = some d → Pv i δ C → g (.tup [.int (i : Nat), d]) δ C fun δ2 C2 => tb { N with nx := Pv (i + 1), ct := Pv (i + 1), bk := N.nx } δ2 C2) (hd : ∀ δ C, Pv ds.length δ C → N.nx δ C) :
    ∃ W : Nat → Nat → DSt → Cells → Prop, (∃ m, W 0 m δ C) ∧ ∀ i m δ C, W i m δ C →
      ((itEnum x).stop i C ∧ N.nx δ C) ∨ ((itEnum x).go i C ∧ ∃ Nx : DSt → Cells → Prop, (∀ δ' C', Nx δ' C' → ∃ m', m' < m ∧ W (i + 1) m' δ' C') ∧ ∀ d, (itEnum x).yld i C d → g d δ C fun δ2 C2 => tb { N with nx := Nx, ct := Nx, bk := N.nx } δ2 C2) := by
  refine ⟨fun i m δ C => m = ds.length - i ∧ i ≤ ds.length ∧ Pv i δ C, ⟨ds.length, by simp, Nat.zero_le _, h0⟩, ?_⟩
  rintro i m δ C ⟨rfl, hi, p⟩
  have hx := hx i δ C p
  by_cases hlt : i < ds.length
  · refine .inr ⟨⟨ds, ds[i], hx, List.getElem?_eq_getElem hlt⟩, Pv (i + 1), fun δ' C' p' => ⟨ds.length - (i + 1), by omega, rfl, hlt, p'⟩, fun d y => ?_⟩
    obtain ⟨es, e, h1, h2, rfl⟩ := y
    rw [hx] at h1; cases h1
    exact hs i e δ C h2 p
  · have e : i = ds.length := by omega
    subst e
    exact .inl ⟨⟨ds, hx, Nat.le_refl _⟩, hd δ C p⟩
def a_need_things : ASp := fun ds C R => ∃ y ts, ds = [y] ∧ SeqY C y ts ∧ (∀ t ∈ ts, ThOk t) ∧ ts.length ≤ 30 ∧ R .non C
theorem rd_need_things : ∀ ds C R, a_need_things ds C R → t_need_things a_is_thing { nx := fun _ C' => R .non C', rt := R } (dstart ["things", "number", "thing"] ds) C := by
  rintro ds C R ⟨y, ts, rfl, hy, hts, hl, h⟩
  unfold t_need_things
  have hk : DL.kindOf C y = some "list" := by
    rcases hy with rfl | ⟨p, rfl, hp⟩
    · rfl
    · show (C p).bind _ = _; rw [hp]; rfl
  have hq : seqOf C y = some ts := by
    rcases hy with rfl | ⟨p, rfl, hp⟩
    · rfl
    · show (C p).bind _ = _; rw [hp]; rfl
  walk_at "dl"
  rw [oIsi_kind (k := "list") (T := "list") hk (by decide)]
  simp only [show isiT "list" "list" = true by decide, D.bl.injEq, exists_eq_left']
  walk_at "dl"
  obtain ⟨Pv, hPv⟩ : ∃ Pv : Nat → DSt → Cells → Prop, ∀ i δ C', Pv i δ C' ↔ ∃ o1 o2, δ = [some y, o1, o2] ∧ C' = C := ⟨_, fun _ _ _ => Iff.rfl⟩
  refine ⟨by rw [hq]; rfl, for_enumP (x := y) (ds := ts) Pv (fun i δ C' hv => by obtain ⟨_, _, _, rfl⟩ := (hPv _ _ _).mp hv; exact hq) ((hPv _ _ _).mpr ⟨none, none, rfl, rfl⟩) (fun i t δ C' hi hv => ?_) (fun δ C' hv => ?_)⟩
  · obtain ⟨o1, o2, rfl, rfl⟩ := (hPv _ _ _).mp hv
    have hil : i < ts.length := (List.getElem?_eq_some_iff.mp hi).1
    obtain ⟨h1, h2⟩ := hts t (List.mem_of_getElem? hi)
    walk_at "dl"
    rw [show decide ((i : Int) = 30) = false from decide_eq_false (by omega)]
    walk_at "dl"
    refine ⟨t, rfl, h1, ?_⟩
    rw [h2]
    walk_at "dl"
    exact (hPv _ _ _).mpr ⟨_, _, rfl, rfl⟩
  · obtain ⟨o1, o2, rfl, rfl⟩ := (hPv _ _ _).mp hv
    exact h
theorem rules_ok_all : ∀ {rs : List D} {ns : List D}, (∀ r ∈ rs, datD 50 r = true) → rulesOk ns rs = true → ∀ r ∈ rs, RuleOk r
  | [], _, _, _, _, h => by cases h
  | r0 :: rs, ns, hd, h, r, hr => by
    simp only [rulesOk, Bool.and_eq_true] at h
    rcases List.mem_cons.mp hr with rfl | hr2
    · exact ⟨hd _ (by simp), bad_none (hd _ (by simp)) h.1⟩
    · have h2 := h.2
      split at h2
      · exact rules_ok_all (fun x hx => hd x (by simp [hx])) h2 r hr2
      · cases h2
/-- what matching is to tell, said as the program finds it -/
def toldD (rs ts : List D) : List D := sortD (foundD (numIt (distinctD ts)) rs)
def a_matching : ASp := fun ds C R => ∃ rs y ts, ds = [.tup rs, y] ∧ SeqY C y ts ∧ datD 50 (.tup rs) = true ∧ rs ≠ [] ∧ rs.length ≤ 8 ∧ rulesOk [] rs = true ∧ (∀ t ∈ ts, ThOk t) ∧ ts.length ≤ 18 ∧ ∀ p, C p = none → R (.ref p) (updC C p (.lst (toldD rs ts)))
theorem rd_matching : ∀ ds C R, a_matching ds C R → t_matching a_need_rules a_need_things a_numbered a_matches_of { nx := fun _ C' => R .non C', rt := R } (dstart ["rules", "things"] ds) C := by
  rintro ds C R ⟨rs, y, ts, rfl, hy, hd, hne, hl, hok, hts, htl, h⟩
  unfold t_matching
  walk_at "dl"
  refine ⟨rs, rfl, hd, hne, hl, hok, ?_⟩
  walk_at "dl"
  refine ⟨_, ts, rfl, hy, hts, by omega, ?_⟩
  walk_at "dl"
  refine ⟨_, ts, rfl, hy, fun t ht => (hts t ht).1, by omega, ?_⟩
  walk_at "dl"
  have hn : ∀ it ∈ numIt (distinctD ts), ThOk it.2 := fun it hit => by
    have : it.2 ∈ (numIt (distinctD ts)).map (·.2) := List.mem_map.mpr ⟨it, hit, rfl⟩
    rw [numIt_snd] at this
    exact hts _ (distinct_mem this)
  exact ⟨rs, numIt (distinctD ts), rfl, rules_ok_all (fun r hr => datD_item hd hr) hok, hl, hn, by rw [numIt_len]; have := distinct_len ts; omega, h⟩
/-- what stands in a row's list -/
def RowSt (c : List D) : Prop := ∃ (s : List Int) (j k m : Int), c = [.lst (s.map .int), .int j, .int k, .int m] ∧ 0 ≤ j ∧ 0 ≤ m ∧ m < 2147483648 ∧ s.length ≤ 100000
def a__law_row : ASp := fun ds C R => ∃ s : List Int, ds = [.lst (s.map .int)] ∧ s.length ≤ 100000 ∧ ∀ p c, C p = none → RowSt c → R (.ref p) (updC C p (.lst c))
theorem oMul_int {i j : Int} {C : Cells} {R : D → Cells → Prop} : oMul (.int i) (.int j) C R = (CMul i j ∧ R (.int (i * j)) C) := rfl
theorem oDiv_int {i j : Int} {C : Cells} {R : D → Cells → Prop} : oDiv (.int i) (.int j) C R = (CDiv i j ∧ R (.int (i / j)) C) := rfl
theorem oMod_int {i j : Int} {C : Cells} {R : D → Cells → Prop} : oMod (.int i) (.int j) C R = (0 < j ∧ R (.int (i % j)) C) := rfl
theorem oPow_int {i j : Int} {C : Cells} {R : D → Cells → Prop} : oPow (.int i) (.int j) C R = (CPow i j ∧ R (.int (i ^ j.toNat)) C) := rfl
theorem rd__law_row : ∀ ds C R, a__law_row ds C R → t__law_row { nx := fun _ C' => lss R .non C', rt := lss R } (dstart ["_law_script", "_law_mixed", "_law_cell"] ds) C := by
  rintro ds C R ⟨s, rfl, hs, h⟩
  unfold t__law_row
  walk_at "dl"
  obtain ⟨Pv, hPv⟩ : ∃ Pv : Nat → DSt → Cells → Prop, ∀ i δ C', Pv i δ C' ↔ ∃ m : Int, ∃ o : Option D, δ = [some (.lst (s.map .int)), some (.int m), o] ∧ C' = C ∧ 0 ≤ m ∧ m < 2147483648 := ⟨_, fun _ _ _ => Iff.rfl⟩
  refine for_fix Pv ((hPv _ _ _).mpr ⟨7, none, rfl, rfl, by omega, by omega⟩) (fun i d δ C' hi hv => ?_) (fun δ C' hv => ?_)
  · obtain ⟨m, o, rfl, rfl, h1, h2⟩ := (hPv _ _ _).mp hv
    rw [List.getElem?_map] at hi
    obtain ⟨x, _, rfl⟩ := Option.map_eq_some_iff.mp hi
    walk_at "dl"
    simp only [oMul_int, oMod_int, oAdd_int]
    refine ⟨.inr ⟨by omega, by omega⟩, by omega, (hPv _ _ _).mpr ⟨_, _, rfl, rfl, Int.emod_nonneg _ (by omega), ?_⟩⟩
    have := Int.emod_lt_of_pos (m * 48271 + x + 11) (show (0 : Int) < 2147483647 by omega)
    omega
  · obtain ⟨m, o, rfl, rfl, h1, h2⟩ := (hPv _ _ _).mp hv
    walk_at "dl"
    exact fun p hp => lss_of (h p _ hp ⟨s, 0, 0, m, rfl, by omega, h1, h2, hs⟩)
/-- a draw: which number comes is left open -/
def a__law_taken : ASp := fun ds C R => ∃ p n c, ds = [.ref p, .int n] ∧ 0 < n ∧ n < 2000 ∧ C p = some (.lst c) ∧ RowSt c ∧ ∀ r c', 0 ≤ r → r < n → RowSt c' → R (.int r) (updC C p (.lst c'))
theorem rd__law_taken : ∀ ds C R, a__law_taken ds C R → t__law_taken { nx := fun _ C' => R .non C', rt := R } (dstart ["_law_row_here", "_law_many", "_law_found_here", "_law_cell"] ds) C := by
  rintro ds C R ⟨p, n, c, rfl, hn0, hn1, hp, ⟨s, j, k, m, rfl, hj, hm0, hm1, hs⟩, h⟩
  unfold t__law_taken
  have e2 : ixN 4 (2 : Int) = some 2 := by decide
  have e1 : ixN 4 (1 : Int) = some 1 := by decide
  have e3 : ixN 4 (3 : Int) = some 3 := by decide
  walk_at "dl"
  rw [oIx_ref hp]
  walk_at "dl"
  by_cases hk : 0 < k
  · simp only [hk, decide_true]
    walk_at "dl"
    rw [oIx_ref hp]
    walk_at "dl"
    simp only [oMod_int]
    refine ⟨hn0, ?_⟩
    walk_at "dl"
    rw [oIx_ref hp]
    walk_at "dl"
    simp only [oDiv_int]
    refine ⟨⟨hn0, by omega⟩, ?_⟩
    simp only [gdSubL]
    walk_at "dl"
    refine ⟨p, _, _, _, rfl, rfl, hp, e2, ?_⟩
    exact h _ _ (Int.emod_nonneg _ (by omega)) (Int.emod_lt_of_pos _ hn0) ⟨s, j, _, m, rfl, hj, hm0, hm1, hs⟩
  · simp only [hk, decide_false]
    walk_at "dl"
    rw [oIx_ref hp]
    walk_at "dl"
    rw [oIx_ref hp]
    walk_at "dl"
    by_cases hl : j < ((s.map D.int).length : Nat)
    · simp only [hl, decide_true]
      walk_at "dl"
      rw [oIx_ref hp]
      walk_at "dl"
      rw [oIx_ref hp]
      walk_at "dl"
      obtain ⟨i, rfl⟩ : ∃ i : Nat, j = (i : Int) := ⟨j.toNat, by omega⟩
      have hi : i < s.length := by rw [List.length_map] at hl; omega
      walk_at "dl"
      refine ⟨.int s[i], by rw [List.getElem?_map, List.getElem?_eq_getElem hi]; rfl, ?_⟩
      walk_at "dl"
      rw [oIx_ref hp]
      walk_at "dl"
      simp only [gdSubL]
      walk_at "dl"
      refine ⟨p, _, _, _, rfl, rfl, hp, e1, ?_⟩
      simp only [oPow_int, oDiv_int, oMod_int]
      refine ⟨⟨by omega, by omega, by decide⟩, ?_⟩
      walk_at "dl"
      by_cases hb : (10 : Int) ^ (18 : Int).toNat ≤ s[i]
      · simp only [hb, decide_true]
        walk_at "dl"
        refine ⟨⟨hn0, by omega⟩, ?_⟩
        simp only [gdSubL]
        walk_at "dl"
        refine ⟨p, _, _, _, rfl, rfl, updC_at, e2, ?_⟩
        walk_at "dl"
        simp only [oMod_int]
        refine ⟨hn0, ?_⟩
        exact h _ _ (Int.emod_nonneg _ (by omega)) (Int.emod_lt_of_pos _ hn0) ⟨s, _, _, m, rfl, by omega, hm0, hm1, hs⟩
      · simp only [hb, decide_false]
        walk_at "dl"
        refine ⟨hn0, ?_⟩
        exact h _ _ (Int.emod_nonneg _ (by omega)) (Int.emod_lt_of_pos _ hn0) ⟨s, _, _, m, rfl, by omega, hm0, hm1, hs⟩
    · simp only [hl, decide_false]
      walk_at "dl"
      rw [oIx_ref hp]
      walk_at "dl"
      simp only [gdSubL, oMul_int, oMod_int, oDiv_int, oAdd_int]
      refine ⟨.inr ⟨by omega, by omega⟩, by omega, ?_⟩
      walk_at "dl"
      refine ⟨p, _, _, _, rfl, rfl, hp, e3, ?_⟩
      rw [oIx_ref updC_at]
      walk_at "dl"
      simp only [List.set_cons_succ, List.set_cons_zero, List.getElem?_cons_succ, List.getElem?_cons_zero, ex_some, oDiv_int, oMod_int]
      refine ⟨⟨by omega, by omega⟩, hn0, ?_⟩
      refine h _ _ (Int.emod_nonneg _ (by omega)) (Int.emod_lt_of_pos _ hn0) ⟨s, j, k, _, rfl, hj, Int.emod_nonneg _ (by omega), ?_, hs⟩
      have := Int.emod_lt_of_pos (m * 48271 + 12345) (show (0 : Int) < 2147483647 by omega)
      omega
abbrev WORTHS : List D := [.str "a", .str "b", .int 0, .int 1, .int 2, .str "c", .int 99, .int (-99)]
abbrev LETTERS : List D := [.str "X", .str "Y", .str "Z", .str "W"]
abbrev PARTS : List D := [.str "a", .str "b", .int 0, .int 1, .int 2, .str "c", .int 99, .int (-99), .str "_", .str "X", .str "Y", .str "Z", .str "W"]
abbrev HEADS : List D := [.str "on", .str "is", .str "big"]
theorem pick {l : List D} {r : Int} {C : Cells} {R : D → Cells → Prop} (h0 : 0 ≤ r) (h1 : r < (l.length : Nat)) (h : ∀ d ∈ l, R d C) : oIx (.lst l) (.int r) C R := by
  obtain ⟨n, rfl⟩ : ∃ n : Nat, r = (n : Int) := ⟨r.toNat, by omega⟩
  have hn : n < l.length := by omega
  rw [oIx_lst, atI_cast]
  exact ⟨l[n], List.getElem?_eq_getElem hn, h _ (List.getElem_mem hn)⟩
theorem pickE {l : List D} {r : Int} {P : D → Prop} (h0 : 0 ≤ r) (h1 : r < (l.length : Nat)) (h : ∀ d ∈ l, P d) : ∃ d, atI l r = some d ∧ P d := by
  obtain ⟨n, rfl⟩ : ∃ n : Nat, r = (n : Int) := ⟨r.toNat, by omega⟩
  have hn : n < l.length := by omega
  rw [atI_cast]
  exact ⟨l[n], List.getElem?_eq_getElem hn, h _ (List.getElem_mem hn)⟩
theorem pickS {z : Str} {r : Int} {C : Cells} {R : D → Cells → Prop} (h0 : 0 ≤ r) (h1 : r < (z.length : Nat)) (hz : z.length ≤ 1000) (h : ∀ c ∈ z.cps.toList, R (.str ⟨#[c]⟩) C) : oIx (.str z) (.int r) C R := by
  obtain ⟨n, rfl⟩ : ∃ n : Nat, r = (n : Int) := ⟨r.toNat, by omega⟩
  have hn : n < z.cps.toList.length := by
    have : z.cps.toList.length = z.length := by simp [Str.length]
    omega
  rw [oIx_str (by rw [sizeLine_eq]; omega), atI_cast]
  exact ⟨_, by rw [List.getElem?_eq_getElem hn]; rfl, h _ (List.getElem_mem hn)⟩
def a__law_worth : ASp := fun ds C R => ∃ p c, ds = [.ref p] ∧ C p = some (.lst c) ∧ RowSt c ∧ ∀ v c', v ∈ WORTHS → RowSt c' → R v (updC C p (.lst c'))
theorem rd__law_worth : ∀ ds C R, a__law_worth ds C R → t__law_worth a__law_taken { nx := fun _ C' => R .non C', rt := R } (dstart ["_law_row_here"] ds) C := by
  rintro ds C R ⟨p, c, rfl, hp, hc, h⟩
  unfold t__law_worth
  walk_at "dl"
  refine ⟨p, 12, c, rfl, by omega, by omega, hp, hc, fun r c' h0 h1 hr => ?_⟩
  refine pick h0 (by simpa using h1) fun d hd => ?_
  obtain ⟨k, rfl, hk0, hk1⟩ : ∃ k : Int, d = .int k ∧ 0 ≤ k ∧ k < 8 := by
    simp only [List.mem_cons, List.not_mem_nil, or_false] at hd
    rcases hd with rfl | rfl | rfl | rfl | rfl | rfl | rfl | rfl | rfl | rfl | rfl | rfl <;> exact ⟨_, rfl, by omega, by omega⟩
  exact pick hk0 (by simpa using hk1) fun d hd => h d c' hd hr
/-- a pattern as the law makes it -/
def PatOk (v : D) : Prop := ∃ w ps, v = .tup (w :: ps) ∧ w ∈ HEADS ∧ ps.length ≤ 4 ∧ ∀ x ∈ ps, x ∈ PARTS
def a__law_pattern : ASp := fun ds C R => ∃ p c z, ds = [.ref p, .str z] ∧ C p = some (.lst c) ∧ RowSt c ∧ z.length = 3 ∧ (∀ c ∈ z.cps.toList, D.str ⟨#[c]⟩ ∈ LETTERS) ∧ ∀ v c', PatOk v → RowSt c' → R v (updC C p (.lst c'))
theorem worth_part {v : D} (h : v ∈ WORTHS) : v ∈ PARTS := by
  simp only [List.mem_cons, List.not_mem_nil, or_false] at h ⊢
  rcases h with rfl | rfl | rfl | rfl | rfl | rfl | rfl | rfl <;> simp
theorem letter_part {v : D} (h : v ∈ LETTERS) : v ∈ PARTS := by
  simp only [List.mem_cons, List.not_mem_nil, or_false] at h ⊢
  rcases h with rfl | rfl | rfl | rfl <;> simp
theorem ints_in {d : D} {ks : List Int} (h : d ∈ ks.map D.int) : ∃ k ∈ ks, d = .int k := by
  obtain ⟨k, hk, rfl⟩ := List.mem_map.mp h
  exact ⟨k, hk, rfl⟩
theorem rd__law_pattern : ∀ ds C R, a__law_pattern ds C R → t__law_pattern a__law_taken a__law_worth { nx := fun _ C' => R .non C', rt := R } (dstart ["_law_row_here", "_law_letters_here", "_law_found_here", "_law_k", "_law_some"] ds) C := by
  rintro ds C R ⟨p, c, z, rfl, hp, hc, hz, hzl, h⟩
  unfold t__law_pattern
  walk_at "dl"
  refine ⟨p, 3, c, rfl, by omega, by omega, hp, hc, fun r c1 h0 h1 hr1 => ?_⟩
  walk_at "dl"
  refine pickE h0 (by simpa using h1) fun w hw => ?_
  walk_at "dl"
  refine ⟨p, 5, c1, rfl, by omega, by omega, updC_at, hr1, fun r c2 h0 h1 hr2 => ?_⟩
  walk_at "dl"
  refine pickE h0 (by simpa using h1) fun d hd => ?_
  obtain ⟨k, hk, rfl⟩ := ints_in (ks := [1, 2, 2, 0, 4]) hd
  have hk4 : 0 ≤ k ∧ k ≤ 4 := by
    simp only [List.mem_cons, List.not_mem_nil, or_false] at hk
    omega
  walk_at "dl"
  refine ⟨by omega, by omega, ?_⟩
  obtain ⟨Pv, hPv⟩ : ∃ Pv : Nat → DSt → Cells → Prop, ∀ i δ C', Pv i δ C' ↔ ∃ ps o1 o2 c', δ = [some (.ref p), some (.str z), some (.tup (w :: ps)), o1, o2] ∧ C' = updC C p (.lst c') ∧ RowSt c' ∧ ps.length = i ∧ ∀ x ∈ ps, x ∈ PARTS := ⟨_, fun _ _ _ => Iff.rfl⟩
  refine for_rng Pv ((hPv _ _ _).mpr ⟨[], none, none, c2, rfl, rfl, hr2, rfl, by simp⟩) (fun i δ C' hi hv => ?_) (fun δ C' hv => ?_)
  · obtain ⟨ps, o1, o2, c3, rfl, rfl, hr3, hpl, hps⟩ := (hPv _ _ _).mp hv
    have hi4 : i < 4 := by omega
    walk_at "dl"
    refine ⟨p, c3, rfl, updC_at, hr3, fun v1 c4 hv1 hr4 => ?_⟩
    walk_at "dl"
    refine ⟨p, 3, c4, rfl, by omega, by omega, updC_at, hr4, fun r c5 h0 h1 hr5 => ?_⟩
    walk_at "dl"
    refine pickS h0 (by omega) (by omega) fun x1 hx1 => ?_
    refine ⟨p, 2, c5, rfl, by omega, by omega, updC_at, hr5, fun r c6 h0 h1 hr6 => ?_⟩
    walk_at "dl"
    refine pickS h0 (by omega) (by omega) fun x2 hx2 => ?_
    walk_at "dl"
    refine ⟨p, 4, c6, rfl, by omega, by omega, updC_at, hr6, fun r c7 h0 h1 hr7 => ?_⟩
    walk_at "dl"
    refine pickE h0 (by simpa using h1) fun d hd => ?_
    have hdp : d ∈ PARTS := by
      simp only [List.mem_cons, List.not_mem_nil, or_false] at hd
      rcases hd with rfl | rfl | rfl | rfl
      · exact worth_part hv1
      · simp
      · exact letter_part (hzl _ hx1)
      · exact letter_part (hzl _ hx2)
    walk_at "dl"
    rw [oAdd_tup (by rw [sizeLine_eq]; simp; omega)]
    walk_at "dl"
    refine (hPv _ _ _).mpr ⟨ps ++ [d], _, _, c7, rfl, rfl, hr7, by simp [hpl], fun x hx => ?_⟩
    rcases List.mem_append.mp hx with hx | hx
    · exact hps x hx
    · rw [List.mem_singleton.mp hx]; exact hdp
  · obtain ⟨ps, o1, o2, c3, rfl, rfl, hr3, hpl, hps⟩ := (hPv _ _ _).mp hv
    walk_at "dl"
    exact h _ _ ⟨w, ps, rfl, hw, by omega, hps⟩ hr3
def letD : D → Bool
  | .str z => (!decide (z.cps.toList < ("A" : Str).cps.toList)) && ((!decide (("Z" : Str).cps.toList < z.cps.toList)) && decide (((z.length : Nat) : Int) = 1))
  | _ => false
theorem let_blank : ∀ d ∈ PARTS, letD d = isBlankD d := by decide +kernel
theorem parts_dat : ∀ d ∈ PARTS, datD 30 d = true := by decide +kernel
theorem heads_dat : ∀ d ∈ HEADS, datD 30 d = true ∧ isWordD d = true ∧ isStrD d = true := by decide +kernel
theorem worths_dat : ∀ d ∈ WORTHS, datD 30 d = true ∧ isWorthD d = true ∧ isTupD d = false ∧ isBlankD d = false := by decide +kernel
theorem pat_dat {v : D} (h : PatOk v) : datD 40 v = true := by
  obtain ⟨w, ps, rfl, hw, hl, hps⟩ := h
  show ((w :: ps).all (datD 39) && decide ((w :: ps).length ≤ 16000000)) = true
  rw [Bool.and_eq_true, decide_eq_true_eq, List.length_cons, List.all_cons, Bool.and_eq_true]
  refine ⟨⟨datD_all (by omega) (heads_dat w hw).1, List.all_eq_true.mpr fun x hx => datD_all (by omega) (parts_dat x (hps x hx))⟩, by omega⟩
def a__law_letters : ASp := fun ds C R => ∃ w ps, ds = [.tup (w :: ps)] ∧ (∀ x ∈ ps, x ∈ PARTS) ∧ ps.length ≤ 100 ∧ R (.lst (blanksL (w :: ps))) C
theorem rd__law_letters : ∀ ds C R, a__law_letters ds C R → t__law_letters { nx := fun _ C' => R .non C', rt := R } (dstart ["_law_pattern_here", "_law_part"] ds) C := by
  rintro ds C R ⟨w, ps, rfl, hps, hl, h⟩
  unfold t__law_letters
  walk_at "dl"
  refine lc_filter isBlankD id (by show ps.length ≤ _; rw [sizeLine_eq]; omega) (fun d hm K hK => ?_) (by rw [List.map_id]; exact h)
  have hm : d ∈ ps := hm
  have hdat := datD_dat (parts_dat d (hps d hm))
  have hd := parts_dat d (hps d hm)
  rw [← let_blank d (hps d hm)] at hK
  walk_at "dl"
  simp only [oIsi_str hdat, D.bl.injEq, exists_eq_left']
  cases es : isStrD d with
  | false =>
    have : letD d = false := by cases d <;> first | rfl | cases es
    rw [this] at hK
    walk_at "dl"
    exact hK
  | true =>
  obtain ⟨z, rfl⟩ : ∃ z, d = .str z := by cases d <;> first | exact ⟨_, rfl⟩ | cases es
  simp only [letD] at hK
  simp only [oLe_str, oLen_str (datD_str hd)]
  walk_at "dl"
  cases e1 : decide (z.cps.toList < ("A" : Str).cps.toList) with
  | true =>
    simp only [e1, Bool.not_true, Bool.false_and, Bool.false_eq_true, if_false] at hK
    walk_at "dl"
    exact hK
  | false =>
    simp only [e1, Bool.not_false, Bool.true_and] at hK
    walk_at "dl"
    cases e2 : decide (("Z" : Str).cps.toList < z.cps.toList) with
    | true =>
      simp only [e2, Bool.not_true, Bool.false_and, Bool.false_eq_true, if_false] at hK
      walk_at "dl"
      exact hK
    | false =>
      simp only [e2, Bool.not_false, Bool.true_and] at hK
      walk_at "dl"
      cases e3 : decide (((z.length : Nat) : Int) = 1) with
      | true => simp only [e3, if_true] at hK; walk_at "dl"; exact hK
      | false => simp only [e3, Bool.false_eq_true, if_false] at hK; walk_at "dl"; exact hK
/-- a thing as the law makes it -/
def ThingOk (v : D) : Prop := ∃ w ps, v = .tup (w :: ps) ∧ w ∈ HEADS ∧ ps.length ≤ 4 ∧ ∀ x ∈ ps, x ∈ WORTHS
theorem thing_ok {v : D} (h : ThingOk v) : ThOk v := by
  obtain ⟨w, ps, rfl, hw, hl, hps⟩ := h
  refine ⟨datD_all (show 40 ≤ 50 by omega) (pat_dat ⟨w, ps, rfl, hw, hl, fun x hx => worth_part (hps x hx)⟩), ?_⟩
  simp only [isThingD, Bool.and_eq_true, decide_eq_true_eq]
  exact ⟨⟨hl, (heads_dat w hw).2.1⟩, List.all_eq_true.mpr fun x hx => (worths_dat x (hps x hx)).2.1⟩
def a__law_thing : ASp := fun ds C R => ∃ p c, ds = [.ref p] ∧ C p = some (.lst c) ∧ RowSt c ∧ ∀ v c', ThingOk v → RowSt c' → R v (updC C p (.lst c'))
theorem rd__law_thing : ∀ ds C R, a__law_thing ds C R → t__law_thing a__law_taken a__law_worth { nx := fun _ C' => R .non C', rt := R } (dstart ["_law_row_here", "_law_word", "_law_k"] ds) C := by
  rintro ds C R ⟨p, c, rfl, hp, hc, h⟩
  unfold t__law_thing
  walk_at "dl"
  refine ⟨p, 3, c, rfl, by omega, by omega, hp, hc, fun r c1 h0 h1 hr1 => ?_⟩
  walk_at "dl"
  refine pickE h0 (by simpa using h1) fun w hw => ?_
  walk_at "dl"
  refine ⟨p, 6, c1, rfl, by omega, by omega, updC_at, hr1, fun r c2 h0 h1 hr2 => ?_⟩
  walk_at "dl"
  refine pickE h0 (by simpa using h1) fun d hd => ?_
  obtain ⟨k, hk, rfl⟩ := ints_in (ks := [1, 2, 1, 0, 4, 1]) hd
  have hk4 : 0 ≤ k ∧ k ≤ 4 := by
    simp only [List.mem_cons, List.not_mem_nil, or_false] at hk
    omega
  walk_at "dl"
  refine ⟨by omega, by omega, ?_⟩
  obtain ⟨Pv, hPv⟩ : ∃ Pv : Nat → List D → Cells → Prop, ∀ i ps C', Pv i ps C' ↔ ∃ c', C' = updC C p (.lst c') ∧ RowSt c' ∧ ps.length = i ∧ ∀ x ∈ ps, x ∈ WORTHS := ⟨_, fun _ _ _ => Iff.rfl⟩
  refine lc_inv (n := k.toNat) Pv (fun i _ hi => hi) (fun _ => Nat.le_refl _) ((hPv _ _ _).mpr ⟨c2, rfl, hr2, rfl, by simp⟩) (fun i d acc C' hi hy hv => ?_) (fun acc C' hv => ?_)
  · obtain ⟨c3, rfl, hr3, hpl, hps⟩ := (hPv _ _ _).mp hv
    walk_at "dl"
    refine ⟨p, c3, rfl, updC_at, hr3, fun v c4 hv1 hr4 => ?_⟩
    rw [DL.updC_upd]
    refine ⟨by rw [sizeLine_eq]; omega, (hPv _ _ _).mpr ⟨c4, rfl, hr4, by simp [hpl], fun x hx => ?_⟩⟩
    rcases List.mem_append.mp hx with hx | hx
    · exact hps x hx
    · rw [List.mem_singleton.mp hx]; exact hv1
  · obtain ⟨c3, rfl, hr3, hpl, hps⟩ := (hPv _ _ _).mp hv
    rw [oTuple_def]
    walk_at "dl"
    simp only [tupOf, DL.lstOf, Option.some.injEq, exists_eq_left']
    rw [oAdd_tup (by rw [sizeLine_eq]; simp; omega)]
    exact h _ _ ⟨w, acc, rfl, hw, by omega, hps⟩ hr3
theorem letters_dat : ∀ d ∈ LETTERS, datD 30 d = true ∧ isBlankD d = true ∧ isTupD d = false := by decide +kernel
theorem letter_str {d : D} (h : d ∈ LETTERS) : ∃ z, d = .str z := by
  simp only [List.mem_cons, List.not_mem_nil, or_false] at h
  rcases h with rfl | rfl | rfl | rfl <;> exact ⟨_, rfl⟩
theorem mem_memD {d : D} {kn : List D} (h : d ∈ kn) (hl : d ∈ LETTERS) : memD d kn = true := by
  obtain ⟨z, rfl⟩ := letter_str hl
  exact List.any_eq_true.mpr ⟨_, h, by simp [D.eqv]⟩
theorem eqv_lst_nil (kn : List D) : D.eqv (.lst kn) (.lst []) = kn.isEmpty := by
  cases kn <;> simp [D.eqv, D.eqvL]
theorem allL {kn : List D} (h : ∀ b ∈ kn, b ∈ LETTERS) (n : Nat) : kn.all (okD (n + 30)) = true := List.all_eq_true.mpr fun x hx => datD_ok (datD_all (by omega) (letters_dat x (h x hx)).1)
/-- a part of a template, a template, of the law's own words -/
def PlV (x : D) : Prop := x ∈ WORTHS ∨ x ∈ LETTERS ∨ ∃ b ∈ LETTERS, ∃ k : Int, x = .tup [b, .int k]
def TplV (v : D) : Prop := ∃ w ps, v = .tup (w :: ps) ∧ w ∈ HEADS ∧ ps.length ≤ 4 ∧ ∀ x ∈ ps, PlV x
def TplOk (kn : List D) (v : D) : Prop := isTemplateD v kn = true ∧ datD 45 v = true ∧ TplV v
def a__law_template : ASp := fun ds C R => ∃ p c kn, ds = [.ref p, .lst kn] ∧ C p = some (.lst c) ∧ RowSt c ∧ (∀ b ∈ kn, b ∈ LETTERS) ∧ kn.length ≤ 100 ∧ ∀ v c', TplOk kn v → RowSt c' → R v (updC C p (.lst c'))
theorem place_worth {kn : List D} : ∀ d ∈ WORTHS, isPlaceD kn d = true := by
  intro d hd
  have h := worths_dat d hd
  have : isPlaceD kn d = isSideD d kn := by cases d <;> first | rfl | (cases h.2.2.1; done)
  rw [this]
  unfold isSideD
  rw [h.2.1]
  rfl
theorem place_letter {kn : List D} {d : D} (hm : d ∈ kn) (hd : d ∈ LETTERS) : isPlaceD kn d = true := by
  have h := letters_dat d hd
  have : isPlaceD kn d = isSideD d kn := by cases d <;> first | rfl | (cases h.2.2; done)
  rw [this]
  unfold isSideD
  rw [h.2.1, mem_memD hm hd]
  simp
theorem rd__law_template : ∀ ds C R, a__law_template ds C R → t__law_template a__law_taken a__law_worth { nx := fun _ C' => R .non C', rt := R } (dstart ["_law_row_here", "_law_known", "_law_found_here", "_law_k", "_law_part"] ds) C := by
  rintro ds C R ⟨p, c, kn, rfl, hp, hc, hkn, hkl, h⟩
  unfold t__law_template
  walk_at "dl"
  refine ⟨p, 3, c, rfl, by omega, by omega, hp, hc, fun r c1 h0 h1 hr1 => ?_⟩
  walk_at "dl"
  refine pickE h0 (by simpa using h1) fun w hw => ?_
  walk_at "dl"
  refine ⟨p, 4, c1, rfl, by omega, by omega, updC_at, hr1, fun r c2 h0 h1 hr2 => ?_⟩
  walk_at "dl"
  refine pickE h0 (by simpa using h1) fun d hd => ?_
  obtain ⟨k, hk, rfl⟩ := ints_in (ks := [1, 2, 2, 0]) hd
  have hk4 : 0 ≤ k ∧ k ≤ 4 := by
    simp only [List.mem_cons, List.not_mem_nil, or_false] at hk
    omega
  walk_at "dl"
  refine ⟨by omega, by omega, ?_⟩
  obtain ⟨Pv, hPv⟩ : ∃ Pv : Nat → DSt → Cells → Prop, ∀ i δ C', Pv i δ C' ↔ ∃ ps o1 o2 c', δ = [some (.ref p), some (.lst kn), some (.tup (w :: ps)), o1, o2] ∧ C' = updC C p (.lst c') ∧ RowSt c' ∧ ps.length = i ∧ ∀ x ∈ ps, isPlaceD kn x = true ∧ datD 40 x = true ∧ PlV x := ⟨_, fun _ _ _ => Iff.rfl⟩
  refine for_rng Pv ((hPv _ _ _).mpr ⟨[], none, none, c2, rfl, rfl, hr2, rfl, by simp⟩) (fun i δ C' hi hv => ?_) (fun δ C' hv => ?_)
  · obtain ⟨ps, o1, o2, c3, rfl, rfl, hr3, hpl, hps⟩ := (hPv _ _ _).mp hv
    have hi4 : i < 4 := by omega
    have fin : ∀ d c', isPlaceD kn d = true → datD 40 d = true → PlV d → RowSt c' → oAdd (.tup (w :: ps)) (.tup [d]) (updC C p (.lst c')) fun v C1 => Pv (i + 1) [some (.ref p), some (.lst kn), some v, some (.int (0 + (i : Nat))), some d] C1 := fun d c' g1 g2 g4 g3 => by
      rw [oAdd_tup (by rw [sizeLine_eq]; simp; omega)]
      refine (hPv _ _ _).mpr ⟨ps ++ [d], _, _, c', rfl, rfl, g3, by simp [hpl], fun x hx => ?_⟩
      rcases List.mem_append.mp hx with hx | hx
      · exact hps x hx
      · rw [List.mem_singleton.mp hx]; exact ⟨g1, g2, g4⟩
    walk_at "dl"
    refine ⟨p, c3, rfl, updC_at, hr3, fun v1 c4 hv1 hr4 => ?_⟩
    have gw := fin v1 c4 (place_worth v1 hv1) (datD_all (by omega) (worths_dat v1 hv1).1) (.inl hv1) hr4
    walk_at "dl"
    rw [oNe_ok (show okD 60 (D.lst kn) = true from allL hkn 29) (show okD 60 (D.lst []) = true from rfl), eqv_lst_nil]
    walk_at "dl"
    cases ee : kn.isEmpty with
    | true => walk_at "dl"; exact gw
    | false =>
      have hne : 0 < kn.length := by cases kn <;> first | (cases ee; done) | (simp; done)
      walk_at "dl"
      refine ⟨p, 3, c4, rfl, by omega, by omega, updC_at, hr4, fun r c5 h0 h1 hr5 => ?_⟩
      walk_at "dl"
      by_cases hr : 0 < r
      · simp only [hr, decide_true]
        walk_at "dl"
        refine ⟨p, (kn.length : Nat), c5, rfl, by omega, by omega, updC_at, hr5, fun r c6 h0 h1 hr6 => ?_⟩
        walk_at "dl"
        refine pickE h0 h1 fun b hb => ?_
        have hbl := letters_dat b (hkn b hb)
        walk_at "dl"
        refine ⟨p, 3, c6, rfl, by omega, by omega, updC_at, hr6, fun r c7 h0 h1 hr7 => ?_⟩
        walk_at "dl"
        by_cases hz : r = 0
        · simp only [hz, decide_true]
          walk_at "dl"
          refine ⟨p, 4, c7, rfl, by omega, by omega, updC_at, hr7, fun r c8 h0 h1 hr8 => ?_⟩
          walk_at "dl"
          refine pickE h0 (by simpa using h1) fun e he => ?_
          obtain ⟨k, hk, rfl⟩ := ints_in (ks := [1, 0 - 1, 0, 50]) he
          have hk5 : -99 ≤ k ∧ k ≤ 99 := by
            simp only [List.mem_cons, List.not_mem_nil, or_false] at hk
            omega
          walk_at "dl"
          refine fin (.tup [b, .int k]) c8 ?_ ?_ (.inr (.inr ⟨b, hkn b hb, k, rfl⟩)) hr8
          · simp only [isPlaceD, hbl.2.1, mem_memD hb (hkn b hb), isNumD, hk5.1, hk5.2, decide_true, Bool.and_self]
          · show ([b, .int k].all (datD 39) && decide (([b, .int k] : List D).length ≤ 16000000)) = true
            simp only [List.all_cons, List.all_nil, Bool.and_true, Bool.and_eq_true]
            exact ⟨⟨datD_all (by omega) hbl.1, rfl⟩, rfl⟩
        · simp only [hz, decide_false]
          walk_at "dl"
          exact fin b c7 (place_letter hb (hkn b hb)) (datD_all (by omega) hbl.1) (.inr (.inl (hkn b hb))) hr7
      · simp only [hr, decide_false]
        walk_at "dl"
        exact fin v1 c5 (place_worth v1 hv1) (datD_all (by omega) (worths_dat v1 hv1).1) (.inl hv1) hr5
  · obtain ⟨ps, o1, o2, c3, rfl, rfl, hr3, hpl, hps⟩ := (hPv _ _ _).mp hv
    walk_at "dl"
    refine h _ _ ⟨?_, ?_, w, ps, rfl, hw, by omega, fun x hx => (hps x hx).2.2⟩ hr3
    · simp only [isTemplateD, Bool.and_eq_true, decide_eq_true_eq]
      exact ⟨⟨by omega, (heads_dat w hw).2.1⟩, List.all_eq_true.mpr fun x hx => (hps x hx).1⟩
    · show ((w :: ps).all (datD 44) && decide ((w :: ps).length ≤ 16000000)) = true
      rw [Bool.and_eq_true, decide_eq_true_eq, List.length_cons, List.all_cons, Bool.and_eq_true]
      exact ⟨⟨datD_all (by omega) (heads_dat w hw).1, List.all_eq_true.mpr fun x hx => datD_all (by omega) (hps x hx).2.1⟩, by omega⟩
theorem oNeg_int {i : Int} {C : Cells} {R : D → Cells → Prop} : oNeg (.int i) C R = R (.int (-i)) C := rfl
abbrev SIDES : List D := [.str "a", .str "b", .int 0, .int 1, .int 2, .str "c", .int 99, .int (-99), .str "X", .str "Y", .str "Z", .str "W"]
/-- a want as the law makes it -/
def WantOk (w : D) : Prop := (∃ z v, w = .tup [.str z, v] ∧ (z = ISS ∨ z = NOTS) ∧ PatOk v) ∨ ∃ z x y, w = .tup [.str z, x, y] ∧ (z = LESSS ∨ z = SAMES ∨ z = UNLS) ∧ x ∈ SIDES ∧ y ∈ SIDES
structure WsOk (ws kn : List D) : Prop where
  bs : wantsBs [] ws = some kn
  kl : ∀ b ∈ kn, b ∈ LETTERS
  ln : kn.length ≤ 5 * ws.length
  all : ∀ w ∈ ws, WantOk w
  fst : ws ≠ [] → firstIs ws = true
/-- a deed, a rule, of the law's own words; a dense rule -/
def DeedV (q : D) : Prop := (∃ i : Int, q = .tup [.str TAKES, .int i]) ∨ ∃ z v, q = .tup [.str z, v] ∧ tellerD z = true ∧ TplV v
def RuleV (r : D) : Prop := ∃ nm m ws qs, r = .tup [nm, m, .tup ws, .tup qs] ∧ (∀ q ∈ qs, DeedV q) ∧ ws.length ≤ 4
structure RuleGood (nm : Str) (r : D) : Prop where
  sh : ∃ (m : Int) (ws qs kn : List D), r = .tup [.str nm, .int m, .tup ws, .tup qs] ∧ -9 ≤ m ∧ m ≤ 9 ∧ WsOk ws kn ∧ 1 ≤ ws.length ∧ ws.length ≤ 5 ∧ 1 ≤ qs.length ∧ qs.length ≤ 3 ∧ (∀ q ∈ qs, isDeedD q ws kn = true)
  dat : datD 49 r = true
theorem parts_part : ∀ d ∈ PARTS, isPartD d = true := by decide +kernel
theorem parts_blank : ∀ d ∈ PARTS, isBlankD d = true → d ∈ LETTERS := by decide +kernel
theorem pat_pattern {v : D} (h : PatOk v) : isPatternD v = true := by
  obtain ⟨w, ps, rfl, hw, hl, hps⟩ := h
  simp only [isPatternD, Bool.and_eq_true, decide_eq_true_eq]
  exact ⟨⟨hl, (heads_dat w hw).2.1⟩, List.all_eq_true.mpr fun x hx => parts_part x (hps x hx)⟩
theorem ws_nil : WsOk [] [] := ⟨rfl, fun _ h => (by cases h), by simp, fun _ h => (by cases h), fun h => absurd rfl h⟩
theorem snoc_step {ws kn : List D} {w : D} (h : WsOk ws kn) (hw : isWantD w kn = true) : wantsBs [] (ws ++ [w]) = some (wantAdd kn w) := by
  rw [wantsBs_snoc, h.bs]
  show (if isWantD w kn = true then some (wantAdd kn w) else none) = _
  rw [if_pos hw]
theorem fst_snoc {ws kn : List D} {w : D} (h : WsOk ws kn) (hf : ws = [] → firstIs [w] = true) : firstIs (ws ++ [w]) = true := by
  cases ws with
  | nil => exact hf rfl
  | cons a r =>
    have := h.fst (by simp)
    rw [List.cons_append]
    cases a <;> first | (cases this; done) | skip
    rename_i ds
    cases ds with
    | nil => cases this
    | cons b s => cases b <;> first | (cases this; done) | exact this
theorem mem_snoc {w : D} {ws : List D} {P : D → Prop} (h : ∀ x ∈ ws, P x) (hw : P w) : ∀ x ∈ ws ++ [w], P x := fun x hx => by
  rcases List.mem_append.mp hx with hx | hx
  · exact h x hx
  · rw [List.mem_singleton.mp hx]; exact hw
theorem ws_is {ws kn ps : List D} {v : D} (h : WsOk ws kn) (hp : PatOk (.tup (v :: ps))) : WsOk (ws ++ [.tup [.str ISS, .tup (v :: ps)]]) (kn ++ blanksL (v :: ps)) := by
  have hw : isWantD (.tup [.str ISS, .tup (v :: ps)]) kn = true := by
    have : (ISS == ISS || ISS == NOTS) = true := by decide +kernel
    simp only [isWantD, this, if_true]
    exact pat_pattern hp
  have ha : wantAdd kn (.tup [.str ISS, .tup (v :: ps)]) = kn ++ blanksL (v :: ps) := by
    have : (ISS == ISS) = true := by decide +kernel
    simp only [wantAdd, this, if_true]
  obtain ⟨_, ps', e, hv, hl, hps⟩ := hp
  cases e
  refine ⟨by rw [snoc_step h hw, ha], fun b hb => ?_, ?_, mem_snoc h.all (.inl ⟨_, _, rfl, .inl rfl, v, ps, rfl, hv, hl, hps⟩), fun _ => fst_snoc h fun _ => show (ISS == ISS) = true by decide +kernel⟩
  · rcases List.mem_append.mp hb with hb | hb
    · exact h.kl b hb
    · obtain ⟨h1, h2⟩ := List.mem_filter.mp hb
      exact parts_blank b (hps b h1) h2
  · rw [List.length_append, List.length_append, List.length_singleton]
    have := blanksL_len (v :: ps)
    have := h.ln
    rw [List.length_cons] at *
    omega
theorem ws_not {ws kn : List D} {v : D} (h : WsOk ws kn) (hne : ws ≠ []) (hp : PatOk v) : WsOk (ws ++ [.tup [.str NOTS, v]]) kn := by
  have hw : isWantD (.tup [.str NOTS, v]) kn = true := by
    have : (NOTS == ISS || NOTS == NOTS) = true := by decide +kernel
    simp only [isWantD, this, if_true]
    exact pat_pattern hp
  have ha : wantAdd kn (.tup [.str NOTS, v]) = kn := by
    obtain ⟨w, ps, rfl, _⟩ := hp
    have : (NOTS == ISS) = false := by decide +kernel
    simp only [wantAdd, this]
    simp
  exact ⟨by rw [snoc_step h hw, ha], h.kl, by rw [List.length_append]; have := h.ln; omega, mem_snoc h.all (.inl ⟨_, _, rfl, .inr rfl, hp⟩), fun _ => fst_snoc h fun e => absurd e hne⟩
theorem ws_test {ws kn : List D} {z : Str} {x y : D} (h : WsOk ws kn) (hne : ws ≠ []) (hz : z = LESSS ∨ z = SAMES ∨ z = UNLS) (hx : x ∈ WORTHS ∨ x ∈ kn) (hy : y ∈ WORTHS ∨ y ∈ kn) : WsOk (ws ++ [.tup [.str z, x, y]]) kn := by
  have ez : (z == ISS || z == NOTS) = false := by rcases hz with rfl | rfl | rfl <;> decide +kernel
  have ez2 : (z == LESSS || z == SAMES || z == UNLS) = true := by rcases hz with rfl | rfl | rfl <;> decide +kernel
  have side : ∀ x, (x ∈ WORTHS ∨ x ∈ kn) → isSideD x kn = true ∧ x ∈ SIDES := fun x hx => by
    rcases hx with hx | hx
    · refine ⟨by unfold isSideD; rw [(worths_dat x hx).2.1]; rfl, ?_⟩
      simp only [List.mem_cons, List.not_mem_nil, or_false] at hx ⊢
      rcases hx with rfl | rfl | rfl | rfl | rfl | rfl | rfl | rfl <;> simp
    · have hl := h.kl x hx
      refine ⟨by unfold isSideD; rw [(letters_dat x hl).2.1, mem_memD hx hl]; simp, ?_⟩
      simp only [List.mem_cons, List.not_mem_nil, or_false] at hl ⊢
      rcases hl with rfl | rfl | rfl | rfl <;> simp
  have hw : isWantD (.tup [.str z, x, y]) kn = true := by
    simp only [isWantD, ez, ez2, List.all_cons, List.all_nil, (side x hx).1, (side y hy).1]
    rfl
  have ha : wantAdd kn (.tup [.str z, x, y]) = kn := by
    have e3 : (z == ISS) = false := by rcases hz with rfl | rfl | rfl <;> decide +kernel
    unfold wantAdd
    split
    · rename_i e
      injection e with e
      injection e with e1 e2
      injection e1 with e1
      subst e1
      rw [e3]
      simp
    · rfl
  exact ⟨by rw [snoc_step h hw, ha], h.kl, by rw [List.length_append]; have := h.ln; omega, mem_snoc h.all (.inr ⟨_, _, _, rfl, hz, (side x hx).2, (side y hy).2⟩), fun _ => fst_snoc h fun e => absurd e hne⟩
theorem sides_dat : ∀ d ∈ SIDES, datD 30 d = true := by decide +kernel
theorem want_dat {w : D} (h : WantOk w) : datD 45 w = true := by
  rcases h with ⟨z, v, rfl, hz, hp⟩ | ⟨z, x, y, rfl, hz, hx, hy⟩
  · have hzd : datD 44 (.str z) = true := by rcases hz with rfl | rfl <;> decide +kernel
    show ([.str z, v].all (datD 44) && decide (([.str z, v] : List D).length ≤ 16000000)) = true
    simp only [List.all_cons, List.all_nil, Bool.and_true, hzd, datD_all (show 40 ≤ 44 by omega) (pat_dat hp), Bool.true_and]
    rfl
  · have hzd : datD 44 (.str z) = true := by rcases hz with rfl | rfl | rfl <;> decide +kernel
    show ([.str z, x, y].all (datD 44) && decide (([.str z, x, y] : List D).length ≤ 16000000)) = true
    simp only [List.all_cons, List.all_nil, Bool.and_true, hzd, datD_all (show 30 ≤ 44 by omega) (sides_dat x hx), datD_all (show 30 ≤ 44 by omega) (sides_dat y hy), Bool.true_and]
    rfl
/-- two cells: the row's, and one more -/
theorem updC2 {C : Cells} {p q : Addr} {c c' w : Cell} (h : q ≠ p) : updC (updC (updC C p c) q w) p c' = updC (updC C p c') q w := by
  rw [← updC_comm h.symm, DL.updC_upd]
  exact updC_comm h.symm ▸ rfl
theorem at2 {C : Cells} {p q : Addr} {c w : Cell} (h : q ≠ p) : updC (updC C p c) q w p = some c := by
  rw [DL.updC_ne h.symm, updC_at]
theorem lss_upd2 {R : D → Cells → Prop} {d : D} {C : Cells} {q r : Addr} {x y : Cell} (hq : C q = none) (hr : updC C q x r = none) (h : R d C) : lss R d (updC (updC C q x) r y) := by
  refine ⟨C, fun a c e => ?_, h⟩
  have h1 : a ≠ q := by rintro rfl; rw [hq] at e; cases e
  have h2 : a ≠ r := by
    rintro rfl
    rw [DL.updC_ne h1, e] at hr
    cases hr
  rw [DL.updC_ne h2, DL.updC_ne h1]
  exact e
def headIs (d : D) : Bool := match d with
  | .tup (.str z :: _) => z == ISS
  | _ => false
theorem wantAt_head {ws : List D} {i : Int} {d : D} (h : atI ws i = some d) : isWantAt ws (.int i) = headIs d := by
  simp only [isWantAt, h]
  cases d <;> first | rfl | skip
  rename_i ds
  rcases ds with _ | ⟨b, ds⟩
  · rfl
  · cases b <;> rfl
theorem firstIs_cons (a : D) (r : List D) : firstIs (a :: r) = headIs a := by
  cases a <;> first | rfl | skip
  rename_i ds
  rcases ds with _ | ⟨b, ds⟩
  · rfl
  · cases b <;> rfl
theorem deed_take {n : Nat} {ws kn : List D} (hn : n < ws.length) (hw : isWantAt ws (.int (n : Nat)) = true) : isDeedD (.tup [.str TAKES, .int (n : Nat)]) ws kn = true := by
  have e : (TAKES == TAKES) = true := by decide +kernel
  simp only [isDeedD, e, if_true, hw, isNumD, Bool.and_true, Bool.and_eq_true, decide_eq_true_eq]
  omega
theorem deed_tell {z : Str} {v : D} {ws kn : List D} (h1 : tellerD z = true) (h2 : (z == TAKES) = false) (h3 : isTemplateD v kn = true) : isDeedD (.tup [.str z, v]) ws kn = true := by
  simp only [isDeedD, h1, h2, h3]
  rfl
theorem take_dat {n : Int} : datD 47 (.tup [.str TAKES, .int n]) = true := by
  show ([.str TAKES, .int n].all (datD 46) && decide (([.str TAKES, .int n] : List D).length ≤ 16000000)) = true
  simp only [List.all_cons, List.all_nil, Bool.and_true, show datD 46 (.str TAKES) = true by decide +kernel, Bool.true_and]
  rfl
theorem tell_dat {z : Str} {v : D} (h : datD 46 (.str z) = true) (hv : datD 46 v = true) : datD 47 (.tup [.str z, v]) = true := by
  show ([.str z, v].all (datD 46) && decide (([.str z, v] : List D).length ≤ 16000000)) = true
  simp only [List.all_cons, List.all_nil, Bool.and_true, h, hv, Bool.true_and]
  rfl
abbrev str3 (z : Str) : Str := z
def a__law_rule : ASp := fun ds C R => ∃ p c nm, ds = [.ref p, .str nm] ∧ C p = some (.lst c) ∧ RowSt c ∧ datD 40 (.str nm) = true ∧ isWordD (.str nm) = true ∧ ∀ v c', RuleGood nm v → RuleV v → RowSt c' → R v (updC C p (.lst c'))
def tlr_a (a__law_taken : ASp) (a__law_pattern : ASp) (a__law_letters : ASp) (a__law_worth : ASp) (a__law_template : ASp) : DS := dSeq (dDrop (dMtL omAppend (dVar 3) (dCons (dTup (dCons (dC (.str "is")) (dCons (dCall a__law_pattern [] (dCons (dVar 0) (dCons (dC (.str "XYZ")) (dNil)))) (dNil)))) (dNil)))) (dAsg (dOp oAdd (dVar 2) (dCall a__law_letters [] (dCons (dOp oIx (dOp oIx (dVar 3) (dUn oNeg (dC (.int 1)))) (dC (.int 1))) (dNil)))) (gdName 2))
def tlr_b (a__law_taken : ASp) (a__law_pattern : ASp) (a__law_letters : ASp) (a__law_worth : ASp) (a__law_template : ASp) : DS := dDrop (dMtL omAppend (dVar 3) (dCons (dTup (dCons (dC (.str "not")) (dCons (dCall a__law_pattern [] (dCons (dVar 0) (dCons (dC (.str "XYW")) (dNil)))) (dNil)))) (dNil)))
def tlr_d (a__law_taken : ASp) (a__law_pattern : ASp) (a__law_letters : ASp) (a__law_worth : ASp) (a__law_template : ASp) : DS := dSeq (dAsg (dIf (dTest (dOp oEq (dCall a__law_taken [] (dCons (dVar 0) (dCons (dC (.int 2)) (dNil)))) (dC (.int 0)))) (dTup (dCons (dVar 6) (dCons (dVar 7) (dNil)))) (dTup (dCons (dVar 7) (dCons (dVar 6) (dNil))))) (gdName 8)) (dDrop (dMtL omAppend (dVar 3) (dCons (dOp oAdd (dTup (dCons (dOp oIx (dLst (dCons (dC (.str "less")) (dCons (dC (.str "same")) (dCons (dC (.str "unlike")) (dNil))))) (dCall a__law_taken [] (dCons (dVar 0) (dCons (dC (.int 3)) (dNil))))) (dNil))) (dVar 8)) (dNil))))
def tlr_c2 (a__law_taken : ASp) (a__law_pattern : ASp) (a__law_letters : ASp) (a__law_worth : ASp) (a__law_template : ASp) : DS := dSeq (dAsg (dOp oIx (dLst (dCons (dCall a__law_worth [] (dCons (dVar 0) (dNil))) (dCons (dOp oIx (dVar 2) (dCall a__law_taken [] (dCons (dVar 0) (dCons (dFn oLen (dCons (dVar 2) (dNil))) (dNil))))) (dNil)))) (dCall a__law_taken [] (dCons (dVar 0) (dCons (dC (.int 2)) (dNil))))) (gdName 7)) (tlr_d a__law_taken a__law_pattern a__law_letters a__law_worth a__law_template)
def tlr_c (a__law_taken : ASp) (a__law_pattern : ASp) (a__law_letters : ASp) (a__law_worth : ASp) (a__law_template : ASp) : DS := dSeq (dAsg (dOp oIx (dVar 2) (dCall a__law_taken [] (dCons (dVar 0) (dCons (dFn oLen (dCons (dVar 2) (dNil))) (dNil))))) (gdName 6)) (tlr_c2 a__law_taken a__law_pattern a__law_letters a__law_worth a__law_template)
def tlr_t (a__law_taken : ASp) (a__law_pattern : ASp) (a__law_letters : ASp) (a__law_worth : ASp) (a__law_template : ASp) : DS := dSeq (dAsg (dLc (diRng1 (dCons (dFn oLen (dCons (dVar 3) (dNil))) (dNil))) (gdName 4) (dTest (dOp oEq (dOp oIx (dOp oIx (dVar 3) (dVar 4)) (dC (.int 0))) (dC (.str "is")))) (dVar 4) [4]) (gdName 9)) (dSeq (dAsg (dLstC (dNil)) (gdName 10)) (dSeq (dFor (diRng1 (dCons (dOp oIx (dLst (dCons (dC (.int 1)) (dCons (dC (.int 1)) (dCons (dC (.int 2)) (dCons (dC (.int 3)) (dNil)))))) (dCall a__law_taken [] (dCons (dVar 0) (dCons (dC (.int 4)) (dNil))))) (dNil))) (gdName 4) (dSeq (dAsg (dCall a__law_taken [] (dCons (dVar 0) (dCons (dC (.int 8)) (dNil)))) (gdName 5)) (dIfS (dTest (dOp oEq (dVar 5) (dC (.int 0)))) (dDrop (dMtL omAppend (dVar 10) (dCons (dTup (dCons (dC (.str "take")) (dCons (dOp oIx (dVar 9) (dCall a__law_taken [] (dCons (dVar 0) (dCons (dFn oLen (dCons (dVar 9) (dNil))) (dNil))))) (dNil)))) (dNil)))) (dDrop (dMtL omAppend (dVar 10) (dCons (dTup (dCons (dOp oIx (dLst (dCons (dC (.str "say")) (dCons (dC (.str "add")) (dCons (dC (.str "add")) (dCons (dC (.str "hold")) (dCons (dC (.str "hold")) (dCons (dC (.str "hold")) (dCons (dC (.str "hold")) (dNil))))))))) (dOp oSub (dVar 5) (dC (.int 1)))) (dCons (dCall a__law_template [] (dCons (dVar 0) (dCons (dVar 2) (dNil)))) (dNil)))) (dNil))))))) (dRet (dTup (dCons (dVar 1) (dCons (dOp oSub (dCall a__law_taken [] (dCons (dVar 0) (dCons (dC (.int 3)) (dNil)))) (dC (.int 1))) (dCons (dFn oTuple (dCons (dVar 3) (dNil))) (dCons (dFn oTuple (dCons (dVar 10) (dNil))) (dNil)))))))))
theorem rd__law_rule : ∀ ds C R, a__law_rule ds C R → t__law_rule a__law_taken a__law_pattern a__law_letters a__law_worth a__law_template { nx := fun _ C' => lss R .non C', rt := lss R } (dstart ["_law_row_here", "_law_name", "_law_known", "_law_wants", "_law_k", "_law_way", "_law_side", "_law_other", "_law_pair", "_law_places", "_law_deeds"] ds) C := by
  rintro ds C R ⟨p, c, nm, rfl, hp, hc, hnd, hnw, h⟩
  unfold t__law_rule
  show dSeq _ (dSeq (dFor _ _ (dSeq _ (dIfS _ (tlr_a a__law_taken a__law_pattern a__law_letters a__law_worth a__law_template) (dIfS _ (tlr_b a__law_taken a__law_pattern a__law_letters a__law_worth a__law_template) (tlr_c a__law_taken a__law_pattern a__law_letters a__law_worth a__law_template))))) (tlr_t a__law_taken a__law_pattern a__law_letters a__law_worth a__law_template)) _ _ _
  walk_at "dl"
  intro q hq
  have hpq : q ≠ p := by rintro rfl; rw [hp] at hq; cases hq
  walk_at "dl"
  refine ⟨p, 5, c, rfl, by omega, by omega, by rw [DL.updC_ne hpq.symm]; exact hp, hc, fun r c1 h0 h1 hr1 => ?_⟩
  rw [updC_comm hpq.symm]
  walk_at "dl"
  refine pickE h0 (by simpa using h1) fun d hd => ?_
  obtain ⟨k, hk, rfl⟩ := ints_in (ks := [1, 2, 2, 3, 4]) hd
  have hk4 : 1 ≤ k ∧ k ≤ 4 := by
    simp only [List.mem_cons, List.not_mem_nil, or_false] at hk
    omega
  walk_at "dl"
  refine ⟨by omega, by omega, ?_⟩
  obtain ⟨Pv, hPv⟩ : ∃ Pv : Nat → DSt → Cells → Prop, ∀ i δ C', Pv i δ C' ↔ ∃ ws kn o4 o5 o6 o7 o8 c', δ = [some (.ref p), some (.str nm), some (.lst kn), some (.ref q), o4, o5, o6, o7, o8, none, none] ∧ C' = updC (updC C p (.lst c')) q (.lst ws) ∧ RowSt c' ∧ WsOk ws kn ∧ ws.length = i := ⟨_, fun _ _ _ => Iff.rfl⟩
  refine for_rng Pv ((hPv _ _ _).mpr ⟨[], [], none, none, none, none, none, c1, rfl, rfl, hr1, ws_nil, rfl⟩) (fun i δ C' hi hv => ?_) (fun δ C' hv => ?_)
  · obtain ⟨ws, kn, o4, o5, o6, o7, o8, c3, rfl, rfl, hr3, hws, hwl⟩ := (hPv _ _ _).mp hv
    have hi4 : i < 4 := by omega
    have hkn : kn.length ≤ 20 := by have := hws.ln; omega
    by_cases hi0 : i = 0
    · subst hi0
      obtain rfl := List.length_eq_zero_iff.mp hwl
      walk_at "dl"
      simp only [show decide ((0 : Int) < 0 + ((0 : Nat) : Int)) = false from rfl]
      walk_at "dl"
      simp only [show decide ((0 : Int) < 4) = true from rfl]
      walk_at "dl"
      unfold tlr_a
      walk_at "dl"
      refine ⟨p, c3, str3 "XYZ", rfl, at2 hpq, hr3, rfl, by decide +kernel, fun v c5 hv5 hr5 => ?_⟩
      obtain ⟨w, ps, rfl, hw', hl', hps'⟩ := id hv5
      rw [updC2 hpq]
      walk_at "dl"
      simp only [oNeg_int]
      rw [oIx_ref updC_at]
      simp only [oNeg_int, atI_m1, List.getLast?_append, List.getLast?_singleton, Option.some_or]
      walk_at "dl"
      refine ⟨w, ps, rfl, hps', by omega, ?_⟩
      walk_at "dl"
      rw [oAdd_lst (by have := blanksL_len (w :: ps); rw [List.length_cons] at this; rw [sizeLine_eq]; omega)]
      walk_at "dl"
      exact (hPv _ _ _).mpr ⟨_, _, _, _, _, _, _, c5, rfl, rfl, hr5, ws_is hws hv5, by simp [hwl]⟩
    · have hwne : ws ≠ [] := by rintro rfl; exact hi0 (by simpa using hwl.symm)
      walk_at "dl"
      simp only [show decide ((0 : Int) < 0 + (i : Int)) = true from decide_eq_true (by omega)]
      walk_at "dl"
      refine ⟨p, 8, c3, rfl, by omega, by omega, at2 hpq, hr3, fun y c4 h0 h1 hr4 => ?_⟩
      rw [updC2 hpq]
      walk_at "dl"
      by_cases hy4 : y < 4
      · simp only [hy4, decide_true]
        walk_at "dl"
        unfold tlr_a
        walk_at "dl"
        refine ⟨p, c4, str3 "XYZ", rfl, at2 hpq, hr4, rfl, by decide +kernel, fun v c5 hv5 hr5 => ?_⟩
        obtain ⟨w, ps, rfl, hw', hl', hps'⟩ := id hv5
        rw [updC2 hpq]
        walk_at "dl"
        refine ⟨by rw [sizeLine_eq]; omega, ?_⟩
        simp only [oNeg_int]
        rw [oIx_ref updC_at]
        simp only [oNeg_int, atI_m1, List.getLast?_append, List.getLast?_singleton, Option.some_or]
        walk_at "dl"
        refine ⟨w, ps, rfl, hps', by omega, ?_⟩
        walk_at "dl"
        rw [oAdd_lst (by have := blanksL_len (w :: ps); rw [List.length_cons] at this; rw [sizeLine_eq]; omega)]
        walk_at "dl"
        exact (hPv _ _ _).mpr ⟨_, _, _, _, _, _, _, c5, rfl, rfl, hr5, ws_is hws hv5, by simp [hwl]⟩
      · simp only [hy4, decide_false]
        walk_at "dl"
        by_cases hy5 : 5 < y
        · simp only [hy5, decide_true]
          walk_at "dl"
          rw [oEq_ok (show okD 60 (D.lst kn) = true from allL hws.kl 29) (show okD 60 (D.lst []) = true from rfl), eqv_lst_nil]
          walk_at "dl"
          cases ee : kn.isEmpty with
          | true =>
            walk_at "dl"
            unfold tlr_a
            walk_at "dl"
            refine ⟨p, c4, str3 "XYZ", rfl, at2 hpq, hr4, rfl, by decide +kernel, fun v c5 hv5 hr5 => ?_⟩
            obtain ⟨w, ps, rfl, hw', hl', hps'⟩ := id hv5
            rw [updC2 hpq]
            walk_at "dl"
            refine ⟨by rw [sizeLine_eq]; omega, ?_⟩
            simp only [oNeg_int]
            rw [oIx_ref updC_at]
            simp only [oNeg_int, atI_m1, List.getLast?_append, List.getLast?_singleton, Option.some_or]
            walk_at "dl"
            refine ⟨w, ps, rfl, hps', by omega, ?_⟩
            walk_at "dl"
            rw [oAdd_lst (by have := blanksL_len (w :: ps); rw [List.length_cons] at this; rw [sizeLine_eq]; omega)]
            walk_at "dl"
            exact (hPv _ _ _).mpr ⟨_, _, _, _, _, _, _, c5, rfl, rfl, hr5, ws_is hws hv5, by simp [hwl]⟩
          | false =>
            have hne : 0 < kn.length := by cases kn <;> first | (cases ee; done) | (simp; done)
            walk_at "dl"
            simp only [show decide (y < 6) = false from decide_eq_false (by omega)]
            walk_at "dl"
            unfold tlr_c
            walk_at "dl"
            refine ⟨p, (kn.length : Nat), c4, rfl, by omega, by omega, at2 hpq, hr4, fun r c5 h0 h1 hr5 => ?_⟩
            rw [updC2 hpq]
            walk_at "dl"
            refine pickE h0 h1 fun sd hsd => ?_
            walk_at "dl"
            unfold tlr_c2
            walk_at "dl"
            refine ⟨p, c5, rfl, at2 hpq, hr5, fun v1 c6 hv1 hr6 => ?_⟩
            rw [updC2 hpq]
            walk_at "dl"
            refine ⟨p, (kn.length : Nat), c6, rfl, by omega, by omega, at2 hpq, hr6, fun r c7 h0 h1 hr7 => ?_⟩
            rw [updC2 hpq]
            walk_at "dl"
            refine pickE h0 h1 fun s2 hs2 => ?_
            walk_at "dl"
            refine ⟨p, 2, c7, rfl, by omega, by omega, at2 hpq, hr7, fun r c8 h0 h1 hr8 => ?_⟩
            rw [updC2 hpq]
            walk_at "dl"
            refine pickE h0 (by simpa using h1) fun ot hot => ?_
            have hot2 : ot ∈ WORTHS ∨ ot ∈ kn := by
              simp only [List.mem_cons, List.not_mem_nil, or_false] at hot
              rcases hot with rfl | rfl
              · exact .inl hv1
              · exact .inr hs2
            walk_at "dl"
            unfold tlr_d
            walk_at "dl"
            refine ⟨p, 2, c8, rfl, by omega, by omega, at2 hpq, hr8, fun r2 c9 h0 h1 hr9 => ?_⟩
            rw [updC2 hpq]
            walk_at "dl"
            by_cases hz : r2 = 0
            · simp only [hz, decide_true]
              walk_at "dl"
              refine ⟨p, 3, c9, rfl, by omega, by omega, at2 hpq, hr9, fun r c10 h0 h1 hr10 => ?_⟩
              rw [updC2 hpq]
              walk_at "dl"
              refine pickE h0 (by simpa using h1) fun tz htz => ?_
              obtain ⟨z, rfl, hzz⟩ : ∃ z, tz = .str z ∧ (z = LESSS ∨ z = SAMES ∨ z = UNLS) := by
                simp only [List.mem_cons, List.not_mem_nil, or_false] at htz
                rcases htz with rfl | rfl | rfl
                · exact ⟨_, rfl, .inl rfl⟩
                · exact ⟨_, rfl, .inr (.inl rfl)⟩
                · exact ⟨_, rfl, .inr (.inr rfl)⟩
              walk_at "dl"
              rw [oAdd_tup (by rw [sizeLine_eq]; simp)]
              walk_at "dl"
              refine ⟨by rw [sizeLine_eq]; omega, ?_⟩
              exact (hPv _ _ _).mpr ⟨_, _, _, _, _, _, _, c10, rfl, rfl, hr10, ws_test hws hwne hzz (.inr hsd) (hot2), by simp [hwl]⟩
            · simp only [hz, decide_false]
              walk_at "dl"
              refine ⟨p, 3, c9, rfl, by omega, by omega, at2 hpq, hr9, fun r c10 h0 h1 hr10 => ?_⟩
              rw [updC2 hpq]
              walk_at "dl"
              refine pickE h0 (by simpa using h1) fun tz htz => ?_
              obtain ⟨z, rfl, hzz⟩ : ∃ z, tz = .str z ∧ (z = LESSS ∨ z = SAMES ∨ z = UNLS) := by
                simp only [List.mem_cons, List.not_mem_nil, or_false] at htz
                rcases htz with rfl | rfl | rfl
                · exact ⟨_, rfl, .inl rfl⟩
                · exact ⟨_, rfl, .inr (.inl rfl)⟩
                · exact ⟨_, rfl, .inr (.inr rfl)⟩
              walk_at "dl"
              rw [oAdd_tup (by rw [sizeLine_eq]; simp)]
              walk_at "dl"
              refine ⟨by rw [sizeLine_eq]; omega, ?_⟩
              exact (hPv _ _ _).mpr ⟨_, _, _, _, _, _, _, c10, rfl, rfl, hr10, ws_test hws hwne hzz (hot2) (.inr hsd), by simp [hwl]⟩
        · simp only [hy5, decide_false]
          walk_at "dl"
          simp only [show decide (y < 6) = true from decide_eq_true (by omega)]
          walk_at "dl"
          unfold tlr_b
          walk_at "dl"
          refine ⟨p, c4, str3 "XYW", rfl, at2 hpq, hr4, rfl, by decide +kernel, fun v c5 hv5 hr5 => ?_⟩
          rw [updC2 hpq]
          walk_at "dl"
          refine ⟨by rw [sizeLine_eq]; omega, ?_⟩
          exact (hPv _ _ _).mpr ⟨_, _, _, _, _, _, _, c5, rfl, rfl, hr5, ws_not hws hwne hv5, by simp [hwl]⟩
  · obtain ⟨ws, kn, o4, o5, o6, o7, o8, c3, rfl, rfl, hr3, hws, hwl⟩ := (hPv _ _ _).mp hv
    have hw1 : 1 ≤ ws.length := by omega
    have hw5 : ws.length ≤ 4 := by omega
    have hkn : kn.length ≤ 20 := by have := hws.ln; omega
    unfold tlr_t
    walk_at "dl"
    rw [oLen_ref updC_at]
    walk_at "dl"
    refine ⟨by omega, by omega, ?_⟩
    obtain ⟨Pl, hPl⟩ : ∃ Pl : Nat → List D → Cells → Prop, ∀ i acc C', Pl i acc C' ↔ C' = updC (updC C p (.lst c3)) q (.lst ws) ∧ (∀ x ∈ acc, ∃ n : Nat, x = .int (n : Nat) ∧ n < ws.length ∧ isWantAt ws x = true) ∧ (0 < i → acc ≠ []) ∧ acc.length ≤ i := ⟨_, fun _ _ _ => Iff.rfl⟩
    refine lc_inv (n := ((ws.length : Nat) : Int).toNat) Pl (fun i _ hi => hi) (fun _ => Nat.le_refl _) ((hPl _ _ _).mpr ⟨rfl, by simp, by simp, by simp⟩) (fun i d acc C' hi hy hv => ?_) (fun acc C' hv => ?_)
    · obtain ⟨rfl, ha1, ha2, ha3⟩ := (hPl _ _ _).mp hv
      have hy : d = .int (0 + (i : Int)) := hy
      subst hy
      have hiw : i < ws.length := by omega
      walk_at "dl"
      rw [oIx_ref updC_at]
      simp only [Int.zero_add, atI_cast]
      walk_at "dl"
      refine ⟨ws[i], List.getElem?_eq_getElem hiw, ?_⟩
      have hwd := want_dat (hws.all _ (List.getElem_mem hiw))
      have hwa : isWantAt ws (.int (i : Nat)) = headIs ws[i] := wantAt_head (by rw [atI_cast]; exact List.getElem?_eq_getElem hiw)
      have h00 : i = 0 → isWantAt ws (.int (i : Nat)) = true := fun e => by
        subst e
        have := hws.fst (by rintro rfl; simp at hiw)
        rw [hwa]
        cases ws with
        | nil => simp at hiw
        | cons a r => rw [firstIs_cons] at this; exact this
      have yes : isWantAt ws (.int (i : Nat)) = true → Pl (i + 1) (acc ++ [.int (i : Nat)]) (updC (updC C p (.lst c3)) q (.lst ws)) := fun e => (hPl _ _ _).mpr ⟨rfl, mem_snoc ha1 ⟨i, rfl, hiw, e⟩, by simp, by simp; omega⟩
      have no : isWantAt ws (.int (i : Nat)) = false → Pl (i + 1) acc (updC (updC C p (.lst c3)) q (.lst ws)) := fun e => (hPl _ _ _).mpr ⟨rfl, ha1, fun _ => ha2 (by
        refine Nat.pos_of_ne_zero fun e0 => ?_
        rw [h00 e0] at e
        cases e), by omega⟩
      rcases hws.all _ (List.getElem_mem hiw) with ⟨z, v, e, hz, hpv⟩ | ⟨z, x, y, e, hz, hx, hy2⟩
      all_goals
        rw [e] at hwd hwa ⊢
        have hzd := datD_item hwd (show D.str z ∈ D.str z :: _ from List.mem_cons_self)
        walk_at "dl"
        simp only [oEq_str (datD_sok hzd) okIS]
        walk_at "dl"
        have hwa : isWantAt ws (.int (i : Nat)) = (z == ISS) := hwa
        cases ez : (z == ISS) with
        | true =>
          walk_at "dl"
          exact ⟨by rw [sizeLine_eq]; omega, yes (by rw [hwa, ez])⟩
        | false =>
          walk_at "dl"
          exact no (by rw [hwa, ez])
    · obtain ⟨rfl, ha1, ha2, ha3⟩ := (hPl _ _ _).mp hv
      have hne : acc ≠ [] := ha2 (by omega)
      have hal : 0 < acc.length := List.length_pos_iff.mpr hne
      walk_at "dl"
      intro r hr
      have hrq : r ≠ q := by rintro rfl; rw [updC_at] at hr; cases hr
      have hrp : r ≠ p := by rintro rfl; rw [at2 hpq] at hr; cases hr
      have hCq : updC C q (.lst ws) r = none := by
        rw [DL.updC_ne hrq] at hr ⊢
        rw [DL.updC_ne hrp] at hr
        exact hr
      rw [show updC (updC C p (.lst c3)) q (.lst ws) = updC (updC C q (.lst ws)) p (.lst c3) from updC_comm hpq]
      refine ⟨p, 4, c3, rfl, by omega, by omega, at2 hrp, hr3, fun y c4 h0 h1 hr4 => ?_⟩
      rw [updC2 hrp]
      walk_at "dl"
      refine pickE h0 (by simpa using h1) fun d hd => ?_
      obtain ⟨k2, hk2, rfl⟩ := ints_in (ks := [1, 1, 2, 3]) hd
      have hk24 : 1 ≤ k2 ∧ k2 ≤ 3 := by
        simp only [List.mem_cons, List.not_mem_nil, or_false] at hk2
        omega
      walk_at "dl"
      refine ⟨by omega, by omega, ?_⟩
      obtain ⟨Pw, hPw⟩ : ∃ Pw : Nat → DSt → Cells → Prop, ∀ i δ C', Pw i δ C' ↔ ∃ qs o4 o5 o6 o7 o8 c', δ = [some (.ref p), some (.str nm), some (.lst kn), some (.ref q), o4, o5, o6, o7, o8, some (.lst acc), some (.ref r)] ∧ C' = updC (updC (updC C q (.lst ws)) p (.lst c')) r (.lst qs) ∧ RowSt c' ∧ qs.length = i ∧ (∀ x ∈ qs, isDeedD x ws kn = true ∧ datD 47 x = true ∧ DeedV x) := ⟨_, fun _ _ _ => Iff.rfl⟩
      refine for_rng Pw ((hPw _ _ _).mpr ⟨[], _, _, _, _, _, c4, rfl, rfl, hr4, rfl, by simp⟩) (fun i δ C' hi hv => ?_) (fun δ C' hv => ?_)
      · obtain ⟨qs, o4, o5, o6, o7, o8, c5, rfl, rfl, hr5, hql, hqs⟩ := (hPw _ _ _).mp hv
        walk_at "dl"
        refine ⟨p, 8, c5, rfl, by omega, by omega, at2 hrp, hr5, fun y c6 h0 h1 hr6 => ?_⟩
        rw [updC2 hrp]
        walk_at "dl"
        by_cases hy0 : y = 0
        · simp only [hy0, decide_true]
          walk_at "dl"
          refine ⟨p, (acc.length : Nat), c6, rfl, by omega, by omega, at2 hrp, hr6, fun y c7 h0 h1 hr7 => ?_⟩
          rw [updC2 hrp]
          walk_at "dl"
          refine pickE h0 h1 fun pl hpl => ?_
          obtain ⟨n, rfl, hn, hwn⟩ := ha1 pl hpl
          walk_at "dl"
          refine ⟨by rw [sizeLine_eq]; omega, (hPw _ _ _).mpr ⟨_, _, _, _, _, _, c7, rfl, rfl, hr7, by simp [hql], mem_snoc hqs ⟨?_, ?_, .inl ⟨_, rfl⟩⟩⟩⟩
          · exact deed_take hn hwn
          · exact take_dat
        · simp only [hy0, decide_false]
          walk_at "dl"
          refine pickE (by omega) (by simp; omega) fun td htd => ?_
          obtain ⟨z, rfl, hz1, hz2, hz3⟩ : ∃ z, td = .str z ∧ tellerD z = true ∧ (z == TAKES) = false ∧ datD 46 (.str z) = true := by
            simp only [List.mem_cons, List.not_mem_nil, or_false] at htd
            rcases htd with rfl | rfl | rfl | rfl | rfl | rfl | rfl <;> exact ⟨_, rfl, by decide +kernel, by decide +kernel, by decide +kernel⟩
          walk_at "dl"
          refine ⟨p, c6, kn, rfl, at2 hrp, hr6, hws.kl, by omega, fun v c7 hv7 hr7 => ?_⟩
          rw [updC2 hrp]
          walk_at "dl"
          refine ⟨by rw [sizeLine_eq]; omega, (hPw _ _ _).mpr ⟨_, _, _, _, _, _, c7, rfl, rfl, hr7, by simp [hql], mem_snoc hqs ⟨?_, ?_, .inr ⟨_, _, rfl, hz1, hv7.2.2⟩⟩⟩⟩
          · exact deed_tell hz1 hz2 hv7.1
          · exact tell_dat hz3 (datD_all (by omega) hv7.2.1)
      · obtain ⟨qs, o4, o5, o6, o7, o8, c5, rfl, rfl, hr5, hql, hqs⟩ := (hPw _ _ _).mp hv
        walk_at "dl"
        refine ⟨p, 3, c5, rfl, by omega, by omega, at2 hrp, hr5, fun y c6 h0 h1 hr6 => ?_⟩
        rw [updC2 hrp]
        walk_at "dl"
        rw [oTuple_def]
        have el : lstOf (updC (updC (updC C q (.lst ws)) p (.lst c6)) r (.lst qs)) (.ref q) = some ws := by
          refine lstOf_at ?_
          rw [DL.updC_ne (Ne.symm hrq), at2 (Ne.symm hpq)]
        simp only [tupOf, el, Option.some.injEq, exists_eq_left']
        rw [oTuple_def]
        simp only [tupOf, lstOf_upd, Option.some.injEq, exists_eq_left']
        walk_at "dl"
        rw [show updC (updC C q (.lst ws)) p (.lst c6) = updC (updC C p (.lst c6)) q (.lst ws) from (updC_comm hpq).symm]
        refine lss_upd2 ?_ ?_ (h _ c6 ⟨⟨y - 1, ws, qs, kn, rfl, by omega, by omega, hws, by omega, by omega, by omega, by omega, fun x hx => (hqs x hx).1⟩, ?_⟩ ⟨_, _, ws, qs, rfl, fun x hx => (hqs x hx).2.2, by omega⟩ hr6)
        · rw [DL.updC_ne hpq]; exact hq
        · rw [DL.updC_ne hrq, DL.updC_ne hrp]
          rw [DL.updC_ne hrq] at hCq
          exact hCq
        · show ([.str nm, .int (y - 1), .tup ws, .tup qs].all (datD 48) && decide (([.str nm, .int (y - 1), .tup ws, .tup qs] : List D).length ≤ 16000000)) = true
          have d1 : datD 48 (.tup ws) = true := by
            show (ws.all (datD 47) && decide (ws.length ≤ 16000000)) = true
            rw [Bool.and_eq_true, decide_eq_true_eq]
            exact ⟨List.all_eq_true.mpr fun x hx => datD_all (by omega) (want_dat (hws.all x hx)), by omega⟩
          have d2 : datD 48 (.tup qs) = true := by
            show (qs.all (datD 47) && decide (qs.length ≤ 16000000)) = true
            rw [Bool.and_eq_true, decide_eq_true_eq]
            exact ⟨List.all_eq_true.mpr fun x hx => (hqs x hx).2.1, by omega⟩
          simp only [List.all_cons, List.all_nil, Bool.and_true, d1, d2, datD_all (show 40 ≤ 48 by omega) hnd, Bool.true_and]
          rfl
theorem rule_bad {nm : Str} {r : D} {ns : List D} (hw : isWordD (.str nm) = true) (hn : memD (.str nm) ns = false) (h : RuleGood nm r) : badPartD r ns = .non ∧ ∃ l, r = .tup (.str nm :: l) := by
  obtain ⟨m, ws, qs, kn, rfl, h1, h2, hws, h3, h4, h5, h6, h7⟩ := h.sh
  refine ⟨?_, _, rfl⟩
  have hm : isNumD (.int m) (-9) 9 = true := by simp only [isNumD, h1, h2, decide_true, Bool.and_self]
  have hf : firstIs ws = true := hws.fst (by rintro rfl; simp at h3)
  have hq : (qs.all fun q => isDeedD q ws kn) = true := List.all_eq_true.mpr h7
  simp only [badPartD, hw, hn, hm, hws.bs, hf, hq]
  rw [if_neg (by simp), if_neg (by simp), if_neg (by rintro (h | h | h) <;> first | omega | cases h), if_neg (by omega)]
  rfl
end RR
namespace RR
open PySem PySem.Spec L2 DL
open PyProof.Rows hiding St kindOf
local macro_rules | `(tactic| walk_at "dl") => `(tactic| simp (config := { failIfUnchanged := false }) only [↓ex_two, ↓ex_three, dFor_eq, updC_at, updC_upd, lstOf_upd, dctOf_upd, dctOf_dct, lstOf_lst, isLst_upd, app_upd, dSeq, dNext, dRet, dRetN, dDrop, dIfS, dNever, dAsg, dPar, dPut, gdName, sz_0, sl_0, sz_1, sl_1, sz_2, sl_2, sz_3, sl_3, sz_4, sl_4, sz_5, sl_5, sz_6, sl_6, sz_7, sl_7, sz_8, sl_8, sz_9, sl_9, sz_10, sl_10, sz_11, sl_11, sz_12, sl_12, sz_13, sl_13, sz_14, sl_14, exists_eq, gdCons_cons, gdNil_nil, gdTup_tup, gdUnl_lst, Nat.succ_eq_add_one, Nat.zero_add, dAnd, dOr, dNot, dTest, dAndV, dOrV, dNotV, dIf, dChain, dOp, dUn, dFn, dCall, dNil, dCons, dVar, dC, dTup, dLst, dLstC, dDct0, dDct0C, dPart, dNoPart, dSlice, dLc, dLcC, diSeq, diZip, diEnum, diRng1, diRng2, dYes, dMtL, dSetd, dFrz, dMtS, dFld, dSetFld, dAugFld, dMeth, dMake, dLockS, dLockE, dPutN, dPut, dPop1, dPop2, dUpd, dDcC, dDcN, diLk, dListV, dRev, dPopL, dDctN, dGetN2,
  dstart, List.map, List.replicate, List.length, List.append, List.cons_append, List.nil_append, List.append_nil, List.getElem?_cons_zero, List.getElem?_cons_succ, Option.some.injEq, exists_eq_left', exists_eq_left, wipeD,
  List.cons.injEq, and_true, true_and, D.bl.injEq, D.int.injEq, D.str.injEq, D.tup.injEq, D.lst.injEq, D.dct.injEq, if_true, if_false, Bool.false_eq_true, Bool.not_true, Bool.not_false, Bool.not_not, ite_true, ite_false, reduceIte, List.set_cons_zero, List.set_cons_succ, Option.map_some, Option.isSome_some, and_false, false_and, exists_const,
  slOk_tup, itOf_tup, itOf_lst, itOf_str, itOf_dct, cutL_1, oLe_int, oLt_int, oGe_int, oGt_int, oAdd_int, oSub_int, oIs_non, oIsNot_non, oLen_tup, oLen_lst, oIx_tup, oIx_lst, atI_0, atI_1, atI_2, atI_3, atI_m1, atI_cast, oIn_str, oEq_int, oNe_int, oEq_bl, ex_some,
  bl_and, bl_or, bl_andT, bl_orT, Nat.sub_self, Nat.add_sub_cancel, Nat.reduceSub, Nat.reduceAdd])
theorem toPy_ints : ∀ l : List Int, toPyL (l.map D.int) = l.map PySem.PyData.int
  | [] => rfl
  | _ :: l => by simp only [List.map_cons, toPyL, toPy, toPy_ints l]
theorem eqv_intsA : ∀ xs ys : List Int, PySem.PyData.eqvAll (xs.map .int) (ys.map .int) = decide (xs = ys)
  | [], [] => rfl
  | [], _ :: _ => rfl
  | _ :: _, [] => rfl
  | x :: xs, y :: ys => by
    show (PySem.PyData.eqv (.int x) (.int y) && PySem.PyData.eqvAll (xs.map .int) (ys.map .int)) = _
    rw [eqv_intsA xs ys]
    show ((x == y) && decide (xs = ys)) = _
    by_cases h : x = y <;> by_cases h2 : xs = ys <;> simp [h, h2]
theorem eqv_intsP (xs ys : List Int) : PySem.PyData.eqv (.tuple (xs.map .int)) (.tuple (ys.map .int)) = decide (xs = ys) := eqv_intsA xs ys
def leM (a b : Nat × List Int) : Bool := decide (a.1 < b.1 ∨ (a.1 = b.1 ∧ a.2 ≤ b.2))
theorem le_match (a b : Nat × List Int) : PySem.W.dataLe false toPy (matchD a) (matchD b) = leM a b := by
  rw [PySem.W.dataLe_eq]
  show (!PySem.W.dataLt (toPy (matchD b)) (toPy (matchD a))) = _
  have e : ∀ m : Nat × List Int, toPy (matchD m) = .tuple [.int (m.1 : Nat), .tuple (m.2.map .int)] := fun m => by
    simp only [matchD, toPy, toPyL, toPy_ints]
  have e3 : PySem.W.alike (.tuple (b.2.map .int)) (.tuple (a.2.map .int)) = true := by
    rw [← toPy_ints, ← toPy_ints]
    simp only [PySem.W.alike]
    exact alike_ints _ _
  rw [e, e, PySem.W.dataLt_pair (by simp [PySem.W.alike]) e3, PySem.W.dataLt_int, PySem.W.dataLt_tuple]
  have e2 : PySem.W.rowLt (b.2.map .int) (a.2.map .int) = decide (b.2 < a.2) := PySem.W.dataLt_ints _ _
  unfold PySem.W.rowLt at e2
  have e4 : PySem.PyData.eqv (.int (b.1 : Nat)) (.int (a.1 : Nat)) = decide (b.1 = a.1) := by
    show (((b.1 : Nat) : Int) == ((a.1 : Nat) : Int)) = _
    by_cases h : b.1 = a.1
    · simp [h]
    · have h' : ¬ ((b.1 : Nat) : Int) = ((a.1 : Nat) : Int) := by omega
      simp [h, h']
  rw [e2, eqv_intsP, e4]
  unfold leM
  by_cases h : b.1 = a.1
  · rw [if_pos (by simpa using h)]
    by_cases h2 : b.2 = a.2
    · rw [if_pos (by simpa using h2)]
      have : a.2 ≤ b.2 := by rw [h2]; exact List.le_refl _
      simp [h, this]
    · rw [if_neg (by simpa using h2)]
      by_cases h3 : b.2 < a.2
      · have : ¬ a.2 ≤ b.2 := fun q => List.not_lt.mpr q h3
        simp [h, h3, this]
      · have : a.2 ≤ b.2 := List.not_lt.mp h3
        simp [h, h3, this]
  · rw [if_neg (by rw [decide_eq_true_eq]; exact h)]
    by_cases h3 : b.1 < a.1
    · have h4 : ¬ (a.1 < b.1 ∨ (a.1 = b.1 ∧ a.2 ≤ b.2)) := by omega
      have h5 : ((b.1 : Nat) : Int) < ((a.1 : Nat) : Int) := by omega
      simp [h4, h5]
    · have h4 : (a.1 < b.1 ∨ (a.1 = b.1 ∧ a.2 ≤ b.2)) := by omega
      have h5 : ¬ ((b.1 : Nat) : Int) < ((a.1 : Nat) : Int) := by omega
      simp [h4, h5]
theorem pass_back {w : D} {its : List (Int × D)} : ∃ back : List Int → List Int, ∀ s e, e ∈ passS w its s → back e.1 = s.1 := by
  unfold passS
  split
  · rename_i z p
    by_cases hz : (z == ISS) = true
    · refine ⟨List.dropLast, fun s e h => ?_⟩
      rw [if_pos hz] at h
      obtain ⟨it, _, h2⟩ := List.mem_filterMap.mp h
      obtain ⟨k, _, rfl⟩ := Option.map_eq_some_iff.mp h2
      simp
    · refine ⟨id, fun s e h => ?_⟩
      rw [if_neg hz] at h
      split at h
      · rw [List.mem_singleton.mp h]; rfl
      · cases h
  · refine ⟨id, fun s e h => ?_⟩
    split at h
    · split at h
      · rw [List.mem_singleton.mp h]; rfl
      · cases h
    · cases h
  · exact ⟨id, fun s e h => by cases h⟩
theorem passS_nd {w : D} {its : List (Int × D)} (hn : (its.map (·.1)).Nodup) (s : S1) : ((passS w its s).map (·.1)).Nodup := by
  unfold passS
  split
  · rename_i z p
    split
    · have : (its.filterMap fun it => (fittedD p it.2 s.2).map fun k => (s.1 ++ [it.1], k)).map (·.1) = (its.filterMap fun it => (fittedD p it.2 s.2).map fun _ => it.1).map fun n => s.1 ++ [n] := by
        rw [List.map_filterMap, List.map_filterMap]
        congr 1
        funext it
        cases fittedD p it.2 s.2 <;> rfl
      rw [this]
      have h2 : ((its.filterMap fun it => (fittedD p it.2 s.2).map fun _ => it.1)).Sublist (its.map (·.1)) := by
        clear this hn
        induction its with
        | nil => exact List.Sublist.refl _
        | cons a l ih =>
          rw [List.filterMap_cons, List.map_cons]
          cases fittedD p a.2 s.2 with
          | none => exact ih.cons _
          | some k => exact ih.cons₂ _
      have h3 := h2.nodup hn
      unfold List.Nodup at h3 ⊢
      rw [List.pairwise_map]
      exact h3.imp fun {a b} hne e => hne (by simpa using e)
    · split
      · exact List.nodup_cons.mpr ⟨by simp, List.nodup_nil⟩
      · exact List.nodup_nil
  · split
    · split
      · exact List.nodup_cons.mpr ⟨by simp, List.nodup_nil⟩
      · exact List.nodup_nil
    · exact List.nodup_nil
  · exact List.nodup_nil
theorem pass_nd {w : D} {its : List (Int × D)} (hn : (its.map (·.1)).Nodup) {ss : List S1} (hs : (ss.map (·.1)).Nodup) : ((ss.flatMap (passS w its)).map (·.1)).Nodup := by
  obtain ⟨back, hback⟩ := pass_back (w := w) (its := its)
  rw [List.map_flatMap]
  unfold List.Nodup at hs ⊢
  rw [List.pairwise_flatMap]
  refine ⟨fun s _ => passS_nd hn s, ?_⟩
  rw [List.pairwise_map] at hs
  refine hs.imp fun {a b} hne x hx y hy e => hne ?_
  obtain ⟨x', h1, rfl⟩ := List.mem_map.mp hx
  obtain ⟨y', h2, rfl⟩ := List.mem_map.mp hy
  rw [← hback a x' h1, ← hback b y' h2, e]
theorem ways_nd {its : List (Int × D)} (hn : (its.map (·.1)).Nodup) : ∀ {ws : List D} {ss : List S1}, (ss.map (·.1)).Nodup → ((ways its ss ws).map (·.1)).Nodup
  | [], _, h => h
  | _ :: ws, _, h => ways_nd hn (ws := ws) (pass_nd hn h)
theorem nd_inj {α β : Type} {f : α → β} : ∀ {l : List α}, (l.map f).Nodup → ∀ {a b : α}, a ∈ l → b ∈ l → f a = f b → a = b
  | [], _, _, _, h, _, _ => by cases h
  | x :: l, hn, a, b, ha, hb, e => by
    rw [List.map_cons] at hn
    obtain ⟨h1, h2⟩ := List.nodup_cons.mp hn
    rcases List.mem_cons.mp ha with ha | ha
    · rcases List.mem_cons.mp hb with hb | hb
      · rw [ha, hb]
      · exact absurd (List.mem_map.mpr ⟨b, hb, by rw [← e, ha]⟩) h1
    · rcases List.mem_cons.mp hb with hb | hb
      · exact absurd (List.mem_map.mpr ⟨a, ha, by rw [e, hb]⟩) h1
      · exact nd_inj h2 ha hb e
def leI (a b : List Int) : Bool := decide (a ≤ b)
theorem le_tupI (a b : List Int) : PySem.W.dataLe false toPy (tupI a) (tupI b) = leI a b := by
  rw [PySem.W.dataLe_eq]
  show (!PySem.W.dataLt (toPy (tupI b)) (toPy (tupI a))) = _
  have e : ∀ m : List Int, toPy (tupI m) = .tuple (m.map .int) := fun m => by simp only [tupI, toPy, toPy_ints]
  rw [e, e, PySem.W.dataLt_tuple]
  have e2 : PySem.W.rowLt (b.map .int) (a.map .int) = decide (b < a) := PySem.W.dataLt_ints _ _
  unfold PySem.W.rowLt at e2
  rw [e2]
  unfold leI
  by_cases h : b < a
  · have : ¬ a ≤ b := fun q => List.not_lt.mpr q h
    simp [h, this]
  · have : a ≤ b := List.not_lt.mp h
    simp [h, this]
theorem le_match0 (a b : List Int) : PySem.W.dataLe false toPy (matchD (0, a)) (matchD (0, b)) = leI a b := by
  rw [le_match]
  unfold leM leI
  simp
def sortI (l : List (List Int)) : List (List Int) := l.mergeSort leI
theorem leI_trans (a b c : List Int) (h1 : leI a b = true) (h2 : leI b c = true) : leI a c = true := by
  unfold leI at *
  rw [decide_eq_true_eq] at *
  exact List.le_trans h1 h2
theorem leI_total (a b : List Int) : (leI a b || leI b a) = true := by
  unfold leI
  rw [Bool.or_eq_true, decide_eq_true_eq, decide_eq_true_eq]
  exact List.le_total a b
theorem leI_anti (a b : List Int) (h1 : leI a b = true) (h2 : leI b a = true) : a = b := by
  unfold leI at *
  rw [decide_eq_true_eq] at *
  exact List.le_antisymm h1 h2
theorem sortI_perm (l : List (List Int)) : (sortI l).Perm l := List.mergeSort_perm _ _
theorem sortI_pair (l : List (List Int)) : (sortI l).Pairwise fun a b => leI a b = true := List.pairwise_mergeSort (fun a b c => leI_trans a b c) leI_total l
theorem pairI : ∀ {a b : List (List Int)}, a.Perm b → a.Pairwise (fun a b => leI a b = true) → b.Pairwise (fun a b => leI a b = true) → a = b
  | [], b, h, _, _ => (List.nil_perm.mp h).symm
  | x :: a, [], h, _, _ => absurd h.length_eq (by simp)
  | x :: a, y :: b, h, h1, h2 => by
    rw [List.pairwise_cons] at h1 h2
    have e : x = y := by
      have hx : x ∈ y :: b := h.mem_iff.mp (by simp)
      have hy : y ∈ x :: a := h.mem_iff.mpr (by simp)
      rcases List.mem_cons.mp hx with hx | hx
      · exact hx
      · rcases List.mem_cons.mp hy with hy | hy
        · exact hy.symm
        · exact leI_anti _ _ (h1.1 _ hy) (h2.1 _ hx)
    subst e
    rw [pairI ((List.perm_cons _).mp h) h1.2 h2.2]
theorem sortI_eq {a b : List (List Int)} (h : a.Perm b) : sortI a = sortI b :=
  pairI ((sortI_perm a).trans (h.trans (sortI_perm b).symm)) (sortI_pair a) (sortI_pair b)
theorem sortD_tups (l : List (List Int)) : sortD (l.map tupI) = (sortI l).map tupI := by
  unfold sortD sortI
  exact (List.map_mergeSort (f := tupI) fun a _ b _ => (le_tupI a b).symm).symm
def baseL (its : List (Int × D)) (ws : List D) : List (List Int) := sortI ((ways its [([], [])] ws).map (·.1))
theorem told_one {n m q : D} {ws ts : List D} : toldD [.tup [n, m, .tup ws, q]] ts = (baseL (numIt (distinctD ts)) ws).map fun x => matchD (0, x) := by
  have e : foundD (numIt (distinctD ts)) [.tup [n, m, .tup ws, q]] = ((ways (numIt (distinctD ts)) [([], [])] ws).map (·.1)).map fun x => matchD (0, x) := by
    rw [List.map_map]
    exact List.append_nil _
  unfold toldD baseL
  rw [e]
  unfold sortD sortI
  exact (List.map_mergeSort (f := fun x => matchD (0, x)) fun a _ b _ => (le_match0 a b).symm).symm
theorem base_mem {its : List (Int × D)} {ws : List D} {x : List Int} : x ∈ baseL its ws ↔ ∃ s ∈ ways its [([], [])] ws, s.1 = x := by
  unfold baseL
  rw [(sortI_perm _).mem_iff, List.mem_map]
theorem base_nd {its : List (Int × D)} (hn : (its.map (·.1)).Nodup) (ws : List D) : (baseL its ws).Nodup := (sortI_perm _).nodup_iff.mpr (ways_nd hn (by simp))
theorem base_len (its : List (Int × D)) (ws : List D) : (baseL its ws).length = (ways its [([], [])] ws).length := by
  unfold baseL
  rw [(sortI_perm _).length_eq, List.length_map]
theorem mem_is {its : List (Int × D)} {p : D} {W : List S1} {e : S1} : e ∈ W.flatMap (passS (.tup [.str ISS, p]) its) ↔ ∃ s ∈ W, ∃ it ∈ its, ∃ k, fittedD p it.2 s.2 = some k ∧ e = (s.1 ++ [it.1], k) := by
  rw [List.mem_flatMap]
  refine exists_congr fun s => and_congr_right fun _ => ?_
  have e1 : passS (.tup [.str ISS, p]) its s = its.filterMap fun it => (fittedD p it.2 s.2).map fun k => (s.1 ++ [it.1], k) := by
    show (if (ISS == ISS) = true then (its.filterMap fun it => (fittedD p it.2 s.2).map fun k => (s.1 ++ [it.1], k)) else (if (its.all fun it => (fittedD p it.2 s.2).isNone) = true then [s] else [])) = _
    rw [if_pos (show (ISS == ISS) = true by decide +kernel)]
  rw [e1, List.mem_filterMap]
  refine exists_congr fun it => and_congr_right fun _ => ?_
  rw [Option.map_eq_some_iff]
  exact exists_congr fun k => and_congr_right fun _ => eq_comm
theorem mem_not {its : List (Int × D)} {p : D} {W : List S1} {e : S1} : e ∈ W.flatMap (passS (.tup [.str NOTS, p]) its) ↔ e ∈ W ∧ ∀ it ∈ its, fittedD p it.2 e.2 = none := by
  rw [List.mem_flatMap]
  have e1 : ∀ s : S1, passS (.tup [.str NOTS, p]) its s = if (its.all fun it => (fittedD p it.2 s.2).isNone) = true then [s] else [] := fun s => by
    show (if (NOTS == ISS) = true then (its.filterMap fun it => (fittedD p it.2 s.2).map fun k => (s.1 ++ [it.1], k)) else (if (its.all fun it => (fittedD p it.2 s.2).isNone) = true then [s] else [])) = _
    rw [if_neg (show ¬ (NOTS == ISS) = true by decide +kernel)]
  constructor
  · rintro ⟨s, hs, h⟩
    rw [e1] at h
    split at h
    · rename_i ha
      rw [List.mem_singleton.mp h]
      refine ⟨hs, fun it hit => ?_⟩
      have := List.all_eq_true.mp ha it hit
      simpa using this
    · cases h
  · rintro ⟨hs, h⟩
    refine ⟨e, hs, ?_⟩
    rw [e1, if_pos (List.all_eq_true.mpr fun it hit => by rw [h it hit]; rfl)]
    exact List.mem_singleton.mpr rfl
/-- the barred, and those that go on: each match is one of both -/
theorem share_is {its : List (Int × D)} (hn : (its.map (·.1)).Nodup) {ws : List D} {p : D} {zs : List (List Int)} (hz : zs.Nodup) (hm : ∀ z, z ∈ zs ↔ z ∈ (baseL its (ws ++ [.tup [.str ISS, p]])).map List.dropLast) :
    sortI (baseL its (ws ++ [.tup [.str NOTS, p]]) ++ sortI zs) = baseL its ws := by
  have hW : ((ways its [([], [])] ws).map (·.1)).Nodup := ways_nd hn (by simp)
  have zm : ∀ z, z ∈ zs ↔ ∃ s ∈ ways its [([], [])] ws, (∃ it ∈ its, fittedD p it.2 s.2 ≠ none) ∧ s.1 = z := fun z => by
    rw [hm, List.mem_map]
    constructor
    · rintro ⟨y, hy, rfl⟩
      obtain ⟨e, he, rfl⟩ := base_mem.mp hy
      rw [ways_snoc] at he
      obtain ⟨s, hs, it, hit, k, hk, rfl⟩ := mem_is.mp he
      exact ⟨s, hs, ⟨it, hit, by rw [hk]; simp⟩, by simp⟩
    · rintro ⟨s, hs, ⟨it, hit, hk⟩, rfl⟩
      obtain ⟨k, hk⟩ := Option.ne_none_iff_exists'.mp hk
      exact ⟨s.1 ++ [it.1], base_mem.mpr ⟨(s.1 ++ [it.1], k), by rw [ways_snoc]; exact mem_is.mpr ⟨s, hs, it, hit, k, hk, rfl⟩, rfl⟩, by simp⟩
  have bm : ∀ z, z ∈ baseL its (ws ++ [.tup [.str NOTS, p]]) ↔ ∃ s ∈ ways its [([], [])] ws, (∀ it ∈ its, fittedD p it.2 s.2 = none) ∧ s.1 = z := fun z => by
    rw [base_mem, ways_snoc]
    constructor
    · rintro ⟨s, hs, rfl⟩
      obtain ⟨h1, h2⟩ := mem_not.mp hs
      exact ⟨s, h1, h2, rfl⟩
    · rintro ⟨s, h1, h2, rfl⟩
      exact ⟨s, mem_not.mpr ⟨h1, h2⟩, rfl⟩
  unfold baseL at *
  refine sortI_eq ((List.perm_ext_iff_of_nodup ?_ hW).mpr fun z => ?_)
  · refine List.nodup_append.mpr ⟨base_nd hn _, (sortI_perm zs).nodup_iff.mpr hz, fun a ha b hb e => ?_⟩
    subst e
    obtain ⟨s, h1, h2, h3⟩ := (bm a).mp ha
    obtain ⟨s', h4, ⟨it, h5, h6⟩, h7⟩ := (zm a).mp ((sortI_perm zs).mem_iff.mp hb)
    have := nd_inj hW h1 h4 (h3.trans h7.symm)
    subst this
    exact h6 (h2 it h5)
  · rw [List.mem_append, bm, (sortI_perm zs).mem_iff, zm, List.mem_map]
    constructor
    · rintro (⟨s, h1, _, h2⟩ | ⟨s, h1, _, h2⟩)
      · exact ⟨s, h1, h2⟩
      · exact ⟨s, h1, h2⟩
    · rintro ⟨s, h1, h2⟩
      rcases Classical.em (∃ it ∈ its, fittedD p it.2 s.2 ≠ none) with c | c
      · exact .inr ⟨s, h1, c, h2⟩
      · exact .inl ⟨s, h1, fun it hit => Classical.byContradiction fun h => c ⟨it, hit, h⟩, h2⟩
theorem base_sub {its : List (Int × D)} {ws : List D} {z : Str} {x y : D} : ∀ {n : List Int}, n ∈ baseL its (ws ++ [.tup [.str z, x, y]]) → ∃ s ∈ ways its [([], [])] ws, s.1 = n ∧ ∃ a b, sideD s.2 x = some a ∧ sideD s.2 y = some b ∧ holdsD z a b = true := fun {n} h => by
  obtain ⟨s, hs, rfl⟩ := base_mem.mp h
  rw [ways_snoc] at hs
  obtain ⟨s0, h0, h1⟩ := List.mem_flatMap.mp hs
  have h1 : s ∈ (match sideD s0.2 x, sideD s0.2 y with
    | some a, some b => if holdsD z a b = true then [s0] else []
    | _, _ => []) := h1
  split at h1
  · rename_i a b ha hb
    split at h1
    · rename_i hh
      have := List.mem_singleton.mp h1
      subst this
      exact ⟨s, h0, rfl, a, b, ha, hb, hh⟩
    · cases h1
  · cases h1
theorem perm_split {α : Type} {f g : α → List α} : ∀ {l : List α}, (∀ s ∈ l, (f s ++ g s).Perm [s]) → (l.flatMap f ++ l.flatMap g).Perm l
  | [], _ => List.Perm.refl _
  | a :: l, h => by
    rw [List.flatMap_cons, List.flatMap_cons]
    have h1 := h a (by simp)
    have h2 := perm_split fun s hs => h s (List.mem_cons_of_mem a hs)
    have h3 : (f a ++ l.flatMap f ++ (g a ++ l.flatMap g)).Perm ((f a ++ g a) ++ (l.flatMap f ++ l.flatMap g)) := by
      rw [List.append_assoc, List.append_assoc]
      refine List.Perm.append_left _ ?_
      rw [← List.append_assoc, ← List.append_assoc]
      exact List.Perm.append_right _ List.perm_append_comm
    exact h3.trans ((h1.append h2))
/-- same and unlike share the matches out -/
theorem share_same {its : List (Int × D)} {ws : List D} {x y : D} (hs : ∀ s ∈ ways its [([], [])] ws, (∃ a, sideD s.2 x = some a) ∧ ∃ b, sideD s.2 y = some b) :
    sortI (baseL its (ws ++ [.tup [.str SAMES, x, y]]) ++ baseL its (ws ++ [.tup [.str UNLS, x, y]])) = baseL its ws := by
  show _ = sortI _
  refine sortI_eq ?_
  unfold baseL
  refine ((sortI_perm _).append (sortI_perm _)).trans ?_
  rw [ways_snoc, ways_snoc, ← List.map_append]
  refine (perm_split fun s h => ?_).map _
  obtain ⟨⟨a, ha⟩, b, hb⟩ := hs s h
  simp only [passS, ha, hb]
  have e1 : holdsD SAMES a b = (sameD a b == true) := by
    unfold holdsD
    rw [if_neg (show ¬ (SAMES == LESSS) = true by decide +kernel), show (SAMES == SAMES) = true by decide +kernel]
  have e2 : holdsD UNLS a b = (sameD a b == false) := by
    unfold holdsD
    rw [if_neg (show ¬ (UNLS == LESSS) = true by decide +kernel), show (UNLS == SAMES) = false by decide +kernel]
  rw [e1, e2]
  cases sameD a b <;> exact List.Perm.refl _
/-- less holds at most one way -/
theorem less_one {its : List (Int × D)} (hn : (its.map (·.1)).Nodup) {ws : List D} {x y : D} :
    (baseL its (ws ++ [.tup [.str LESSS, x, y]]) ++ baseL its (ws ++ [.tup [.str LESSS, y, x]])).Nodup := by
  refine List.nodup_append.mpr ⟨base_nd hn _, base_nd hn _, fun n h1 m h2 e => ?_⟩
  subst e
  obtain ⟨s, a1, a2, a, b, a3, a4, a5⟩ := base_sub h1
  obtain ⟨s', b1, b2, b', a', b3, b4, b5⟩ := base_sub h2
  have := nd_inj (ways_nd hn (by simp)) a1 b1 (a2.trans b2.symm)
  subst this
  rw [a4] at b3
  rw [a3] at b4
  cases b3
  cases b4
  unfold holdsD at a5 b5
  rw [if_pos (show (LESSS == LESSS) = true by decide +kernel)] at a5 b5
  unfold ltD at a5 b5
  cases a <;> cases b <;> first | (cases a5; done) | skip
  simp only [decide_eq_true_eq] at a5 b5
  omega
theorem less_in {its : List (Int × D)} {ws : List D} {x y : D} : ∀ n ∈ baseL its (ws ++ [.tup [.str LESSS, x, y]]) ++ baseL its (ws ++ [.tup [.str LESSS, y, x]]), n ∈ baseL its ws := fun n h => by
  rcases List.mem_append.mp h with h | h
  · obtain ⟨s, h1, h2, _⟩ := base_sub h
    exact base_mem.mpr ⟨s, h1, h2⟩
  · obtain ⟨s, h1, h2, _⟩ := base_sub h
    exact base_mem.mpr ⟨s, h1, h2⟩
theorem pass_ne {its : List (Int × D)} {w : D} {s e : S1} (h : e ∈ passS w its s) (hs : s.1 ≠ []) : e.1 ≠ [] := by
  unfold passS at h
  split at h
  · split at h
    · obtain ⟨it, _, h2⟩ := List.mem_filterMap.mp h
      obtain ⟨k, _, rfl⟩ := Option.map_eq_some_iff.mp h2
      simp
    · split at h
      · rw [List.mem_singleton.mp h]; exact hs
      · cases h
  · split at h
    · split at h
      · rw [List.mem_singleton.mp h]; exact hs
      · cases h
    · cases h
  · cases h
theorem ways_ne {its : List (Int × D)} : ∀ {ws : List D} {ss : List S1}, (∀ s ∈ ss, s.1 ≠ []) → ∀ s ∈ ways its ss ws, s.1 ≠ []
  | [], _, h => h
  | w :: ws, ss, h => ways_ne (ws := ws) (ss := ss.flatMap (passS w its)) fun e he => by
    obtain ⟨s, h1, h2⟩ := List.mem_flatMap.mp he
    exact pass_ne h2 (h s h1)
theorem base_ne {its : List (Int × D)} {ws kn : List D} (h : WsOk ws kn) (hw : ws ≠ []) : ∀ n ∈ baseL its ws, n ≠ [] := fun n hn => by
  obtain ⟨s, hs, rfl⟩ := base_mem.mp hn
  cases ws with
  | nil => exact absurd rfl hw
  | cons w ws =>
    have hf := h.fst hw
    rw [firstIs_cons] at hf
    refine ways_ne (ws := ws) (ss := [([], [])].flatMap (passS w its)) (fun e he => ?_) s hs
    rw [List.flatMap_cons, List.flatMap_nil, List.append_nil] at he
    rcases h.all w (by simp) with ⟨z, v, rfl, hz, _⟩ | ⟨z, x, y, rfl, hz, _⟩
    · have hz : (z == ISS) = true := hf
      have hz := eq_of_beq hz
      subst hz
      have he : e ∈ [(([], []) : S1)].flatMap (passS (.tup [.str ISS, v]) its) := by simpa using he
      obtain ⟨_, _, it, _, k, _, rfl⟩ := mem_is.mp he
      simp
    · have hz2 : (z == ISS) = true := hf
      rcases hz with rfl | rfl | rfl <;> exact absurd hz2 (by decide +kernel)
abbrev SAYD : D := .tup [.tup [.str "say", .tup [.str "on"]]]
def rule25 (ws : List D) : D := .tup [.str "r", .int 0, .tup ws, SAYD]
theorem good25 {ws kn : List D} (hws : WsOk ws kn) (h1 : 1 ≤ ws.length) (h5 : ws.length ≤ 5) : RuleGood "r" (rule25 ws) := by
  refine ⟨⟨0, ws, [.tup [.str "say", .tup [.str "on"]]], kn, rfl, by omega, by omega, hws, h1, h5, by simp, by simp, fun q hq => ?_⟩, ?_⟩
  · rw [List.mem_singleton.mp hq]
    refine deed_tell (by decide +kernel) (by decide +kernel) ?_
    simp only [isTemplateD, List.all_nil, List.length_nil, show isWordD (.str "on") = true by decide +kernel]
    rfl
  · show ([.str "r", .int 0, .tup ws, SAYD].all (datD 48) && decide (([.str "r", .int 0, .tup ws, SAYD] : List D).length ≤ 16000000)) = true
    have d1 : datD 48 (.tup ws) = true := by
      show (ws.all (datD 47) && decide (ws.length ≤ 16000000)) = true
      rw [Bool.and_eq_true, decide_eq_true_eq]
      exact ⟨List.all_eq_true.mpr fun x hx => datD_all (by omega) (want_dat (hws.all x hx)), by omega⟩
    simp only [List.all_cons, List.all_nil, Bool.and_true, d1, show datD 48 SAYD = true by decide +kernel, show datD 48 (.str "r") = true by decide +kernel, Bool.true_and]
    rfl
theorem rules25 {ws kn : List D} (hws : WsOk ws kn) (h1 : 1 ≤ ws.length) (h5 : ws.length ≤ 5) : rulesOk [] [rule25 ws] = true ∧ datD 50 (.tup [rule25 ws]) = true := by
  have hg := good25 hws h1 h5
  refine ⟨?_, ?_⟩
  · obtain ⟨e, l, e2⟩ := rule_bad (ns := []) (by decide +kernel) rfl hg
    have e3 : badPartD (.tup (.str "r" :: l)) [] = .non := e2 ▸ e
    rw [e2]
    simp only [rulesOk, e3]
    rfl
  · show ([rule25 ws].all (datD 49) && decide (([rule25 ws] : List D).length ≤ 16000000)) = true
    rw [Bool.and_eq_true, decide_eq_true_eq]
    exact ⟨List.all_eq_true.mpr fun x hx => by rw [List.mem_singleton.mp hx]; exact hg.dat, by simp⟩
abbrev its25 (ts : List D) : List (Int × D) := numIt (distinctD ts)
theorem match25 {ws kn ts : List D} {C : Cells} {R : D → Cells → Prop} (hws : WsOk ws kn) (h1 : 1 ≤ ws.length) (h5 : ws.length ≤ 5) (hts : ∀ t ∈ ts, ThingOk t) (htl : ts.length ≤ 8)
    (h : ∀ u, C u = none → R (.ref u) (updC C u (.lst ((baseL (its25 ts) ws).map fun x => matchD (0, x))))) : a_matching [.tup [rule25 ws], .lst ts] C R := by
  obtain ⟨a1, a2⟩ := rules25 hws h1 h5
  refine ⟨_, _, ts, rfl, seqY_lst, a2, by simp, by simp, a1, fun t ht => thing_ok (hts t ht), by omega, fun u hu => ?_⟩
  have e : toldD [rule25 ws] ts = (baseL (its25 ts) ws).map fun x => matchD (0, x) := told_one
  rw [e]
  exact h u hu
theorem its25_ok {ts : List D} (hts : ∀ t ∈ ts, ThingOk t) (htl : ts.length ≤ 8) : (∀ it ∈ its25 ts, ThOk it.2) ∧ (its25 ts).length ≤ 8 ∧ ((its25 ts).map (·.1)).Nodup := by
  refine ⟨fun it hit => ?_, ?_, ?_⟩
  · have : it.2 ∈ (numIt (distinctD ts)).map (·.2) := List.mem_map.mpr ⟨it, hit, rfl⟩
    rw [numIt_snd] at this
    exact thing_ok (hts _ (distinct_mem this))
  · have := distinct_len ts
    rw [numIt_len]
    omega
  · have e : (numIt (distinctD ts)).map (·.1) = (List.range (distinctD ts).length).map fun i : Nat => (i : Int) := by
      unfold numIt
      rw [List.map_map]
      have : ((fun x : Int × D => x.1) ∘ fun ti : D × Nat => ((ti.2 : Int), ti.1)) = (fun i : Nat => (i : Int)) ∘ Prod.snd := rfl
      rw [this, ← List.map_map, List.zipIdx_map_snd, List.range_eq_range']
    rw [e]
    unfold List.Nodup
    rw [List.pairwise_map]
    exact (List.nodup_range (n := (distinctD ts).length)).imp fun h e => h (by omega)
theorem len25 {ws kn ts : List D} (hws : WsOk ws kn) (hts : ∀ t ∈ ts, ThingOk t) (htl : ts.length ≤ 8) {k : Nat} (hk : ws.length ≤ k) (hk2 : k ≤ 5) : (baseL (its25 ts) ws).length ≤ 8 ^ k := by
  obtain ⟨b1, b2, b3⟩ := its25_ok hts htl
  rw [base_len]
  refine Nat.le_trans (ways_ok b1 hws.bs (by omega)).2 ?_
  refine Nat.le_trans (Nat.pow_le_pow_left (show max 1 (its25 ts).length ≤ 8 by omega) _) ?_
  exact Nat.pow_le_pow_right (by omega) hk
theorem short25 {ws kn ts : List D} (hws : WsOk ws kn) (hts : ∀ t ∈ ts, ThingOk t) (htl : ts.length ≤ 8) (hk : ws.length ≤ 5) : ∀ n ∈ baseL (its25 ts) ws, n.length ≤ 5 := fun n hn => by
  obtain ⟨b1, b2, b3⟩ := its25_ok hts htl
  obtain ⟨s, hs, rfl⟩ := base_mem.mp hn
  have := ((ways_ok b1 hws.bs (by omega)).1 s hs).2.1
  omega
theorem tups_dat {l : List (List Int)} (hl : l.length ≤ 6000000) (h : ∀ n ∈ l, n.length ≤ 5) : datD 3 (.lst (l.map tupI)) = true := by
  show ((l.map tupI).all (datD 2) && decide ((l.map tupI).length ≤ 16000000)) = true
  rw [Bool.and_eq_true, decide_eq_true_eq, List.length_map]
  refine ⟨List.all_eq_true.mpr fun x hx => ?_, by omega⟩
  obtain ⟨n, hn, rfl⟩ := List.mem_map.mp hx
  show ((n.map D.int).all (datD 1) && decide ((n.map D.int).length ≤ 16000000)) = true
  rw [Bool.and_eq_true, decide_eq_true_eq, List.length_map]
  refine ⟨List.all_eq_true.mpr fun x hx => ?_, by have := h n hn; omega⟩
  obtain ⟨i, _, rfl⟩ := List.mem_map.mp hx
  rfl
def snd2 (d : D) : D := match d with
  | .tup [_, x] => x
  | _ => .non
theorem comp25 {u : Addr} {l : List (List Int)} {fin : List D → Cells → Prop} {gd : DG} {te : DE} {δ : DSt} {C : Cells} (hC : C u = some (.lst (l.map fun x => matchD (0, x)))) (hl : l.length ≤ 40000)
    (hs : ∀ x ∈ l, ∀ K : D → Cells → Prop, K (tupI x) C → gd (.tup [.int 0, .tup (x.map .int)]) δ C fun δ2 C2 => te δ2 C2 K) (hd : fin (l.map tupI) C) : ∃ J, itOf C (.ref u) = some J ∧ dLcW fin J C gd dYes te δ := by
  have hsl := sizeLine_eq
  refine ⟨_, itOf_at hC, lc_live snd2 hC (by rw [List.length_map]; omega) (fun d hd K hK => ?_) ?_⟩
  · obtain ⟨x, hx, rfl⟩ := List.mem_map.mp hd
    exact hs x hx K hK
  · rw [List.map_map]
    exact hd
theorem cut_last {n : List Int} (h : n ≠ []) : cutL (n.map D.int) none (some ((n.length : Int) - 1)) = n.dropLast.map D.int := by
  have : 0 < n.length := List.length_pos_iff.mpr h
  rw [show (n.length : Int) - 1 = ((n.length - 1 : Nat) : Int) by omega, cutL_take, List.dropLast_eq_take, List.map_take]
def last1 (d : D) : D := match d with
  | .tup l => .tup l.dropLast
  | _ => .non
theorem last_tups (l : List (List Int)) : (l.map tupI).map last1 = (l.map List.dropLast).map tupI := by
  rw [List.map_map, List.map_map]
  refine List.map_congr_left fun n _ => ?_
  show D.tup ((n.map D.int).dropLast) = .tup (n.dropLast.map D.int)
  rw [List.map_dropLast]
theorem is_sub {its : List (Int × D)} {ws : List D} {p : D} : ∀ n ∈ (baseL its (ws ++ [.tup [.str ISS, p]])).map List.dropLast, n ∈ baseL its ws := fun n h => by
  obtain ⟨y, hy, rfl⟩ := List.mem_map.mp h
  obtain ⟨e, he, rfl⟩ := base_mem.mp hy
  rw [ways_snoc] at he
  obtain ⟨s, hs, it, hit, k, hk, rfl⟩ := mem_is.mp he
  exact base_mem.mpr ⟨s, hs, by simp⟩
theorem bs_fold : ∀ {ws bs kn : List D}, wantsBs bs ws = some kn → ws.foldl wantAdd bs = kn
  | [], _, _, h => by cases h; rfl
  | w :: ws, bs, kn, h => by
    rw [wantsBs_cons] at h
    split at h
    · exact (bs_fold (ws := ws) (bs := wantAdd bs w) h)
    · cases h
theorem fold_len : ∀ {ws bs : List D}, (∀ w ∈ ws, WantOk w) → (ws.foldl wantAdd bs).length ≤ bs.length + 5 * ws.length
  | [], bs, _ => by simp
  | w :: ws, bs, h => by
    have ih := fold_len (ws := ws) (bs := wantAdd bs w) fun x hx => h x (by simp [hx])
    have : (wantAdd bs w).length ≤ bs.length + 5 := by
      rcases h w (by simp) with ⟨z, v, rfl, hz, u, ps, rfl, hu, hl, hps⟩ | ⟨z, x, y, rfl, hz, _⟩
      · unfold wantAdd
        have := blanksL_len (u :: ps)
        rw [List.length_cons] at this
        dsimp only
        split
        · rw [List.length_append]; omega
        · omega
      · unfold wantAdd
        split
        · rename_i e
          injection e with e
          injection e with e1 e2
          injection e1 with e1
          subst e1
          have : (z == ISS) = false := by rcases hz with rfl | rfl | rfl <;> decide +kernel
          rw [this]
          simp
        · omega
    rw [List.foldl_cons, List.length_cons]
    omega
theorem nd_len : ∀ {l m : List (List Int)}, l.Nodup → (∀ x ∈ l, x ∈ m) → l.length ≤ m.length
  | [], _, _, _ => Nat.zero_le _
  | a :: l, m, hn, h => by
    obtain ⟨h1, h2⟩ := List.nodup_cons.mp hn
    have ha := h a (by simp)
    have := nd_len (l := l) (m := m.erase a) h2 fun x hx => (List.mem_erase_of_ne (fun e => h1 (by rw [← e]; exact hx))).mpr (h x (by simp [hx]))
    rw [List.length_erase_of_mem ha] at this
    have : 0 < m.length := List.length_pos_of_mem ha
    simp only [List.length_cons]
    omega
abbrev ZS : List Str := [SAMES, UNLS]
def told25 (its : List (Int × D)) (ws : List D) (x y : D) (i : Nat) : List (List Int) := (ZS.take i).flatMap fun z => baseL its (ws ++ [.tup [.str z, x, y]])
def less25 (its : List (Int × D)) (ws : List D) (xy : List (D × D)) (i : Nat) : List (List Int) := (xy.take i).flatMap fun q => baseL its (ws ++ [.tup [.str LESSS, q.1, q.2]])
theorem flat_snoc {α β : Type} {l : List α} {f : α → List β} {i : Nat} {a : α} (h : l[i]? = some a) : (l.take (i + 1)).flatMap f = (l.take i).flatMap f ++ f a := by
  rw [take_snoc h, List.flatMap_append, List.flatMap_cons, List.flatMap_nil, List.append_nil]
theorem side25 {kn : List D} {x : D} (hkl : ∀ b ∈ kn, b ∈ LETTERS) (hx : x ∈ WORTHS ∨ x ∈ kn) : isSideD x kn = true ∧ datD 50 x = true := by
  rcases hx with hx | hx
  · refine ⟨?_, datD_all (show 30 ≤ 50 by omega) (worths_dat x hx).1⟩
    unfold isSideD
    rw [(worths_dat x hx).2.1]
    rfl
  · have hl := hkl x hx
    refine ⟨?_, datD_all (show 30 ≤ 50 by omega) (letters_dat x hl).1⟩
    unfold isSideD
    rw [(letters_dat x hl).2.1, mem_memD hx hl]
    simp
theorem sides25 {ws kn ts : List D} {x y : D} (hws : WsOk ws kn) (hl : ws.length ≤ 5) (hts : ∀ t ∈ ts, ThingOk t) (htl : ts.length ≤ 8) (hx : x ∈ WORTHS ∨ x ∈ kn) (hy : y ∈ WORTHS ∨ y ∈ kn) :
    ∀ s ∈ ways (its25 ts) [([], [])] ws, (∃ a, sideD s.2 x = some a) ∧ ∃ b, sideD s.2 y = some b := fun s hs => by
  obtain ⟨b1, b2, b3⟩ := its25_ok hts htl
  have hk := ((ways_ok b1 hws.bs (by omega)).1 s hs).1
  obtain ⟨x1, x2⟩ := side25 hws.kl hx
  obtain ⟨y1, y2⟩ := side25 hws.kl hy
  obtain ⟨a, ha, _⟩ := side_ok x2 x1 hk
  obtain ⟨b, hb, _⟩ := side_ok y2 y1 hk
  exact ⟨⟨a, ha⟩, b, hb⟩
theorem flat_len {α β : Type} {f : α → List β} {k : Nat} : ∀ {l : List α}, (∀ z ∈ l, (f z).length ≤ k) → (l.flatMap f).length ≤ l.length * k
  | [], _ => by simp
  | a :: l, h => by
    have ih := flat_len (l := l) fun z hz => h z (by simp [hz])
    have h0 := h a (by simp)
    rw [List.flatMap_cons, List.length_append, List.length_cons, Nat.add_mul]
    omega
theorem told25_2 (its : List (Int × D)) (ws : List D) (x y : D) : told25 its ws x y 2 = baseL its (ws ++ [.tup [.str SAMES, x, y]]) ++ baseL its (ws ++ [.tup [.str UNLS, x, y]]) := by
  simp only [told25, List.take_succ_cons, List.take_zero, List.flatMap_cons, List.flatMap_nil, List.append_nil]
theorem less25_2 (its : List (Int × D)) (ws : List D) (x y : D) : less25 its ws [(x, y), (y, x)] 2 = baseL its (ws ++ [.tup [.str LESSS, x, y]]) ++ baseL its (ws ++ [.tup [.str LESSS, y, x]]) := by
  simp only [less25, List.take_succ_cons, List.take_zero, List.flatMap_cons, List.flatMap_nil, List.append_nil]
def a_law : ASp := fun ds C R => ∃ s : List Int, ds = [.lst (s.map .int)] ∧ s.length ≤ 100000 ∧ ∀ C', R (.bl true) C'
theorem rd_law : ∀ ds C R, a_law ds C R → t_law a__law_row a__law_rule a__law_taken a__law_thing a__law_pattern a_matching a__law_letters a__law_worth { nx := fun _ C' => R .non C', rt := R } (dstart ["_law_script", "_law_row_here", "_law_turn", "_law_name", "_law_rank", "_law_wants", "_law_deeds", "_law_things", "_law_pattern_here", "_law_some", "_law_base", "_law_barred", "_law_more", "_law_known", "_law_want", "_law_side", "_law_other", "_law_told", "_law_word", "_law_rule_here", "_law_less", "_law_pair", "_law_k", "_law_number", "_law_numbers", "_law_one"] ds) C := by
  rintro ds C R ⟨s, rfl, hs, h⟩
  have hsl := sizeLine_eq
  unfold t_law
  walk_at "dl"
  refine ⟨s, rfl, hs, fun p c hp hc => ?_⟩
  walk_at "dl"
  refine ⟨by omega, by omega, ?_⟩
  obtain ⟨Pv, hPv⟩ : ∃ Pv : Nat → DSt → Cells → Prop, ∀ i δ C', Pv i δ C' ↔ ∃ o2 o3 o4 o5 o6 o7 o8 o9 o10 o11 o12 o13 o14 o15 o16 o17 o18 o19 o20 o21 c, δ = [some (.lst (s.map .int)), some (.ref p), o2, o3, o4, o5, o6, o7, o8, o9, o10, o11, o12, o13, o14, o15, o16, o17, o18, o19, o20, o21, none, none, none, none] ∧ C' p = some (.lst c) ∧ RowSt c := ⟨_, fun _ _ _ => Iff.rfl⟩
  refine for_rng Pv ((hPv _ _ _).mpr ⟨none, none, none, none, none, none, none, none, none, none, none, none, none, none, none, none, none, none, none, none, c, rfl, updC_at, hc⟩) (fun tn δ C' hi hv => ?_) (fun δ C' hv => ?_)
  · obtain ⟨o2, o3, o4, o5, o6, o7, o8, o9, o10, o11, o12, o13, o14, o15, o16, o17, o18, o19, o20, o21, c, rfl, hp1, hc1⟩ := (hPv _ _ _).mp hv
    walk_at "dl"
    refine ⟨p, c, "r", rfl, hp1, hc1, by decide +kernel, by decide +kernel, fun v c2 hg hv2 hc2 => ?_⟩
    obtain ⟨m, ws, qs, kn, rfl, _, _, hws, hw1, _, _, _, _⟩ := hg.sh
    have hw4 : ws.length ≤ 4 := by
      obtain ⟨_, _, _, _, e, _, h4⟩ := hv2
      cases e
      exact h4
    walk_at "dl"
    refine ⟨p, 9, c2, rfl, by omega, by omega, updC_at, hc2, fun r c3 h0 h1 hc3 => ?_⟩
    walk_at "dl"
    refine ⟨by omega, by omega, ?_⟩
    obtain ⟨Pl, hPl⟩ : ∃ Pl : Nat → List D → Cells → Prop, ∀ i acc C2, Pl i acc C2 ↔ ∃ c', C2 = updC C' p (.lst c') ∧ RowSt c' ∧ acc.length = i ∧ ∀ t ∈ acc, ThingOk t := ⟨_, fun _ _ _ => Iff.rfl⟩
    refine lc_inv (n := r.toNat) Pl (fun i _ hi => hi) (fun _ => Nat.le_refl _) ((hPl _ _ _).mpr ⟨c3, rfl, hc3, rfl, by simp⟩) (fun i d acc C2 hi hy hv => ?_) (fun acc C2 hv => ?_)
    · obtain ⟨c4, rfl, hc4, hal, hat⟩ := (hPl _ _ _).mp hv
      walk_at "dl"
      refine ⟨p, c4, rfl, updC_at, hc4, fun v c5 hv5 hc5 => ?_⟩
      rw [DL.updC_upd]
      exact ⟨by rw [sizeLine_eq]; omega, (hPl _ _ _).mpr ⟨c5, rfl, hc5, by simp [hal], mem_snoc hat hv5⟩⟩
    · obtain ⟨c4, rfl, hc4, htl, hts⟩ := (hPl _ _ _).mp hv
      have htl8 : acc.length ≤ 8 := by omega
      generalize acc = ts at htl hts htl8
      walk_at "dl"
      refine ⟨p, c4, str3 "XYZ", rfl, updC_at, hc4, rfl, by decide +kernel, fun pt c5 hpt hc5 => ?_⟩
      rw [DL.updC_upd]
      have hC2 : updC C' p (.lst c5) p = some (.lst c5) := updC_at
      generalize updC C' p (.lst c5) = C2 at hC2
      walk_at "dl"
      refine lc_filter (fun _ => true) id (by omega) (fun d hd K hK => ?_) ?_
      · walk_at "dl"
        rw [show decide ((ws.length : Int) < 5) = true from decide_eq_true (by omega)]
        exact hK
      · rw [List.map_id, List.filter_eq_self.mpr fun _ _ => rfl]
        walk_at "dl"
        have e4 : slOk C2 (D.lst ws) none (some (4 : Int)) = some (.lst ws) := by
          show some (D.lst (cutL ws none (some ((4 : Nat) : Int)))) = _
          rw [cutL_take, List.take_of_length_le hw4]
        rw [e4]
        simp only [Option.some.injEq, exists_eq_left']
        rw [oTuple_def]
        simp only [tupOf, DL.lstOf, Option.some.injEq, exists_eq_left']
        refine match25 hws hw1 (by omega) hts htl8 fun u hu => ?_
        walk_at "dl"
        have l0 := len25 hws hts htl8 hw4 (by omega)
        have hup : u ≠ p := by rintro rfl; rw [hC2] at hu; cases hu
        refine comp25 updC_at (by omega) (fun x hx K hK => by walk_at "dl"; exact hK) ?_
        have hC3 : updC C2 u (.lst ((baseL (its25 ts) ws).map fun x => matchD (0, x))) p = some (.lst c5) := by rw [DL.updC_ne hup.symm]; exact hC2
        generalize updC C2 u (.lst ((baseL (its25 ts) ws).map fun x => matchD (0, x))) = C3 at hC3 ⊢
        walk_at "dl"
        rw [oTuple_def]
        simp only [tupOf, DL.lstOf, Option.some.injEq, exists_eq_left']
        rw [oAdd_tup (by simp; omega)]
        have hwn : WsOk (ws ++ [.tup [.str NOTS, pt]]) kn := ws_not hws (by rintro rfl; simp at hw1) hpt
        have l1 := len25 hwn hts htl8 (k := 5) (by simp; omega) (by omega)
        show a_matching [.tup [rule25 (ws ++ [.tup [.str NOTS, pt]])], .lst ts] C3 _
        refine match25 hwn (by simp) (by simp; omega) hts htl8 fun u hu => ?_
        have hup : u ≠ p := by rintro rfl; rw [hC3] at hu; cases hu
        walk_at "dl"
        refine comp25 updC_at (by omega) (fun x hx K hK => by walk_at "dl"; exact hK) ?_
        generalize hB1 : baseL (its25 ts) (ws ++ [.tup [.str NOTS, pt]]) = B1
        have hC4 : updC C3 u (.lst (B1.map fun x => matchD (0, x))) p = some (.lst c5) := by rw [DL.updC_ne hup.symm]; exact hC3
        generalize updC C3 u (.lst (B1.map fun x => matchD (0, x))) = C4 at hC4 ⊢
        walk_at "dl"
        rw [oTuple_def]
        simp only [tupOf, DL.lstOf, Option.some.injEq, exists_eq_left']
        rw [oAdd_tup (by simp; omega)]
        obtain ⟨w0, ps0, rfl, q1, q2, q3⟩ := id hpt
        have hwi := ws_is hws hpt
        have l2 := len25 hwi hts htl8 (k := 5) (by simp; omega) (by omega)
        show a_matching [.tup [rule25 (ws ++ [.tup [.str ISS, .tup (w0 :: ps0)]])], .lst ts] C4 _
        refine match25 hwi (by simp) (by simp; omega) hts htl8 fun u hu => ?_
        have hup : u ≠ p := by rintro rfl; rw [hC4] at hu; cases hu
        walk_at "dl"
        refine comp25 updC_at (by omega) (fun x hx K hK => by walk_at "dl"; exact hK) ?_
        have hne2 := base_ne (its := its25 ts) hwi (by simp)
        generalize hB2 : baseL (its25 ts) (ws ++ [.tup [.str ISS, .tup (w0 :: ps0)]]) = B2 at hne2 l2
        have hC5 : updC C4 u (.lst (B2.map fun x => matchD (0, x))) p = some (.lst c5) := by rw [DL.updC_ne hup.symm]; exact hC4
        generalize updC C4 u (.lst (B2.map fun x => matchD (0, x))) = C5 at hC5 ⊢
        walk_at "dl"
        unfold dSortedSetT
        walk_at "dl"
        refine lc_map last1 (by rw [List.length_map]; omega) (fun d hd K hK => ?_) ?_
        · obtain ⟨n, hn, rfl⟩ := List.mem_map.mp hd
          unfold tupI at hK ⊢
          walk_at "dl"
          rw [List.length_map, cut_last (hne2 n hn)]
          have hK : K (D.tup ((n.map D.int).dropLast)) C5 := hK
          rw [← List.map_dropLast] at hK
          exact hK
        · have hb0 := base_ne (its := its25 ts) hws (by rintro rfl; simp at hw1)
          have hb1 := base_ne (its := its25 ts) hwn (by simp)
          have hsub := is_sub (its := its25 ts) (ws := ws) (p := .tup (w0 :: ps0))
          have hnd := (its25_ok hts htl8).2.2
          have hsh : ∀ {zs : List (List Int)}, zs.Nodup → (∀ z, z ∈ zs ↔ z ∈ (baseL (its25 ts) (ws ++ [.tup [.str ISS, .tup (w0 :: ps0)]])).map List.dropLast) → sortI (baseL (its25 ts) (ws ++ [.tup [.str NOTS, .tup (w0 :: ps0)]]) ++ sortI zs) = baseL (its25 ts) ws := fun hz hm => share_is hnd hz hm
          rw [hB2] at hsub hsh
          have hds := tups_dat (l := baseL (its25 ts) ws) (by omega) (short25 hws hts htl8 (by omega))
          rw [hB1] at hb1 l1 hsh
          refine ⟨B2.map List.dropLast, baseL (its25 ts) ws, last_tups B2, hsub, l0, fun z hz => hb0 z (hsub z hz), fun zs hz hm => ?_⟩
          have hs2 := hsh hz hm
          have hzl : zs.length ≤ 4096 := Nat.le_trans (nd_len hz fun z h => hsub z ((hm z).mp h)) l0
          rw [sortD_tups, oAdd_lst (by rw [List.length_map, List.length_map, (sortI_perm zs).length_eq]; omega), ← List.map_append]
          rw [oSorted_def]
          refine ⟨_, rfl, tups_sort _ fun z hz => ?_, ?_⟩
          · rcases List.mem_append.mp hz with hz | hz
            · exact hb1 z hz
            · exact hb0 z (hsub z ((hm z).mp ((sortI_perm zs).mem_iff.mp hz)))
          rw [sortD_tups, hs2, oNe_ok (datD_ok (datD_all (show 3 ≤ 60 by omega) hds)) (datD_ok (datD_all (show 3 ≤ 60 by omega) hds)), eqv_refl _ _ hds]
          walk_at "dl"
          obtain ⟨Pk, hPk⟩ : ∃ Pk : Nat → DSt → Cells → Prop, ∀ i δ C', Pk i δ C' ↔ ∃ o14, δ = [some (.lst (s.map .int)), some (.ref p), some (.int (0 + (tn : Int))), some (.str "r"), some (.int m), some (.tup ws), some SAYD, some (.lst ts), some (.tup (w0 :: ps0)), some (.lst ws), some (.lst ((baseL (its25 ts) ws).map tupI)), some (.lst (B1.map tupI)), some (.lst (B2.map tupI)), some (.lst ((ws.take i).foldl wantAdd [])), o14, o15, o16, o17, o18, o19, o20, o21, none, none, none, none] ∧ C' = C5 := ⟨_, fun _ _ _ => Iff.rfl⟩
          refine for_fix Pk ((hPk _ _ _).mpr ⟨_, rfl, rfl⟩) (fun i w δ C' hi hv => ?_) (fun δ C' hv => ?_)
          · obtain ⟨o14, rfl, rfl⟩ := (hPk _ _ _).mp hv
            have hw := hws.all w (List.mem_of_getElem? hi)
            have htk := len_take ws i
            have hfl := fold_len (ws := ws.take i) (bs := []) fun w hw => hws.all w (List.mem_of_mem_take hw)
            rw [List.length_nil, Nat.zero_add] at hfl
            walk_at "dl"
            rcases hw with ⟨z, v, rfl, hz, u, ps, rfl, hu1, hu2, hu3⟩ | ⟨z, x, y, rfl, hz, hx, hy⟩
            · rcases hz with rfl | rfl
              · walk_at "dl"
                rw [oEq_str (show PyData.strOk ISS = true by decide +kernel) (show PyData.strOk "is" = true by decide +kernel), show ((ISS : Str) == "is") = true by decide +kernel]
                walk_at "dl"
                refine ⟨u, ps, rfl, hu3, by omega, ?_⟩
                walk_at "dl"
                have := blanksL_len (u :: ps)
                rw [List.length_cons] at this
                rw [oAdd_lst (by omega)]
                refine (hPk _ _ _).mpr ⟨some (.tup [.str ISS, .tup (u :: ps)]), ?_, rfl⟩
                rw [take_snoc hi, List.foldl_append]
                have e5 : (ISS == ISS) = true := by decide +kernel
                simp only [List.foldl_cons, List.foldl_nil, wantAdd, e5, if_true]
              · walk_at "dl"
                rw [oEq_str (show PyData.strOk NOTS = true by decide +kernel) (show PyData.strOk "is" = true by decide +kernel), show ((NOTS : Str) == "is") = false by decide +kernel]
                walk_at "dl"
                rw [oAdd_lst (by simp; omega)]
                refine (hPk _ _ _).mpr ⟨some (.tup [.str NOTS, .tup (u :: ps)]), ?_, rfl⟩
                rw [take_snoc hi, List.foldl_append]
                have e5 : (NOTS == ISS) = false := by decide +kernel
                simp only [List.foldl_cons, List.foldl_nil, wantAdd, e5, List.append_nil]
                rfl
            · have z1 : PyData.strOk z = true := by rcases hz with rfl | rfl | rfl <;> decide +kernel
              have z2 : (z == ISS) = false := by rcases hz with rfl | rfl | rfl <;> decide +kernel
              have z3 : (z == ("is" : Str)) = false := z2
              walk_at "dl"
              rw [oEq_str z1 (show PyData.strOk "is" = true by decide +kernel), z3]
              walk_at "dl"
              rw [oAdd_lst (by simp; omega)]
              refine (hPk _ _ _).mpr ⟨some (.tup [.str z, x, y]), ?_, rfl⟩
              rw [take_snoc hi, List.foldl_append]
              have e6 : wantAdd ((ws.take i).foldl wantAdd []) (.tup [.str z, x, y]) = (ws.take i).foldl wantAdd [] := by
                unfold wantAdd
                split
                · rename_i e
                  injection e with e
                  injection e with e1 e2
                  injection e1 with e1
                  subst e1
                  rw [z2]
                  simp
                · rfl
              simp only [List.foldl_cons, List.foldl_nil, e6, List.append_nil]
          · obtain ⟨o14, rfl, rfl⟩ := (hPk _ _ _).mp hv
            rw [List.take_length, bs_fold hws.bs]
            have hkl := hws.ln
            walk_at "dl"
            rw [oNe_ok (show okD 60 (D.lst kn) = true from allL hws.kl 29) (show okD 60 (D.lst []) = true from rfl), eqv_lst_nil]
            walk_at "dl"
            cases ee : kn.isEmpty with
            | true =>
              walk_at "dl"
              exact (hPv _ _ _).mpr ⟨_, _, _, _, _, _, _, _, _, _, _, _, _, _, _, _, _, _, _, _, _, rfl, hC5, hc5⟩
            | false =>
              have hkp : 0 < kn.length := by
                cases kn with
                | nil => cases ee
                | cons a b => simp
              walk_at "dl"
              refine ⟨p, kn.length, c5, rfl, by omega, by omega, hC5, hc5, fun j c6 hj0 hj1 hc6 => ?_⟩
              refine pick hj0 hj1 fun x hx => ?_
              walk_at "dl"
              refine ⟨p, c6, rfl, updC_at, hc6, fun v c7 hv hc7 => ?_⟩
              rw [DL.updC_upd]
              refine ⟨kn[0], List.getElem?_eq_getElem hkp, ?_⟩
              walk_at "dl"
              refine ⟨p, 2, c7, rfl, by omega, by omega, updC_at, hc7, fun j2 c8 hj0 hj1 hc8 => ?_⟩
              rw [DL.updC_upd]
              refine pick hj0 hj1 fun y hy => ?_
              have hy2 : y ∈ WORTHS ∨ y ∈ kn := by
                rcases List.mem_cons.mp hy with rfl | hy
                · exact .inl hv
                · rw [List.mem_singleton.mp hy]; exact .inr (List.getElem_mem _)
              have hC6 : updC C' p (.lst c8) p = some (.lst c8) := updC_at
              generalize updC C' p (.lst c8) = C6 at hC6
              walk_at "dl"
              have hwne : ws ≠ [] := by rintro rfl; simp at hw1
              have hwt : ∀ z, (z = LESSS ∨ z = SAMES ∨ z = UNLS) → WsOk (ws ++ [.tup [.str z, x, y]]) kn := fun z hz => ws_test hws hwne hz (.inr hx) hy2
              have hwu : ∀ z, (z = LESSS ∨ z = SAMES ∨ z = UNLS) → WsOk (ws ++ [.tup [.str z, y, x]]) kn := fun z hz => ws_test hws hwne hz hy2 (.inr hx)
              have hlt : ∀ z, (z = LESSS ∨ z = SAMES ∨ z = UNLS) → (baseL (its25 ts) (ws ++ [.tup [.str z, x, y]])).length ≤ 8 ^ 5 := fun z hz => len25 (hwt z hz) hts htl8 (k := 5) (by simp; omega) (by omega)
              have hlu : ∀ z, (z = LESSS ∨ z = SAMES ∨ z = UNLS) → (baseL (its25 ts) (ws ++ [.tup [.str z, y, x]])).length ≤ 8 ^ 5 := fun z hz => len25 (hwu z hz) hts htl8 (k := 5) (by simp; omega) (by omega)
              have hsame := share_same (sides25 hws (by omega) hts htl8 (.inr hx) hy2)
              have hless := less_one hnd (ws := ws) (x := x) (y := y)
              have hlin := less_in (its := its25 ts) (ws := ws) (x := x) (y := y)
              obtain ⟨Pm, hPm⟩ : ∃ Pm : Nat → DSt → Cells → Prop, ∀ i δ C', Pm i δ C' ↔ ∃ o18 o19, δ = [some (.lst (s.map .int)), some (.ref p), some (.int (0 + (tn : Int))), some (.str "r"), some (.int m), some (.tup ws), some SAYD, some (.lst ts), some (.tup (w0 :: ps0)), some (.lst ws), some (.lst ((baseL (its25 ts) ws).map tupI)), some (.lst (B1.map tupI)), some (.lst (B2.map tupI)), some (.lst kn), o14, some x, some y, some (.lst ((told25 (its25 ts) ws x y i).map tupI)), o18, o19, o20, o21, none, none, none, none] ∧ C' p = some (.lst c8) := ⟨_, fun _ _ _ => Iff.rfl⟩
              refine for_fix Pm ((hPm _ _ _).mpr ⟨_, _, rfl, hC6⟩) (fun i d δ C' hi hv => ?_) (fun δ C' hv => ?_)
              · obtain ⟨o18, o19, rfl, hC7⟩ := (hPm _ _ _).mp hv
                have hi : (ZS.map D.str)[i]? = some d := hi
                rw [List.getElem?_map] at hi
                obtain ⟨z, hz, rfl⟩ := Option.map_eq_some_iff.mp hi
                have hz2 : z = LESSS ∨ z = SAMES ∨ z = UNLS := .inr (by simpa using List.mem_of_getElem? hz)
                have hto : (told25 (its25 ts) ws x y i).length ≤ 2 * 8 ^ 5 := by
                  refine Nat.le_trans (flat_len fun z hz => hlt z (.inr (by simpa using List.mem_of_mem_take hz))) ?_
                  have := len_take ZS i
                  exact Nat.mul_le_mul_right _ this
                have hlz := hlt z hz2
                walk_at "dl"
                rw [oTuple_def]
                simp only [tupOf, DL.lstOf, Option.some.injEq, exists_eq_left']
                rw [oAdd_tup (by simp; omega)]
                walk_at "dl"
                show a_matching [.tup [rule25 (ws ++ [.tup [.str z, x, y]])], .lst ts] C' _
                refine match25 (hwt z hz2) (by simp) (by simp; omega) hts htl8 fun u hu => ?_
                have hup : u ≠ p := by rintro rfl; rw [hC7] at hu; cases hu
                walk_at "dl"
                refine comp25 updC_at (by omega) (fun x hx K hK => by walk_at "dl"; exact hK) ?_
                walk_at "dl"
                rw [oAdd_lst (by rw [List.length_map, List.length_map]; omega)]
                refine (hPm _ _ _).mpr ⟨some (.str z), some (rule25 (ws ++ [.tup [.str z, x, y]])), ?_, by rw [DL.updC_ne hup.symm]; exact hC7⟩
                rw [show told25 (its25 ts) ws x y (i + 1) = told25 (its25 ts) ws x y i ++ baseL (its25 ts) (ws ++ [.tup [.str z, x, y]]) from flat_snoc hz, List.map_append]
                rfl
              · obtain ⟨o18, o19, rfl, hC7⟩ := (hPm _ _ _).mp hv
                have e2 : ([D.str "same", D.str "unlike"] : List D).length = 2 := rfl
                rw [e2, told25_2]
                generalize hT : baseL (its25 ts) (ws ++ [.tup [.str SAMES, x, y]]) ++ baseL (its25 ts) (ws ++ [.tup [.str UNLS, x, y]]) = T at hsame
                walk_at "dl"
                obtain ⟨Pn, hPn⟩ : ∃ Pn : Nat → DSt → Cells → Prop, ∀ i δ C', Pn i δ C' ↔ ∃ o19 o21, δ = [some (.lst (s.map .int)), some (.ref p), some (.int (0 + (tn : Int))), some (.str "r"), some (.int m), some (.tup ws), some SAYD, some (.lst ts), some (.tup (w0 :: ps0)), some (.lst ws), some (.lst ((baseL (its25 ts) ws).map tupI)), some (.lst (B1.map tupI)), some (.lst (B2.map tupI)), some (.lst kn), o14, some x, some y, some (.lst (T.map tupI)), o18, o19, some (.lst ((less25 (its25 ts) ws [(x, y), (y, x)] i).map tupI)), o21, none, none, none, none] ∧ C' p = some (.lst c8) := ⟨_, fun _ _ _ => Iff.rfl⟩
                refine for_fix Pn ((hPn _ _ _).mpr ⟨_, _, rfl, hC7⟩) (fun i d δ C' hi hv => ?_) (fun δ C' hv => ?_)
                · obtain ⟨o19, o21, rfl, hC8⟩ := (hPn _ _ _).mp hv
                  have hi : (([(x, y), (y, x)] : List (D × D)).map fun q => D.tup [q.1, q.2])[i]? = some d := hi
                  rw [List.getElem?_map] at hi
                  obtain ⟨⟨a, b⟩, hz, rfl⟩ := Option.map_eq_some_iff.mp hi
                  have hab : ∀ q ∈ ([(x, y), (y, x)] : List (D × D)), WsOk (ws ++ [.tup [.str LESSS, q.1, q.2]]) kn ∧ (baseL (its25 ts) (ws ++ [.tup [.str LESSS, q.1, q.2]])).length ≤ 8 ^ 5 := fun q hq => by
                    rcases List.mem_cons.mp hq with rfl | hq
                    · exact ⟨hwt _ (.inl rfl), hlt _ (.inl rfl)⟩
                    · rw [List.mem_singleton.mp hq]; exact ⟨hwu _ (.inl rfl), hlu _ (.inl rfl)⟩
                  have hto : (less25 (its25 ts) ws [(x, y), (y, x)] i).length ≤ 2 * 8 ^ 5 := by
                    refine Nat.le_trans (flat_len fun q hq => (hab q (List.mem_of_mem_take hq)).2) ?_
                    have := len_take [(x, y), (y, x)] i
                    exact Nat.mul_le_mul_right _ this
                  obtain ⟨hwq, hlz⟩ := hab (a, b) (List.mem_of_getElem? hz)
                  have hwq : WsOk (ws ++ [.tup [.str LESSS, a, b]]) kn := hwq
                  have hlz : (baseL (its25 ts) (ws ++ [.tup [.str LESSS, a, b]])).length ≤ 8 ^ 5 := hlz
                  walk_at "dl"
                  rw [oTuple_def]
                  simp only [tupOf, DL.lstOf, Option.some.injEq, exists_eq_left']
                  rw [oAdd_tup (by simp; omega)]
                  walk_at "dl"
                  rw [oAdd_tup (by simp; omega)]
                  walk_at "dl"
                  show a_matching [.tup [rule25 (ws ++ [.tup [.str LESSS, a, b]])], .lst ts] C' _
                  refine match25 hwq (by simp) (by simp; omega) hts htl8 fun u hu => ?_
                  have hup : u ≠ p := by rintro rfl; rw [hC8] at hu; cases hu
                  walk_at "dl"
                  refine comp25 updC_at (by omega) (fun x hx K hK => by walk_at "dl"; exact hK) ?_
                  walk_at "dl"
                  rw [oAdd_lst (by rw [List.length_map, List.length_map]; omega)]
                  refine (hPn _ _ _).mpr ⟨some (rule25 (ws ++ [.tup [.str LESSS, a, b]])), some (.tup [a, b]), ?_, by rw [DL.updC_ne hup.symm]; exact hC8⟩
                  rw [show less25 (its25 ts) ws [(x, y), (y, x)] (i + 1) = less25 (its25 ts) ws [(x, y), (y, x)] i ++ baseL (its25 ts) (ws ++ [.tup [.str LESSS, a, b]]) from flat_snoc hz, List.map_append]
                  rfl
                · obtain ⟨o19, o21, rfl, hC8⟩ := (hPn _ _ _).mp hv
                  have e2 : ([D.tup [x, y], D.tup [y, x]] : List D).length = 2 := rfl
                  rw [e2, less25_2]
                  generalize hU : baseL (its25 ts) (ws ++ [.tup [.str LESSS, x, y]]) ++ baseL (its25 ts) (ws ++ [.tup [.str LESSS, y, x]]) = U at hless hlin
                  have hUl := Nat.le_trans (nd_len hless hlin) l0
                  walk_at "dl"
                  rw [oSorted_def]
                  refine ⟨_, rfl, tups_sort _ fun z hz => hb0 z (by rw [← hsame]; exact (sortI_perm T).mem_iff.mpr hz), ?_⟩
                  rw [sortD_tups, hsame, oNe_ok (datD_ok (datD_all (show 3 ≤ 60 by omega) hds)) (datD_ok (datD_all (show 3 ≤ 60 by omega) hds)), eqv_refl _ _ hds]
                  walk_at "dl"
                  unfold dLenSetT
                  walk_at "dl"
                  refine ⟨U, rfl, hless, hUl, ?_⟩
                  rw [List.length_map, decide_eq_true (rfl : (U.length : Int) = U.length)]
                  walk_at "dl"
                  refine lc_filter (fun _ => false) id (by rw [List.length_map]; omega) (fun d hd K hK => ?_) ?_
                  · obtain ⟨n, hn, rfl⟩ := List.mem_map.mp hd
                    have hin := hlin n hn
                    have hK : K none C' := hK
                    have hall := List.all_eq_true.mp (show ((baseL (its25 ts) ws).map tupI).all (datD 2) = true from (Bool.and_eq_true _ _ ▸ (show (((baseL (its25 ts) ws).map tupI).all (datD 2) && decide (((baseL (its25 ts) ws).map tupI).length ≤ 16000000)) = true from hds)).1)
                    have hdn := hall _ (List.mem_map.mpr ⟨n, hin, rfl⟩)
                    walk_at "dl"
                    rw [oNotIn_eq, oIn_lst (datD_ok (datD_all (show 2 ≤ 60 by omega) hdn)) (List.all_eq_true.mpr fun z hz => datD_ok (datD_all (show 2 ≤ 60 by omega) (hall z hz)))]
                    rw [show (((baseL (its25 ts) ws).map tupI).any fun z => D.eqv z (tupI n)) = true from List.any_eq_true.mpr ⟨_, List.mem_map.mpr ⟨n, hin, rfl⟩, eqv_refl _ _ hdn⟩]
                    walk_at "dl"
                    exact hK
                  · rw [List.filter_eq_nil_iff.mpr fun _ _ => (by simp), List.map_nil]
                    rw [oNe_ok rfl rfl, eqv_refl 3 _ rfl]
                    walk_at "dl"
                    exact (hPv _ _ _).mpr ⟨_, _, _, _, _, _, _, _, _, _, _, _, _, _, _, _, _, _, _, _, _, rfl, hC8, hc8⟩
  · exact h C'
end RR
namespace RR
open PySem PySem.Spec L2 DL
open PyProof.Rows hiding St
def top (i : Nat) : Stmt := PySem.Challenge.pw_ruleroom_k25_whole_wants_told_otherwise.main.body.getD i (.Pass ⟨0, 0, 0, 0⟩)
abbrev s__law_row : Stmt := top 47
abbrev N__law_row : List Str := ["_law_script", "_law_mixed", "_law_cell"]
theorem sc__law_row : FnScope N__law_row ["_law_script"] (defScope s__law_row) := ⟨rfl, rfl, rfl, by decide +kernel, rfl, by decide +kernel, by decide +kernel⟩
abbrev s__law_taken : Stmt := top 48
abbrev N__law_taken : List Str := ["_law_row_here", "_law_many", "_law_found", "_law_cell"]
theorem sc__law_taken : FnScope N__law_taken ["_law_row_here", "_law_many"] (defScope s__law_taken) := ⟨rfl, rfl, rfl, by decide +kernel, rfl, by decide +kernel, by decide +kernel⟩
abbrev s__law_worth : Stmt := top 49
abbrev N__law_worth : List Str := ["_law_row_here"]
theorem sc__law_worth : FnScope N__law_worth ["_law_row_here"] (defScope s__law_worth) := ⟨rfl, rfl, rfl, by decide +kernel, rfl, by decide +kernel, by decide +kernel⟩
abbrev s__law_pattern : Stmt := top 50
abbrev N__law_pattern : List Str := ["_law_row_here", "_law_letters_here", "_law_found", "_law_k", "_law_some"]
theorem sc__law_pattern : FnScope N__law_pattern ["_law_row_here", "_law_letters_here"] (defScope s__law_pattern) := ⟨rfl, rfl, rfl, by decide +kernel, rfl, by decide +kernel, by decide +kernel⟩
abbrev s__law_letters : Stmt := top 51
abbrev N__law_letters : List Str := ["_law_pattern_here", "_law_part"]
theorem sc__law_letters : FnScope N__law_letters ["_law_pattern_here"] (defScope s__law_letters) := ⟨rfl, rfl, rfl, by decide +kernel, rfl, by decide +kernel, by decide +kernel⟩
abbrev s__law_template : Stmt := top 52
abbrev N__law_template : List Str := ["_law_row_here", "_law_known", "_law_found", "_law_k", "_law_part"]
theorem sc__law_template : FnScope N__law_template ["_law_row_here", "_law_known"] (defScope s__law_template) := ⟨rfl, rfl, rfl, by decide +kernel, rfl, by decide +kernel, by decide +kernel⟩
abbrev s__law_rule : Stmt := top 53
abbrev N__law_rule : List Str := ["_law_row_here", "_law_name", "_law_known", "_law_wants", "_law_k", "_law_way", "_law_side", "_law_other", "_law_pair", "_law_places", "_law_deeds"]
theorem sc__law_rule : FnScope N__law_rule ["_law_row_here", "_law_name"] (defScope s__law_rule) := ⟨rfl, rfl, rfl, by decide +kernel, rfl, by decide +kernel, by decide +kernel⟩
abbrev s__law_thing : Stmt := top 54
abbrev N__law_thing : List Str := ["_law_row_here", "_law_word", "_law_k"]
theorem sc__law_thing : FnScope N__law_thing ["_law_row_here"] (defScope s__law_thing) := ⟨rfl, rfl, rfl, by decide +kernel, rfl, by decide +kernel, by decide +kernel⟩
abbrev s_is_word : Stmt := top 13
abbrev N_is_word : List Str := ["part", "sign"]
theorem sc_is_word : FnScope N_is_word ["part"] (defScope s_is_word) := ⟨rfl, rfl, rfl, by decide +kernel, rfl, by decide +kernel, by decide +kernel⟩
abbrev s_is_number : Stmt := top 12
abbrev N_is_number : List Str := ["part", "low", "high"]
theorem sc_is_number : FnScope N_is_number ["part", "low", "high"] (defScope s_is_number) := ⟨rfl, rfl, rfl, by decide +kernel, rfl, by decide +kernel, by decide +kernel⟩
abbrev s_is_worth : Stmt := top 14
abbrev N_is_worth : List Str := ["part"]
theorem sc_is_worth : FnScope N_is_worth ["part"] (defScope s_is_worth) := ⟨rfl, rfl, rfl, by decide +kernel, rfl, by decide +kernel, by decide +kernel⟩
abbrev s_is_blank : Stmt := top 15
abbrev N_is_blank : List Str := ["part"]
theorem sc_is_blank : FnScope N_is_blank ["part"] (defScope s_is_blank) := ⟨rfl, rfl, rfl, by decide +kernel, rfl, by decide +kernel, by decide +kernel⟩
abbrev s_is_pattern : Stmt := top 17
abbrev N_is_pattern : List Str := ["part", "one"]
theorem sc_is_pattern : FnScope N_is_pattern ["part"] (defScope s_is_pattern) := ⟨rfl, rfl, rfl, by decide +kernel, rfl, by decide +kernel, by decide +kernel⟩
abbrev s_is_side : Stmt := top 33
abbrev N_is_side : List Str := ["part", "known"]
theorem sc_is_side : FnScope N_is_side ["part", "known"] (defScope s_is_side) := ⟨rfl, rfl, rfl, by decide +kernel, rfl, by decide +kernel, by decide +kernel⟩
abbrev s_is_want : Stmt := top 34
abbrev N_is_want : List Str := ["want", "known", "part"]
theorem sc_is_want : FnScope N_is_want ["want", "known"] (defScope s_is_want) := ⟨rfl, rfl, rfl, by decide +kernel, rfl, by decide +kernel, by decide +kernel⟩
abbrev s_blanks_of : Stmt := top 32
abbrev N_blanks_of : List Str := ["pattern", "part"]
theorem sc_blanks_of : FnScope N_blanks_of ["pattern"] (defScope s_blanks_of) := ⟨rfl, rfl, rfl, by decide +kernel, rfl, by decide +kernel, by decide +kernel⟩
abbrev s_is_template : Stmt := top 35
abbrev N_is_template : List Str := ["part", "known", "one"]
theorem sc_is_template : FnScope N_is_template ["part", "known"] (defScope s_is_template) := ⟨rfl, rfl, rfl, by decide +kernel, rfl, by decide +kernel, by decide +kernel⟩
abbrev s_is_deed : Stmt := top 36
abbrev N_is_deed : List Str := ["deed", "wants", "known"]
theorem sc_is_deed : FnScope N_is_deed ["deed", "wants", "known"] (defScope s_is_deed) := ⟨rfl, rfl, rfl, by decide +kernel, rfl, by decide +kernel, by decide +kernel⟩
abbrev s_bad_part : Stmt := top 37
abbrev N_bad_part : List Str := ["rule", "names", "name", "rank", "wants", "deeds", "known", "number", "want", "deed"]
theorem sc_bad_part : FnScope N_bad_part ["rule", "names"] (defScope s_bad_part) := ⟨rfl, rfl, rfl, by decide +kernel, rfl, by decide +kernel, by decide +kernel⟩
abbrev s_need_rules : Stmt := top 38
abbrev N_need_rules : List Str := ["rules", "names", "number", "rule", "part"]
theorem sc_need_rules : FnScope N_need_rules ["rules"] (defScope s_need_rules) := ⟨rfl, rfl, rfl, by decide +kernel, rfl, by decide +kernel, by decide +kernel⟩
abbrev s_is_thing : Stmt := top 16
abbrev N_is_thing : List Str := ["part", "one"]
theorem sc_is_thing : FnScope N_is_thing ["part"] (defScope s_is_thing) := ⟨rfl, rfl, rfl, by decide +kernel, rfl, by decide +kernel, by decide +kernel⟩
abbrev s_need_things : Stmt := top 18
abbrev N_need_things : List Str := ["things", "number", "thing"]
theorem sc_need_things : FnScope N_need_things ["things"] (defScope s_need_things) := ⟨rfl, rfl, rfl, by decide +kernel, rfl, by decide +kernel, by decide +kernel⟩
abbrev s_numbered : Stmt := top 44
abbrev N_numbered : List Str := ["things", "found", "thing", "number", "one"]
theorem sc_numbered : FnScope N_numbered ["things"] (defScope s_numbered) := ⟨rfl, rfl, rfl, by decide +kernel, rfl, by decide +kernel, by decide +kernel⟩
abbrev s_is_alike : Stmt := top 20
abbrev N_is_alike : List Str := ["pattern", "thing"]
theorem sc_is_alike : FnScope N_is_alike ["pattern", "thing"] (defScope s_is_alike) := ⟨rfl, rfl, rfl, by decide +kernel, rfl, by decide +kernel, by decide +kernel⟩
abbrev s_are_same : Stmt := top 19
abbrev N_are_same : List Str := ["one", "other"]
theorem sc_are_same : FnScope N_are_same ["one", "other"] (defScope s_are_same) := ⟨rfl, rfl, rfl, by decide +kernel, rfl, by decide +kernel, by decide +kernel⟩
abbrev s_fitted : Stmt := top 21
abbrev N_fitted : List Str := ["pattern", "thing", "known", "found", "part", "worth"]
theorem sc_fitted : FnScope N_fitted ["pattern", "thing", "known"] (defScope s_fitted) := ⟨rfl, rfl, rfl, by decide +kernel, rfl, by decide +kernel, by decide +kernel⟩
abbrev s_side_of : Stmt := top 39
abbrev N_side_of : List Str := ["part", "known"]
theorem sc_side_of : FnScope N_side_of ["part", "known"] (defScope s_side_of) := ⟨rfl, rfl, rfl, by decide +kernel, rfl, by decide +kernel, by decide +kernel⟩
abbrev s_holds : Stmt := top 40
abbrev N_holds : List Str := ["test", "known", "one", "other"]
theorem sc_holds : FnScope N_holds ["test", "known"] (defScope s_holds) := ⟨rfl, rfl, rfl, by decide +kernel, rfl, by decide +kernel, by decide +kernel⟩
abbrev s_passed : Stmt := top 42
abbrev N_passed : List Str := ["want", "some", "things", "found", "numbers", "known", "number", "thing", "more"]
theorem sc_passed : FnScope N_passed ["want", "some", "things"] (defScope s_passed) := ⟨rfl, rfl, rfl, by decide +kernel, rfl, by decide +kernel, by decide +kernel⟩
abbrev s_matches_of : Stmt := top 43
abbrev N_matches_of : List Str := ["rules", "things", "found", "number", "rule", "some", "want", "numbers", "known"]
theorem sc_matches_of : FnScope N_matches_of ["rules", "things"] (defScope s_matches_of) := ⟨rfl, rfl, rfl, by decide +kernel, rfl, by decide +kernel, by decide +kernel⟩
abbrev s_matching : Stmt := top 45
abbrev N_matching : List Str := ["rules", "things"]
theorem sc_matching : FnScope N_matching ["rules", "things"] (defScope s_matching) := ⟨rfl, rfl, rfl, by decide +kernel, rfl, by decide +kernel, by decide +kernel⟩
abbrev s_law : Stmt := top 55
abbrev N_law : List Str := ["_law_script", "_law_row_here", "_law_turn", "_law_name", "_law_rank", "_law_wants", "_law_deeds", "_law_things", "_law_pattern_here", "_law_some", "_law_base", "_law_barred", "_law_more", "_law_known", "_law_want", "_law_side", "_law_other", "_law_told", "_law_word", "_law_rule_here", "_law_less", "_law_pair", "_law_k", "_law_number", "_law_numbers", "_law_one"]
theorem sc_law : FnScope N_law ["_law_script"] (defScope s_law) := ⟨rfl, rfl, rfl, by decide +kernel, rfl, by decide +kernel, by decide +kernel⟩
set_option genInjectivity false
structure Pk (K : PySem.W.Frag) (mg : Str → Option Value) where
  f__law_row : Addr
  fd__law_row : FuncData
  F__law_row : Fun K "_law_row" "_law_row" s__law_row f__law_row fd__law_row
  d__law_row : Df K mg "_law_row" f__law_row fd__law_row ["_law_script"]
  f__law_taken : Addr
  fd__law_taken : FuncData
  F__law_taken : Fun K "_law_taken" "_law_taken" s__law_taken f__law_taken fd__law_taken
  d__law_taken : Df K mg "_law_taken" f__law_taken fd__law_taken ["_law_row_here", "_law_many"]
  f__law_worth : Addr
  fd__law_worth : FuncData
  F__law_worth : Fun K "_law_worth" "_law_worth" s__law_worth f__law_worth fd__law_worth
  d__law_worth : Df K mg "_law_worth" f__law_worth fd__law_worth ["_law_row_here"]
  f__law_pattern : Addr
  fd__law_pattern : FuncData
  F__law_pattern : Fun K "_law_pattern" "_law_pattern" s__law_pattern f__law_pattern fd__law_pattern
  d__law_pattern : Df K mg "_law_pattern" f__law_pattern fd__law_pattern ["_law_row_here", "_law_letters_here"]
  f__law_letters : Addr
  fd__law_letters : FuncData
  F__law_letters : Fun K "_law_letters" "_law_letters" s__law_letters f__law_letters fd__law_letters
  d__law_letters : Df K mg "_law_letters" f__law_letters fd__law_letters ["_law_pattern_here"]
  f__law_template : Addr
  fd__law_template : FuncData
  F__law_template : Fun K "_law_template" "_law_template" s__law_template f__law_template fd__law_template
  d__law_template : Df K mg "_law_template" f__law_template fd__law_template ["_law_row_here", "_law_known"]
  f__law_rule : Addr
  fd__law_rule : FuncData
  F__law_rule : Fun K "_law_rule" "_law_rule" s__law_rule f__law_rule fd__law_rule
  d__law_rule : Df K mg "_law_rule" f__law_rule fd__law_rule ["_law_row_here", "_law_name"]
  f__law_thing : Addr
  fd__law_thing : FuncData
  F__law_thing : Fun K "_law_thing" "_law_thing" s__law_thing f__law_thing fd__law_thing
  d__law_thing : Df K mg "_law_thing" f__law_thing fd__law_thing ["_law_row_here"]
  f_is_word : Addr
  fd_is_word : FuncData
  F_is_word : Fun K "is_word" "is_word" s_is_word f_is_word fd_is_word
  d_is_word : Df K mg "is_word" f_is_word fd_is_word ["part"]
  f_is_number : Addr
  fd_is_number : FuncData
  F_is_number : Fun K "is_number" "is_number" s_is_number f_is_number fd_is_number
  d_is_number : Df K mg "is_number" f_is_number fd_is_number ["part", "low", "high"]
  f_is_worth : Addr
  fd_is_worth : FuncData
  F_is_worth : Fun K "is_worth" "is_worth" s_is_worth f_is_worth fd_is_worth
  d_is_worth : Df K mg "is_worth" f_is_worth fd_is_worth ["part"]
  f_is_blank : Addr
  fd_is_blank : FuncData
  F_is_blank : Fun K "is_blank" "is_blank" s_is_blank f_is_blank fd_is_blank
  d_is_blank : Df K mg "is_blank" f_is_blank fd_is_blank ["part"]
  f_is_pattern : Addr
  fd_is_pattern : FuncData
  F_is_pattern : Fun K "is_pattern" "is_pattern" s_is_pattern f_is_pattern fd_is_pattern
  d_is_pattern : Df K mg "is_pattern" f_is_pattern fd_is_pattern ["part"]
  f_is_side : Addr
  fd_is_side : FuncData
  F_is_side : Fun K "is_side" "is_side" s_is_side f_is_side fd_is_side
  d_is_side : Df K mg "is_side" f_is_side fd_is_side ["part", "known"]
  f_is_want : Addr
  fd_is_want : FuncData
  F_is_want : Fun K "is_want" "is_want" s_is_want f_is_want fd_is_want
  d_is_want : Df K mg "is_want" f_is_want fd_is_want ["want", "known"]
  f_blanks_of : Addr
  fd_blanks_of : FuncData
  F_blanks_of : Fun K "blanks_of" "blanks_of" s_blanks_of f_blanks_of fd_blanks_of
  d_blanks_of : Df K mg "blanks_of" f_blanks_of fd_blanks_of ["pattern"]
  f_is_template : Addr
  fd_is_template : FuncData
  F_is_template : Fun K "is_template" "is_template" s_is_template f_is_template fd_is_template
  d_is_template : Df K mg "is_template" f_is_template fd_is_template ["part", "known"]
  f_is_deed : Addr
  fd_is_deed : FuncData
  F_is_deed : Fun K "is_deed" "is_deed" s_is_deed f_is_deed fd_is_deed
  d_is_deed : Df K mg "is_deed" f_is_deed fd_is_deed ["deed", "wants", "known"]
  f_bad_part : Addr
  fd_bad_part : FuncData
  F_bad_part : Fun K "bad_part" "bad_part" s_bad_part f_bad_part fd_bad_part
  d_bad_part : Df K mg "bad_part" f_bad_part fd_bad_part ["rule", "names"]
  f_need_rules : Addr
  fd_need_rules : FuncData
  F_need_rules : Fun K "need_rules" "need_rules" s_need_rules f_need_rules fd_need_rules
  d_need_rules : Df K mg "need_rules" f_need_rules fd_need_rules ["rules"]
  f_is_thing : Addr
  fd_is_thing : FuncData
  F_is_thing : Fun K "is_thing" "is_thing" s_is_thing f_is_thing fd_is_thing
  d_is_thing : Df K mg "is_thing" f_is_thing fd_is_thing ["part"]
  f_need_things : Addr
  fd_need_things : FuncData
  F_need_things : Fun K "need_things" "need_things" s_need_things f_need_things fd_need_things
  d_need_things : Df K mg "need_things" f_need_things fd_need_things ["things"]
  f_numbered : Addr
  fd_numbered : FuncData
  F_numbered : Fun K "numbered" "numbered" s_numbered f_numbered fd_numbered
  d_numbered : Df K mg "numbered" f_numbered fd_numbered ["things"]
  f_is_alike : Addr
  fd_is_alike : FuncData
  F_is_alike : Fun K "is_alike" "is_alike" s_is_alike f_is_alike fd_is_alike
  d_is_alike : Df K mg "is_alike" f_is_alike fd_is_alike ["pattern", "thing"]
  f_are_same : Addr
  fd_are_same : FuncData
  F_are_same : Fun K "are_same" "are_same" s_are_same f_are_same fd_are_same
  d_are_same : Df K mg "are_same" f_are_same fd_are_same ["one", "other"]
  f_fitted : Addr
  fd_fitted : FuncData
  F_fitted : Fun K "fitted" "fitted" s_fitted f_fitted fd_fitted
  d_fitted : Df K mg "fitted" f_fitted fd_fitted ["pattern", "thing", "known"]
  f_side_of : Addr
  fd_side_of : FuncData
  F_side_of : Fun K "side_of" "side_of" s_side_of f_side_of fd_side_of
  d_side_of : Df K mg "side_of" f_side_of fd_side_of ["part", "known"]
  f_holds : Addr
  fd_holds : FuncData
  F_holds : Fun K "holds" "holds" s_holds f_holds fd_holds
  d_holds : Df K mg "holds" f_holds fd_holds ["test", "known"]
  f_passed : Addr
  fd_passed : FuncData
  F_passed : Fun K "passed" "passed" s_passed f_passed fd_passed
  d_passed : Df K mg "passed" f_passed fd_passed ["want", "some", "things"]
  f_matches_of : Addr
  fd_matches_of : FuncData
  F_matches_of : Fun K "matches_of" "matches_of" s_matches_of f_matches_of fd_matches_of
  d_matches_of : Df K mg "matches_of" f_matches_of fd_matches_of ["rules", "things"]
  f_matching : Addr
  fd_matching : FuncData
  F_matching : Fun K "matching" "matching" s_matching f_matching fd_matching
  d_matching : Df K mg "matching" f_matching fd_matching ["rules", "things"]
  f_law : Addr
  fd_law : FuncData
  F_law : Fun K "law" "law" s_law f_law fd_law
  d_law : Df K mg "law" f_law fd_law ["_law_script"]
  n_len : mg "len" = none
  n_range : mg "range" = none
  n_isinstance : mg "isinstance" = none
  n_str : mg "str" = none
  n_tuple : mg "tuple" = none
  n_all : mg "all" = none
  n_int : mg "int" = none
  n_bool : mg "bool" = none
  n_enumerate : mg "enumerate" = none
  n_list : mg "list" = none
  n_dict : mg "dict" = none
  n_zip : mg "zip" = none
  n_sorted : mg "sorted" = none
  n_set : mg "set" = none
  c_MOST_LETTERS : GlD K mg "MOST_LETTERS" (.int 4)
  c_SMALL : GlD K mg "SMALL" (.str "abcdefghijklmnopqrstuvwxyz")
  c_MOST_NUMBER : GlD K mg "MOST_NUMBER" (.int 99)
  c_GREAT : GlD K mg "GREAT" (.str "ABCDEFGHIJKLMNOPQRSTUVWXYZ")
  c_MOST_PARTS : GlD K mg "MOST_PARTS" (.int 5)
  c_ANY : GlD K mg "ANY" (.str "_")
  c_NOT : GlD K mg "NOT" (.str "not")
  c_IS : GlD K mg "IS" (.str "is")
  c_TESTS : GlD K mg "TESTS" (.tup [(.str "less"), (.str "same"), (.str "unlike")])
  c_TAKE : GlD K mg "TAKE" (.str "take")
  c_TELLERS : GlD K mg "TELLERS" (.tup [(.str "add"), (.str "hold"), (.str "say")])
  c_MOST_RANK : GlD K mg "MOST_RANK" (.int 9)
  c_MOST_WANTS : GlD K mg "MOST_WANTS" (.int 5)
  c_MOST_DEEDS : GlD K mg "MOST_DEEDS" (.int 4)
  c_MOST_RULES : GlD K mg "MOST_RULES" (.int 8)
  c_MOST_THINGS : GlD K mg "MOST_THINGS" (.int 30)
theorem hu5_of {k : Nat} {A : Around} (hr : Room k A) : A.units + 65 < cLine := by
  have := hr.un
  omega
end RR
namespace RR
open PySem PySem.Spec L2 DL
open PyProof.Rows hiding St
section
variable {P : Program} {w : World} {K : PySem.W.Frag} {mg : Str → Option Value} {base : Heap}
theorem dv__law_row (T : Pk K mg) {k : Nat} {cdv : Value} {A : Around} {outer : List Env} {s : Shared} {H : Hp} {E : XK} {f : Addr} (hr : Room k (A.deeper (envOfC "_law_row" (defScope s__law_row) s.heap.objs.size f cdv))) :
    PSs (cxOf CX0 P w K mg base N__law_row "_law_row" (defScope s__law_row) f cdv A outer s H E).nox (defBody s__law_row) (liftS K (t__law_row)) := by
  have hu := hr.units
  have hu5 := hu5_of hr
  exact dss_cons (ds_set (i := 1) sc__law_row.nd rfl (Or.inl rfl) (de_int)) (dss_cons (ds_for PassesOwn.never rfl (di_seq (dv 0)) (dg_name (i := 2) sc__law_row.nd rfl (Or.inl rfl)) (dss_one (ds_set (i := 1) sc__law_row.nd rfl (Or.inl rfl) (de_mod (de_add (de_add (de_mul (dv 1) (de_int)) (dv 2)) (de_int)) (de_int))))) (dss_one (ds_ret (de_lstC (da_cons (dv 0) (da_cons (de_int) (da_cons (de_int) (da_cons (dv 1) (da_nil)))))))))
theorem fn__law_row (T : Pk K mg) {k : Nat} {a : ASp} (len : ∀ ds C R, a ds C R → ds.length = 1) (rd : ∀ ds C R, a ds C R → t__law_row { nx := fun _ C' => lss R .non C', rt := lss R } (dstart N__law_row ds) C) : FnOk P w K mg base CX0 (k + 1) T.f__law_row T.fd__law_row ["_law_script"] (liftF K a) :=
  fnDL T.F__law_row sc__law_row len fun cdv A outer s H E hr => ⟨_, dv__law_row T hr, rd⟩
theorem dv__law_taken (T : Pk K mg) {k : Nat} {cdv : Value} {A : Around} {outer : List Env} {s : Shared} {H : Hp} {E : XK} {f : Addr} (hr : Room k (A.deeper (envOfC "_law_taken" (defScope s__law_taken) s.heap.objs.size f cdv))) :
    PSs (cxOf CX0 P w K mg base N__law_taken "_law_taken" (defScope s__law_taken) f cdv A outer s H E).nox (defBody s__law_taken) (liftS K (t__law_taken)) := by
  have hu := hr.units
  have hu5 := hu5_of hr
  exact dss_cons (ds_if (dt_cm cd_gt (de_ix hu (dv 0) (de_int)) (de_int)) (dss_cons (ds_set (i := 2) sc__law_taken.nd rfl (Or.inl rfl) (de_mod (de_ix hu (dv 0) (de_int)) (dv 1))) (dss_cons (ds_asg (de_div (de_ix hu (dv 0) (de_int)) (dv 1)) (dg_subL (dv 0) (de_int))) (dss_one (ds_ret (dv 2))))) (dss_nil)) (dss_cons (ds_if (dt_cm cd_lt (de_ix hu (dv 0) (de_int)) (de_cb cl_len (by rfl) T.n_len PySem.boot_len (da_cons (de_ix hu (dv 0) (de_int)) (da_nil)))) (dss_cons (ds_set (i := 3) sc__law_taken.nd rfl (Or.inl rfl) (de_ix hu (de_ix hu (dv 0) (de_int)) (de_ix hu (dv 0) (de_int)))) (dss_cons (ds_asg (de_add (de_ix hu (dv 0) (de_int)) (de_int)) (dg_subL (dv 0) (de_int))) (dss_cons (ds_if (dt_cm cd_ge (dv 3) (de_pow (de_int) (de_int))) (dss_one (ds_asg (de_div (dv 3) (dv 1)) (dg_subL (dv 0) (de_int)))) (dss_nil)) (dss_one (ds_ret (de_mod (dv 3) (dv 1))))))) (dss_nil)) (dss_cons (ds_asg (de_mod (de_add (de_mul (de_ix hu (dv 0) (de_int)) (de_int)) (de_int)) (de_int)) (dg_subL (dv 0) (de_int))) (dss_one (ds_ret (de_mod (de_div (de_ix hu (dv 0) (de_int)) (de_int)) (dv 1))))))
theorem fn__law_taken (T : Pk K mg) {k : Nat} {a : ASp} (len : ∀ ds C R, a ds C R → ds.length = 2) (rd : ∀ ds C R, a ds C R → t__law_taken { nx := fun _ C' => R .non C', rt := R } (dstart N__law_taken ds) C) : FnOk P w K mg base CX0 (k + 1) T.f__law_taken T.fd__law_taken ["_law_row_here", "_law_many"] (liftF K a) :=
  fnD T.F__law_taken sc__law_taken len fun cdv A outer s H E hr => ⟨_, dv__law_taken T hr, rd⟩
theorem dv__law_worth (T : Pk K mg) {k : Nat} {a__law_taken : ASp} {l__law_taken : Nat} (G__law_taken : FnOk P w K mg base CX0 l__law_taken T.f__law_taken T.fd__law_taken ["_law_row_here", "_law_many"] (liftF K a__law_taken)) (h__law_taken : l__law_taken ≤ k) {cdv : Value} {A : Around} {outer : List Env} {s : Shared} {H : Hp} {E : XK} {f : Addr} (hr : Room k (A.deeper (envOfC "_law_worth" (defScope s__law_worth) s.heap.objs.size f cdv))) :
    PSs (cxOf CX0 P w K mg base N__law_worth "_law_worth" (defScope s__law_worth) f cdv A outer s H E).nox (defBody s__law_worth) (liftS K (t__law_worth a__law_taken)) := by
  have hu := hr.units
  have hu5 := hu5_of hr
  exact dss_one (ds_ret (de_ix hu (de_lst (da_cons (de_str) (da_cons (de_str) (da_cons (de_int) (da_cons (de_int) (da_cons (de_int) (da_cons (de_str) (da_cons (de_int) (da_cons (de_sub (de_int) (de_int)) (da_nil)))))))))) (de_ix hu (de_lst (da_cons (de_int) (da_cons (de_int) (da_cons (de_int) (da_cons (de_int) (da_cons (de_int) (da_cons (de_int) (da_cons (de_int) (da_cons (de_int) (da_cons (de_int) (da_cons (de_int) (da_cons (de_int) (da_cons (de_int) (da_nil)))))))))))))) (de_cf T.d__law_taken G__law_taken (hr.mono (by omega)) (by rfl) (da_cons (dv 0) (da_cons (de_int) (da_nil)))))))
theorem fn__law_worth (T : Pk K mg) {k : Nat} {a__law_taken : ASp} {l__law_taken : Nat} (G__law_taken : FnOk P w K mg base CX0 l__law_taken T.f__law_taken T.fd__law_taken ["_law_row_here", "_law_many"] (liftF K a__law_taken)) (h__law_taken : l__law_taken ≤ k) {a : ASp} (len : ∀ ds C R, a ds C R → ds.length = 1) (rd : ∀ ds C R, a ds C R → t__law_worth a__law_taken { nx := fun _ C' => R .non C', rt := R } (dstart N__law_worth ds) C) : FnOk P w K mg base CX0 (k + 1) T.f__law_worth T.fd__law_worth ["_law_row_here"] (liftF K a) :=
  fnD T.F__law_worth sc__law_worth len fun cdv A outer s H E hr => ⟨_, dv__law_worth T G__law_taken h__law_taken hr, rd⟩
theorem dv__law_pattern (T : Pk K mg) {k : Nat} {a__law_taken : ASp} {l__law_taken : Nat} (G__law_taken : FnOk P w K mg base CX0 l__law_taken T.f__law_taken T.fd__law_taken ["_law_row_here", "_law_many"] (liftF K a__law_taken)) (h__law_taken : l__law_taken ≤ k) {a__law_worth : ASp} {l__law_worth : Nat} (G__law_worth : FnOk P w K mg base CX0 l__law_worth T.f__law_worth T.fd__law_worth ["_law_row_here"] (liftF K a__law_worth)) (h__law_worth : l__law_worth ≤ k) {cdv : Value} {A : Around} {outer : List Env} {s : Shared} {H : Hp} {E : XK} {f : Addr} (hr : Room k (A.deeper (envOfC "_law_pattern" (defScope s__law_pattern) s.heap.objs.size f cdv))) :
    PSs (cxOf CX0 P w K mg base N__law_pattern "_law_pattern" (defScope s__law_pattern) f cdv A outer s H E).nox (defBody s__law_pattern) (liftS K (t__law_pattern a__law_taken a__law_worth)) := by
  have hu := hr.units
  have hu5 := hu5_of hr
  exact dss_cons (ds_set (i := 2) sc__law_pattern.nd rfl (Or.inl rfl) (de_tup (da_cons (de_ix hu (de_lst (da_cons (de_str) (da_cons (de_str) (da_cons (de_str) (da_nil))))) (de_cf T.d__law_taken G__law_taken (hr.mono (by omega)) (by rfl) (da_cons (dv 0) (da_cons (de_int) (da_nil))))) (da_nil)))) (dss_cons (ds_for PassesOwn.never rfl (di_range1 (by rfl) T.n_range (da_cons (de_ix hu (de_lst (da_cons (de_int) (da_cons (de_int) (da_cons (de_int) (da_cons (de_int) (da_cons (de_int) (da_nil))))))) (de_cf T.d__law_taken G__law_taken (hr.mono (by omega)) (by rfl) (da_cons (dv 0) (da_cons (de_int) (da_nil))))) (da_nil))) (dg_name (i := 3) sc__law_pattern.nd rfl (Or.inl rfl)) (dss_cons (ds_set (i := 4) sc__law_pattern.nd rfl (Or.inl rfl) (de_lst (da_cons (de_cf T.d__law_worth G__law_worth (hr.mono (by omega)) (by rfl) (da_cons (dv 0) (da_nil))) (da_cons (de_str) (da_cons (de_ix hu (dv 1) (de_cf T.d__law_taken G__law_taken (hr.mono (by omega)) (by rfl) (da_cons (dv 0) (da_cons (de_int) (da_nil))))) (da_cons (de_ix hu (dv 1) (de_cf T.d__law_taken G__law_taken (hr.mono (by omega)) (by rfl) (da_cons (dv 0) (da_cons (de_int) (da_nil))))) (da_nil))))))) (dss_one (ds_set (i := 2) sc__law_pattern.nd rfl (Or.inl rfl) (de_add (dv 2) (de_tup (da_cons (de_ix hu (dv 4) (de_cf T.d__law_taken G__law_taken (hr.mono (by omega)) (by rfl) (da_cons (dv 0) (da_cons (de_int) (da_nil))))) (da_nil)))))))) (dss_one (ds_ret (dv 2))))
theorem fn__law_pattern (T : Pk K mg) {k : Nat} {a__law_taken : ASp} {l__law_taken : Nat} (G__law_taken : FnOk P w K mg base CX0 l__law_taken T.f__law_taken T.fd__law_taken ["_law_row_here", "_law_many"] (liftF K a__law_taken)) (h__law_taken : l__law_taken ≤ k) {a__law_worth : ASp} {l__law_worth : Nat} (G__law_worth : FnOk P w K mg base CX0 l__law_worth T.f__law_worth T.fd__law_worth ["_law_row_here"] (liftF K a__law_worth)) (h__law_worth : l__law_worth ≤ k) {a : ASp} (len : ∀ ds C R, a ds C R → ds.length = 2) (rd : ∀ ds C R, a ds C R → t__law_pattern a__law_taken a__law_worth { nx := fun _ C' => R .non C', rt := R } (dstart N__law_pattern ds) C) : FnOk P w K mg base CX0 (k + 1) T.f__law_pattern T.fd__law_pattern ["_law_row_here", "_law_letters_here"] (liftF K a) :=
  fnD T.F__law_pattern sc__law_pattern len fun cdv A outer s H E hr => ⟨_, dv__law_pattern T G__law_taken h__law_taken G__law_worth h__law_worth hr, rd⟩
theorem dv__law_letters (T : Pk K mg) {k : Nat} {cdv : Value} {A : Around} {outer : List Env} {s : Shared} {H : Hp} {E : XK} {f : Addr} (hr : Room k (A.deeper (envOfC "_law_letters" (defScope s__law_letters) s.heap.objs.size f cdv))) :
    PSs (cxOf CX0 P w K mg base N__law_letters "_law_letters" (defScope s__law_letters) f cdv A outer s H E).nox (defBody s__law_letters) (liftS K (t__law_letters)) := by
  have hu := hr.units
  have hu5 := hu5_of hr
  exact dss_one (ds_ret (de_lc (own := [("_law_part", 1)]) (gd := gdName 1) rfl sc__law_letters.nd (tg_name) (di_seq (de_slice (dv 0) (dp_some (de_int)) (dp_none))) (blkOk_by (N := N__law_letters) (sc := defScope s__law_letters) (by decide +kernel)) (fun _ _ _ _ _ => pg_name (i := 1) sc__law_letters.nd rfl (Or.inl rfl)) (fun _ _ _ _ _ => dts_one ((dw_and (dt_val (de_cb cl_isi (by rfl) T.n_isinstance PyProof.Rows.boot_isinstance (da_cons (dv 1) (da_cons (de_bltn (by rfl) T.n_str PyProof.Rows.boot_str) (da_nil))))) (dw_and (dt_ch cd_le cd_le (de_str) (dv 1) (de_str)) (dw_and1 (dt_cm (cd_eq hu) (de_cb cl_len (by rfl) T.n_len PySem.boot_len (da_cons (dv 1) (da_nil))) (de_int))))).pt)) (fun _ _ _ _ _ => dv 1)))
theorem fn__law_letters (T : Pk K mg) {k : Nat} {a : ASp} (len : ∀ ds C R, a ds C R → ds.length = 1) (rd : ∀ ds C R, a ds C R → t__law_letters { nx := fun _ C' => R .non C', rt := R } (dstart N__law_letters ds) C) : FnOk P w K mg base CX0 (k + 1) T.f__law_letters T.fd__law_letters ["_law_pattern_here"] (liftF K a) :=
  fnD T.F__law_letters sc__law_letters len fun cdv A outer s H E hr => ⟨_, dv__law_letters T hr, rd⟩
theorem dv__law_template (T : Pk K mg) {k : Nat} {a__law_taken : ASp} {l__law_taken : Nat} (G__law_taken : FnOk P w K mg base CX0 l__law_taken T.f__law_taken T.fd__law_taken ["_law_row_here", "_law_many"] (liftF K a__law_taken)) (h__law_taken : l__law_taken ≤ k) {a__law_worth : ASp} {l__law_worth : Nat} (G__law_worth : FnOk P w K mg base CX0 l__law_worth T.f__law_worth T.fd__law_worth ["_law_row_here"] (liftF K a__law_worth)) (h__law_worth : l__law_worth ≤ k) {cdv : Value} {A : Around} {outer : List Env} {s : Shared} {H : Hp} {E : XK} {f : Addr} (hr : Room k (A.deeper (envOfC "_law_template" (defScope s__law_template) s.heap.objs.size f cdv))) :
    PSs (cxOf CX0 P w K mg base N__law_template "_law_template" (defScope s__law_template) f cdv A outer s H E).nox (defBody s__law_template) (liftS K (t__law_template a__law_taken a__law_worth)) := by
  have hu := hr.units
  have hu5 := hu5_of hr
  exact dss_cons (ds_set (i := 2) sc__law_template.nd rfl (Or.inl rfl) (de_tup (da_cons (de_ix hu (de_lst (da_cons (de_str) (da_cons (de_str) (da_cons (de_str) (da_nil))))) (de_cf T.d__law_taken G__law_taken (hr.mono (by omega)) (by rfl) (da_cons (dv 0) (da_cons (de_int) (da_nil))))) (da_nil)))) (dss_cons (ds_for PassesOwn.never rfl (di_range1 (by rfl) T.n_range (da_cons (de_ix hu (de_lst (da_cons (de_int) (da_cons (de_int) (da_cons (de_int) (da_cons (de_int) (da_nil)))))) (de_cf T.d__law_taken G__law_taken (hr.mono (by omega)) (by rfl) (da_cons (dv 0) (da_cons (de_int) (da_nil))))) (da_nil))) (dg_name (i := 3) sc__law_template.nd rfl (Or.inl rfl)) (dss_cons (ds_set (i := 4) sc__law_template.nd rfl (Or.inl rfl) (de_cf T.d__law_worth G__law_worth (hr.mono (by omega)) (by rfl) (da_cons (dv 0) (da_nil)))) (dss_cons (ds_if ((dw_and (dt_cm (cd_ne hu) (dv 1) (de_lst (da_nil))) (dw_and1 (dt_cm cd_gt (de_cf T.d__law_taken G__law_taken (hr.mono (by omega)) (by rfl) (da_cons (dv 0) (da_cons (de_int) (da_nil)))) (de_int)))).pt) (dss_cons (ds_set (i := 4) sc__law_template.nd rfl (Or.inl rfl) (de_ix hu (dv 1) (de_cf T.d__law_taken G__law_taken (hr.mono (by omega)) (by rfl) (da_cons (dv 0) (da_cons (de_cb cl_len (by rfl) T.n_len PySem.boot_len (da_cons (dv 1) (da_nil))) (da_nil)))))) (dss_one (ds_if (dt_cm (cd_eq hu) (de_cf T.d__law_taken G__law_taken (hr.mono (by omega)) (by rfl) (da_cons (dv 0) (da_cons (de_int) (da_nil)))) (de_int)) (dss_one (ds_set (i := 4) sc__law_template.nd rfl (Or.inl rfl) (de_tup (da_cons (dv 4) (da_cons (de_ix hu (de_lst (da_cons (de_int) (da_cons (de_sub (de_int) (de_int)) (da_cons (de_int) (da_cons (de_int) (da_nil)))))) (de_cf T.d__law_taken G__law_taken (hr.mono (by omega)) (by rfl) (da_cons (dv 0) (da_cons (de_int) (da_nil))))) (da_nil)))))) (dss_nil)))) (dss_nil)) (dss_one (ds_set (i := 2) sc__law_template.nd rfl (Or.inl rfl) (de_add (dv 2) (de_tup (da_cons (dv 4) (da_nil))))))))) (dss_one (ds_ret (dv 2))))
theorem fn__law_template (T : Pk K mg) {k : Nat} {a__law_taken : ASp} {l__law_taken : Nat} (G__law_taken : FnOk P w K mg base CX0 l__law_taken T.f__law_taken T.fd__law_taken ["_law_row_here", "_law_many"] (liftF K a__law_taken)) (h__law_taken : l__law_taken ≤ k) {a__law_worth : ASp} {l__law_worth : Nat} (G__law_worth : FnOk P w K mg base CX0 l__law_worth T.f__law_worth T.fd__law_worth ["_law_row_here"] (liftF K a__law_worth)) (h__law_worth : l__law_worth ≤ k) {a : ASp} (len : ∀ ds C R, a ds C R → ds.length = 2) (rd : ∀ ds C R, a ds C R → t__law_template a__law_taken a__law_worth { nx := fun _ C' => R .non C', rt := R } (dstart N__law_template ds) C) : FnOk P w K mg base CX0 (k + 1) T.f__law_template T.fd__law_template ["_law_row_here", "_law_known"] (liftF K a) :=
  fnD T.F__law_template sc__law_template len fun cdv A outer s H E hr => ⟨_, dv__law_template T G__law_taken h__law_taken G__law_worth h__law_worth hr, rd⟩
theorem dv__law_rule (T : Pk K mg) {k : Nat} {a__law_taken : ASp} {l__law_taken : Nat} (G__law_taken : FnOk P w K mg base CX0 l__law_taken T.f__law_taken T.fd__law_taken ["_law_row_here", "_law_many"] (liftF K a__law_taken)) (h__law_taken : l__law_taken ≤ k) {a__law_pattern : ASp} {l__law_pattern : Nat} (G__law_pattern : FnOk P w K mg base CX0 l__law_pattern T.f__law_pattern T.fd__law_pattern ["_law_row_here", "_law_letters_here"] (liftF K a__law_pattern)) (h__law_pattern : l__law_pattern ≤ k) {a__law_letters : ASp} {l__law_letters : Nat} (G__law_letters : FnOk P w K mg base CX0 l__law_letters T.f__law_letters T.fd__law_letters ["_law_pattern_here"] (liftF K a__law_letters)) (h__law_letters : l__law_letters ≤ k) {a__law_worth : ASp} {l__law_worth : Nat} (G__law_worth : FnOk P w K mg base CX0 l__law_worth T.f__law_worth T.fd__law_worth ["_law_row_here"] (liftF K a__law_worth)) (h__law_worth : l__law_worth ≤ k) {a__law_template : ASp} {l__law_template : Nat} (G__law_template : FnOk P w K mg base CX0 l__law_template T.f__law_template T.fd__law_template ["_law_row_here", "_law_known"] (liftF K a__law_template)) (h__law_template : l__law_template ≤ k) {cdv : Value} {A : Around} {outer : List Env} {s : Shared} {H : Hp} {E : XK} {f : Addr} (hr : Room k (A.deeper (envOfC "_law_rule" (defScope s__law_rule) s.heap.objs.size f cdv))) :
    PSs (cxOf CX0 P w K mg base N__law_rule "_law_rule" (defScope s__law_rule) f cdv A outer s H E).nox (defBody s__law_rule) (liftS K (t__law_rule a__law_taken a__law_pattern a__law_letters a__law_worth a__law_template)) := by
  have hu := hr.units
  have hu5 := hu5_of hr
  exact dss_cons (ds_asg (de_tup (da_cons (de_lst (da_nil)) (da_cons (de_lstC (da_nil)) (da_nil)))) (dg_tup rfl (dgs_cons (dg_name (i := 2) sc__law_rule.nd rfl (Or.inl rfl)) (dgs_cons (dg_name (i := 3) sc__law_rule.nd rfl (Or.inr rfl)) (dgs_nil))))) (dss_cons (ds_for PassesOwn.never rfl (di_range1 (by rfl) T.n_range (da_cons (de_ix hu (de_lst (da_cons (de_int) (da_cons (de_int) (da_cons (de_int) (da_cons (de_int) (da_cons (de_int) (da_nil))))))) (de_cf T.d__law_taken G__law_taken (hr.mono (by omega)) (by rfl) (da_cons (dv 0) (da_cons (de_int) (da_nil))))) (da_nil))) (dg_name (i := 4) sc__law_rule.nd rfl (Or.inl rfl)) (dss_cons (ds_set (i := 5) sc__law_rule.nd rfl (Or.inl rfl) (de_ifExp (dt_cm cd_gt (dv 4) (de_int)) (de_cf T.d__law_taken G__law_taken (hr.mono (by omega)) (by rfl) (da_cons (dv 0) (da_cons (de_int) (da_nil)))) (de_int))) (dss_one (ds_if ((dw_or (dt_cm cd_lt (dv 5) (de_int)) (dw_or1 ((dw_and (dt_cm cd_gt (dv 5) (de_int)) (dw_and1 (dt_cm (cd_eq hu) (dv 2) (de_lst (da_nil))))).pt))).pt) (dss_cons (ds_expr (de_append (dv 3) (da_cons (de_tup (da_cons (de_str) (da_cons (de_cf T.d__law_pattern G__law_pattern (hr.mono (by omega)) (by rfl) (da_cons (dv 0) (da_cons (de_str) (da_nil)))) (da_nil)))) (da_nil)))) (dss_one (ds_set (i := 2) sc__law_rule.nd rfl (Or.inl rfl) (de_add (dv 2) (de_cf T.d__law_letters G__law_letters (hr.mono (by omega)) (by rfl) (da_cons (de_ix hu (de_ix hu (dv 3) (de_neg (de_int))) (de_int)) (da_nil))))))) (dss_one (ds_if (dt_cm cd_lt (dv 5) (de_int)) (dss_one (ds_expr (de_append (dv 3) (da_cons (de_tup (da_cons (de_str) (da_cons (de_cf T.d__law_pattern G__law_pattern (hr.mono (by omega)) (by rfl) (da_cons (dv 0) (da_cons (de_str) (da_nil)))) (da_nil)))) (da_nil))))) (dss_cons (ds_set (i := 6) sc__law_rule.nd rfl (Or.inl rfl) (de_ix hu (dv 2) (de_cf T.d__law_taken G__law_taken (hr.mono (by omega)) (by rfl) (da_cons (dv 0) (da_cons (de_cb cl_len (by rfl) T.n_len PySem.boot_len (da_cons (dv 2) (da_nil))) (da_nil)))))) (dss_cons (ds_set (i := 7) sc__law_rule.nd rfl (Or.inl rfl) (de_ix hu (de_lst (da_cons (de_cf T.d__law_worth G__law_worth (hr.mono (by omega)) (by rfl) (da_cons (dv 0) (da_nil))) (da_cons (de_ix hu (dv 2) (de_cf T.d__law_taken G__law_taken (hr.mono (by omega)) (by rfl) (da_cons (dv 0) (da_cons (de_cb cl_len (by rfl) T.n_len PySem.boot_len (da_cons (dv 2) (da_nil))) (da_nil))))) (da_nil)))) (de_cf T.d__law_taken G__law_taken (hr.mono (by omega)) (by rfl) (da_cons (dv 0) (da_cons (de_int) (da_nil)))))) (dss_cons (ds_set (i := 8) sc__law_rule.nd rfl (Or.inl rfl) (de_ifExp (dt_cm (cd_eq hu) (de_cf T.d__law_taken G__law_taken (hr.mono (by omega)) (by rfl) (da_cons (dv 0) (da_cons (de_int) (da_nil)))) (de_int)) (de_tup (da_cons (dv 6) (da_cons (dv 7) (da_nil)))) (de_tup (da_cons (dv 7) (da_cons (dv 6) (da_nil)))))) (dss_one (ds_expr (de_append (dv 3) (da_cons (de_add (de_tup (da_cons (de_ix hu (de_lst (da_cons (de_str) (da_cons (de_str) (da_cons (de_str) (da_nil))))) (de_cf T.d__law_taken G__law_taken (hr.mono (by omega)) (by rfl) (da_cons (dv 0) (da_cons (de_int) (da_nil))))) (da_nil))) (dv 8)) (da_nil)))))))))))))) (dss_cons (ds_setLc (i := 9) (own := [("_law_k", 4)]) (gd := gdName 4) rfl sc__law_rule.nd rfl rfl (sw_true rfl rfl rfl (by decide +kernel)) (tg_name) (di_range1 (by rfl) T.n_range (da_cons (de_cb cl_len (by rfl) T.n_len PySem.boot_len (da_cons (dv 3) (da_nil))) (da_nil))) (blkOk_by (N := N__law_rule) (sc := defScope s__law_rule) (by decide +kernel)) (fun _ _ _ _ _ => pg_name (i := 4) sc__law_rule.nd rfl (Or.inl rfl)) (fun _ _ _ _ _ => dts_one (dt_cm (cd_eq hu) (de_ix hu (de_ix hu (dv 3) (dv 4)) (de_int)) (de_str))) (fun _ _ _ _ _ => dv 4)) (dss_cons (ds_set (i := 10) sc__law_rule.nd rfl (Or.inl rfl) (de_lstC (da_nil))) (dss_cons (ds_for PassesOwn.never rfl (di_range1 (by rfl) T.n_range (da_cons (de_ix hu (de_lst (da_cons (de_int) (da_cons (de_int) (da_cons (de_int) (da_cons (de_int) (da_nil)))))) (de_cf T.d__law_taken G__law_taken (hr.mono (by omega)) (by rfl) (da_cons (dv 0) (da_cons (de_int) (da_nil))))) (da_nil))) (dg_name (i := 4) sc__law_rule.nd rfl (Or.inl rfl)) (dss_cons (ds_set (i := 5) sc__law_rule.nd rfl (Or.inl rfl) (de_cf T.d__law_taken G__law_taken (hr.mono (by omega)) (by rfl) (da_cons (dv 0) (da_cons (de_int) (da_nil))))) (dss_one (ds_if (dt_cm (cd_eq hu) (dv 5) (de_int)) (dss_one (ds_expr (de_append (dv 10) (da_cons (de_tup (da_cons (de_str) (da_cons (de_ix hu (dv 9) (de_cf T.d__law_taken G__law_taken (hr.mono (by omega)) (by rfl) (da_cons (dv 0) (da_cons (de_cb cl_len (by rfl) T.n_len PySem.boot_len (da_cons (dv 9) (da_nil))) (da_nil))))) (da_nil)))) (da_nil))))) (dss_one (ds_expr (de_append (dv 10) (da_cons (de_tup (da_cons (de_ix hu (de_lst (da_cons (de_str) (da_cons (de_str) (da_cons (de_str) (da_cons (de_str) (da_cons (de_str) (da_cons (de_str) (da_cons (de_str) (da_nil))))))))) (de_sub (dv 5) (de_int))) (da_cons (de_cf T.d__law_template G__law_template (hr.mono (by omega)) (by rfl) (da_cons (dv 0) (da_cons (dv 2) (da_nil)))) (da_nil)))) (da_nil))))))))) (dss_one (ds_ret (de_tup (da_cons (dv 1) (da_cons (de_sub (de_cf T.d__law_taken G__law_taken (hr.mono (by omega)) (by rfl) (da_cons (dv 0) (da_cons (de_int) (da_nil)))) (de_int)) (da_cons (de_ct cl_tuple (by rfl) T.n_tuple PyProof.Rows.boot_tuple (da_cons (dv 3) (da_nil))) (da_cons (de_ct cl_tuple (by rfl) T.n_tuple PyProof.Rows.boot_tuple (da_cons (dv 10) (da_nil))) (da_nil))))))))))))
theorem fn__law_rule (T : Pk K mg) {k : Nat} {a__law_taken : ASp} {l__law_taken : Nat} (G__law_taken : FnOk P w K mg base CX0 l__law_taken T.f__law_taken T.fd__law_taken ["_law_row_here", "_law_many"] (liftF K a__law_taken)) (h__law_taken : l__law_taken ≤ k) {a__law_pattern : ASp} {l__law_pattern : Nat} (G__law_pattern : FnOk P w K mg base CX0 l__law_pattern T.f__law_pattern T.fd__law_pattern ["_law_row_here", "_law_letters_here"] (liftF K a__law_pattern)) (h__law_pattern : l__law_pattern ≤ k) {a__law_letters : ASp} {l__law_letters : Nat} (G__law_letters : FnOk P w K mg base CX0 l__law_letters T.f__law_letters T.fd__law_letters ["_law_pattern_here"] (liftF K a__law_letters)) (h__law_letters : l__law_letters ≤ k) {a__law_worth : ASp} {l__law_worth : Nat} (G__law_worth : FnOk P w K mg base CX0 l__law_worth T.f__law_worth T.fd__law_worth ["_law_row_here"] (liftF K a__law_worth)) (h__law_worth : l__law_worth ≤ k) {a__law_template : ASp} {l__law_template : Nat} (G__law_template : FnOk P w K mg base CX0 l__law_template T.f__law_template T.fd__law_template ["_law_row_here", "_law_known"] (liftF K a__law_template)) (h__law_template : l__law_template ≤ k) {a : ASp} (len : ∀ ds C R, a ds C R → ds.length = 2) (rd : ∀ ds C R, a ds C R → t__law_rule a__law_taken a__law_pattern a__law_letters a__law_worth a__law_template { nx := fun _ C' => lss R .non C', rt := lss R } (dstart N__law_rule ds) C) : FnOk P w K mg base CX0 (k + 1) T.f__law_rule T.fd__law_rule ["_law_row_here", "_law_name"] (liftF K a) :=
  fnDL T.F__law_rule sc__law_rule len fun cdv A outer s H E hr => ⟨_, dv__law_rule T G__law_taken h__law_taken G__law_pattern h__law_pattern G__law_letters h__law_letters G__law_worth h__law_worth G__law_template h__law_template hr, rd⟩
theorem dv__law_thing (T : Pk K mg) {k : Nat} {a__law_taken : ASp} {l__law_taken : Nat} (G__law_taken : FnOk P w K mg base CX0 l__law_taken T.f__law_taken T.fd__law_taken ["_law_row_here", "_law_many"] (liftF K a__law_taken)) (h__law_taken : l__law_taken ≤ k) {a__law_worth : ASp} {l__law_worth : Nat} (G__law_worth : FnOk P w K mg base CX0 l__law_worth T.f__law_worth T.fd__law_worth ["_law_row_here"] (liftF K a__law_worth)) (h__law_worth : l__law_worth ≤ k) {cdv : Value} {A : Around} {outer : List Env} {s : Shared} {H : Hp} {E : XK} {f : Addr} (hr : Room k (A.deeper (envOfC "_law_thing" (defScope s__law_thing) s.heap.objs.size f cdv))) :
    PSs (cxOf CX0 P w K mg base N__law_thing "_law_thing" (defScope s__law_thing) f cdv A outer s H E).nox (defBody s__law_thing) (liftS K (t__law_thing a__law_taken a__law_worth)) := by
  have hu := hr.units
  have hu5 := hu5_of hr
  exact dss_cons (ds_set (i := 1) sc__law_thing.nd rfl (Or.inl rfl) (de_ix hu (de_lst (da_cons (de_str) (da_cons (de_str) (da_cons (de_str) (da_nil))))) (de_cf T.d__law_taken G__law_taken (hr.mono (by omega)) (by rfl) (da_cons (dv 0) (da_cons (de_int) (da_nil)))))) (dss_one (ds_ret (de_add (de_tup (da_cons (dv 1) (da_nil))) (de_ct cl_tuple (by rfl) T.n_tuple PyProof.Rows.boot_tuple (da_cons (de_lc (own := [("_law_k", 2)]) (gd := gdName 2) rfl sc__law_thing.nd (tg_name) (di_range1 (by rfl) T.n_range (da_cons (de_ix hu (de_lst (da_cons (de_int) (da_cons (de_int) (da_cons (de_int) (da_cons (de_int) (da_cons (de_int) (da_cons (de_int) (da_nil)))))))) (de_cf T.d__law_taken G__law_taken (hr.mono (by omega)) (by rfl) (da_cons (dv 0) (da_cons (de_int) (da_nil))))) (da_nil))) (blkOk_by (N := N__law_thing) (sc := defScope s__law_thing) (by decide +kernel)) (fun _ _ _ _ _ => pg_name (i := 2) sc__law_thing.nd rfl (Or.inl rfl)) (fun _ _ _ _ _ => dts_nil) (fun _ _ _ _ _ => de_cf T.d__law_worth G__law_worth (hr.mono (by omega)) (by rfl) (da_cons (dv 0) (da_nil)))) (da_nil))))))
theorem fn__law_thing (T : Pk K mg) {k : Nat} {a__law_taken : ASp} {l__law_taken : Nat} (G__law_taken : FnOk P w K mg base CX0 l__law_taken T.f__law_taken T.fd__law_taken ["_law_row_here", "_law_many"] (liftF K a__law_taken)) (h__law_taken : l__law_taken ≤ k) {a__law_worth : ASp} {l__law_worth : Nat} (G__law_worth : FnOk P w K mg base CX0 l__law_worth T.f__law_worth T.fd__law_worth ["_law_row_here"] (liftF K a__law_worth)) (h__law_worth : l__law_worth ≤ k) {a : ASp} (len : ∀ ds C R, a ds C R → ds.length = 1) (rd : ∀ ds C R, a ds C R → t__law_thing a__law_taken a__law_worth { nx := fun _ C' => R .non C', rt := R } (dstart N__law_thing ds) C) : FnOk P w K mg base CX0 (k + 1) T.f__law_thing T.fd__law_thing ["_law_row_here"] (liftF K a) :=
  fnD T.F__law_thing sc__law_thing len fun cdv A outer s H E hr => ⟨_, dv__law_thing T G__law_taken h__law_taken G__law_worth h__law_worth hr, rd⟩
theorem dv_is_word (T : Pk K mg) {k : Nat} {cdv : Value} {A : Around} {outer : List Env} {s : Shared} {H : Hp} {E : XK} {f : Addr} (hr : Room k (A.deeper (envOfC "is_word" (defScope s_is_word) s.heap.objs.size f cdv))) :
    PSs (cxOf CX0 P w K mg base N_is_word "is_word" (defScope s_is_word) f cdv A outer s H E).nox (defBody s_is_word) (liftS K (t_is_word)) := by
  have hu := hr.units
  have hu5 := hu5_of hr
  exact dss_cons (ds_if ((dw_or (dt_not (dt_val (de_cb cl_isi (by rfl) T.n_isinstance PyProof.Rows.boot_isinstance (da_cons (dv 0) (da_cons (de_bltn (by rfl) T.n_str PyProof.Rows.boot_str) (da_nil)))))) (dw_or1 (dt_not (dt_ch cd_le cd_le (de_int) (de_cb cl_len (by rfl) T.n_len PySem.boot_len (da_cons (dv 0) (da_nil))) (de_glob (by rfl) T.c_MOST_LETTERS))))).pt) (dss_one (ds_ret (de_bl))) (dss_nil)) (dss_one (ds_ret (de_cb (cl_all rfl) (by rfl) T.n_all PyProof.Rows.boot_all (da_cons (de_lc (own := [("sign", 1)]) (gd := gdName 1) rfl sc_is_word.nd (tg_name) (di_seq (dv 0)) (blkOk_by (N := N_is_word) (sc := defScope s_is_word) (by decide +kernel)) (fun _ _ _ _ _ => pg_name (i := 1) sc_is_word.nd rfl (Or.inl rfl)) (fun _ _ _ _ _ => dts_nil) (fun _ _ _ _ _ => de_cm (cd_in hu5) (dv 1) (de_glob (by rfl) T.c_SMALL))) (da_nil)))))
theorem fn_is_word (T : Pk K mg) {k : Nat} {a : ASp} (len : ∀ ds C R, a ds C R → ds.length = 1) (rd : ∀ ds C R, a ds C R → t_is_word { nx := fun _ C' => R .non C', rt := R } (dstart N_is_word ds) C) : FnOk P w K mg base CX0 (k + 1) T.f_is_word T.fd_is_word ["part"] (liftF K a) :=
  fnD T.F_is_word sc_is_word len fun cdv A outer s H E hr => ⟨_, dv_is_word T hr, rd⟩
theorem dv_is_number (T : Pk K mg) {k : Nat} {cdv : Value} {A : Around} {outer : List Env} {s : Shared} {H : Hp} {E : XK} {f : Addr} (hr : Room k (A.deeper (envOfC "is_number" (defScope s_is_number) s.heap.objs.size f cdv))) :
    PSs (cxOf CX0 P w K mg base N_is_number "is_number" (defScope s_is_number) f cdv A outer s H E).nox (defBody s_is_number) (liftS K (t_is_number)) := by
  have hu := hr.units
  have hu5 := hu5_of hr
  exact dss_one (ds_ret (de_and (de_cb cl_isi (by rfl) T.n_isinstance PyProof.Rows.boot_isinstance (da_cons (dv 0) (da_cons (de_bltn (by rfl) T.n_int PyProof.Rows.boot_int) (da_nil)))) (de_and (de_not (de_cb cl_isi (by rfl) T.n_isinstance PyProof.Rows.boot_isinstance (da_cons (dv 0) (da_cons (de_bltn (by rfl) T.n_bool PyProof.Rows.boot_bool) (da_nil))))) (de_one (de_ch cd_le cd_le (dv 1) (dv 0) (dv 2))))))
theorem fn_is_number (T : Pk K mg) {k : Nat} {a : ASp} (len : ∀ ds C R, a ds C R → ds.length = 3) (rd : ∀ ds C R, a ds C R → t_is_number { nx := fun _ C' => R .non C', rt := R } (dstart N_is_number ds) C) : FnOk P w K mg base CX0 (k + 1) T.f_is_number T.fd_is_number ["part", "low", "high"] (liftF K a) :=
  fnD T.F_is_number sc_is_number len fun cdv A outer s H E hr => ⟨_, dv_is_number T hr, rd⟩
theorem dv_is_worth (T : Pk K mg) {k : Nat} {a_is_word : ASp} {l_is_word : Nat} (G_is_word : FnOk P w K mg base CX0 l_is_word T.f_is_word T.fd_is_word ["part"] (liftF K a_is_word)) (h_is_word : l_is_word ≤ k) {a_is_number : ASp} {l_is_number : Nat} (G_is_number : FnOk P w K mg base CX0 l_is_number T.f_is_number T.fd_is_number ["part", "low", "high"] (liftF K a_is_number)) (h_is_number : l_is_number ≤ k) {cdv : Value} {A : Around} {outer : List Env} {s : Shared} {H : Hp} {E : XK} {f : Addr} (hr : Room k (A.deeper (envOfC "is_worth" (defScope s_is_worth) s.heap.objs.size f cdv))) :
    PSs (cxOf CX0 P w K mg base N_is_worth "is_worth" (defScope s_is_worth) f cdv A outer s H E).nox (defBody s_is_worth) (liftS K (t_is_worth a_is_word a_is_number)) := by
  have hu := hr.units
  have hu5 := hu5_of hr
  exact dss_one (ds_ret (de_or (de_cf T.d_is_word G_is_word (hr.mono (by omega)) (by rfl) (da_cons (dv 0) (da_nil))) (de_one (de_cf T.d_is_number G_is_number (hr.mono (by omega)) (by rfl) (da_cons (dv 0) (da_cons (de_sub (de_int) (de_glob (by rfl) T.c_MOST_NUMBER)) (da_cons (de_glob (by rfl) T.c_MOST_NUMBER) (da_nil))))))))
theorem fn_is_worth (T : Pk K mg) {k : Nat} {a_is_word : ASp} {l_is_word : Nat} (G_is_word : FnOk P w K mg base CX0 l_is_word T.f_is_word T.fd_is_word ["part"] (liftF K a_is_word)) (h_is_word : l_is_word ≤ k) {a_is_number : ASp} {l_is_number : Nat} (G_is_number : FnOk P w K mg base CX0 l_is_number T.f_is_number T.fd_is_number ["part", "low", "high"] (liftF K a_is_number)) (h_is_number : l_is_number ≤ k) {a : ASp} (len : ∀ ds C R, a ds C R → ds.length = 1) (rd : ∀ ds C R, a ds C R → t_is_worth a_is_word a_is_number { nx := fun _ C' => R .non C', rt := R } (dstart N_is_worth ds) C) : FnOk P w K mg base CX0 (k + 1) T.f_is_worth T.fd_is_worth ["part"] (liftF K a) :=
  fnD T.F_is_worth sc_is_worth len fun cdv A outer s H E hr => ⟨_, dv_is_worth T G_is_word h_is_word G_is_number h_is_number hr, rd⟩
theorem dv_is_blank (T : Pk K mg) {k : Nat} {cdv : Value} {A : Around} {outer : List Env} {s : Shared} {H : Hp} {E : XK} {f : Addr} (hr : Room k (A.deeper (envOfC "is_blank" (defScope s_is_blank) s.heap.objs.size f cdv))) :
    PSs (cxOf CX0 P w K mg base N_is_blank "is_blank" (defScope s_is_blank) f cdv A outer s H E).nox (defBody s_is_blank) (liftS K (t_is_blank)) := by
  have hu := hr.units
  have hu5 := hu5_of hr
  exact dss_one (ds_ret (de_and (de_cb cl_isi (by rfl) T.n_isinstance PyProof.Rows.boot_isinstance (da_cons (dv 0) (da_cons (de_bltn (by rfl) T.n_str PyProof.Rows.boot_str) (da_nil)))) (de_and (de_cm (cd_eq hu) (de_cb cl_len (by rfl) T.n_len PySem.boot_len (da_cons (dv 0) (da_nil))) (de_int)) (de_one (de_cm (cd_in hu5) (dv 0) (de_glob (by rfl) T.c_GREAT))))))
theorem fn_is_blank (T : Pk K mg) {k : Nat} {a : ASp} (len : ∀ ds C R, a ds C R → ds.length = 1) (rd : ∀ ds C R, a ds C R → t_is_blank { nx := fun _ C' => R .non C', rt := R } (dstart N_is_blank ds) C) : FnOk P w K mg base CX0 (k + 1) T.f_is_blank T.fd_is_blank ["part"] (liftF K a) :=
  fnD T.F_is_blank sc_is_blank len fun cdv A outer s H E hr => ⟨_, dv_is_blank T hr, rd⟩
theorem dv_is_pattern (T : Pk K mg) {k : Nat} {a_is_word : ASp} {l_is_word : Nat} (G_is_word : FnOk P w K mg base CX0 l_is_word T.f_is_word T.fd_is_word ["part"] (liftF K a_is_word)) (h_is_word : l_is_word ≤ k) {a_is_worth : ASp} {l_is_worth : Nat} (G_is_worth : FnOk P w K mg base CX0 l_is_worth T.f_is_worth T.fd_is_worth ["part"] (liftF K a_is_worth)) (h_is_worth : l_is_worth ≤ k) {a_is_blank : ASp} {l_is_blank : Nat} (G_is_blank : FnOk P w K mg base CX0 l_is_blank T.f_is_blank T.fd_is_blank ["part"] (liftF K a_is_blank)) (h_is_blank : l_is_blank ≤ k) {cdv : Value} {A : Around} {outer : List Env} {s : Shared} {H : Hp} {E : XK} {f : Addr} (hr : Room k (A.deeper (envOfC "is_pattern" (defScope s_is_pattern) s.heap.objs.size f cdv))) :
    PSs (cxOf CX0 P w K mg base N_is_pattern "is_pattern" (defScope s_is_pattern) f cdv A outer s H E).nox (defBody s_is_pattern) (liftS K (t_is_pattern a_is_word a_is_worth a_is_blank)) := by
  have hu := hr.units
  have hu5 := hu5_of hr
  exact dss_cons (ds_if ((dw_or (dt_not (dt_val (de_cb cl_isi (by rfl) T.n_isinstance PyProof.Rows.boot_isinstance (da_cons (dv 0) (da_cons (de_bltn (by rfl) T.n_tuple PyProof.Rows.boot_tuple) (da_nil)))))) (dw_or (dt_not (dt_ch cd_le cd_le (de_int) (de_cb cl_len (by rfl) T.n_len PySem.boot_len (da_cons (dv 0) (da_nil))) (de_glob (by rfl) T.c_MOST_PARTS))) (dw_or1 (dt_not (dt_val (de_cf T.d_is_word G_is_word (hr.mono (by omega)) (by rfl) (da_cons (de_ix hu (dv 0) (de_int)) (da_nil)))))))).pt) (dss_one (ds_ret (de_bl))) (dss_nil)) (dss_one (ds_ret (de_cb (cl_all rfl) (by rfl) T.n_all PyProof.Rows.boot_all (da_cons (de_lc (own := [("one", 1)]) (gd := gdName 1) rfl sc_is_pattern.nd (tg_name) (di_seq (de_slice (dv 0) (dp_some (de_int)) (dp_none))) (blkOk_by (N := N_is_pattern) (sc := defScope s_is_pattern) (by decide +kernel)) (fun _ _ _ _ _ => pg_name (i := 1) sc_is_pattern.nd rfl (Or.inl rfl)) (fun _ _ _ _ _ => dts_nil) (fun _ _ _ _ _ => de_or (de_cf T.d_is_worth G_is_worth (hr.mono (by omega)) (by rfl) (da_cons (dv 1) (da_nil))) (de_or (de_cf T.d_is_blank G_is_blank (hr.mono (by omega)) (by rfl) (da_cons (dv 1) (da_nil))) (de_one (de_and (de_cb cl_isi (by rfl) T.n_isinstance PyProof.Rows.boot_isinstance (da_cons (dv 1) (da_cons (de_bltn (by rfl) T.n_str PyProof.Rows.boot_str) (da_nil)))) (de_one (de_cm (cd_eq hu) (dv 1) (de_glob (by rfl) T.c_ANY)))))))) (da_nil)))))
theorem fn_is_pattern (T : Pk K mg) {k : Nat} {a_is_word : ASp} {l_is_word : Nat} (G_is_word : FnOk P w K mg base CX0 l_is_word T.f_is_word T.fd_is_word ["part"] (liftF K a_is_word)) (h_is_word : l_is_word ≤ k) {a_is_worth : ASp} {l_is_worth : Nat} (G_is_worth : FnOk P w K mg base CX0 l_is_worth T.f_is_worth T.fd_is_worth ["part"] (liftF K a_is_worth)) (h_is_worth : l_is_worth ≤ k) {a_is_blank : ASp} {l_is_blank : Nat} (G_is_blank : FnOk P w K mg base CX0 l_is_blank T.f_is_blank T.fd_is_blank ["part"] (liftF K a_is_blank)) (h_is_blank : l_is_blank ≤ k) {a : ASp} (len : ∀ ds C R, a ds C R → ds.length = 1) (rd : ∀ ds C R, a ds C R → t_is_pattern a_is_word a_is_worth a_is_blank { nx := fun _ C' => R .non C', rt := R } (dstart N_is_pattern ds) C) : FnOk P w K mg base CX0 (k + 1) T.f_is_pattern T.fd_is_pattern ["part"] (liftF K a) :=
  fnD T.F_is_pattern sc_is_pattern len fun cdv A outer s H E hr => ⟨_, dv_is_pattern T G_is_word h_is_word G_is_worth h_is_worth G_is_blank h_is_blank hr, rd⟩
theorem dv_is_side (T : Pk K mg) {k : Nat} {a_is_worth : ASp} {l_is_worth : Nat} (G_is_worth : FnOk P w K mg base CX0 l_is_worth T.f_is_worth T.fd_is_worth ["part"] (liftF K a_is_worth)) (h_is_worth : l_is_worth ≤ k) {a_is_blank : ASp} {l_is_blank : Nat} (G_is_blank : FnOk P w K mg base CX0 l_is_blank T.f_is_blank T.fd_is_blank ["part"] (liftF K a_is_blank)) (h_is_blank : l_is_blank ≤ k) {cdv : Value} {A : Around} {outer : List Env} {s : Shared} {H : Hp} {E : XK} {f : Addr} (hr : Room k (A.deeper (envOfC "is_side" (defScope s_is_side) s.heap.objs.size f cdv))) :
    PSs (cxOf CX0 P w K mg base N_is_side "is_side" (defScope s_is_side) f cdv A outer s H E).nox (defBody s_is_side) (liftS K (t_is_side a_is_worth a_is_blank)) := by
  have hu := hr.units
  have hu5 := hu5_of hr
  exact dss_one (ds_ret (de_or (de_cf T.d_is_worth G_is_worth (hr.mono (by omega)) (by rfl) (da_cons (dv 0) (da_nil))) (de_one (de_and (de_cf T.d_is_blank G_is_blank (hr.mono (by omega)) (by rfl) (da_cons (dv 0) (da_nil))) (de_one (de_cm (cd_in hu5) (dv 0) (dv 1)))))))
theorem fn_is_side (T : Pk K mg) {k : Nat} {a_is_worth : ASp} {l_is_worth : Nat} (G_is_worth : FnOk P w K mg base CX0 l_is_worth T.f_is_worth T.fd_is_worth ["part"] (liftF K a_is_worth)) (h_is_worth : l_is_worth ≤ k) {a_is_blank : ASp} {l_is_blank : Nat} (G_is_blank : FnOk P w K mg base CX0 l_is_blank T.f_is_blank T.fd_is_blank ["part"] (liftF K a_is_blank)) (h_is_blank : l_is_blank ≤ k) {a : ASp} (len : ∀ ds C R, a ds C R → ds.length = 2) (rd : ∀ ds C R, a ds C R → t_is_side a_is_worth a_is_blank { nx := fun _ C' => R .non C', rt := R } (dstart N_is_side ds) C) : FnOk P w K mg base CX0 (k + 1) T.f_is_side T.fd_is_side ["part", "known"] (liftF K a) :=
  fnD T.F_is_side sc_is_side len fun cdv A outer s H E hr => ⟨_, dv_is_side T G_is_worth h_is_worth G_is_blank h_is_blank hr, rd⟩
theorem dv_is_want (T : Pk K mg) {k : Nat} {a_is_pattern : ASp} {l_is_pattern : Nat} (G_is_pattern : FnOk P w K mg base CX0 l_is_pattern T.f_is_pattern T.fd_is_pattern ["part"] (liftF K a_is_pattern)) (h_is_pattern : l_is_pattern ≤ k) {a_is_side : ASp} {l_is_side : Nat} (G_is_side : FnOk P w K mg base CX0 l_is_side T.f_is_side T.fd_is_side ["part", "known"] (liftF K a_is_side)) (h_is_side : l_is_side ≤ k) {cdv : Value} {A : Around} {outer : List Env} {s : Shared} {H : Hp} {E : XK} {f : Addr} (hr : Room k (A.deeper (envOfC "is_want" (defScope s_is_want) s.heap.objs.size f cdv))) :
    PSs (cxOf CX0 P w K mg base N_is_want "is_want" (defScope s_is_want) f cdv A outer s H E).nox (defBody s_is_want) (liftS K (t_is_want a_is_pattern a_is_side)) := by
  have hu := hr.units
  have hu5 := hu5_of hr
  exact dss_cons (ds_if ((dw_or (dt_not (dt_val (de_cb cl_isi (by rfl) T.n_isinstance PyProof.Rows.boot_isinstance (da_cons (dv 0) (da_cons (de_bltn (by rfl) T.n_tuple PyProof.Rows.boot_tuple) (da_nil)))))) (dw_or (dt_cm (cd_eq hu) (dv 0) (de_tup (da_nil))) (dw_or1 (dt_not (dt_val (de_cb cl_isi (by rfl) T.n_isinstance PyProof.Rows.boot_isinstance (da_cons (de_ix hu (dv 0) (de_int)) (da_cons (de_bltn (by rfl) T.n_str PyProof.Rows.boot_str) (da_nil))))))))).pt) (dss_one (ds_ret (de_bl))) (dss_nil)) (dss_cons (ds_if (dt_cm (cd_in hu5) (de_ix hu (dv 0) (de_int)) (de_tup (da_cons (de_glob (by rfl) T.c_IS) (da_cons (de_glob (by rfl) T.c_NOT) (da_nil))))) (dss_one (ds_ret (de_and (de_cm (cd_eq hu) (de_cb cl_len (by rfl) T.n_len PySem.boot_len (da_cons (dv 0) (da_nil))) (de_int)) (de_one (de_cf T.d_is_pattern G_is_pattern (hr.mono (by omega)) (by rfl) (da_cons (de_ix hu (dv 0) (de_int)) (da_nil))))))) (dss_nil)) (dss_one (ds_ret (de_and (de_cm (cd_in hu5) (de_ix hu (dv 0) (de_int)) (de_glob (by rfl) T.c_TESTS)) (de_and (de_cm (cd_eq hu) (de_cb cl_len (by rfl) T.n_len PySem.boot_len (da_cons (dv 0) (da_nil))) (de_int)) (de_one (de_cb (cl_all rfl) (by rfl) T.n_all PyProof.Rows.boot_all (da_cons (de_lc (own := [("part", 2)]) (gd := gdName 2) rfl sc_is_want.nd (tg_name) (di_seq (de_slice (dv 0) (dp_some (de_int)) (dp_none))) (blkOk_by (N := N_is_want) (sc := defScope s_is_want) (by decide +kernel)) (fun _ _ _ _ _ => pg_name (i := 2) sc_is_want.nd rfl (Or.inl rfl)) (fun _ _ _ _ _ => dts_nil) (fun _ _ _ _ _ => de_cf T.d_is_side G_is_side (hr.mono (by omega)) (by rfl) (da_cons (dv 2) (da_cons (dv 1) (da_nil))))) (da_nil)))))))))
theorem fn_is_want (T : Pk K mg) {k : Nat} {a_is_pattern : ASp} {l_is_pattern : Nat} (G_is_pattern : FnOk P w K mg base CX0 l_is_pattern T.f_is_pattern T.fd_is_pattern ["part"] (liftF K a_is_pattern)) (h_is_pattern : l_is_pattern ≤ k) {a_is_side : ASp} {l_is_side : Nat} (G_is_side : FnOk P w K mg base CX0 l_is_side T.f_is_side T.fd_is_side ["part", "known"] (liftF K a_is_side)) (h_is_side : l_is_side ≤ k) {a : ASp} (len : ∀ ds C R, a ds C R → ds.length = 2) (rd : ∀ ds C R, a ds C R → t_is_want a_is_pattern a_is_side { nx := fun _ C' => R .non C', rt := R } (dstart N_is_want ds) C) : FnOk P w K mg base CX0 (k + 1) T.f_is_want T.fd_is_want ["want", "known"] (liftF K a) :=
  fnD T.F_is_want sc_is_want len fun cdv A outer s H E hr => ⟨_, dv_is_want T G_is_pattern h_is_pattern G_is_side h_is_side hr, rd⟩
theorem dv_blanks_of (T : Pk K mg) {k : Nat} {a_is_blank : ASp} {l_is_blank : Nat} (G_is_blank : FnOk P w K mg base CX0 l_is_blank T.f_is_blank T.fd_is_blank ["part"] (liftF K a_is_blank)) (h_is_blank : l_is_blank ≤ k) {cdv : Value} {A : Around} {outer : List Env} {s : Shared} {H : Hp} {E : XK} {f : Addr} (hr : Room k (A.deeper (envOfC "blanks_of" (defScope s_blanks_of) s.heap.objs.size f cdv))) :
    PSs (cxOf CX0 P w K mg base N_blanks_of "blanks_of" (defScope s_blanks_of) f cdv A outer s H E).nox (defBody s_blanks_of) (liftS K (t_blanks_of a_is_blank)) := by
  have hu := hr.units
  have hu5 := hu5_of hr
  exact dss_one (ds_ret (de_lc (own := [("part", 1)]) (gd := gdName 1) rfl sc_blanks_of.nd (tg_name) (di_seq (de_slice (dv 0) (dp_some (de_int)) (dp_none))) (blkOk_by (N := N_blanks_of) (sc := defScope s_blanks_of) (by decide +kernel)) (fun _ _ _ _ _ => pg_name (i := 1) sc_blanks_of.nd rfl (Or.inl rfl)) (fun _ _ _ _ _ => dts_one (dt_val (de_cf T.d_is_blank G_is_blank (hr.mono (by omega)) (by rfl) (da_cons (dv 1) (da_nil))))) (fun _ _ _ _ _ => dv 1)))
theorem fn_blanks_of (T : Pk K mg) {k : Nat} {a_is_blank : ASp} {l_is_blank : Nat} (G_is_blank : FnOk P w K mg base CX0 l_is_blank T.f_is_blank T.fd_is_blank ["part"] (liftF K a_is_blank)) (h_is_blank : l_is_blank ≤ k) {a : ASp} (len : ∀ ds C R, a ds C R → ds.length = 1) (rd : ∀ ds C R, a ds C R → t_blanks_of a_is_blank { nx := fun _ C' => R .non C', rt := R } (dstart N_blanks_of ds) C) : FnOk P w K mg base CX0 (k + 1) T.f_blanks_of T.fd_blanks_of ["pattern"] (liftF K a) :=
  fnD T.F_blanks_of sc_blanks_of len fun cdv A outer s H E hr => ⟨_, dv_blanks_of T G_is_blank h_is_blank hr, rd⟩
theorem dv_is_template (T : Pk K mg) {k : Nat} {a_is_word : ASp} {l_is_word : Nat} (G_is_word : FnOk P w K mg base CX0 l_is_word T.f_is_word T.fd_is_word ["part"] (liftF K a_is_word)) (h_is_word : l_is_word ≤ k) {a_is_blank : ASp} {l_is_blank : Nat} (G_is_blank : FnOk P w K mg base CX0 l_is_blank T.f_is_blank T.fd_is_blank ["part"] (liftF K a_is_blank)) (h_is_blank : l_is_blank ≤ k) {a_is_number : ASp} {l_is_number : Nat} (G_is_number : FnOk P w K mg base CX0 l_is_number T.f_is_number T.fd_is_number ["part", "low", "high"] (liftF K a_is_number)) (h_is_number : l_is_number ≤ k) {a_is_side : ASp} {l_is_side : Nat} (G_is_side : FnOk P w K mg base CX0 l_is_side T.f_is_side T.fd_is_side ["part", "known"] (liftF K a_is_side)) (h_is_side : l_is_side ≤ k) {cdv : Value} {A : Around} {outer : List Env} {s : Shared} {H : Hp} {E : XK} {f : Addr} (hr : Room k (A.deeper (envOfC "is_template" (defScope s_is_template) s.heap.objs.size f cdv))) :
    PSs (cxOf CX0 P w K mg base N_is_template "is_template" (defScope s_is_template) f cdv A outer s H E).nox (defBody s_is_template) (liftS K (t_is_template a_is_word a_is_blank a_is_number a_is_side)) := by
  have hu := hr.units
  have hu5 := hu5_of hr
  exact dss_cons (ds_if ((dw_or (dt_not (dt_val (de_cb cl_isi (by rfl) T.n_isinstance PyProof.Rows.boot_isinstance (da_cons (dv 0) (da_cons (de_bltn (by rfl) T.n_tuple PyProof.Rows.boot_tuple) (da_nil)))))) (dw_or (dt_not (dt_ch cd_le cd_le (de_int) (de_cb cl_len (by rfl) T.n_len PySem.boot_len (da_cons (dv 0) (da_nil))) (de_glob (by rfl) T.c_MOST_PARTS))) (dw_or1 (dt_not (dt_val (de_cf T.d_is_word G_is_word (hr.mono (by omega)) (by rfl) (da_cons (de_ix hu (dv 0) (de_int)) (da_nil)))))))).pt) (dss_one (ds_ret (de_bl))) (dss_nil)) (dss_cons (ds_for PassesOwn.never rfl (di_seq (de_slice (dv 0) (dp_some (de_int)) (dp_none))) (dg_name (i := 2) sc_is_template.nd rfl (Or.inl rfl)) (dss_one (ds_if (dt_val (de_cb cl_isi (by rfl) T.n_isinstance PyProof.Rows.boot_isinstance (da_cons (dv 2) (da_cons (de_bltn (by rfl) T.n_tuple PyProof.Rows.boot_tuple) (da_nil))))) (dss_cons (ds_if ((dw_or (dt_cm (cd_ne hu) (de_cb cl_len (by rfl) T.n_len PySem.boot_len (da_cons (dv 2) (da_nil))) (de_int)) (dw_or (dt_not (dt_val (de_cf T.d_is_blank G_is_blank (hr.mono (by omega)) (by rfl) (da_cons (de_ix hu (dv 2) (de_int)) (da_nil))))) (dw_or1 (dt_cm (cd_notin hu5) (de_ix hu (dv 2) (de_int)) (dv 1))))).pt) (dss_one (ds_ret (de_bl))) (dss_nil)) (dss_one (ds_if (dt_not (dt_val (de_cf T.d_is_number G_is_number (hr.mono (by omega)) (by rfl) (da_cons (de_ix hu (dv 2) (de_int)) (da_cons (de_sub (de_int) (de_glob (by rfl) T.c_MOST_NUMBER)) (da_cons (de_glob (by rfl) T.c_MOST_NUMBER) (da_nil))))))) (dss_one (ds_ret (de_bl))) (dss_nil)))) (dss_one (ds_if (dt_not (dt_val (de_cf T.d_is_side G_is_side (hr.mono (by omega)) (by rfl) (da_cons (dv 2) (da_cons (dv 1) (da_nil)))))) (dss_one (ds_ret (de_bl))) (dss_nil)))))) (dss_one (ds_ret (de_bl))))
theorem fn_is_template (T : Pk K mg) {k : Nat} {a_is_word : ASp} {l_is_word : Nat} (G_is_word : FnOk P w K mg base CX0 l_is_word T.f_is_word T.fd_is_word ["part"] (liftF K a_is_word)) (h_is_word : l_is_word ≤ k) {a_is_blank : ASp} {l_is_blank : Nat} (G_is_blank : FnOk P w K mg base CX0 l_is_blank T.f_is_blank T.fd_is_blank ["part"] (liftF K a_is_blank)) (h_is_blank : l_is_blank ≤ k) {a_is_number : ASp} {l_is_number : Nat} (G_is_number : FnOk P w K mg base CX0 l_is_number T.f_is_number T.fd_is_number ["part", "low", "high"] (liftF K a_is_number)) (h_is_number : l_is_number ≤ k) {a_is_side : ASp} {l_is_side : Nat} (G_is_side : FnOk P w K mg base CX0 l_is_side T.f_is_side T.fd_is_side ["part", "known"] (liftF K a_is_side)) (h_is_side : l_is_side ≤ k) {a : ASp} (len : ∀ ds C R, a ds C R → ds.length = 2) (rd : ∀ ds C R, a ds C R → t_is_template a_is_word a_is_blank a_is_number a_is_side { nx := fun _ C' => R .non C', rt := R } (dstart N_is_template ds) C) : FnOk P w K mg base CX0 (k + 1) T.f_is_template T.fd_is_template ["part", "known"] (liftF K a) :=
  fnD T.F_is_template sc_is_template len fun cdv A outer s H E hr => ⟨_, dv_is_template T G_is_word h_is_word G_is_blank h_is_blank G_is_number h_is_number G_is_side h_is_side hr, rd⟩
theorem dv_is_deed (T : Pk K mg) {k : Nat} {a_is_number : ASp} {l_is_number : Nat} (G_is_number : FnOk P w K mg base CX0 l_is_number T.f_is_number T.fd_is_number ["part", "low", "high"] (liftF K a_is_number)) (h_is_number : l_is_number ≤ k) {a_is_template : ASp} {l_is_template : Nat} (G_is_template : FnOk P w K mg base CX0 l_is_template T.f_is_template T.fd_is_template ["part", "known"] (liftF K a_is_template)) (h_is_template : l_is_template ≤ k) {cdv : Value} {A : Around} {outer : List Env} {s : Shared} {H : Hp} {E : XK} {f : Addr} (hr : Room k (A.deeper (envOfC "is_deed" (defScope s_is_deed) s.heap.objs.size f cdv))) :
    PSs (cxOf CX0 P w K mg base N_is_deed "is_deed" (defScope s_is_deed) f cdv A outer s H E).nox (defBody s_is_deed) (liftS K (t_is_deed a_is_number a_is_template)) := by
  have hu := hr.units
  have hu5 := hu5_of hr
  exact dss_cons (ds_if ((dw_or (dt_not (dt_val (de_cb cl_isi (by rfl) T.n_isinstance PyProof.Rows.boot_isinstance (da_cons (dv 0) (da_cons (de_bltn (by rfl) T.n_tuple PyProof.Rows.boot_tuple) (da_nil)))))) (dw_or (dt_cm (cd_ne hu) (de_cb cl_len (by rfl) T.n_len PySem.boot_len (da_cons (dv 0) (da_nil))) (de_int)) (dw_or1 (dt_not (dt_val (de_cb cl_isi (by rfl) T.n_isinstance PyProof.Rows.boot_isinstance (da_cons (de_ix hu (dv 0) (de_int)) (da_cons (de_bltn (by rfl) T.n_str PyProof.Rows.boot_str) (da_nil))))))))).pt) (dss_one (ds_ret (de_bl))) (dss_nil)) (dss_cons (ds_if (dt_cm (cd_eq hu) (de_ix hu (dv 0) (de_int)) (de_glob (by rfl) T.c_TAKE)) (dss_one (ds_ret (de_and (de_cf T.d_is_number G_is_number (hr.mono (by omega)) (by rfl) (da_cons (de_ix hu (dv 0) (de_int)) (da_cons (de_int) (da_cons (de_sub (de_cb cl_len (by rfl) T.n_len PySem.boot_len (da_cons (dv 1) (da_nil))) (de_int)) (da_nil))))) (de_one (de_cm (cd_eq hu) (de_ix hu (de_ix hu (dv 1) (de_ix hu (dv 0) (de_int))) (de_int)) (de_glob (by rfl) T.c_IS)))))) (dss_nil)) (dss_one (ds_ret (de_and (de_cm (cd_in hu5) (de_ix hu (dv 0) (de_int)) (de_glob (by rfl) T.c_TELLERS)) (de_one (de_cf T.d_is_template G_is_template (hr.mono (by omega)) (by rfl) (da_cons (de_ix hu (dv 0) (de_int)) (da_cons (dv 2) (da_nil)))))))))
theorem fn_is_deed (T : Pk K mg) {k : Nat} {a_is_number : ASp} {l_is_number : Nat} (G_is_number : FnOk P w K mg base CX0 l_is_number T.f_is_number T.fd_is_number ["part", "low", "high"] (liftF K a_is_number)) (h_is_number : l_is_number ≤ k) {a_is_template : ASp} {l_is_template : Nat} (G_is_template : FnOk P w K mg base CX0 l_is_template T.f_is_template T.fd_is_template ["part", "known"] (liftF K a_is_template)) (h_is_template : l_is_template ≤ k) {a : ASp} (len : ∀ ds C R, a ds C R → ds.length = 3) (rd : ∀ ds C R, a ds C R → t_is_deed a_is_number a_is_template { nx := fun _ C' => R .non C', rt := R } (dstart N_is_deed ds) C) : FnOk P w K mg base CX0 (k + 1) T.f_is_deed T.fd_is_deed ["deed", "wants", "known"] (liftF K a) :=
  fnD T.F_is_deed sc_is_deed len fun cdv A outer s H E hr => ⟨_, dv_is_deed T G_is_number h_is_number G_is_template h_is_template hr, rd⟩
theorem dv_bad_part (T : Pk K mg) {k : Nat} {a_is_word : ASp} {l_is_word : Nat} (G_is_word : FnOk P w K mg base CX0 l_is_word T.f_is_word T.fd_is_word ["part"] (liftF K a_is_word)) (h_is_word : l_is_word ≤ k) {a_is_number : ASp} {l_is_number : Nat} (G_is_number : FnOk P w K mg base CX0 l_is_number T.f_is_number T.fd_is_number ["part", "low", "high"] (liftF K a_is_number)) (h_is_number : l_is_number ≤ k) {a_is_want : ASp} {l_is_want : Nat} (G_is_want : FnOk P w K mg base CX0 l_is_want T.f_is_want T.fd_is_want ["want", "known"] (liftF K a_is_want)) (h_is_want : l_is_want ≤ k) {a_blanks_of : ASp} {l_blanks_of : Nat} (G_blanks_of : FnOk P w K mg base CX0 l_blanks_of T.f_blanks_of T.fd_blanks_of ["pattern"] (liftF K a_blanks_of)) (h_blanks_of : l_blanks_of ≤ k) {a_is_deed : ASp} {l_is_deed : Nat} (G_is_deed : FnOk P w K mg base CX0 l_is_deed T.f_is_deed T.fd_is_deed ["deed", "wants", "known"] (liftF K a_is_deed)) (h_is_deed : l_is_deed ≤ k) {cdv : Value} {A : Around} {outer : List Env} {s : Shared} {H : Hp} {E : XK} {f : Addr} (hr : Room k (A.deeper (envOfC "bad_part" (defScope s_bad_part) s.heap.objs.size f cdv))) :
    PSs (cxOf CX0 P w K mg base N_bad_part "bad_part" (defScope s_bad_part) f cdv A outer s H E).nox (defBody s_bad_part) (liftS K (t_bad_part a_is_word a_is_number a_is_want a_blanks_of a_is_deed)) := by
  have hu := hr.units
  have hu5 := hu5_of hr
  exact dss_cons (ds_if ((dw_or (dt_not (dt_val (de_cb cl_isi (by rfl) T.n_isinstance PyProof.Rows.boot_isinstance (da_cons (dv 0) (da_cons (de_bltn (by rfl) T.n_tuple PyProof.Rows.boot_tuple) (da_nil)))))) (dw_or1 (dt_cm (cd_ne hu) (de_cb cl_len (by rfl) T.n_len PySem.boot_len (da_cons (dv 0) (da_nil))) (de_int)))).pt) (dss_one (ds_ret (de_neg (de_int)))) (dss_nil)) (dss_cons (ds_asg (dv 0) (dg_tup rfl (dgs_cons (dg_name (i := 2) sc_bad_part.nd rfl (Or.inl rfl)) (dgs_cons (dg_name (i := 3) sc_bad_part.nd rfl (Or.inl rfl)) (dgs_cons (dg_name (i := 4) sc_bad_part.nd rfl (Or.inr rfl)) (dgs_cons (dg_name (i := 5) sc_bad_part.nd rfl (Or.inl rfl)) (dgs_nil))))))) (dss_cons (ds_if ((dw_or (dt_not (dt_val (de_cf T.d_is_word G_is_word (hr.mono (by omega)) (by rfl) (da_cons (dv 2) (da_nil))))) (dw_or1 (dt_cm (cd_in hu5) (dv 2) (dv 1)))).pt) (dss_one (ds_ret (de_int))) (dss_nil)) (dss_cons (ds_if (dt_not (dt_val (de_cf T.d_is_number G_is_number (hr.mono (by omega)) (by rfl) (da_cons (dv 3) (da_cons (de_sub (de_int) (de_glob (by rfl) T.c_MOST_RANK)) (da_cons (de_glob (by rfl) T.c_MOST_RANK) (da_nil))))))) (dss_one (ds_ret (de_int))) (dss_nil)) (dss_cons (ds_if ((dw_or (dt_not (dt_val (de_cb cl_isi (by rfl) T.n_isinstance PyProof.Rows.boot_isinstance (da_cons (dv 4) (da_cons (de_bltn (by rfl) T.n_tuple PyProof.Rows.boot_tuple) (da_nil)))))) (dw_or1 (dt_not (dt_ch cd_le cd_le (de_int) (de_cb cl_len (by rfl) T.n_len PySem.boot_len (da_cons (dv 4) (da_nil))) (de_glob (by rfl) T.c_MOST_WANTS))))).pt) (dss_one (ds_ret (de_int))) (dss_nil)) (dss_cons (ds_set (i := 6) sc_bad_part.nd rfl (Or.inr rfl) (de_lstC (da_nil))) (dss_cons (ds_for PassesOwn.never rfl (di_enum (by rfl) T.n_enumerate (da_cons (dv 4) (da_nil))) (dg_tup rfl (dgs_cons (dg_name (i := 7) sc_bad_part.nd rfl (Or.inl rfl)) (dgs_cons (dg_name (i := 8) sc_bad_part.nd rfl (Or.inl rfl)) (dgs_nil)))) (dss_cons (ds_if ((dw_or (dt_not (dt_val (de_cf T.d_is_want G_is_want (hr.mono (by omega)) (by rfl) (da_cons (dv 8) (da_cons (dv 6) (da_nil)))))) (dw_or1 ((dw_and (dt_cm (cd_eq hu) (dv 7) (de_int)) (dw_and1 (dt_cm (cd_ne hu) (de_ix hu (dv 8) (de_int)) (de_glob (by rfl) T.c_IS)))).pt))).pt) (dss_one (ds_ret (de_int))) (dss_nil)) (dss_one (ds_expr (de_extend (dv 6) (da_cons (de_ifExp (dt_cm (cd_eq hu) (de_ix hu (dv 8) (de_int)) (de_glob (by rfl) T.c_IS)) (de_cf T.d_blanks_of G_blanks_of (hr.mono (by omega)) (by rfl) (da_cons (de_ix hu (dv 8) (de_int)) (da_nil))) (de_lst (da_nil))) (da_nil))))))) (dss_cons (ds_if ((dw_or (dt_not (dt_val (de_cb cl_isi (by rfl) T.n_isinstance PyProof.Rows.boot_isinstance (da_cons (dv 5) (da_cons (de_bltn (by rfl) T.n_tuple PyProof.Rows.boot_tuple) (da_nil)))))) (dw_or1 (dt_not (dt_ch cd_le cd_le (de_int) (de_cb cl_len (by rfl) T.n_len PySem.boot_len (da_cons (dv 5) (da_nil))) (de_glob (by rfl) T.c_MOST_DEEDS))))).pt) (dss_one (ds_ret (de_int))) (dss_nil)) (dss_one (ds_ret (de_ifExp (dt_val (de_cb (cl_all rfl) (by rfl) T.n_all PyProof.Rows.boot_all (da_cons (de_lc (own := [("deed", 9)]) (gd := gdName 9) rfl sc_bad_part.nd (tg_name) (di_seq (dv 5)) (blkOk_by (N := N_bad_part) (sc := defScope s_bad_part) (by decide +kernel)) (fun _ _ _ _ _ => pg_name (i := 9) sc_bad_part.nd rfl (Or.inl rfl)) (fun _ _ _ _ _ => dts_nil) (fun _ _ _ _ _ => de_cf T.d_is_deed G_is_deed (hr.mono (by omega)) (by rfl) (da_cons (dv 9) (da_cons (dv 4) (da_cons (dv 6) (da_nil)))))) (da_nil)))) (de_non) (de_int)))))))))))
theorem fn_bad_part (T : Pk K mg) {k : Nat} {a_is_word : ASp} {l_is_word : Nat} (G_is_word : FnOk P w K mg base CX0 l_is_word T.f_is_word T.fd_is_word ["part"] (liftF K a_is_word)) (h_is_word : l_is_word ≤ k) {a_is_number : ASp} {l_is_number : Nat} (G_is_number : FnOk P w K mg base CX0 l_is_number T.f_is_number T.fd_is_number ["part", "low", "high"] (liftF K a_is_number)) (h_is_number : l_is_number ≤ k) {a_is_want : ASp} {l_is_want : Nat} (G_is_want : FnOk P w K mg base CX0 l_is_want T.f_is_want T.fd_is_want ["want", "known"] (liftF K a_is_want)) (h_is_want : l_is_want ≤ k) {a_blanks_of : ASp} {l_blanks_of : Nat} (G_blanks_of : FnOk P w K mg base CX0 l_blanks_of T.f_blanks_of T.fd_blanks_of ["pattern"] (liftF K a_blanks_of)) (h_blanks_of : l_blanks_of ≤ k) {a_is_deed : ASp} {l_is_deed : Nat} (G_is_deed : FnOk P w K mg base CX0 l_is_deed T.f_is_deed T.fd_is_deed ["deed", "wants", "known"] (liftF K a_is_deed)) (h_is_deed : l_is_deed ≤ k) {a : ASp} (len : ∀ ds C R, a ds C R → ds.length = 2) (rd : ∀ ds C R, a ds C R → t_bad_part a_is_word a_is_number a_is_want a_blanks_of a_is_deed { nx := fun _ C' => lss R .non C', rt := lss R } (dstart N_bad_part ds) C) : FnOk P w K mg base CX0 (k + 1) T.f_bad_part T.fd_bad_part ["rule", "names"] (liftF K a) :=
  fnDL T.F_bad_part sc_bad_part len fun cdv A outer s H E hr => ⟨_, dv_bad_part T G_is_word h_is_word G_is_number h_is_number G_is_want h_is_want G_blanks_of h_blanks_of G_is_deed h_is_deed hr, rd⟩
theorem dv_need_rules (T : Pk K mg) {k : Nat} {a_bad_part : ASp} {l_bad_part : Nat} (G_bad_part : FnOk P w K mg base CX0 l_bad_part T.f_bad_part T.fd_bad_part ["rule", "names"] (liftF K a_bad_part)) (h_bad_part : l_bad_part ≤ k) {cdv : Value} {A : Around} {outer : List Env} {s : Shared} {H : Hp} {E : XK} {f : Addr} (hr : Room k (A.deeper (envOfC "need_rules" (defScope s_need_rules) s.heap.objs.size f cdv))) :
    PSs (cxOf CX0 P w K mg base N_need_rules "need_rules" (defScope s_need_rules) f cdv A outer s H E).nox (defBody s_need_rules) (liftS K (t_need_rules a_bad_part)) := by
  have hu := hr.units
  have hu5 := hu5_of hr
  exact dss_cons (ds_if ((dw_or (dt_not (dt_val (de_cb cl_isi (by rfl) T.n_isinstance PyProof.Rows.boot_isinstance (da_cons (dv 0) (da_cons (de_bltn (by rfl) T.n_tuple PyProof.Rows.boot_tuple) (da_nil)))))) (dw_or1 (dt_cm (cd_eq hu) (dv 0) (de_tup (da_nil))))).pt) (dss_one (ds_never)) (dss_nil)) (dss_cons (ds_set (i := 1) sc_need_rules.nd rfl (Or.inl rfl) (de_lstC (da_nil))) (dss_one (ds_for PassesOwn.never rfl (di_enum (by rfl) T.n_enumerate (da_cons (dv 0) (da_nil))) (dg_tup rfl (dgs_cons (dg_name (i := 2) sc_need_rules.nd rfl (Or.inl rfl)) (dgs_cons (dg_name (i := 3) sc_need_rules.nd rfl (Or.inl rfl)) (dgs_nil)))) (dss_cons (ds_set (i := 4) sc_need_rules.nd rfl (Or.inl rfl) (de_ifExp (dt_cm (cd_eq hu) (dv 2) (de_glob (by rfl) T.c_MOST_RULES)) (de_neg (de_int)) (de_cf T.d_bad_part G_bad_part (hr.mono (by omega)) (by rfl) (da_cons (dv 3) (da_cons (dv 1) (da_nil)))))) (dss_cons (ds_if (dt_cm cd_isnot (dv 4) (de_non)) (dss_one (ds_never)) (dss_nil)) (dss_one (ds_expr (de_append (dv 1) (da_cons (de_ix hu (dv 3) (de_int)) (da_nil))))))))))
theorem fn_need_rules (T : Pk K mg) {k : Nat} {a_bad_part : ASp} {l_bad_part : Nat} (G_bad_part : FnOk P w K mg base CX0 l_bad_part T.f_bad_part T.fd_bad_part ["rule", "names"] (liftF K a_bad_part)) (h_bad_part : l_bad_part ≤ k) {a : ASp} (len : ∀ ds C R, a ds C R → ds.length = 1) (rd : ∀ ds C R, a ds C R → t_need_rules a_bad_part { nx := fun _ C' => lss R .non C', rt := lss R } (dstart N_need_rules ds) C) : FnOk P w K mg base CX0 (k + 1) T.f_need_rules T.fd_need_rules ["rules"] (liftF K a) :=
  fnDL T.F_need_rules sc_need_rules len fun cdv A outer s H E hr => ⟨_, dv_need_rules T G_bad_part h_bad_part hr, rd⟩
theorem dv_is_thing (T : Pk K mg) {k : Nat} {a_is_word : ASp} {l_is_word : Nat} (G_is_word : FnOk P w K mg base CX0 l_is_word T.f_is_word T.fd_is_word ["part"] (liftF K a_is_word)) (h_is_word : l_is_word ≤ k) {a_is_worth : ASp} {l_is_worth : Nat} (G_is_worth : FnOk P w K mg base CX0 l_is_worth T.f_is_worth T.fd_is_worth ["part"] (liftF K a_is_worth)) (h_is_worth : l_is_worth ≤ k) {cdv : Value} {A : Around} {outer : List Env} {s : Shared} {H : Hp} {E : XK} {f : Addr} (hr : Room k (A.deeper (envOfC "is_thing" (defScope s_is_thing) s.heap.objs.size f cdv))) :
    PSs (cxOf CX0 P w K mg base N_is_thing "is_thing" (defScope s_is_thing) f cdv A outer s H E).nox (defBody s_is_thing) (liftS K (t_is_thing a_is_word a_is_worth)) := by
  have hu := hr.units
  have hu5 := hu5_of hr
  exact dss_cons (ds_if ((dw_or (dt_not (dt_val (de_cb cl_isi (by rfl) T.n_isinstance PyProof.Rows.boot_isinstance (da_cons (dv 0) (da_cons (de_bltn (by rfl) T.n_tuple PyProof.Rows.boot_tuple) (da_nil)))))) (dw_or (dt_not (dt_ch cd_le cd_le (de_int) (de_cb cl_len (by rfl) T.n_len PySem.boot_len (da_cons (dv 0) (da_nil))) (de_glob (by rfl) T.c_MOST_PARTS))) (dw_or1 (dt_not (dt_val (de_cf T.d_is_word G_is_word (hr.mono (by omega)) (by rfl) (da_cons (de_ix hu (dv 0) (de_int)) (da_nil)))))))).pt) (dss_one (ds_ret (de_bl))) (dss_nil)) (dss_one (ds_ret (de_cb (cl_all rfl) (by rfl) T.n_all PyProof.Rows.boot_all (da_cons (de_lc (own := [("one", 1)]) (gd := gdName 1) rfl sc_is_thing.nd (tg_name) (di_seq (de_slice (dv 0) (dp_some (de_int)) (dp_none))) (blkOk_by (N := N_is_thing) (sc := defScope s_is_thing) (by decide +kernel)) (fun _ _ _ _ _ => pg_name (i := 1) sc_is_thing.nd rfl (Or.inl rfl)) (fun _ _ _ _ _ => dts_nil) (fun _ _ _ _ _ => de_cf T.d_is_worth G_is_worth (hr.mono (by omega)) (by rfl) (da_cons (dv 1) (da_nil)))) (da_nil)))))
theorem fn_is_thing (T : Pk K mg) {k : Nat} {a_is_word : ASp} {l_is_word : Nat} (G_is_word : FnOk P w K mg base CX0 l_is_word T.f_is_word T.fd_is_word ["part"] (liftF K a_is_word)) (h_is_word : l_is_word ≤ k) {a_is_worth : ASp} {l_is_worth : Nat} (G_is_worth : FnOk P w K mg base CX0 l_is_worth T.f_is_worth T.fd_is_worth ["part"] (liftF K a_is_worth)) (h_is_worth : l_is_worth ≤ k) {a : ASp} (len : ∀ ds C R, a ds C R → ds.length = 1) (rd : ∀ ds C R, a ds C R → t_is_thing a_is_word a_is_worth { nx := fun _ C' => R .non C', rt := R } (dstart N_is_thing ds) C) : FnOk P w K mg base CX0 (k + 1) T.f_is_thing T.fd_is_thing ["part"] (liftF K a) :=
  fnD T.F_is_thing sc_is_thing len fun cdv A outer s H E hr => ⟨_, dv_is_thing T G_is_word h_is_word G_is_worth h_is_worth hr, rd⟩
theorem dv_need_things (T : Pk K mg) {k : Nat} {a_is_thing : ASp} {l_is_thing : Nat} (G_is_thing : FnOk P w K mg base CX0 l_is_thing T.f_is_thing T.fd_is_thing ["part"] (liftF K a_is_thing)) (h_is_thing : l_is_thing ≤ k) {cdv : Value} {A : Around} {outer : List Env} {s : Shared} {H : Hp} {E : XK} {f : Addr} (hr : Room k (A.deeper (envOfC "need_things" (defScope s_need_things) s.heap.objs.size f cdv))) :
    PSs (cxOf CX0 P w K mg base N_need_things "need_things" (defScope s_need_things) f cdv A outer s H E).nox (defBody s_need_things) (liftS K (t_need_things a_is_thing)) := by
  have hu := hr.units
  have hu5 := hu5_of hr
  exact dss_cons (ds_if (dt_not (dt_val (de_cb cl_isi (by rfl) T.n_isinstance PyProof.Rows.boot_isinstance (da_cons (dv 0) (da_cons (de_bltn (by rfl) T.n_list PyProof.Rows.boot_list) (da_nil)))))) (dss_one (ds_never)) (dss_nil)) (dss_one (ds_for PassesOwn.never rfl (di_enum (by rfl) T.n_enumerate (da_cons (dv 0) (da_nil))) (dg_tup rfl (dgs_cons (dg_name (i := 1) sc_need_things.nd rfl (Or.inl rfl)) (dgs_cons (dg_name (i := 2) sc_need_things.nd rfl (Or.inl rfl)) (dgs_nil)))) (dss_one (ds_if ((dw_or (dt_cm (cd_eq hu) (dv 1) (de_glob (by rfl) T.c_MOST_THINGS)) (dw_or1 (dt_not (dt_val (de_cf T.d_is_thing G_is_thing (hr.mono (by omega)) (by rfl) (da_cons (dv 2) (da_nil))))))).pt) (dss_one (ds_never)) (dss_nil)))))
theorem fn_need_things (T : Pk K mg) {k : Nat} {a_is_thing : ASp} {l_is_thing : Nat} (G_is_thing : FnOk P w K mg base CX0 l_is_thing T.f_is_thing T.fd_is_thing ["part"] (liftF K a_is_thing)) (h_is_thing : l_is_thing ≤ k) {a : ASp} (len : ∀ ds C R, a ds C R → ds.length = 1) (rd : ∀ ds C R, a ds C R → t_need_things a_is_thing { nx := fun _ C' => R .non C', rt := R } (dstart N_need_things ds) C) : FnOk P w K mg base CX0 (k + 1) T.f_need_things T.fd_need_things ["things"] (liftF K a) :=
  fnD T.F_need_things sc_need_things len fun cdv A outer s H E hr => ⟨_, dv_need_things T G_is_thing h_is_thing hr, rd⟩
theorem dv_numbered (T : Pk K mg) {k : Nat} {cdv : Value} {A : Around} {outer : List Env} {s : Shared} {H : Hp} {E : XK} {f : Addr} (hr : Room k (A.deeper (envOfC "numbered" (defScope s_numbered) s.heap.objs.size f cdv))) :
    PSs (cxOf CX0 P w K mg base N_numbered "numbered" (defScope s_numbered) f cdv A outer s H E).nox (defBody s_numbered) (liftS K (t_numbered)) := by
  have hu := hr.units
  have hu5 := hu5_of hr
  exact dss_cons (ds_set (i := 1) sc_numbered.nd rfl (Or.inl rfl) (de_lstC (da_nil))) (dss_cons (ds_for PassesOwn.never rfl (di_seq (dv 0)) (dg_name (i := 2) sc_numbered.nd rfl (Or.inl rfl)) (dss_one (ds_if (dt_cm (cd_notin hu5) (dv 2) (de_lc (own := [("number", 3), ("one", 4)]) (gd := gdTup 2 (gdCons (gdName 3) (gdCons (gdName 4) (gdNil)))) rfl sc_numbered.nd (tg_tup (tgs_cons (tg_name) (tgs_cons (tg_name) (tgs_nil)))) (di_seq (dv 1)) (blkOk_by (N := N_numbered) (sc := defScope s_numbered) (by decide +kernel)) (fun _ _ _ _ _ => pg_tup rfl (pgs_cons (pg_name (i := 3) sc_numbered.nd rfl (Or.inl rfl)) (pgs_cons (pg_name (i := 4) sc_numbered.nd rfl (Or.inl rfl)) (pgs_nil)))) (fun _ _ _ _ _ => dts_nil) (fun _ _ _ _ _ => dv 4))) (dss_one (ds_expr (de_append (dv 1) (da_cons (de_tup (da_cons (de_cb cl_len (by rfl) T.n_len PySem.boot_len (da_cons (dv 1) (da_nil))) (da_cons (dv 2) (da_nil)))) (da_nil))))) (dss_nil)))) (dss_one (ds_ret (de_frz (dv 1)))))
theorem fn_numbered (T : Pk K mg) {k : Nat} {a : ASp} (len : ∀ ds C R, a ds C R → ds.length = 1) (rd : ∀ ds C R, a ds C R → t_numbered { nx := fun _ C' => lss R .non C', rt := lss R } (dstart N_numbered ds) C) : FnOk P w K mg base CX0 (k + 1) T.f_numbered T.fd_numbered ["things"] (liftF K a) :=
  fnDL T.F_numbered sc_numbered len fun cdv A outer s H E hr => ⟨_, dv_numbered T hr, rd⟩
theorem dv_is_alike (T : Pk K mg) {k : Nat} {cdv : Value} {A : Around} {outer : List Env} {s : Shared} {H : Hp} {E : XK} {f : Addr} (hr : Room k (A.deeper (envOfC "is_alike" (defScope s_is_alike) s.heap.objs.size f cdv))) :
    PSs (cxOf CX0 P w K mg base N_is_alike "is_alike" (defScope s_is_alike) f cdv A outer s H E).nox (defBody s_is_alike) (liftS K (t_is_alike)) := by
  have hu := hr.units
  have hu5 := hu5_of hr
  exact dss_one (ds_ret (de_and (de_cm (cd_eq hu) (de_ix hu (dv 0) (de_int)) (de_ix hu (dv 1) (de_int))) (de_one (de_cm (cd_eq hu) (de_cb cl_len (by rfl) T.n_len PySem.boot_len (da_cons (dv 0) (da_nil))) (de_cb cl_len (by rfl) T.n_len PySem.boot_len (da_cons (dv 1) (da_nil)))))))
theorem fn_is_alike (T : Pk K mg) {k : Nat} {a : ASp} (len : ∀ ds C R, a ds C R → ds.length = 2) (rd : ∀ ds C R, a ds C R → t_is_alike { nx := fun _ C' => R .non C', rt := R } (dstart N_is_alike ds) C) : FnOk P w K mg base CX0 (k + 1) T.f_is_alike T.fd_is_alike ["pattern", "thing"] (liftF K a) :=
  fnD T.F_is_alike sc_is_alike len fun cdv A outer s H E hr => ⟨_, dv_is_alike T hr, rd⟩
theorem dv_are_same (T : Pk K mg) {k : Nat} {cdv : Value} {A : Around} {outer : List Env} {s : Shared} {H : Hp} {E : XK} {f : Addr} (hr : Room k (A.deeper (envOfC "are_same" (defScope s_are_same) s.heap.objs.size f cdv))) :
    PSs (cxOf CX0 P w K mg base N_are_same "are_same" (defScope s_are_same) f cdv A outer s H E).nox (defBody s_are_same) (liftS K (t_are_same)) := by
  have hu := hr.units
  have hu5 := hu5_of hr
  exact dss_one (ds_ret (de_and (de_cm (cd_eq hu) (de_cb cl_isi (by rfl) T.n_isinstance PyProof.Rows.boot_isinstance (da_cons (dv 0) (da_cons (de_bltn (by rfl) T.n_str PyProof.Rows.boot_str) (da_nil)))) (de_cb cl_isi (by rfl) T.n_isinstance PyProof.Rows.boot_isinstance (da_cons (dv 1) (da_cons (de_bltn (by rfl) T.n_str PyProof.Rows.boot_str) (da_nil))))) (de_one (de_cm (cd_eq hu) (dv 0) (dv 1)))))
theorem fn_are_same (T : Pk K mg) {k : Nat} {a : ASp} (len : ∀ ds C R, a ds C R → ds.length = 2) (rd : ∀ ds C R, a ds C R → t_are_same { nx := fun _ C' => R .non C', rt := R } (dstart N_are_same ds) C) : FnOk P w K mg base CX0 (k + 1) T.f_are_same T.fd_are_same ["one", "other"] (liftF K a) :=
  fnD T.F_are_same sc_are_same len fun cdv A outer s H E hr => ⟨_, dv_are_same T hr, rd⟩
theorem dv_fitted (T : Pk K mg) {k : Nat} {a_is_alike : ASp} {l_is_alike : Nat} (G_is_alike : FnOk P w K mg base CX0 l_is_alike T.f_is_alike T.fd_is_alike ["pattern", "thing"] (liftF K a_is_alike)) (h_is_alike : l_is_alike ≤ k) {a_is_blank : ASp} {l_is_blank : Nat} (G_is_blank : FnOk P w K mg base CX0 l_is_blank T.f_is_blank T.fd_is_blank ["part"] (liftF K a_is_blank)) (h_is_blank : l_is_blank ≤ k) {a_are_same : ASp} {l_are_same : Nat} (G_are_same : FnOk P w K mg base CX0 l_are_same T.f_are_same T.fd_are_same ["one", "other"] (liftF K a_are_same)) (h_are_same : l_are_same ≤ k) {cdv : Value} {A : Around} {outer : List Env} {s : Shared} {H : Hp} {E : XK} {f : Addr} (hr : Room k (A.deeper (envOfC "fitted" (defScope s_fitted) s.heap.objs.size f cdv))) :
    PSs (cxOf CX0 P w K mg base N_fitted "fitted" (defScope s_fitted) f cdv A outer s H E).nox (defBody s_fitted) (liftS K (t_fitted a_is_alike a_is_blank a_are_same)) := by
  have hu := hr.units
  have hu5 := hu5_of hr
  exact dss_cons (ds_if (dt_not (dt_val (de_cf T.d_is_alike G_is_alike (hr.mono (by omega)) (by rfl) (da_cons (dv 0) (da_cons (dv 1) (da_nil)))))) (dss_one (ds_ret (de_non))) (dss_nil)) (dss_cons (ds_set (i := 3) sc_fitted.nd rfl (Or.inl rfl) (de_ct cl_dictC (by rfl) T.n_dict PyProof.Rows.boot_dict (da_cons (dv 2) (da_nil)))) (dss_cons (ds_for PassesOwn.never rfl (di_zip (by rfl) T.n_zip (da_cons (de_slice (dv 0) (dp_some (de_int)) (dp_none)) (da_cons (de_slice (dv 1) (dp_some (de_int)) (dp_none)) (da_nil)))) (dg_tup rfl (dgs_cons (dg_name (i := 4) sc_fitted.nd rfl (Or.inl rfl)) (dgs_cons (dg_name (i := 5) sc_fitted.nd rfl (Or.inl rfl)) (dgs_nil)))) (dss_one (ds_if (dt_val (de_cf T.d_is_blank G_is_blank (hr.mono (by omega)) (by rfl) (da_cons (dv 4) (da_nil)))) (dss_one (ds_if (dt_not (dt_val (de_cf T.d_are_same G_are_same (hr.mono (by omega)) (by rfl) (da_cons (de_setd (dv 3) (dv 4) (dv 5)) (da_cons (dv 5) (da_nil)))))) (dss_one (ds_ret (de_non))) (dss_nil))) (dss_one (ds_if ((dw_and (dt_cm (cd_ne hu) (dv 4) (de_glob (by rfl) T.c_ANY)) (dw_and1 (dt_not (dt_val (de_cf T.d_are_same G_are_same (hr.mono (by omega)) (by rfl) (da_cons (dv 4) (da_cons (dv 5) (da_nil)))))))).pt) (dss_one (ds_ret (de_non))) (dss_nil)))))) (dss_one (ds_ret (de_frz (dv 3))))))
theorem fn_fitted (T : Pk K mg) {k : Nat} {a_is_alike : ASp} {l_is_alike : Nat} (G_is_alike : FnOk P w K mg base CX0 l_is_alike T.f_is_alike T.fd_is_alike ["pattern", "thing"] (liftF K a_is_alike)) (h_is_alike : l_is_alike ≤ k) {a_is_blank : ASp} {l_is_blank : Nat} (G_is_blank : FnOk P w K mg base CX0 l_is_blank T.f_is_blank T.fd_is_blank ["part"] (liftF K a_is_blank)) (h_is_blank : l_is_blank ≤ k) {a_are_same : ASp} {l_are_same : Nat} (G_are_same : FnOk P w K mg base CX0 l_are_same T.f_are_same T.fd_are_same ["one", "other"] (liftF K a_are_same)) (h_are_same : l_are_same ≤ k) {a : ASp} (len : ∀ ds C R, a ds C R → ds.length = 3) (rd : ∀ ds C R, a ds C R → t_fitted a_is_alike a_is_blank a_are_same { nx := fun _ C' => lss R .non C', rt := lss R } (dstart N_fitted ds) C) : FnOk P w K mg base CX0 (k + 1) T.f_fitted T.fd_fitted ["pattern", "thing", "known"] (liftF K a) :=
  fnDL T.F_fitted sc_fitted len fun cdv A outer s H E hr => ⟨_, dv_fitted T G_is_alike h_is_alike G_is_blank h_is_blank G_are_same h_are_same hr, rd⟩
theorem dv_side_of (T : Pk K mg) {k : Nat} {a_is_blank : ASp} {l_is_blank : Nat} (G_is_blank : FnOk P w K mg base CX0 l_is_blank T.f_is_blank T.fd_is_blank ["part"] (liftF K a_is_blank)) (h_is_blank : l_is_blank ≤ k) {cdv : Value} {A : Around} {outer : List Env} {s : Shared} {H : Hp} {E : XK} {f : Addr} (hr : Room k (A.deeper (envOfC "side_of" (defScope s_side_of) s.heap.objs.size f cdv))) :
    PSs (cxOf CX0 P w K mg base N_side_of "side_of" (defScope s_side_of) f cdv A outer s H E).nox (defBody s_side_of) (liftS K (t_side_of a_is_blank)) := by
  have hu := hr.units
  have hu5 := hu5_of hr
  exact dss_one (ds_ret (de_ifExp (dt_val (de_cf T.d_is_blank G_is_blank (hr.mono (by omega)) (by rfl) (da_cons (dv 0) (da_nil)))) (de_ix hu (dv 1) (dv 0)) (dv 0)))
theorem fn_side_of (T : Pk K mg) {k : Nat} {a_is_blank : ASp} {l_is_blank : Nat} (G_is_blank : FnOk P w K mg base CX0 l_is_blank T.f_is_blank T.fd_is_blank ["part"] (liftF K a_is_blank)) (h_is_blank : l_is_blank ≤ k) {a : ASp} (len : ∀ ds C R, a ds C R → ds.length = 2) (rd : ∀ ds C R, a ds C R → t_side_of a_is_blank { nx := fun _ C' => R .non C', rt := R } (dstart N_side_of ds) C) : FnOk P w K mg base CX0 (k + 1) T.f_side_of T.fd_side_of ["part", "known"] (liftF K a) :=
  fnD T.F_side_of sc_side_of len fun cdv A outer s H E hr => ⟨_, dv_side_of T G_is_blank h_is_blank hr, rd⟩
theorem dv_holds (T : Pk K mg) {k : Nat} {a_side_of : ASp} {l_side_of : Nat} (G_side_of : FnOk P w K mg base CX0 l_side_of T.f_side_of T.fd_side_of ["part", "known"] (liftF K a_side_of)) (h_side_of : l_side_of ≤ k) {a_are_same : ASp} {l_are_same : Nat} (G_are_same : FnOk P w K mg base CX0 l_are_same T.f_are_same T.fd_are_same ["one", "other"] (liftF K a_are_same)) (h_are_same : l_are_same ≤ k) {cdv : Value} {A : Around} {outer : List Env} {s : Shared} {H : Hp} {E : XK} {f : Addr} (hr : Room k (A.deeper (envOfC "holds" (defScope s_holds) s.heap.objs.size f cdv))) :
    PSs (cxOf CX0 P w K mg base N_holds "holds" (defScope s_holds) f cdv A outer s H E).nox (defBody s_holds) (liftS K (t_holds a_side_of a_are_same)) := by
  have hu := hr.units
  have hu5 := hu5_of hr
  exact dss_cons (ds_par (i := 2) (j := 3) rfl sc_holds.nd rfl rfl (by decide) rfl rfl (da_cons (de_cf T.d_side_of G_side_of (hr.mono (by omega)) (by rfl) (da_cons (de_ix hu (dv 0) (de_int)) (da_cons (dv 1) (da_nil)))) (da_cons (de_cf T.d_side_of G_side_of (hr.mono (by omega)) (by rfl) (da_cons (de_ix hu (dv 0) (de_int)) (da_cons (dv 1) (da_nil)))) (da_nil))) rfl) (dss_cons (ds_if (dt_cm (cd_eq hu) (de_ix hu (dv 0) (de_int)) (de_str)) (dss_one (ds_ret (de_and (de_not (de_cb cl_isi (by rfl) T.n_isinstance PyProof.Rows.boot_isinstance (da_cons (dv 2) (da_cons (de_bltn (by rfl) T.n_str PyProof.Rows.boot_str) (da_nil))))) (de_and (de_not (de_cb cl_isi (by rfl) T.n_isinstance PyProof.Rows.boot_isinstance (da_cons (dv 3) (da_cons (de_bltn (by rfl) T.n_str PyProof.Rows.boot_str) (da_nil))))) (de_one (de_cm cd_lt (dv 2) (dv 3))))))) (dss_nil)) (dss_one (ds_ret (de_cm (cd_eq hu) (de_cf T.d_are_same G_are_same (hr.mono (by omega)) (by rfl) (da_cons (dv 2) (da_cons (dv 3) (da_nil)))) (de_cm (cd_eq hu) (de_ix hu (dv 0) (de_int)) (de_str))))))
theorem fn_holds (T : Pk K mg) {k : Nat} {a_side_of : ASp} {l_side_of : Nat} (G_side_of : FnOk P w K mg base CX0 l_side_of T.f_side_of T.fd_side_of ["part", "known"] (liftF K a_side_of)) (h_side_of : l_side_of ≤ k) {a_are_same : ASp} {l_are_same : Nat} (G_are_same : FnOk P w K mg base CX0 l_are_same T.f_are_same T.fd_are_same ["one", "other"] (liftF K a_are_same)) (h_are_same : l_are_same ≤ k) {a : ASp} (len : ∀ ds C R, a ds C R → ds.length = 2) (rd : ∀ ds C R, a ds C R → t_holds a_side_of a_are_same { nx := fun _ C' => R .non C', rt := R } (dstart N_holds ds) C) : FnOk P w K mg base CX0 (k + 1) T.f_holds T.fd_holds ["test", "known"] (liftF K a) :=
  fnD T.F_holds sc_holds len fun cdv A outer s H E hr => ⟨_, dv_holds T G_side_of h_side_of G_are_same h_are_same hr, rd⟩
theorem dv_passed (T : Pk K mg) {k : Nat} {a_fitted : ASp} {l_fitted : Nat} (G_fitted : FnOk P w K mg base CX0 l_fitted T.f_fitted T.fd_fitted ["pattern", "thing", "known"] (liftF K a_fitted)) (h_fitted : l_fitted ≤ k) {a_holds : ASp} {l_holds : Nat} (G_holds : FnOk P w K mg base CX0 l_holds T.f_holds T.fd_holds ["test", "known"] (liftF K a_holds)) (h_holds : l_holds ≤ k) {cdv : Value} {A : Around} {outer : List Env} {s : Shared} {H : Hp} {E : XK} {f : Addr} (hr : Room k (A.deeper (envOfC "passed" (defScope s_passed) s.heap.objs.size f cdv))) :
    PSs (cxOf CX0 P w K mg base N_passed "passed" (defScope s_passed) f cdv A outer s H E).nox (defBody s_passed) (liftS K (t_passed a_fitted a_holds)) := by
  have hu := hr.units
  have hu5 := hu5_of hr
  exact dss_cons (ds_set (i := 3) sc_passed.nd rfl (Or.inl rfl) (de_lstC (da_nil))) (dss_cons (ds_for PassesOwn.never rfl (di_seq (dv 1)) (dg_tup rfl (dgs_cons (dg_name (i := 4) sc_passed.nd rfl (Or.inl rfl)) (dgs_cons (dg_name (i := 5) sc_passed.nd rfl (Or.inr rfl)) (dgs_nil)))) (dss_one (ds_if (dt_cm (cd_eq hu) (de_ix hu (dv 0) (de_int)) (de_glob (by rfl) T.c_IS)) (dss_one (ds_for PassesOwn.never rfl (di_seq (dv 2)) (dg_tup rfl (dgs_cons (dg_name (i := 6) sc_passed.nd rfl (Or.inl rfl)) (dgs_cons (dg_name (i := 7) sc_passed.nd rfl (Or.inl rfl)) (dgs_nil)))) (dss_cons (ds_set (i := 8) sc_passed.nd rfl (Or.inl rfl) (de_cf T.d_fitted G_fitted (hr.mono (by omega)) (by rfl) (da_cons (de_ix hu (dv 0) (de_int)) (da_cons (dv 7) (da_cons (dv 5) (da_nil)))))) (dss_one (ds_if (dt_cm cd_isnot (dv 8) (de_non)) (dss_one (ds_expr (de_append (dv 3) (da_cons (de_tup (da_cons (de_add (dv 4) (de_tup (da_cons (dv 6) (da_nil)))) (da_cons (dv 8) (da_nil)))) (da_nil))))) (dss_nil)))))) (dss_one (ds_if (dt_cm (cd_eq hu) (de_ix hu (dv 0) (de_int)) (de_glob (by rfl) T.c_NOT)) (dss_one (ds_if (dt_val (de_cb (cl_all rfl) (by rfl) T.n_all PyProof.Rows.boot_all (da_cons (de_lc (own := [("number", 6), ("thing", 7)]) (gd := gdTup 2 (gdCons (gdName 6) (gdCons (gdName 7) (gdNil)))) rfl sc_passed.nd (tg_tup (tgs_cons (tg_name) (tgs_cons (tg_name) (tgs_nil)))) (di_seq (dv 2)) (blkOk_by (N := N_passed) (sc := defScope s_passed) (by decide +kernel)) (fun _ _ _ _ _ => pg_tup rfl (pgs_cons (pg_name (i := 6) sc_passed.nd rfl (Or.inl rfl)) (pgs_cons (pg_name (i := 7) sc_passed.nd rfl (Or.inl rfl)) (pgs_nil)))) (fun _ _ _ _ _ => dts_nil) (fun _ _ _ _ _ => de_cm cd_is (de_cf T.d_fitted G_fitted (hr.mono (by omega)) (by rfl) (da_cons (de_ix hu (dv 0) (de_int)) (da_cons (dv 7) (da_cons (dv 5) (da_nil))))) (de_non))) (da_nil)))) (dss_one (ds_expr (de_append (dv 3) (da_cons (de_tup (da_cons (dv 4) (da_cons (dv 5) (da_nil)))) (da_nil))))) (dss_nil))) (dss_one (ds_if (dt_val (de_cf T.d_holds G_holds (hr.mono (by omega)) (by rfl) (da_cons (dv 0) (da_cons (dv 5) (da_nil))))) (dss_one (ds_expr (de_append (dv 3) (da_cons (de_tup (da_cons (dv 4) (da_cons (dv 5) (da_nil)))) (da_nil))))) (dss_nil)))))))) (dss_one (ds_ret (de_frz (dv 3)))))
theorem fn_passed (T : Pk K mg) {k : Nat} {a_fitted : ASp} {l_fitted : Nat} (G_fitted : FnOk P w K mg base CX0 l_fitted T.f_fitted T.fd_fitted ["pattern", "thing", "known"] (liftF K a_fitted)) (h_fitted : l_fitted ≤ k) {a_holds : ASp} {l_holds : Nat} (G_holds : FnOk P w K mg base CX0 l_holds T.f_holds T.fd_holds ["test", "known"] (liftF K a_holds)) (h_holds : l_holds ≤ k) {a : ASp} (len : ∀ ds C R, a ds C R → ds.length = 3) (rd : ∀ ds C R, a ds C R → t_passed a_fitted a_holds { nx := fun _ C' => lss R .non C', rt := lss R } (dstart N_passed ds) C) : FnOk P w K mg base CX0 (k + 1) T.f_passed T.fd_passed ["want", "some", "things"] (liftF K a) :=
  fnDL T.F_passed sc_passed len fun cdv A outer s H E hr => ⟨_, dv_passed T G_fitted h_fitted G_holds h_holds hr, rd⟩
theorem dv_matches_of (T : Pk K mg) {k : Nat} {a_passed : ASp} {l_passed : Nat} (G_passed : FnOk P w K mg base CX0 l_passed T.f_passed T.fd_passed ["want", "some", "things"] (liftF K a_passed)) (h_passed : l_passed ≤ k) {cdv : Value} {A : Around} {outer : List Env} {s : Shared} {H : Hp} {E : XK} {f : Addr} (hr : Room k (A.deeper (envOfC "matches_of" (defScope s_matches_of) s.heap.objs.size f cdv))) :
    PSs (cxOf CX0 P w K mg base N_matches_of "matches_of" (defScope s_matches_of) f cdv A outer s H E).nox (defBody s_matches_of) (liftS K (t_matches_of a_passed)) := by
  have hu := hr.units
  have hu5 := hu5_of hr
  exact dss_cons (ds_set (i := 2) sc_matches_of.nd rfl (Or.inl rfl) (de_lstC (da_nil))) (dss_cons (ds_for PassesOwn.never rfl (di_enum (by rfl) T.n_enumerate (da_cons (dv 0) (da_nil))) (dg_tup rfl (dgs_cons (dg_name (i := 3) sc_matches_of.nd rfl (Or.inr rfl)) (dgs_cons (dg_name (i := 4) sc_matches_of.nd rfl (Or.inl rfl)) (dgs_nil)))) (dss_cons (ds_set (i := 5) sc_matches_of.nd rfl (Or.inl rfl) (de_lst (da_cons (de_tup (da_cons (de_tup (da_nil)) (da_cons (de_dct0) (da_nil)))) (da_nil)))) (dss_cons (ds_for PassesOwn.never rfl (di_seq (de_ix hu (dv 4) (de_int))) (dg_name (i := 6) sc_matches_of.nd rfl (Or.inl rfl)) (dss_one (ds_set (i := 5) sc_matches_of.nd rfl (Or.inl rfl) (de_cf T.d_passed G_passed (hr.mono (by omega)) (by rfl) (da_cons (dv 6) (da_cons (dv 5) (da_cons (dv 1) (da_nil)))))))) (dss_one (ds_expr (de_extend (dv 2) (da_cons (de_lc (own := [("numbers", 7), ("known", 8)]) (gd := gdTup 2 (gdCons (gdName 7) (gdCons (gdName 8) (gdNil)))) rfl sc_matches_of.nd (tg_tup (tgs_cons (tg_name) (tgs_cons (tg_name) (tgs_nil)))) (di_seq (dv 5)) (blkOk_by (N := N_matches_of) (sc := defScope s_matches_of) (by decide +kernel)) (fun _ _ _ _ _ => pg_tup rfl (pgs_cons (pg_name (i := 7) sc_matches_of.nd rfl (Or.inl rfl)) (pgs_cons (pg_name (i := 8) sc_matches_of.nd rfl (Or.inl rfl)) (pgs_nil)))) (fun _ _ _ _ _ => dts_nil) (fun _ _ _ _ _ => de_tup (da_cons (dv 3) (da_cons (dv 7) (da_nil))))) (da_nil)))))))) (dss_one (ds_ret (de_cb (cl_sortedC hu) (by rfl) T.n_sorted PyProof.Rows.boot_sorted (da_cons (dv 2) (da_nil))))))
theorem fn_matches_of (T : Pk K mg) {k : Nat} {a_passed : ASp} {l_passed : Nat} (G_passed : FnOk P w K mg base CX0 l_passed T.f_passed T.fd_passed ["want", "some", "things"] (liftF K a_passed)) (h_passed : l_passed ≤ k) {a : ASp} (len : ∀ ds C R, a ds C R → ds.length = 2) (rd : ∀ ds C R, a ds C R → t_matches_of a_passed { nx := fun _ C' => lss R .non C', rt := lss R } (dstart N_matches_of ds) C) : FnOk P w K mg base CX0 (k + 1) T.f_matches_of T.fd_matches_of ["rules", "things"] (liftF K a) :=
  fnDL T.F_matches_of sc_matches_of len fun cdv A outer s H E hr => ⟨_, dv_matches_of T G_passed h_passed hr, rd⟩
theorem dv_matching (T : Pk K mg) {k : Nat} {a_need_rules : ASp} {l_need_rules : Nat} (G_need_rules : FnOk P w K mg base CX0 l_need_rules T.f_need_rules T.fd_need_rules ["rules"] (liftF K a_need_rules)) (h_need_rules : l_need_rules ≤ k) {a_need_things : ASp} {l_need_things : Nat} (G_need_things : FnOk P w K mg base CX0 l_need_things T.f_need_things T.fd_need_things ["things"] (liftF K a_need_things)) (h_need_things : l_need_things ≤ k) {a_numbered : ASp} {l_numbered : Nat} (G_numbered : FnOk P w K mg base CX0 l_numbered T.f_numbered T.fd_numbered ["things"] (liftF K a_numbered)) (h_numbered : l_numbered ≤ k) {a_matches_of : ASp} {l_matches_of : Nat} (G_matches_of : FnOk P w K mg base CX0 l_matches_of T.f_matches_of T.fd_matches_of ["rules", "things"] (liftF K a_matches_of)) (h_matches_of : l_matches_of ≤ k) {cdv : Value} {A : Around} {outer : List Env} {s : Shared} {H : Hp} {E : XK} {f : Addr} (hr : Room k (A.deeper (envOfC "matching" (defScope s_matching) s.heap.objs.size f cdv))) :
    PSs (cxOf CX0 P w K mg base N_matching "matching" (defScope s_matching) f cdv A outer s H E).nox (defBody s_matching) (liftS K (t_matching a_need_rules a_need_things a_numbered a_matches_of)) := by
  have hu := hr.units
  have hu5 := hu5_of hr
  exact dss_cons (ds_expr (de_cf T.d_need_rules G_need_rules (hr.mono (by omega)) (by rfl) (da_cons (dv 0) (da_nil)))) (dss_cons (ds_expr (de_cf T.d_need_things G_need_things (hr.mono (by omega)) (by rfl) (da_cons (dv 1) (da_nil)))) (dss_one (ds_ret (de_cf T.d_matches_of G_matches_of (hr.mono (by omega)) (by rfl) (da_cons (dv 0) (da_cons (de_cf T.d_numbered G_numbered (hr.mono (by omega)) (by rfl) (da_cons (dv 1) (da_nil))) (da_nil)))))))
theorem fn_matching (T : Pk K mg) {k : Nat} {a_need_rules : ASp} {l_need_rules : Nat} (G_need_rules : FnOk P w K mg base CX0 l_need_rules T.f_need_rules T.fd_need_rules ["rules"] (liftF K a_need_rules)) (h_need_rules : l_need_rules ≤ k) {a_need_things : ASp} {l_need_things : Nat} (G_need_things : FnOk P w K mg base CX0 l_need_things T.f_need_things T.fd_need_things ["things"] (liftF K a_need_things)) (h_need_things : l_need_things ≤ k) {a_numbered : ASp} {l_numbered : Nat} (G_numbered : FnOk P w K mg base CX0 l_numbered T.f_numbered T.fd_numbered ["things"] (liftF K a_numbered)) (h_numbered : l_numbered ≤ k) {a_matches_of : ASp} {l_matches_of : Nat} (G_matches_of : FnOk P w K mg base CX0 l_matches_of T.f_matches_of T.fd_matches_of ["rules", "things"] (liftF K a_matches_of)) (h_matches_of : l_matches_of ≤ k) {a : ASp} (len : ∀ ds C R, a ds C R → ds.length = 2) (rd : ∀ ds C R, a ds C R → t_matching a_need_rules a_need_things a_numbered a_matches_of { nx := fun _ C' => R .non C', rt := R } (dstart N_matching ds) C) : FnOk P w K mg base CX0 (k + 1) T.f_matching T.fd_matching ["rules", "things"] (liftF K a) :=
  fnD T.F_matching sc_matching len fun cdv A outer s H E hr => ⟨_, dv_matching T G_need_rules h_need_rules G_need_things h_need_things G_numbered h_numbered G_matches_of h_matches_of hr, rd⟩
theorem dv_law (T : Pk K mg) {k : Nat} {a__law_row : ASp} {l__law_row : Nat} (G__law_row : FnOk P w K mg base CX0 l__law_row T.f__law_row T.fd__law_row ["_law_script"] (liftF K a__law_row)) (h__law_row : l__law_row ≤ k) {a__law_rule : ASp} {l__law_rule : Nat} (G__law_rule : FnOk P w K mg base CX0 l__law_rule T.f__law_rule T.fd__law_rule ["_law_row_here", "_law_name"] (liftF K a__law_rule)) (h__law_rule : l__law_rule ≤ k) {a__law_taken : ASp} {l__law_taken : Nat} (G__law_taken : FnOk P w K mg base CX0 l__law_taken T.f__law_taken T.fd__law_taken ["_law_row_here", "_law_many"] (liftF K a__law_taken)) (h__law_taken : l__law_taken ≤ k) {a__law_thing : ASp} {l__law_thing : Nat} (G__law_thing : FnOk P w K mg base CX0 l__law_thing T.f__law_thing T.fd__law_thing ["_law_row_here"] (liftF K a__law_thing)) (h__law_thing : l__law_thing ≤ k) {a__law_pattern : ASp} {l__law_pattern : Nat} (G__law_pattern : FnOk P w K mg base CX0 l__law_pattern T.f__law_pattern T.fd__law_pattern ["_law_row_here", "_law_letters_here"] (liftF K a__law_pattern)) (h__law_pattern : l__law_pattern ≤ k) {a_matching : ASp} {l_matching : Nat} (G_matching : FnOk P w K mg base CX0 l_matching T.f_matching T.fd_matching ["rules", "things"] (liftF K a_matching)) (h_matching : l_matching ≤ k) {a__law_letters : ASp} {l__law_letters : Nat} (G__law_letters : FnOk P w K mg base CX0 l__law_letters T.f__law_letters T.fd__law_letters ["_law_pattern_here"] (liftF K a__law_letters)) (h__law_letters : l__law_letters ≤ k) {a__law_worth : ASp} {l__law_worth : Nat} (G__law_worth : FnOk P w K mg base CX0 l__law_worth T.f__law_worth T.fd__law_worth ["_law_row_here"] (liftF K a__law_worth)) (h__law_worth : l__law_worth ≤ k) {cdv : Value} {A : Around} {outer : List Env} {s : Shared} {H : Hp} {E : XK} {f : Addr} (hr : Room k (A.deeper (envOfC "law" (defScope s_law) s.heap.objs.size f cdv))) :
    PSs (cxOf CX0 P w K mg base N_law "law" (defScope s_law) f cdv A outer s H E).nox (defBody s_law) (liftS K (t_law a__law_row a__law_rule a__law_taken a__law_thing a__law_pattern a_matching a__law_letters a__law_worth)) := by
  have hu := hr.units
  have hu5 := hu5_of hr
  exact dss_cons (ds_set (i := 1) sc_law.nd rfl (Or.inr rfl) (de_cf T.d__law_row G__law_row (hr.mono (by omega)) (by rfl) (da_cons (dv 0) (da_nil)))) (dss_cons (ds_for PassesOwn.never rfl (di_range1 (by rfl) T.n_range (da_cons (de_int) (da_nil))) (dg_name (i := 2) sc_law.nd rfl (Or.inl rfl)) (dss_cons (ds_asg (de_cf T.d__law_rule G__law_rule (hr.mono (by omega)) (by rfl) (da_cons (dv 1) (da_cons (de_str) (da_nil)))) (dg_tup rfl (dgs_cons (dg_name (i := 3) sc_law.nd rfl (Or.inl rfl)) (dgs_cons (dg_name (i := 4) sc_law.nd rfl (Or.inl rfl)) (dgs_cons (dg_name (i := 5) sc_law.nd rfl (Or.inr rfl)) (dgs_cons (dg_name (i := 6) sc_law.nd rfl (Or.inl rfl)) (dgs_nil))))))) (dss_cons (ds_setLc (i := 7) (own := [("_law_k", 22)]) (gd := gdName 22) rfl sc_law.nd rfl rfl (sw_true rfl rfl rfl (by decide +kernel)) (tg_name) (di_range1 (by rfl) T.n_range (da_cons (de_cf T.d__law_taken G__law_taken (hr.mono (by omega)) (by rfl) (da_cons (dv 1) (da_cons (de_int) (da_nil)))) (da_nil))) (blkOk_by (N := N_law) (sc := defScope s_law) (by decide +kernel)) (fun _ _ _ _ _ => pg_name (i := 22) sc_law.nd rfl (Or.inl rfl)) (fun _ _ _ _ _ => dts_nil) (fun _ _ _ _ _ => de_cf T.d__law_thing G__law_thing (hr.mono (by omega)) (by rfl) (da_cons (dv 1) (da_nil)))) (dss_cons (ds_par (i := 8) (j := 6) rfl sc_law.nd rfl rfl (by decide) rfl rfl (da_cons (de_cf T.d__law_pattern G__law_pattern (hr.mono (by omega)) (by rfl) (da_cons (dv 1) (da_cons (de_str) (da_nil)))) (da_cons (de_tup (da_cons (de_tup (da_cons (de_str) (da_cons (de_tup (da_cons (de_str) (da_nil))) (da_nil)))) (da_nil))) (da_nil))) rfl) (dss_cons (ds_set (i := 9) sc_law.nd rfl (Or.inl rfl) (de_slice (de_lc (own := [("_law_want", 14)]) (gd := gdName 14) rfl sc_law.nd (tg_name) (di_seq (dv 5)) (blkOk_by (N := N_law) (sc := defScope s_law) (by decide +kernel)) (fun _ _ _ _ _ => pg_name (i := 14) sc_law.nd rfl (Or.inl rfl)) (fun _ _ _ _ _ => dts_one ((dw_or (dt_cm cd_lt (de_cb cl_len (by rfl) T.n_len PySem.boot_len (da_cons (dv 5) (da_nil))) (de_int)) (dw_or1 (dt_cm (cd_ne hu) (dv 14) (de_ix hu (dv 5) (de_neg (de_int)))))).pt)) (fun _ _ _ _ _ => dv 14)) (dp_none) (dp_some (de_int)))) (dss_cons (ds_set (i := 10) sc_law.nd rfl (Or.inr rfl) (de_lc (own := [("_law_number", 23), ("_law_numbers", 24)]) (gd := gdTup 2 (gdCons (gdName 23) (gdCons (gdName 24) (gdNil)))) rfl sc_law.nd (tg_tup (tgs_cons (tg_name) (tgs_cons (tg_name) (tgs_nil)))) (di_seq (de_cf T.d_matching G_matching (hr.mono (by omega)) (by rfl) (da_cons (de_tup (da_cons (de_tup (da_cons (de_str) (da_cons (de_int) (da_cons (de_ct cl_tuple (by rfl) T.n_tuple PyProof.Rows.boot_tuple (da_cons (dv 9) (da_nil))) (da_cons (dv 6) (da_nil)))))) (da_nil))) (da_cons (dv 7) (da_nil))))) (blkOk_by (N := N_law) (sc := defScope s_law) (by decide +kernel)) (fun _ _ _ _ _ => pg_tup rfl (pgs_cons (pg_name (i := 23) sc_law.nd rfl (Or.inl rfl)) (pgs_cons (pg_name (i := 24) sc_law.nd rfl (Or.inl rfl)) (pgs_nil)))) (fun _ _ _ _ _ => dts_nil) (fun _ _ _ _ _ => dv 24))) (dss_cons (ds_setLc (i := 11) (own := [("_law_k", 22), ("_law_one", 25)]) (gd := gdTup 2 (gdCons (gdName 22) (gdCons (gdName 25) (gdNil)))) rfl sc_law.nd rfl rfl (sw_true rfl rfl rfl (by decide +kernel)) (tg_tup (tgs_cons (tg_name) (tgs_cons (tg_name) (tgs_nil)))) (di_seq (de_cf T.d_matching G_matching (hr.mono (by omega)) (by rfl) (da_cons (de_tup (da_cons (de_tup (da_cons (de_str) (da_cons (de_int) (da_cons (de_add (de_ct cl_tuple (by rfl) T.n_tuple PyProof.Rows.boot_tuple (da_cons (dv 9) (da_nil))) (de_tup (da_cons (de_tup (da_cons (de_str) (da_cons (dv 8) (da_nil)))) (da_nil)))) (da_cons (dv 6) (da_nil)))))) (da_nil))) (da_cons (dv 7) (da_nil))))) (blkOk_by (N := N_law) (sc := defScope s_law) (by decide +kernel)) (fun _ _ _ _ _ => pg_tup rfl (pgs_cons (pg_name (i := 22) sc_law.nd rfl (Or.inl rfl)) (pgs_cons (pg_name (i := 25) sc_law.nd rfl (Or.inl rfl)) (pgs_nil)))) (fun _ _ _ _ _ => dts_nil) (fun _ _ _ _ _ => dv 25)) (dss_cons (ds_setLc (i := 12) (own := [("_law_k", 22), ("_law_one", 25)]) (gd := gdTup 2 (gdCons (gdName 22) (gdCons (gdName 25) (gdNil)))) rfl sc_law.nd rfl rfl (sw_true rfl rfl rfl (by decide +kernel)) (tg_tup (tgs_cons (tg_name) (tgs_cons (tg_name) (tgs_nil)))) (di_seq (de_cf T.d_matching G_matching (hr.mono (by omega)) (by rfl) (da_cons (de_tup (da_cons (de_tup (da_cons (de_str) (da_cons (de_int) (da_cons (de_add (de_ct cl_tuple (by rfl) T.n_tuple PyProof.Rows.boot_tuple (da_cons (dv 9) (da_nil))) (de_tup (da_cons (de_tup (da_cons (de_str) (da_cons (dv 8) (da_nil)))) (da_nil)))) (da_cons (dv 6) (da_nil)))))) (da_nil))) (da_cons (dv 7) (da_nil))))) (blkOk_by (N := N_law) (sc := defScope s_law) (by decide +kernel)) (fun _ _ _ _ _ => pg_tup rfl (pgs_cons (pg_name (i := 22) sc_law.nd rfl (Or.inl rfl)) (pgs_cons (pg_name (i := 25) sc_law.nd rfl (Or.inl rfl)) (pgs_nil)))) (fun _ _ _ _ _ => dts_nil) (fun _ _ _ _ _ => dv 25)) (dss_cons (ds_if (dt_cm (cd_ne hu) (de_cb (cl_sorted hu) (by rfl) T.n_sorted PyProof.Rows.boot_sorted (da_cons (de_add (dv 11) (de_sortedSetT rfl hu (by rfl) T.n_sorted (by rfl) T.n_set (de_lc (own := [("_law_one", 25)]) (gd := gdName 25) rfl sc_law.nd (tg_name) (di_seq (dv 12)) (blkOk_by (N := N_law) (sc := defScope s_law) (by decide +kernel)) (fun _ _ _ _ _ => pg_name (i := 25) sc_law.nd rfl (Or.inl rfl)) (fun _ _ _ _ _ => dts_nil) (fun _ _ _ _ _ => de_slice (dv 25) (dp_none) (dp_some (de_sub (de_cb cl_len (by rfl) T.n_len PySem.boot_len (da_cons (dv 25) (da_nil))) (de_int))))))) (da_nil))) (dv 10)) (dss_one (ds_ret (de_bl))) (dss_nil)) (dss_cons (ds_set (i := 13) sc_law.nd rfl (Or.inl rfl) (de_lst (da_nil))) (dss_cons (ds_for PassesOwn.never rfl (di_seq (dv 9)) (dg_name (i := 14) sc_law.nd rfl (Or.inl rfl)) (dss_one (ds_set (i := 13) sc_law.nd rfl (Or.inl rfl) (de_add (dv 13) (de_ifExp (dt_cm (cd_eq hu) (de_ix hu (dv 14) (de_int)) (de_str)) (de_cf T.d__law_letters G__law_letters (hr.mono (by omega)) (by rfl) (da_cons (de_ix hu (dv 14) (de_int)) (da_nil))) (de_lst (da_nil))))))) (dss_one (ds_if (dt_cm (cd_ne hu) (dv 13) (de_lst (da_nil))) (dss_cons (ds_par (i := 15) (j := 16) rfl sc_law.nd rfl rfl (by decide) rfl rfl (da_cons (de_ix hu (dv 13) (de_cf T.d__law_taken G__law_taken (hr.mono (by omega)) (by rfl) (da_cons (dv 1) (da_cons (de_cb cl_len (by rfl) T.n_len PySem.boot_len (da_cons (dv 13) (da_nil))) (da_nil))))) (da_cons (de_ix hu (de_lst (da_cons (de_cf T.d__law_worth G__law_worth (hr.mono (by omega)) (by rfl) (da_cons (dv 1) (da_nil))) (da_cons (de_ix hu (dv 13) (de_int)) (da_nil)))) (de_cf T.d__law_taken G__law_taken (hr.mono (by omega)) (by rfl) (da_cons (dv 1) (da_cons (de_int) (da_nil))))) (da_nil))) rfl) (dss_cons (ds_set (i := 17) sc_law.nd rfl (Or.inl rfl) (de_lst (da_nil))) (dss_cons (ds_for PassesOwn.never rfl (di_seq (de_lst (da_cons (de_str) (da_cons (de_str) (da_nil))))) (dg_name (i := 18) sc_law.nd rfl (Or.inl rfl)) (dss_cons (ds_set (i := 19) sc_law.nd rfl (Or.inl rfl) (de_tup (da_cons (de_str) (da_cons (de_int) (da_cons (de_add (de_ct cl_tuple (by rfl) T.n_tuple PyProof.Rows.boot_tuple (da_cons (dv 9) (da_nil))) (de_tup (da_cons (de_tup (da_cons (dv 18) (da_cons (dv 15) (da_cons (dv 16) (da_nil))))) (da_nil)))) (da_cons (dv 6) (da_nil))))))) (dss_one (ds_set (i := 17) sc_law.nd rfl (Or.inl rfl) (de_add (dv 17) (de_lc (own := [("_law_k", 22), ("_law_one", 25)]) (gd := gdTup 2 (gdCons (gdName 22) (gdCons (gdName 25) (gdNil)))) rfl sc_law.nd (tg_tup (tgs_cons (tg_name) (tgs_cons (tg_name) (tgs_nil)))) (di_seq (de_cf T.d_matching G_matching (hr.mono (by omega)) (by rfl) (da_cons (de_tup (da_cons (dv 19) (da_nil))) (da_cons (dv 7) (da_nil))))) (blkOk_by (N := N_law) (sc := defScope s_law) (by decide +kernel)) (fun _ _ _ _ _ => pg_tup rfl (pgs_cons (pg_name (i := 22) sc_law.nd rfl (Or.inl rfl)) (pgs_cons (pg_name (i := 25) sc_law.nd rfl (Or.inl rfl)) (pgs_nil)))) (fun _ _ _ _ _ => dts_nil) (fun _ _ _ _ _ => dv 25))))))) (dss_cons (ds_set (i := 20) sc_law.nd rfl (Or.inl rfl) (de_lst (da_nil))) (dss_cons (ds_for PassesOwn.never rfl (di_seq (de_lst (da_cons (de_tup (da_cons (dv 15) (da_cons (dv 16) (da_nil)))) (da_cons (de_tup (da_cons (dv 16) (da_cons (dv 15) (da_nil)))) (da_nil))))) (dg_name (i := 21) sc_law.nd rfl (Or.inl rfl)) (dss_cons (ds_set (i := 19) sc_law.nd rfl (Or.inl rfl) (de_tup (da_cons (de_str) (da_cons (de_int) (da_cons (de_add (de_ct cl_tuple (by rfl) T.n_tuple PyProof.Rows.boot_tuple (da_cons (dv 9) (da_nil))) (de_tup (da_cons (de_add (de_tup (da_cons (de_str) (da_nil))) (dv 21)) (da_nil)))) (da_cons (dv 6) (da_nil))))))) (dss_one (ds_set (i := 20) sc_law.nd rfl (Or.inl rfl) (de_add (dv 20) (de_lc (own := [("_law_k", 22), ("_law_one", 25)]) (gd := gdTup 2 (gdCons (gdName 22) (gdCons (gdName 25) (gdNil)))) rfl sc_law.nd (tg_tup (tgs_cons (tg_name) (tgs_cons (tg_name) (tgs_nil)))) (di_seq (de_cf T.d_matching G_matching (hr.mono (by omega)) (by rfl) (da_cons (de_tup (da_cons (dv 19) (da_nil))) (da_cons (dv 7) (da_nil))))) (blkOk_by (N := N_law) (sc := defScope s_law) (by decide +kernel)) (fun _ _ _ _ _ => pg_tup rfl (pgs_cons (pg_name (i := 22) sc_law.nd rfl (Or.inl rfl)) (pgs_cons (pg_name (i := 25) sc_law.nd rfl (Or.inl rfl)) (pgs_nil)))) (fun _ _ _ _ _ => dts_nil) (fun _ _ _ _ _ => dv 25))))))) (dss_one (ds_if ((dw_or (dt_cm (cd_ne hu) (de_cb (cl_sorted hu) (by rfl) T.n_sorted PyProof.Rows.boot_sorted (da_cons (dv 17) (da_nil))) (dv 10)) (dw_or (dt_cm (cd_ne hu) (de_lenSetT rfl hu (by rfl) T.n_len (by rfl) T.n_set (dv 20)) (de_cb cl_len (by rfl) T.n_len PySem.boot_len (da_cons (dv 20) (da_nil)))) (dw_or1 (dt_cm (cd_ne hu) (de_lc (own := [("_law_one", 25)]) (gd := gdName 25) rfl sc_law.nd (tg_name) (di_seq (dv 20)) (blkOk_by (N := N_law) (sc := defScope s_law) (by decide +kernel)) (fun _ _ _ _ _ => pg_name (i := 25) sc_law.nd rfl (Or.inl rfl)) (fun _ _ _ _ _ => dts_one (dt_cm (cd_notin hu5) (dv 25) (dv 10))) (fun _ _ _ _ _ => dv 25)) (de_lst (da_nil)))))).pt) (dss_one (ds_ret (de_bl))) (dss_nil)))))))) (dss_nil)))))))))))))) (dss_one (ds_ret (de_bl))))
theorem fn_law (T : Pk K mg) {k : Nat} {a__law_row : ASp} {l__law_row : Nat} (G__law_row : FnOk P w K mg base CX0 l__law_row T.f__law_row T.fd__law_row ["_law_script"] (liftF K a__law_row)) (h__law_row : l__law_row ≤ k) {a__law_rule : ASp} {l__law_rule : Nat} (G__law_rule : FnOk P w K mg base CX0 l__law_rule T.f__law_rule T.fd__law_rule ["_law_row_here", "_law_name"] (liftF K a__law_rule)) (h__law_rule : l__law_rule ≤ k) {a__law_taken : ASp} {l__law_taken : Nat} (G__law_taken : FnOk P w K mg base CX0 l__law_taken T.f__law_taken T.fd__law_taken ["_law_row_here", "_law_many"] (liftF K a__law_taken)) (h__law_taken : l__law_taken ≤ k) {a__law_thing : ASp} {l__law_thing : Nat} (G__law_thing : FnOk P w K mg base CX0 l__law_thing T.f__law_thing T.fd__law_thing ["_law_row_here"] (liftF K a__law_thing)) (h__law_thing : l__law_thing ≤ k) {a__law_pattern : ASp} {l__law_pattern : Nat} (G__law_pattern : FnOk P w K mg base CX0 l__law_pattern T.f__law_pattern T.fd__law_pattern ["_law_row_here", "_law_letters_here"] (liftF K a__law_pattern)) (h__law_pattern : l__law_pattern ≤ k) {a_matching : ASp} {l_matching : Nat} (G_matching : FnOk P w K mg base CX0 l_matching T.f_matching T.fd_matching ["rules", "things"] (liftF K a_matching)) (h_matching : l_matching ≤ k) {a__law_letters : ASp} {l__law_letters : Nat} (G__law_letters : FnOk P w K mg base CX0 l__law_letters T.f__law_letters T.fd__law_letters ["_law_pattern_here"] (liftF K a__law_letters)) (h__law_letters : l__law_letters ≤ k) {a__law_worth : ASp} {l__law_worth : Nat} (G__law_worth : FnOk P w K mg base CX0 l__law_worth T.f__law_worth T.fd__law_worth ["_law_row_here"] (liftF K a__law_worth)) (h__law_worth : l__law_worth ≤ k) {a : ASp} (len : ∀ ds C R, a ds C R → ds.length = 1) (rd : ∀ ds C R, a ds C R → t_law a__law_row a__law_rule a__law_taken a__law_thing a__law_pattern a_matching a__law_letters a__law_worth { nx := fun _ C' => R .non C', rt := R } (dstart N_law ds) C) : FnOk P w K mg base CX0 (k + 1) T.f_law T.fd_law ["_law_script"] (liftF K a) :=
  fnD T.F_law sc_law len fun cdv A outer s H E hr => ⟨_, dv_law T G__law_row h__law_row G__law_rule h__law_rule G__law_taken h__law_taken G__law_thing h__law_thing G__law_pattern h__law_pattern G_matching h_matching G__law_letters h__law_letters G__law_worth h__law_worth hr, rd⟩
end
end RR
namespace RR
open PySem PySem.Spec L2 DL
open PyProof.Rows hiding St kindOf
section
variable {P : Program} {w : World} {K : PySem.W.Frag} {mg : Str → Option Value} {base : Heap}
local macro_rules | `(tactic| walk_at "len") => `(tactic| (intro ds C R h; first | (obtain ⟨e, _⟩ := h; subst e; rfl) | (obtain ⟨_, e, _⟩ := h; subst e; rfl) | (obtain ⟨_, _, e, _⟩ := h; subst e; rfl) | (obtain ⟨_, _, _, e, _⟩ := h; subst e; rfl) | (obtain ⟨_, _, _, _, e, _⟩ := h; subst e; rfl) | (obtain ⟨_, _, _, _, _, e, _⟩ := h; subst e; rfl) | (obtain ⟨_, _, _, _, _, _, e, _⟩ := h; subst e; rfl) | (obtain ⟨_, _, _, _, _, _, _, e, _⟩ := h; subst e; rfl) | (obtain ⟨_, _, _, _, _, _, _, _, e, _⟩ := h; subst e; rfl) | (obtain ⟨_, _, _, _, _, _, _, _, _, e, _⟩ := h; subst e; rfl) | (obtain ⟨_, _, _, _, _, _, _, _, _, _, e, _⟩ := h; subst e; rfl) | (obtain ⟨_, _, _, _, _, _, _, _, _, _, _, e, _⟩ := h; subst e; rfl) | (obtain ⟨_, _, _, _, _, _, _, _, _, _, _, _, e, _⟩ := h; subst e; rfl) | (obtain ⟨_, _, _, _, _, _, _, _, _, _, _, _, _, e, _⟩ := h; subst e; rfl) | (obtain ⟨_, _, _, _, _, _, _, _, _, _, _, _, _, _, e, _⟩ := h; subst e; rfl) | (obtain ⟨_, _, _, _, _, _, _, _, _, _, _, _, _, _, _, e, _⟩ := h; subst e; rfl) | (obtain ⟨_, _, _, _, _, _, _, _, _, _, _, _, _, _, _, _, e, _⟩ := h; subst e; rfl)))
theorem ok__law_row (T : Pk K mg) : FnOk P w K mg base CX0 1 T.f__law_row T.fd__law_row ["_law_script"] (liftF K a__law_row) := fn__law_row T (k := 0)  (by walk_at "len") rd__law_row
theorem ok__law_taken (T : Pk K mg) : FnOk P w K mg base CX0 1 T.f__law_taken T.fd__law_taken ["_law_row_here", "_law_many"] (liftF K a__law_taken) := fn__law_taken T (k := 0)  (by walk_at "len") rd__law_taken
theorem ok__law_worth (T : Pk K mg) : FnOk P w K mg base CX0 2 T.f__law_worth T.fd__law_worth ["_law_row_here"] (liftF K a__law_worth) := fn__law_worth T (k := 1) (ok__law_taken T) (by omega) (by walk_at "len") rd__law_worth
theorem ok__law_pattern (T : Pk K mg) : FnOk P w K mg base CX0 3 T.f__law_pattern T.fd__law_pattern ["_law_row_here", "_law_letters_here"] (liftF K a__law_pattern) := fn__law_pattern T (k := 2) (ok__law_taken T) (by omega) (ok__law_worth T) (by omega) (by walk_at "len") rd__law_pattern
theorem ok__law_letters (T : Pk K mg) : FnOk P w K mg base CX0 1 T.f__law_letters T.fd__law_letters ["_law_pattern_here"] (liftF K a__law_letters) := fn__law_letters T (k := 0)  (by walk_at "len") rd__law_letters
theorem ok__law_template (T : Pk K mg) : FnOk P w K mg base CX0 3 T.f__law_template T.fd__law_template ["_law_row_here", "_law_known"] (liftF K a__law_template) := fn__law_template T (k := 2) (ok__law_taken T) (by omega) (ok__law_worth T) (by omega) (by walk_at "len") rd__law_template
theorem ok__law_rule (T : Pk K mg) : FnOk P w K mg base CX0 4 T.f__law_rule T.fd__law_rule ["_law_row_here", "_law_name"] (liftF K a__law_rule) := fn__law_rule T (k := 3) (ok__law_taken T) (by omega) (ok__law_pattern T) (by omega) (ok__law_letters T) (by omega) (ok__law_worth T) (by omega) (ok__law_template T) (by omega) (by walk_at "len") rd__law_rule
theorem ok__law_thing (T : Pk K mg) : FnOk P w K mg base CX0 3 T.f__law_thing T.fd__law_thing ["_law_row_here"] (liftF K a__law_thing) := fn__law_thing T (k := 2) (ok__law_taken T) (by omega) (ok__law_worth T) (by omega) (by walk_at "len") rd__law_thing
theorem ok_is_word (T : Pk K mg) : FnOk P w K mg base CX0 1 T.f_is_word T.fd_is_word ["part"] (liftF K a_is_word) := fn_is_word T (k := 0)  (by walk_at "len") rd_is_word
theorem ok_is_number (T : Pk K mg) : FnOk P w K mg base CX0 1 T.f_is_number T.fd_is_number ["part", "low", "high"] (liftF K a_is_number) := fn_is_number T (k := 0)  (by walk_at "len") rd_is_number
theorem ok_is_worth (T : Pk K mg) : FnOk P w K mg base CX0 2 T.f_is_worth T.fd_is_worth ["part"] (liftF K a_is_worth) := fn_is_worth T (k := 1) (ok_is_word T) (by omega) (ok_is_number T) (by omega) (by walk_at "len") rd_is_worth
theorem ok_is_blank (T : Pk K mg) : FnOk P w K mg base CX0 1 T.f_is_blank T.fd_is_blank ["part"] (liftF K a_is_blank) := fn_is_blank T (k := 0)  (by walk_at "len") rd_is_blank
theorem ok_is_pattern (T : Pk K mg) : FnOk P w K mg base CX0 3 T.f_is_pattern T.fd_is_pattern ["part"] (liftF K a_is_pattern) := fn_is_pattern T (k := 2) (ok_is_word T) (by omega) (ok_is_worth T) (by omega) (ok_is_blank T) (by omega) (by walk_at "len") rd_is_pattern
theorem ok_is_side (T : Pk K mg) : FnOk P w K mg base CX0 3 T.f_is_side T.fd_is_side ["part", "known"] (liftF K a_is_side) := fn_is_side T (k := 2) (ok_is_worth T) (by omega) (ok_is_blank T) (by omega) (by walk_at "len") rd_is_side
theorem ok_is_want (T : Pk K mg) : FnOk P w K mg base CX0 4 T.f_is_want T.fd_is_want ["want", "known"] (liftF K a_is_want) := fn_is_want T (k := 3) (ok_is_pattern T) (by omega) (ok_is_side T) (by omega) (by walk_at "len") rd_is_want
theorem ok_blanks_of (T : Pk K mg) : FnOk P w K mg base CX0 2 T.f_blanks_of T.fd_blanks_of ["pattern"] (liftF K a_blanks_of) := fn_blanks_of T (k := 1) (ok_is_blank T) (by omega) (by walk_at "len") rd_blanks_of
theorem ok_is_template (T : Pk K mg) : FnOk P w K mg base CX0 4 T.f_is_template T.fd_is_template ["part", "known"] (liftF K a_is_template) := fn_is_template T (k := 3) (ok_is_word T) (by omega) (ok_is_blank T) (by omega) (ok_is_number T) (by omega) (ok_is_side T) (by omega) (by walk_at "len") rd_is_template
theorem ok_is_deed (T : Pk K mg) : FnOk P w K mg base CX0 5 T.f_is_deed T.fd_is_deed ["deed", "wants", "known"] (liftF K a_is_deed) := fn_is_deed T (k := 4) (ok_is_number T) (by omega) (ok_is_template T) (by omega) (by walk_at "len") rd_is_deed
theorem ok_bad_part (T : Pk K mg) : FnOk P w K mg base CX0 6 T.f_bad_part T.fd_bad_part ["rule", "names"] (liftF K a_bad_part) := fn_bad_part T (k := 5) (ok_is_word T) (by omega) (ok_is_number T) (by omega) (ok_is_want T) (by omega) (ok_blanks_of T) (by omega) (ok_is_deed T) (by omega) (by walk_at "len") rd_bad_part
theorem ok_need_rules (T : Pk K mg) : FnOk P w K mg base CX0 7 T.f_need_rules T.fd_need_rules ["rules"] (liftF K a_need_rules) := fn_need_rules T (k := 6) (ok_bad_part T) (by omega) (by walk_at "len") rd_need_rules
theorem ok_is_thing (T : Pk K mg) : FnOk P w K mg base CX0 3 T.f_is_thing T.fd_is_thing ["part"] (liftF K a_is_thing) := fn_is_thing T (k := 2) (ok_is_word T) (by omega) (ok_is_worth T) (by omega) (by walk_at "len") rd_is_thing
theorem ok_need_things (T : Pk K mg) : FnOk P w K mg base CX0 4 T.f_need_things T.fd_need_things ["things"] (liftF K a_need_things) := fn_need_things T (k := 3) (ok_is_thing T) (by omega) (by walk_at "len") rd_need_things
theorem ok_numbered (T : Pk K mg) : FnOk P w K mg base CX0 1 T.f_numbered T.fd_numbered ["things"] (liftF K a_numbered) := fn_numbered T (k := 0)  (by walk_at "len") rd_numbered
theorem ok_is_alike (T : Pk K mg) : FnOk P w K mg base CX0 1 T.f_is_alike T.fd_is_alike ["pattern", "thing"] (liftF K a_is_alike) := fn_is_alike T (k := 0)  (by walk_at "len") rd_is_alike
theorem ok_are_same (T : Pk K mg) : FnOk P w K mg base CX0 1 T.f_are_same T.fd_are_same ["one", "other"] (liftF K a_are_same) := fn_are_same T (k := 0)  (by walk_at "len") rd_are_same
theorem ok_fitted (T : Pk K mg) : FnOk P w K mg base CX0 2 T.f_fitted T.fd_fitted ["pattern", "thing", "known"] (liftF K a_fitted) := fn_fitted T (k := 1) (ok_is_alike T) (by omega) (ok_is_blank T) (by omega) (ok_are_same T) (by omega) (by walk_at "len") rd_fitted
theorem ok_side_of (T : Pk K mg) : FnOk P w K mg base CX0 2 T.f_side_of T.fd_side_of ["part", "known"] (liftF K a_side_of) := fn_side_of T (k := 1) (ok_is_blank T) (by omega) (by walk_at "len") rd_side_of
theorem ok_holds (T : Pk K mg) : FnOk P w K mg base CX0 3 T.f_holds T.fd_holds ["test", "known"] (liftF K a_holds) := fn_holds T (k := 2) (ok_side_of T) (by omega) (ok_are_same T) (by omega) (by walk_at "len") rd_holds
theorem ok_passed (T : Pk K mg) : FnOk P w K mg base CX0 4 T.f_passed T.fd_passed ["want", "some", "things"] (liftF K a_passed) := fn_passed T (k := 3) (ok_fitted T) (by omega) (ok_holds T) (by omega) (by walk_at "len") rd_passed
theorem ok_matches_of (T : Pk K mg) : FnOk P w K mg base CX0 5 T.f_matches_of T.fd_matches_of ["rules", "things"] (liftF K a_matches_of) := fn_matches_of T (k := 4) (ok_passed T) (by omega) (by walk_at "len") rd_matches_of
theorem ok_matching (T : Pk K mg) : FnOk P w K mg base CX0 8 T.f_matching T.fd_matching ["rules", "things"] (liftF K a_matching) := fn_matching T (k := 7) (ok_need_rules T) (by omega) (ok_need_things T) (by omega) (ok_numbered T) (by omega) (ok_matches_of T) (by omega) (by walk_at "len") rd_matching
theorem ok_law (T : Pk K mg) : FnOk P w K mg base CX0 9 T.f_law T.fd_law ["_law_script"] (liftF K a_law) := fn_law T (k := 8) (ok__law_row T) (by omega) (ok__law_rule T) (by omega) (ok__law_taken T) (by omega) (ok__law_thing T) (by omega) (ok__law_pattern T) (by omega) (ok_matching T) (by omega) (ok__law_letters T) (by omega) (ok__law_worth T) (by omega) (by walk_at "len") rd_law
end
end RR
namespace RR
open PySem PySem.Spec L2 DL
open PyProof.Rows hiding St kindOf
/-- a def as the top has made it -/
def DefAt (K : PySem.W.Frag) (x : Str) (st : Stmt) : Prop := ∃ (f : Addr) (od an : Option Addr) (sl : Array (Option Value)) (oc kV dc pm cd ct : Value), PySem.W.nsIn K mainGlobals x = some (some (.ref f)) ∧ K.lookup f = some ⟨oc, od, .func (PySem.W.fnOf x x (defArgs st) (defBody st) (defScope st) .none kV dc pm an cd ct), sl⟩ ∧ PySem.W.codeIn K cd x = true ∧ PySem.W.keepIn K (.ref f) = true
theorem def_at {K : PySem.W.Frag} {x : Str} {st : Stmt} {f : Addr} {od an : Option Addr} {sl : Array (Option Value)} {oc kV dc pm cd ct : Value} (a : PySem.W.nsIn K mainGlobals x = some (some (.ref f))) (l : K.lookup f = some ⟨oc, od, .func (PySem.W.fnOf x x (defArgs st) (defBody st) (defScope st) .none kV dc pm an cd ct), sl⟩) (c : PySem.W.codeIn K cd x = true) (k : PySem.W.keepIn K (.ref f) = true) : DefAt K x st :=
  ⟨f, od, an, sl, oc, kV, dc, pm, cd, ct, a, l, c, k⟩
theorem DefAt.mk {K : PySem.W.Frag} {h : Heap} {mg : Str → Option Value} {x : Str} {st : Stmt} {ps : List Str} (X : K.In h) (G : h.Ns mainGlobals mg) (d : DefAt K x st)
    (hb : ∀ (f : Addr) (fd : FuncData), Fun K x x st f fd → Binds K fd ps []) : ∃ (f : Addr) (fd : FuncData), Fun K x x st f fd ∧ Df K mg x f fd ps ∧ ∃ (kV dc pm cd ct : Value) (an : Option Addr), fd = PySem.W.fnOf x x (defArgs st) (defBody st) (defScope st) .none kV dc pm an cd ct := by
  obtain ⟨f, od, an, sl, oc, kV, dc, pm, cd, ct, a, l, c, k⟩ := d
  have F := fun_mk (st := st) l c k
  exact ⟨f, _, F, ⟨PySem.W.mg_of X G a, k, hb f _ F⟩, kV, dc, pm, cd, ct, an, rfl⟩
def IntAt (K : PySem.W.Frag) (x : Str) (i : Int) : Prop := ∃ t, PySem.W.nsIn K mainGlobals x = some (some (.int i t))
theorem int_at {K : PySem.W.Frag} {x : Str} {i : Int} {t : Tok} (a : PySem.W.nsIn K mainGlobals x = some (some (.int i t))) : IntAt K x i := ⟨t, a⟩
theorem IntAt.mk {K : PySem.W.Frag} {h : Heap} {mg : Str → Option Value} {x : Str} {i : Int} (X : K.In h) (G : h.Ns mainGlobals mg) (d : IntAt K x i) : GlD K mg x (.int i) := by
  obtain ⟨t, a⟩ := d
  exact ⟨.int i, _, PySem.W.mg_of X G a, ⟨t, rfl⟩, fun _ => .int i⟩
def StrAt (K : PySem.W.Frag) (x : Str) (z : Str) : Prop := ∃ t, PySem.W.nsIn K mainGlobals x = some (some (.str z t))
theorem str_at {K : PySem.W.Frag} {x z : Str} {t : Tok} (a : PySem.W.nsIn K mainGlobals x = some (some (.str z t))) : StrAt K x z := ⟨t, a⟩
theorem StrAt.mk {K : PySem.W.Frag} {h : Heap} {mg : Str → Option Value} {x z : Str} (X : K.In h) (G : h.Ns mainGlobals mg) (d : StrAt K x z) : GlD K mg x (.str z) := by
  obtain ⟨t, a⟩ := d
  exact ⟨.str z, _, PySem.W.mg_of X G a, ⟨t, rfl⟩, fun _ => .str z⟩
def Tup3At (K : PySem.W.Frag) (x z1 z2 z3 : Str) : Prop := ∃ (a : Addr) (od : Option Addr) (sl : Array (Option Value)) (t1 t2 t3 : Tok) (n : Nat), PySem.W.nsIn K mainGlobals x = some (some (.ref a)) ∧ K.lookup a = some ⟨.type "tuple", od, .seq #[.str z1 t1, .str z2 t2, .str z3 t3] n, sl⟩
theorem tup3_at {K : PySem.W.Frag} {x z1 z2 z3 : Str} {a : Addr} {od : Option Addr} {sl : Array (Option Value)} {t1 t2 t3 : Tok} {n : Nat} (h : PySem.W.nsIn K mainGlobals x = some (some (.ref a))) (l : K.lookup a = some ⟨.type "tuple", od, .seq #[.str z1 t1, .str z2 t2, .str z3 t3] n, sl⟩) : Tup3At K x z1 z2 z3 := ⟨a, od, sl, t1, t2, t3, n, h, l⟩
theorem Tup3At.mk {K : PySem.W.Frag} {h : Heap} {mg : Str → Option Value} {x z1 z2 z3 : Str} (X : K.In h) (G : h.Ns mainGlobals mg) (d : Tup3At K x z1 z2 z3) : GlD K mg x (.tup [.str z1, .str z2, .str z3]) := by
  obtain ⟨a, od, sl, t1, t2, t3, n, h1, h2⟩ := d
  refine ⟨.ref a, _, PySem.W.mg_of X G h1, rfl, fun _ => .tup (xs := [.str z1, .str z2, .str z3]) (.inr ⟨_, _, n, h2, rfl, rfl, by rw [sizeLine_eq]; simp, ?_⟩) (.cons (.str z1) (.cons (.str z2) (.cons (.str z3) .nil)))⟩
  exact .cons ⟨t1, rfl⟩ (.cons ⟨t2, rfl⟩ (.cons ⟨t3, rfl⟩ .nil))
/-- no such name of the module's own: the built-in one -/
def NoAt (K : PySem.W.Frag) (x : Str) : Prop := PySem.W.nsIn K mainGlobals x = some none
/-- a method as the top has made it -/
def MthAt (K : PySem.W.Frag) (C : Addr) (m q : Str) (st : Stmt) : Prop := ∃ (f : Addr) (od an : Option Addr) (sl : Array (Option Value)) (oc kV dc pm cd ct : Value), PySem.W.findIn K (.ref C) m = some (some (.ref f)) ∧ PySem.W.isFn K (.ref f) = true ∧ K.lookup f = some ⟨oc, od, .func (PySem.W.fnOf m q (defArgs st) (defBody st) (defScope st) .none kV dc pm an cd ct), sl⟩ ∧ PySem.W.codeIn K cd q = true ∧ PySem.W.keepIn K (.ref f) = true
theorem MthAt.mk {K : PySem.W.Frag} {C : Addr} {m q : Str} {st : Stmt} {ps : List Str} (d : MthAt K C m q st)
    (hb : ∀ (f : Addr) (fd : FuncData), Fun K m q st f fd → Binds K fd ps []) : ∃ (f : Addr) (fd : FuncData), Fun K m q st f fd ∧ Binds K fd ps [] ∧ Meth K C m f := by
  obtain ⟨f, od, an, sl, oc, kV, dc, pm, cd, ct, a, i, l, c, k⟩ := d
  have F := fun_mk (st := st) l c k
  exact ⟨f, _, F, hb f _ F, ⟨a, i, k⟩⟩
/-- a method that makes a lambda, its code object told -/
def MthAtC (K : PySem.W.Frag) (C : Addr) (m q : Str) (st : Stmt) (c : Addr) : Prop := ∃ (f : Addr) (od an : Option Addr) (sl : Array (Option Value)) (oc kV dc pm ct : Value), PySem.W.findIn K (.ref C) m = some (some (.ref f)) ∧ PySem.W.isFn K (.ref f) = true ∧ K.lookup f = some ⟨oc, od, .func (PySem.W.fnOf m q (defArgs st) (defBody st) (defScope st) .none kV dc pm an (.ref c) ct), sl⟩ ∧ PySem.W.codeIn K (.ref c) q = true ∧ PySem.W.keepIn K (.ref f) = true
theorem MthAtC.mk {K : PySem.W.Frag} {C c : Addr} {m q : Str} {st : Stmt} {ps : List Str} (d : MthAtC K C m q st c)
    (hb : ∀ (f : Addr) (fd : FuncData), Fun K m q st f fd → Binds K fd ps []) : ∃ (f : Addr) (fd : FuncData), Fun K m q st f fd ∧ FunC K m q st f fd (.ref c) ∧ Binds K fd ps [] ∧ Meth K C m f := by
  obtain ⟨f, od, an, sl, oc, kV, dc, pm, ct, a, i, l, cc, k⟩ := d
  have F := fun_mk (st := st) l cc k
  exact ⟨f, _, F, funC_mk l cc, hb f _ F, ⟨a, i, k⟩⟩
/-- a def that makes a lambda, its code object told -/
def DefAtC (K : PySem.W.Frag) (x : Str) (st : Stmt) (c : Addr) : Prop := ∃ (f : Addr) (od an : Option Addr) (sl : Array (Option Value)) (oc kV dc pm ct : Value), PySem.W.nsIn K mainGlobals x = some (some (.ref f)) ∧ K.lookup f = some ⟨oc, od, .func (PySem.W.fnOf x x (defArgs st) (defBody st) (defScope st) .none kV dc pm an (.ref c) ct), sl⟩ ∧ PySem.W.codeIn K (.ref c) x = true ∧ PySem.W.keepIn K (.ref f) = true
theorem DefAtC.mk {K : PySem.W.Frag} {h : Heap} {mg : Str → Option Value} {x : Str} {st : Stmt} {c : Addr} {ps : List Str} (X : K.In h) (G : h.Ns mainGlobals mg) (d : DefAtC K x st c)
    (hb : ∀ (f : Addr) (fd : FuncData), Fun K x x st f fd → Binds K fd ps []) : ∃ (f : Addr) (fd : FuncData), Fun K x x st f fd ∧ Df K mg x f fd ps ∧ FunC K x x st f fd (.ref c) ∧ ∃ (kV dc pm cd ct : Value) (an : Option Addr), fd = PySem.W.fnOf x x (defArgs st) (defBody st) (defScope st) .none kV dc pm an cd ct := by
  obtain ⟨f, od, an, sl, oc, kV, dc, pm, ct, a, l, cc, k⟩ := d
  have F := fun_mk (st := st) l cc k
  exact ⟨f, _, F, ⟨PySem.W.mg_of X G a, k, hb f _ F⟩, funC_mk l cc, kV, dc, pm, .ref c, ct, an, rfl⟩
theorem len1 {α : Type} {us : List α} (hl : us.length = 1) : ∃ a0, us = [a0] := match us, hl with | [a0], _ => ⟨a0, rfl⟩
theorem len2 {α : Type} {us : List α} (hl : us.length = 2) : ∃ a0 a1, us = [a0, a1] := match us, hl with | [a0, a1], _ => ⟨a0, a1, rfl⟩
theorem len3 {α : Type} {us : List α} (hl : us.length = 3) : ∃ a0 a1 a2, us = [a0, a1, a2] := match us, hl with | [a0, a1, a2], _ => ⟨a0, a1, a2, rfl⟩
theorem all_mk {P : Program} {w : World} {K : PySem.W.Frag} {h : Heap} {mg : Str → Option Value} {fa : Addr} (X : K.In h) (G : h.Ns mainGlobals mg) (hfa : mg "law" = some (.ref fa)) (h__law_row : DefAt K "_law_row" s__law_row) (h__law_taken : DefAt K "_law_taken" s__law_taken) (h__law_worth : DefAt K "_law_worth" s__law_worth) (h__law_pattern : DefAt K "_law_pattern" s__law_pattern) (h__law_letters : DefAt K "_law_letters" s__law_letters) (h__law_template : DefAt K "_law_template" s__law_template) (h__law_rule : DefAt K "_law_rule" s__law_rule) (h__law_thing : DefAt K "_law_thing" s__law_thing) (h_is_word : DefAt K "is_word" s_is_word) (h_is_number : DefAt K "is_number" s_is_number) (h_is_worth : DefAt K "is_worth" s_is_worth) (h_is_blank : DefAt K "is_blank" s_is_blank) (h_is_pattern : DefAt K "is_pattern" s_is_pattern) (h_is_side : DefAt K "is_side" s_is_side) (h_is_want : DefAt K "is_want" s_is_want) (h_blanks_of : DefAt K "blanks_of" s_blanks_of) (h_is_template : DefAt K "is_template" s_is_template) (h_is_deed : DefAt K "is_deed" s_is_deed) (h_bad_part : DefAt K "bad_part" s_bad_part) (h_need_rules : DefAt K "need_rules" s_need_rules) (h_is_thing : DefAt K "is_thing" s_is_thing) (h_need_things : DefAt K "need_things" s_need_things) (h_numbered : DefAt K "numbered" s_numbered) (h_is_alike : DefAt K "is_alike" s_is_alike) (h_are_same : DefAt K "are_same" s_are_same) (h_fitted : DefAt K "fitted" s_fitted) (h_side_of : DefAt K "side_of" s_side_of) (h_holds : DefAt K "holds" s_holds) (h_passed : DefAt K "passed" s_passed) (h_matches_of : DefAt K "matches_of" s_matches_of) (h_matching : DefAt K "matching" s_matching) (h_law : DefAt K "law" s_law) (h_len : NoAt K "len") (h_range : NoAt K "range") (h_isinstance : NoAt K "isinstance") (h_str : NoAt K "str") (h_tuple : NoAt K "tuple") (h_all : NoAt K "all") (h_int : NoAt K "int") (h_bool : NoAt K "bool") (h_enumerate : NoAt K "enumerate") (h_list : NoAt K "list") (h_dict : NoAt K "dict") (h_zip : NoAt K "zip") (h_sorted : NoAt K "sorted") (h_set : NoAt K "set") (h_MOST_LETTERS : IntAt K "MOST_LETTERS" (4)) (h_SMALL : StrAt K "SMALL" "abcdefghijklmnopqrstuvwxyz") (h_MOST_NUMBER : IntAt K "MOST_NUMBER" (99)) (h_GREAT : StrAt K "GREAT" "ABCDEFGHIJKLMNOPQRSTUVWXYZ") (h_MOST_PARTS : IntAt K "MOST_PARTS" (5)) (h_ANY : StrAt K "ANY" "_") (h_NOT : StrAt K "NOT" "not") (h_IS : StrAt K "IS" "is") (h_TESTS : Tup3At K "TESTS" "less" "same" "unlike") (h_TAKE : StrAt K "TAKE" "take") (h_TELLERS : Tup3At K "TELLERS" "add" "hold" "say") (h_MOST_RANK : IntAt K "MOST_RANK" (9)) (h_MOST_WANTS : IntAt K "MOST_WANTS" (5)) (h_MOST_DEEDS : IntAt K "MOST_DEEDS" (4)) (h_MOST_RULES : IntAt K "MOST_RULES" (8)) (h_MOST_THINGS : IntAt K "MOST_THINGS" (30)) :
    ∃ fd : FuncData, (∀ (s : Shared) (v : Value), BindsTo s fd ⟨[v], []⟩ [("_law_script", v)]) ∧ ∀ base : Heap, K.In base → base.Ns mainGlobals mg → FnOk P w K mg base CX0 9 fa fd ["_law_script"] (liftF K a_law) := by
  obtain ⟨f__law_row, fd__law_row, F__law_row, d__law_row, e__law_row⟩ := h__law_row.mk (ps := ["_law_script"]) X G fun _ _ F => F.binds (ps := ["_law_script"]) fun _ _ _ _ _ _ us hl => by obtain ⟨_, rfl⟩ := RR.len1 hl; rfl
  obtain ⟨f__law_taken, fd__law_taken, F__law_taken, d__law_taken, e__law_taken⟩ := h__law_taken.mk (ps := ["_law_row_here", "_law_many"]) X G fun _ _ F => F.binds (ps := ["_law_row_here", "_law_many"]) fun _ _ _ _ _ _ us hl => by obtain ⟨_, _, rfl⟩ := RR.len2 hl; rfl
  obtain ⟨f__law_worth, fd__law_worth, F__law_worth, d__law_worth, e__law_worth⟩ := h__law_worth.mk (ps := ["_law_row_here"]) X G fun _ _ F => F.binds (ps := ["_law_row_here"]) fun _ _ _ _ _ _ us hl => by obtain ⟨_, rfl⟩ := RR.len1 hl; rfl
  obtain ⟨f__law_pattern, fd__law_pattern, F__law_pattern, d__law_pattern, e__law_pattern⟩ := h__law_pattern.mk (ps := ["_law_row_here", "_law_letters_here"]) X G fun _ _ F => F.binds (ps := ["_law_row_here", "_law_letters_here"]) fun _ _ _ _ _ _ us hl => by obtain ⟨_, _, rfl⟩ := RR.len2 hl; rfl
  obtain ⟨f__law_letters, fd__law_letters, F__law_letters, d__law_letters, e__law_letters⟩ := h__law_letters.mk (ps := ["_law_pattern_here"]) X G fun _ _ F => F.binds (ps := ["_law_pattern_here"]) fun _ _ _ _ _ _ us hl => by obtain ⟨_, rfl⟩ := RR.len1 hl; rfl
  obtain ⟨f__law_template, fd__law_template, F__law_template, d__law_template, e__law_template⟩ := h__law_template.mk (ps := ["_law_row_here", "_law_known"]) X G fun _ _ F => F.binds (ps := ["_law_row_here", "_law_known"]) fun _ _ _ _ _ _ us hl => by obtain ⟨_, _, rfl⟩ := RR.len2 hl; rfl
  obtain ⟨f__law_rule, fd__law_rule, F__law_rule, d__law_rule, e__law_rule⟩ := h__law_rule.mk (ps := ["_law_row_here", "_law_name"]) X G fun _ _ F => F.binds (ps := ["_law_row_here", "_law_name"]) fun _ _ _ _ _ _ us hl => by obtain ⟨_, _, rfl⟩ := RR.len2 hl; rfl
  obtain ⟨f__law_thing, fd__law_thing, F__law_thing, d__law_thing, e__law_thing⟩ := h__law_thing.mk (ps := ["_law_row_here"]) X G fun _ _ F => F.binds (ps := ["_law_row_here"]) fun _ _ _ _ _ _ us hl => by obtain ⟨_, rfl⟩ := RR.len1 hl; rfl
  obtain ⟨f_is_word, fd_is_word, F_is_word, d_is_word, e_is_word⟩ := h_is_word.mk (ps := ["part"]) X G fun _ _ F => F.binds (ps := ["part"]) fun _ _ _ _ _ _ us hl => by obtain ⟨_, rfl⟩ := RR.len1 hl; rfl
  obtain ⟨f_is_number, fd_is_number, F_is_number, d_is_number, e_is_number⟩ := h_is_number.mk (ps := ["part", "low", "high"]) X G fun _ _ F => F.binds (ps := ["part", "low", "high"]) fun _ _ _ _ _ _ us hl => by obtain ⟨_, _, _, rfl⟩ := RR.len3 hl; rfl
  obtain ⟨f_is_worth, fd_is_worth, F_is_worth, d_is_worth, e_is_worth⟩ := h_is_worth.mk (ps := ["part"]) X G fun _ _ F => F.binds (ps := ["part"]) fun _ _ _ _ _ _ us hl => by obtain ⟨_, rfl⟩ := RR.len1 hl; rfl
  obtain ⟨f_is_blank, fd_is_blank, F_is_blank, d_is_blank, e_is_blank⟩ := h_is_blank.mk (ps := ["part"]) X G fun _ _ F => F.binds (ps := ["part"]) fun _ _ _ _ _ _ us hl => by obtain ⟨_, rfl⟩ := RR.len1 hl; rfl
  obtain ⟨f_is_pattern, fd_is_pattern, F_is_pattern, d_is_pattern, e_is_pattern⟩ := h_is_pattern.mk (ps := ["part"]) X G fun _ _ F => F.binds (ps := ["part"]) fun _ _ _ _ _ _ us hl => by obtain ⟨_, rfl⟩ := RR.len1 hl; rfl
  obtain ⟨f_is_side, fd_is_side, F_is_side, d_is_side, e_is_side⟩ := h_is_side.mk (ps := ["part", "known"]) X G fun _ _ F => F.binds (ps := ["part", "known"]) fun _ _ _ _ _ _ us hl => by obtain ⟨_, _, rfl⟩ := RR.len2 hl; rfl
  obtain ⟨f_is_want, fd_is_want, F_is_want, d_is_want, e_is_want⟩ := h_is_want.mk (ps := ["want", "known"]) X G fun _ _ F => F.binds (ps := ["want", "known"]) fun _ _ _ _ _ _ us hl => by obtain ⟨_, _, rfl⟩ := RR.len2 hl; rfl
  obtain ⟨f_blanks_of, fd_blanks_of, F_blanks_of, d_blanks_of, e_blanks_of⟩ := h_blanks_of.mk (ps := ["pattern"]) X G fun _ _ F => F.binds (ps := ["pattern"]) fun _ _ _ _ _ _ us hl => by obtain ⟨_, rfl⟩ := RR.len1 hl; rfl
  obtain ⟨f_is_template, fd_is_template, F_is_template, d_is_template, e_is_template⟩ := h_is_template.mk (ps := ["part", "known"]) X G fun _ _ F => F.binds (ps := ["part", "known"]) fun _ _ _ _ _ _ us hl => by obtain ⟨_, _, rfl⟩ := RR.len2 hl; rfl
  obtain ⟨f_is_deed, fd_is_deed, F_is_deed, d_is_deed, e_is_deed⟩ := h_is_deed.mk (ps := ["deed", "wants", "known"]) X G fun _ _ F => F.binds (ps := ["deed", "wants", "known"]) fun _ _ _ _ _ _ us hl => by obtain ⟨_, _, _, rfl⟩ := RR.len3 hl; rfl
  obtain ⟨f_bad_part, fd_bad_part, F_bad_part, d_bad_part, e_bad_part⟩ := h_bad_part.mk (ps := ["rule", "names"]) X G fun _ _ F => F.binds (ps := ["rule", "names"]) fun _ _ _ _ _ _ us hl => by obtain ⟨_, _, rfl⟩ := RR.len2 hl; rfl
  obtain ⟨f_need_rules, fd_need_rules, F_need_rules, d_need_rules, e_need_rules⟩ := h_need_rules.mk (ps := ["rules"]) X G fun _ _ F => F.binds (ps := ["rules"]) fun _ _ _ _ _ _ us hl => by obtain ⟨_, rfl⟩ := RR.len1 hl; rfl
  obtain ⟨f_is_thing, fd_is_thing, F_is_thing, d_is_thing, e_is_thing⟩ := h_is_thing.mk (ps := ["part"]) X G fun _ _ F => F.binds (ps := ["part"]) fun _ _ _ _ _ _ us hl => by obtain ⟨_, rfl⟩ := RR.len1 hl; rfl
  obtain ⟨f_need_things, fd_need_things, F_need_things, d_need_things, e_need_things⟩ := h_need_things.mk (ps := ["things"]) X G fun _ _ F => F.binds (ps := ["things"]) fun _ _ _ _ _ _ us hl => by obtain ⟨_, rfl⟩ := RR.len1 hl; rfl
  obtain ⟨f_numbered, fd_numbered, F_numbered, d_numbered, e_numbered⟩ := h_numbered.mk (ps := ["things"]) X G fun _ _ F => F.binds (ps := ["things"]) fun _ _ _ _ _ _ us hl => by obtain ⟨_, rfl⟩ := RR.len1 hl; rfl
  obtain ⟨f_is_alike, fd_is_alike, F_is_alike, d_is_alike, e_is_alike⟩ := h_is_alike.mk (ps := ["pattern", "thing"]) X G fun _ _ F => F.binds (ps := ["pattern", "thing"]) fun _ _ _ _ _ _ us hl => by obtain ⟨_, _, rfl⟩ := RR.len2 hl; rfl
  obtain ⟨f_are_same, fd_are_same, F_are_same, d_are_same, e_are_same⟩ := h_are_same.mk (ps := ["one", "other"]) X G fun _ _ F => F.binds (ps := ["one", "other"]) fun _ _ _ _ _ _ us hl => by obtain ⟨_, _, rfl⟩ := RR.len2 hl; rfl
  obtain ⟨f_fitted, fd_fitted, F_fitted, d_fitted, e_fitted⟩ := h_fitted.mk (ps := ["pattern", "thing", "known"]) X G fun _ _ F => F.binds (ps := ["pattern", "thing", "known"]) fun _ _ _ _ _ _ us hl => by obtain ⟨_, _, _, rfl⟩ := RR.len3 hl; rfl
  obtain ⟨f_side_of, fd_side_of, F_side_of, d_side_of, e_side_of⟩ := h_side_of.mk (ps := ["part", "known"]) X G fun _ _ F => F.binds (ps := ["part", "known"]) fun _ _ _ _ _ _ us hl => by obtain ⟨_, _, rfl⟩ := RR.len2 hl; rfl
  obtain ⟨f_holds, fd_holds, F_holds, d_holds, e_holds⟩ := h_holds.mk (ps := ["test", "known"]) X G fun _ _ F => F.binds (ps := ["test", "known"]) fun _ _ _ _ _ _ us hl => by obtain ⟨_, _, rfl⟩ := RR.len2 hl; rfl
  obtain ⟨f_passed, fd_passed, F_passed, d_passed, e_passed⟩ := h_passed.mk (ps := ["want", "some", "things"]) X G fun _ _ F => F.binds (ps := ["want", "some", "things"]) fun _ _ _ _ _ _ us hl => by obtain ⟨_, _, _, rfl⟩ := RR.len3 hl; rfl
  obtain ⟨f_matches_of, fd_matches_of, F_matches_of, d_matches_of, e_matches_of⟩ := h_matches_of.mk (ps := ["rules", "things"]) X G fun _ _ F => F.binds (ps := ["rules", "things"]) fun _ _ _ _ _ _ us hl => by obtain ⟨_, _, rfl⟩ := RR.len2 hl; rfl
  obtain ⟨f_matching, fd_matching, F_matching, d_matching, e_matching⟩ := h_matching.mk (ps := ["rules", "things"]) X G fun _ _ F => F.binds (ps := ["rules", "things"]) fun _ _ _ _ _ _ us hl => by obtain ⟨_, _, rfl⟩ := RR.len2 hl; rfl
  obtain ⟨f_law, fd_law, F_law, d_law, e_law⟩ := h_law.mk (ps := ["_law_script"]) X G fun _ _ F => F.binds (ps := ["_law_script"]) fun _ _ _ _ _ _ us hl => by obtain ⟨_, rfl⟩ := RR.len1 hl; rfl
  have e := hfa.symm.trans d_law.mg
  cases e
  obtain ⟨kV, dc, pm, cd, ct, an, e⟩ := e_law
  let T : Pk K mg := {
    f__law_row := f__law_row, fd__law_row := fd__law_row, F__law_row := F__law_row, d__law_row := d__law_row,
    f__law_taken := f__law_taken, fd__law_taken := fd__law_taken, F__law_taken := F__law_taken, d__law_taken := d__law_taken,
    f__law_worth := f__law_worth, fd__law_worth := fd__law_worth, F__law_worth := F__law_worth, d__law_worth := d__law_worth,
    f__law_pattern := f__law_pattern, fd__law_pattern := fd__law_pattern, F__law_pattern := F__law_pattern, d__law_pattern := d__law_pattern,
    f__law_letters := f__law_letters, fd__law_letters := fd__law_letters, F__law_letters := F__law_letters, d__law_letters := d__law_letters,
    f__law_template := f__law_template, fd__law_template := fd__law_template, F__law_template := F__law_template, d__law_template := d__law_template,
    f__law_rule := f__law_rule, fd__law_rule := fd__law_rule, F__law_rule := F__law_rule, d__law_rule := d__law_rule,
    f__law_thing := f__law_thing, fd__law_thing := fd__law_thing, F__law_thing := F__law_thing, d__law_thing := d__law_thing,
    f_is_word := f_is_word, fd_is_word := fd_is_word, F_is_word := F_is_word, d_is_word := d_is_word,
    f_is_number := f_is_number, fd_is_number := fd_is_number, F_is_number := F_is_number, d_is_number := d_is_number,
    f_is_worth := f_is_worth, fd_is_worth := fd_is_worth, F_is_worth := F_is_worth, d_is_worth := d_is_worth,
    f_is_blank := f_is_blank, fd_is_blank := fd_is_blank, F_is_blank := F_is_blank, d_is_blank := d_is_blank,
    f_is_pattern := f_is_pattern, fd_is_pattern := fd_is_pattern, F_is_pattern := F_is_pattern, d_is_pattern := d_is_pattern,
    f_is_side := f_is_side, fd_is_side := fd_is_side, F_is_side := F_is_side, d_is_side := d_is_side,
    f_is_want := f_is_want, fd_is_want := fd_is_want, F_is_want := F_is_want, d_is_want := d_is_want,
    f_blanks_of := f_blanks_of, fd_blanks_of := fd_blanks_of, F_blanks_of := F_blanks_of, d_blanks_of := d_blanks_of,
    f_is_template := f_is_template, fd_is_template := fd_is_template, F_is_template := F_is_template, d_is_template := d_is_template,
    f_is_deed := f_is_deed, fd_is_deed := fd_is_deed, F_is_deed := F_is_deed, d_is_deed := d_is_deed,
    f_bad_part := f_bad_part, fd_bad_part := fd_bad_part, F_bad_part := F_bad_part, d_bad_part := d_bad_part,
    f_need_rules := f_need_rules, fd_need_rules := fd_need_rules, F_need_rules := F_need_rules, d_need_rules := d_need_rules,
    f_is_thing := f_is_thing, fd_is_thing := fd_is_thing, F_is_thing := F_is_thing, d_is_thing := d_is_thing,
    f_need_things := f_need_things, fd_need_things := fd_need_things, F_need_things := F_need_things, d_need_things := d_need_things,
    f_numbered := f_numbered, fd_numbered := fd_numbered, F_numbered := F_numbered, d_numbered := d_numbered,
    f_is_alike := f_is_alike, fd_is_alike := fd_is_alike, F_is_alike := F_is_alike, d_is_alike := d_is_alike,
    f_are_same := f_are_same, fd_are_same := fd_are_same, F_are_same := F_are_same, d_are_same := d_are_same,
    f_fitted := f_fitted, fd_fitted := fd_fitted, F_fitted := F_fitted, d_fitted := d_fitted,
    f_side_of := f_side_of, fd_side_of := fd_side_of, F_side_of := F_side_of, d_side_of := d_side_of,
    f_holds := f_holds, fd_holds := fd_holds, F_holds := F_holds, d_holds := d_holds,
    f_passed := f_passed, fd_passed := fd_passed, F_passed := F_passed, d_passed := d_passed,
    f_matches_of := f_matches_of, fd_matches_of := fd_matches_of, F_matches_of := F_matches_of, d_matches_of := d_matches_of,
    f_matching := f_matching, fd_matching := fd_matching, F_matching := F_matching, d_matching := d_matching,
    f_law := fa, fd_law := fd_law, F_law := F_law, d_law := d_law,
    n_len := PySem.W.mg_none_of X G h_len,
    n_range := PySem.W.mg_none_of X G h_range,
    n_isinstance := PySem.W.mg_none_of X G h_isinstance,
    n_str := PySem.W.mg_none_of X G h_str,
    n_tuple := PySem.W.mg_none_of X G h_tuple,
    n_all := PySem.W.mg_none_of X G h_all,
    n_int := PySem.W.mg_none_of X G h_int,
    n_bool := PySem.W.mg_none_of X G h_bool,
    n_enumerate := PySem.W.mg_none_of X G h_enumerate,
    n_list := PySem.W.mg_none_of X G h_list,
    n_dict := PySem.W.mg_none_of X G h_dict,
    n_zip := PySem.W.mg_none_of X G h_zip,
    n_sorted := PySem.W.mg_none_of X G h_sorted,
    n_set := PySem.W.mg_none_of X G h_set,
    c_MOST_LETTERS := h_MOST_LETTERS.mk X G,
    c_SMALL := h_SMALL.mk X G,
    c_MOST_NUMBER := h_MOST_NUMBER.mk X G,
    c_GREAT := h_GREAT.mk X G,
    c_MOST_PARTS := h_MOST_PARTS.mk X G,
    c_ANY := h_ANY.mk X G,
    c_NOT := h_NOT.mk X G,
    c_IS := h_IS.mk X G,
    c_TESTS := h_TESTS.mk X G,
    c_TAKE := h_TAKE.mk X G,
    c_TELLERS := h_TELLERS.mk X G,
    c_MOST_RANK := h_MOST_RANK.mk X G,
    c_MOST_WANTS := h_MOST_WANTS.mk X G,
    c_MOST_DEEDS := h_MOST_DEEDS.mk X G,
    c_MOST_RULES := h_MOST_RULES.mk X G,
    c_MOST_THINGS := h_MOST_THINGS.mk X G }
  exact ⟨fd_law, fun s v => by rw [e]; exact .of_eq rfl, fun base _ _ => ok_law T⟩
def isListCls : Value → Bool
  | .type n => n == "list"
  | _ => false
/-- the top has written no list -/
def noLists (K : PySem.W.Frag) : Bool := K.all fun p => !isListCls p.2.cls
theorem look_mem {α : Type} {a : Addr} {o : α} : ∀ {K : List (Addr × α)}, K.lookup a = some o → ∃ b, (b, o) ∈ K
  | [], h => by cases h
  | (b, x) :: K, h => by
    rw [List.lookup_cons] at h
    split at h
    · cases h; exact ⟨b, List.mem_cons_self⟩
    · obtain ⟨c, hc⟩ := look_mem h
      exact ⟨c, List.mem_cons_of_mem _ hc⟩
theorem rd_of {K : PySem.W.Frag} {H : Hp} {a : Addr} {xs : List V} (hK : noLists K = true) (hS : SqL K H a xs) : Rd H a (.lst xs) := by
  rcases hS with h | ⟨o, its, n, h1, h2, _⟩
  · exact h
  · exfalso
    obtain ⟨b, hb⟩ := look_mem h1
    have := List.all_eq_true.mp hK _ hb
    rw [h2] at this
    cases this
/-- the script, as the machine hands it in -/
theorem script_in {K : PySem.W.Frag} {H : Hp} {a : Addr} {ns : List Int} (hK : noLists K = true) (hl : ns.length ≤ 63) (hS : SqL K H a (ns.map V.int)) : liftF K a_law [.ref a] H (fun v _ => v = .bl true) fun _ _ _ => False := by
  refine ⟨fun _ => none, H, [.lst (ns.map .int)], fun _ => none, fun d _ => d = .bl true, ⟨fun _ _ e => e, fun _ _ e => (by cases e), fun _ _ e => by cases e⟩, ?_, ⟨ns, rfl, by omega, fun _ => rfl⟩, ?_⟩
  · refine .cons (.lst (xs := ns.map V.int) (rd_of hK hS) ?_) .nil
    clear hS hl
    induction ns with
    | nil => exact .nil
    | cons n ns ih => exact .cons (.int n) ih
  · rintro d C rfl v H' G' s' A' r
    cases r
    rfl
theorem walk {l : PySem.W.OpenLaw} {q : Program} {loose : List Str} {XP : (Str → Option Value) → Heap → Prop} {YP : World → Heap → Prop} {d : DefRec} {K : Params → PySem.W.Frag} (hn : l.most = some 63) (hdf : d.params.defaults = [])
    (hY : ∀ (w : World) (h : Heap), YP w h → (K w.params).In h) (hN : ∀ w : World, noLists (K w.params) = true)
    (F : ∀ (w : World) (mg : Str → Option Value) (fa : Addr) (h : Heap), (K w.params).In h → h.Ns mainGlobals mg → mg d.name = some (.ref fa) →
      ∃ fd : FuncData, (∀ (s : Shared) (u : Value), BindsTo s fd ⟨[u], []⟩ [("_law_script", u)]) ∧ ∀ base : Heap, (K w.params).In base → base.Ns mainGlobals mg → FnOk l.prog w (K w.params) mg base CX0 9 fa fd ["_law_script"] (liftF (K w.params) a_law)) :
    PySem.W.WalkO q loose XP YP l.row.toRowW d [] (fun f vs => PySem.call f vs) :=
  L2.walk_of (n := 63) (k := 9) (x := "_law_script") (CX := fun _ => CX0) (sp := fun w => liftF (K w.params) a_law) hn (by decide) hdf ⟨rfl, by decide, by decide⟩ hY F (fun _ _ a ns hl _ hS => script_in (hN _) hl hS) fun _ _ _ _ _ z => z
abbrev qv : Program := PySem.W.view (PySem.W.OpenLaw.row PySem.Challenge.rw_ruleroom_k25_whole_wants_told_otherwise).prog [55]
def names0 : List Str := ["__name__", "RoomError", "BadThing", "BadRules", "MOST_LETTERS", "MOST_PARTS", "MOST_NUMBER", "MOST_THINGS", "SMALL", "GREAT", "ANY", "is_number", "is_word", "is_worth", "is_blank", "is_thing", "is_pattern", "need_things", "are_same", "is_alike", "fitted", "MOST_RULES", "MOST_WANTS", "MOST_DEEDS", "MOST_RANK", "IS", "NOT", "TESTS", "TELLERS", "TAKE"]
def names1 : List Str := ["blanks_of", "is_side", "is_want", "is_template", "is_deed", "bad_part", "need_rules", "side_of", "holds", "passed", "matches_of", "numbered", "matching", "_law_row", "_law_taken", "_law_worth", "_law_pattern", "_law_letters", "_law_template", "_law_rule", "_law_thing"]
def topNames : List Str := names0 ++ names1
theorem obM_eq (K : Params → PySem.W.Frag) (as : List Addr) (e : ∀ P, as = (K P).map (·.1)) (ts : List Addr) (s : PySem.W.SharedT) : ((as.map (HandSHeadRun.getT s), ts.map (HandSHeadRun.getT s)) : List (Option Obj) × List (Option Obj)) = (PySem.W.kmHook K as e ts).obs s.abs := by
  have h : HandSHeadRun.getT s = s.abs.heap.get? := funext (HandSHeadRun.getT_eq s)
  rw [h]
  rfl
theorem obK_eq (K : Params → PySem.W.Frag) (as : List Addr) (e : ∀ P, as = (K P).map (·.1)) (s : PySem.W.SharedT) : (as.map (HandSHeadRun.getT s) : List (Option Obj)) = (PySem.W.kHook K as e).obs s.abs := by
  have h : HandSHeadRun.getT s = s.abs.heap.get? := funext (HandSHeadRun.getT_eq s)
  rw [h]
  rfl
end RR
open PySem PySem.W PyProof.Rows
local macro_rules | `(tactic| o_head $H:term) => `(tactic| refine HandSHeadRun.head_any (r := PySem.W.OpenLaw.row PySem.Challenge.rw_ruleroom_k25_whole_wants_told_otherwise) (q := RR.qv) (H := $H) (ob := _) (M := 20000) (loose := RR.topNames) (d := HandSHeadRun.topDef (PySem.W.OpenLaw.row PySem.Challenge.rw_ruleroom_k25_whole_wants_told_otherwise).prog 55) (kwd := [])
  (fun s => by first | exact RR.obM_eq _ _ _ _ s | exact RR.obK_eq _ _ _ s) (by kernel_rfl) (fun s => by kernel_rfl) (fun w => by intro os; kernel_rfl) (by kernel_rfl) (by kernel_rfl) (by kernel_rfl) (by rfl) (by first | assumption | decide +kernel) (by decide +kernel) ⟨rfl, rfl, rfl, rfl, rfl, by decide +kernel⟩ (by w_witness2) ?_)
set_option maxRecDepth 100000 in
set_option maxHeartbeats 0 in
theorem PySem.Challenge.cw_ruleroom_k25_whole_wants_told_otherwise_holds : PySem.Challenge.rw_ruleroom_k25_whole_wants_told_otherwise.Holds := by
  w_on; o_law; k_head
  k_fill
  refine RR.walk (l := PySem.Challenge.rw_ruleroom_k25_whole_wants_told_otherwise) rfl (by kernel_rfl) (fun w h Y => (by first | exact PySem.W.kIn_of Y | exact PySem.W.km_in_of Y)) ?noL ?F
  case noL => (intro w; rfl)
  case F =>
    intro w mg fa h KX G hmg0
    have hmg : mg ("law" : PySem.Str) = some (.ref fa) := by
      have e : (HandSHeadRun.topDef (PySem.W.OpenLaw.row PySem.Challenge.rw_ruleroom_k25_whole_wants_told_otherwise).prog 55).name = ("law" : PySem.Str) := by kernel_rfl
      rw [← e]
      exact hmg0
    refine' RR.all_mk KX G hmg ?h__law_row ?h__law_taken ?h__law_worth ?h__law_pattern ?h__law_letters ?h__law_template ?h__law_rule ?h__law_thing ?h_is_word ?h_is_number ?h_is_worth ?h_is_blank ?h_is_pattern ?h_is_side ?h_is_want ?h_blanks_of ?h_is_template ?h_is_deed ?h_bad_part ?h_need_rules ?h_is_thing ?h_need_things ?h_numbered ?h_is_alike ?h_are_same ?h_fitted ?h_side_of ?h_holds ?h_passed ?h_matches_of ?h_matching ?h_law ?h_len ?h_range ?h_isinstance ?h_str ?h_tuple ?h_all ?h_int ?h_bool ?h_enumerate ?h_list ?h_dict ?h_zip ?h_sorted ?h_set ?h_MOST_LETTERS ?h_SMALL ?h_MOST_NUMBER ?h_GREAT ?h_MOST_PARTS ?h_ANY ?h_NOT ?h_IS ?h_TESTS ?h_TAKE ?h_TELLERS ?h_MOST_RANK ?h_MOST_WANTS ?h_MOST_DEEDS ?h_MOST_RULES ?h_MOST_THINGS
    case h__law_row => (refine' RR.def_at ?a ?l ?c ?k; (case a => k_is); (case l => k_is); (case c => k_is); (case k => k_is))
    case h__law_taken => (refine' RR.def_at ?a ?l ?c ?k; (case a => k_is); (case l => k_is); (case c => k_is); (case k => k_is))
    case h__law_worth => (refine' RR.def_at ?a ?l ?c ?k; (case a => k_is); (case l => k_is); (case c => k_is); (case k => k_is))
    case h__law_pattern => (refine' RR.def_at ?a ?l ?c ?k; (case a => k_is); (case l => k_is); (case c => k_is); (case k => k_is))
    case h__law_letters => (refine' RR.def_at ?a ?l ?c ?k; (case a => k_is); (case l => k_is); (case c => k_is); (case k => k_is))
    case h__law_template => (refine' RR.def_at ?a ?l ?c ?k; (case a => k_is); (case l => k_is); (case c => k_is); (case k => k_is))
    case h__law_rule => (refine' RR.def_at ?a ?l ?c ?k; (case a => k_is); (case l => k_is); (case c => k_is); (case k => k_is))
    case h__law_thing => (refine' RR.def_at ?a ?l ?c ?k; (case a => k_is); (case l => k_is); (case c => k_is); (case k => k_is))
    case h_is_word => (refine' RR.def_at ?a ?l ?c ?k; (case a => k_is); (case l => k_is); (case c => k_is); (case k => k_is))
    case h_is_number => (refine' RR.def_at ?a ?l ?c ?k; (case a => k_is); (case l => k_is); (case c => k_is); (case k => k_is))
    case h_is_worth => (refine' RR.def_at ?a ?l ?c ?k; (case a => k_is); (case l => k_is); (case c => k_is); (case k => k_is))
    case h_is_blank => (refine' RR.def_at ?a ?l ?c ?k; (case a => k_is); (case l => k_is); (case c => k_is); (case k => k_is))
    case h_is_pattern => (refine' RR.def_at ?a ?l ?c ?k; (case a => k_is); (case l => k_is); (case c => k_is); (case k => k_is))
    case h_is_side => (refine' RR.def_at ?a ?l ?c ?k; (case a => k_is); (case l => k_is); (case c => k_is); (case k => k_is))
    case h_is_want => (refine' RR.def_at ?a ?l ?c ?k; (case a => k_is); (case l => k_is); (case c => k_is); (case k => k_is))
    case h_blanks_of => (refine' RR.def_at ?a ?l ?c ?k; (case a => k_is); (case l => k_is); (case c => k_is); (case k => k_is))
    case h_is_template => (refine' RR.def_at ?a ?l ?c ?k; (case a => k_is); (case l => k_is); (case c => k_is); (case k => k_is))
    case h_is_deed => (refine' RR.def_at ?a ?l ?c ?k; (case a => k_is); (case l => k_is); (case c => k_is); (case k => k_is))
    case h_bad_part => (refine' RR.def_at ?a ?l ?c ?k; (case a => k_is); (case l => k_is); (case c => k_is); (case k => k_is))
    case h_need_rules => (refine' RR.def_at ?a ?l ?c ?k; (case a => k_is); (case l => k_is); (case c => k_is); (case k => k_is))
    case h_is_thing => (refine' RR.def_at ?a ?l ?c ?k; (case a => k_is); (case l => k_is); (case c => k_is); (case k => k_is))
    case h_need_things => (refine' RR.def_at ?a ?l ?c ?k; (case a => k_is); (case l => k_is); (case c => k_is); (case k => k_is))
    case h_numbered => (refine' RR.def_at ?a ?l ?c ?k; (case a => k_is); (case l => k_is); (case c => k_is); (case k => k_is))
    case h_is_alike => (refine' RR.def_at ?a ?l ?c ?k; (case a => k_is); (case l => k_is); (case c => k_is); (case k => k_is))
    case h_are_same => (refine' RR.def_at ?a ?l ?c ?k; (case a => k_is); (case l => k_is); (case c => k_is); (case k => k_is))
    case h_fitted => (refine' RR.def_at ?a ?l ?c ?k; (case a => k_is); (case l => k_is); (case c => k_is); (case k => k_is))
    case h_side_of => (refine' RR.def_at ?a ?l ?c ?k; (case a => k_is); (case l => k_is); (case c => k_is); (case k => k_is))
    case h_holds => (refine' RR.def_at ?a ?l ?c ?k; (case a => k_is); (case l => k_is); (case c => k_is); (case k => k_is))
    case h_passed => (refine' RR.def_at ?a ?l ?c ?k; (case a => k_is); (case l => k_is); (case c => k_is); (case k => k_is))
    case h_matches_of => (refine' RR.def_at ?a ?l ?c ?k; (case a => k_is); (case l => k_is); (case c => k_is); (case k => k_is))
    case h_matching => (refine' RR.def_at ?a ?l ?c ?k; (case a => k_is); (case l => k_is); (case c => k_is); (case k => k_is))
    case h_law => (refine' RR.def_at ?a ?l ?c ?k; (case a => k_is); (case l => k_is); (case c => k_is); (case k => k_is))
    case h_len => (show PySem.W.nsIn _ _ _ = _; k_is)
    case h_range => (show PySem.W.nsIn _ _ _ = _; k_is)
    case h_isinstance => (show PySem.W.nsIn _ _ _ = _; k_is)
    case h_str => (show PySem.W.nsIn _ _ _ = _; k_is)
    case h_tuple => (show PySem.W.nsIn _ _ _ = _; k_is)
    case h_all => (show PySem.W.nsIn _ _ _ = _; k_is)
    case h_int => (show PySem.W.nsIn _ _ _ = _; k_is)
    case h_bool => (show PySem.W.nsIn _ _ _ = _; k_is)
    case h_enumerate => (show PySem.W.nsIn _ _ _ = _; k_is)
    case h_list => (show PySem.W.nsIn _ _ _ = _; k_is)
    case h_dict => (show PySem.W.nsIn _ _ _ = _; k_is)
    case h_zip => (show PySem.W.nsIn _ _ _ = _; k_is)
    case h_sorted => (show PySem.W.nsIn _ _ _ = _; k_is)
    case h_set => (show PySem.W.nsIn _ _ _ = _; k_is)
    case h_MOST_LETTERS => (refine' RR.int_at ?a; (case a => k_is))
    case h_SMALL => (refine' RR.str_at ?a; (case a => k_is))
    case h_MOST_NUMBER => (refine' RR.int_at ?a; (case a => k_is))
    case h_GREAT => (refine' RR.str_at ?a; (case a => k_is))
    case h_MOST_PARTS => (refine' RR.int_at ?a; (case a => k_is))
    case h_ANY => (refine' RR.str_at ?a; (case a => k_is))
    case h_NOT => (refine' RR.str_at ?a; (case a => k_is))
    case h_IS => (refine' RR.str_at ?a; (case a => k_is))
    case h_TESTS => (refine' RR.tup3_at ?h ?l; (case h => k_is); (case l => k_is))
    case h_TAKE => (refine' RR.str_at ?a; (case a => k_is))
    case h_TELLERS => (refine' RR.tup3_at ?h ?l; (case h => k_is); (case l => k_is))
    case h_MOST_RANK => (refine' RR.int_at ?a; (case a => k_is))
    case h_MOST_WANTS => (refine' RR.int_at ?a; (case a => k_is))
    case h_MOST_DEEDS => (refine' RR.int_at ?a; (case a => k_is))
    case h_MOST_RULES => (refine' RR.int_at ?a; (case a => k_is))
    case h_MOST_THINGS => (refine' RR.int_at ?a; (case a => k_is))
