import PyProof.Rows.All
import Wide.All
import OpenK.AllK
import Wide.FinOn
import KE.KDictKeyed
import KE.KDictItemsList
import KE.SortKeyHeap
import HandS.ForMost
import HandS.Conv
import HandS.Star
import HandS.IsInst
import HandS.Deep
import HandS.DictComp
import HandS.Defaults
import KE.KDictSum
import HandS.SortKw
import HandS.Zip
import KE.KStateDown
import Lean
import HandS.Base
import HandS.Call
import HandS.Ends
import HandS.More
import HandS.Words
import HandS.WordsExc
import HandS.Head0
import HandS.Head1
import HandS.Head2
import HandS.HeadEnd
import HandS.HeadHook1
import HandS.HeadHook2
import PySem.Challenge.RW_backwardrow_k24_whole_every_beginning_is
import HandS.TupAny
import HandS.Sort
import HandS.Walk
set_option Elab.async false
set_option linter.all false
set_option maxRecDepth 100000
namespace BW
/-- what stands in one half of a folded worth: None, a worth of the inner row, or what lies beyond its end -/
inductive D where
  | non
  | num (i : Int)
  | bey
  deriving DecidableEq

/-- the rule of a row of one way -/
abbrev Fn := Option Int → Int → Int
def D.opt : D → Option Int
  | .num i => some i
  | _ => none
/-- two ticks of the inner row, as the program reckons them -/
def two (f : Fn) (p q x : D) : D :=
  if p = .bey ∨ q = .bey ∨ x = .bey then .bey else
  match x with
  | .num x => .num (f (match q with
      | .num y => some (f p.opt y)
      | _ => none) (f q.opt x))
  | _ => .non
abbrev Wo := D × D
/-- what stands before, behind, after, deeper: the four halves beside a cell -/
def befW : Option Wo → Wo → D
  | none, v => v.2
  | some u, _ => u.1
def behW : Option Wo → Wo → D
  | none, v => v.1
  | some u, _ => u.2
def aftW : Option Wo → D
  | none => .bey
  | some u => u.1
def deeW : Option Wo → D
  | none => .non
  | some u => u.2
/-- the folded row's rule -/
def nextW (f : Fn) (left : Option Wo) (own : Wo) (right : Option Wo) : Wo :=
  (two f (befW left own) own.1 (aftW right), two f (deeW right) own.2 (behW left own))
/-- a tick of neighbouring cells, h fewer at the high end -/
def tickL (f : Fn) (ws : List Wo) (h : Nat) : List Wo :=
  (List.range (ws.length - h)).map fun c => nextW f (if c = 0 then none else ws[c - 1]?) (ws.getD c (.non, .non)) ws[c + 1]?

/-- the worth of the inner row's cell x at its tick s -/
def w (f : Fn) (l : Nat → Int) : Nat → Nat → Int
  | 0, x => l x
  | s + 1, 0 => f none (w f l s 0)
  | s + 1, x + 1 => f (some (w f l s x)) (w f l s (x + 1))
/-- what stands to the left of the cell x at the tick s -/
def lf (f : Fn) (l : Nat → Int) (s : Nat) : Nat → Option Int
  | 0 => none
  | x + 1 => some (w f l s x)
theorem w_succ (f : Fn) (l : Nat → Int) (s x : Nat) : w f l (s + 1) x = f (lf f l s x) (w f l s x) := by
  cases x <;> rfl
theorem w_congr (f : Fn) {l k : Nat → Int} : ∀ (s x : Nat), (∀ y, y ≤ x → l y = k y) → w f l s x = w f k s x
  | 0, x, h => h x (Nat.le_refl _)
  | s + 1, 0, h => congrArg (f none) (w_congr f s 0 h)
  | s + 1, x + 1, h => by
    show f (some (w f l s x)) (w f l s (x + 1)) = f (some (w f k s x)) (w f k s (x + 1))
    rw [w_congr f s x fun y hy => h y (Nat.le_succ_of_le hy), w_congr f s (x + 1) h]

/-- a half at an optional place -/
def dOf : Option Int → D
  | none => .non
  | some i => .num i
theorem dOf_opt : ∀ o, (dOf o).opt = o
  | none => rfl
  | some _ => rfl
theorem dOf_ne : ∀ o, dOf o ≠ .bey
  | none => nofun
  | some _ => nofun
/-- two ticks of three cells that stand side by side -/
theorem two_step (f : Fn) (l : Nat → Int) (s x : Nat) (p : D) (hp : p ≠ .bey) (hq : ∀ y, x = y + 1 → p = dOf (lf f l s y)) :
    two f p (dOf (lf f l s x)) (.num (w f l s x)) = .num (w f l (s + 2) x) := by
  have h : ¬ (p = .bey ∨ dOf (lf f l s x) = .bey ∨ D.num (w f l s x) = .bey) := by
    rintro (h | h | h)
    · exact hp h
    · exact dOf_ne _ h
    · cases h
  unfold two
  rw [if_neg h]
  cases x with
  | zero => rfl
  | succ y =>
    have e := hq y rfl
    subst e
    show D.num (f (some (f (dOf (lf f l s y)).opt (w f l s y))) (f (some (w f l s y)) (w f l s (y + 1)))) = _
    rw [dOf_opt]
    have e1 : f (lf f l s y) (w f l s y) = w f l (s + 1) y := (w_succ f l s y).symm
    rw [e1]
    rfl
theorem two_bey {f : Fn} {p q x : D} (h : p = .bey ∨ q = .bey ∨ x = .bey) : two f p q x = .bey := if_pos h
theorem two_non {f : Fn} {p q : D} (hp : p ≠ .bey) (hq : q ≠ .bey) : two f p q .non = .non := by
  unfold two
  rw [if_neg]
  rintro (h | h | h)
  · exact hp h
  · exact hq h
  · cases h

/-- the own half of the cell c at the tick i, the folded half of it -/
def ownD (f : Fn) (l : Nat → Int) (n i c : Nat) : D := if c + i < n then .num (w f l (2 * i) (c + i)) else .bey
def folD (f : Fn) (l : Nat → Int) (i c : Nat) : D := if i ≤ c then .non else .num (w f l (2 * i) (i - c - 1))
structure Good (f : Fn) (l : Nat → Int) (n i c : Nat) (v : Wo) : Prop where
  own : v.1 = ownD f l n i c
  fol : i ≤ n → v.2 = folD f l i c
theorem good_begin (f : Fn) (l : Nat → Int) {n c : Nat} (h : c < n) : Good f l n 0 c (.num (l c), .non) :=
  ⟨by unfold ownD; rw [if_pos (by omega)]; rfl, fun _ => by unfold folD; rw [if_pos (Nat.zero_le _)]⟩
theorem folD_ne (f : Fn) (l : Nat → Int) (i c : Nat) : folD f l i c ≠ .bey := by
  unfold folD
  split <;> nofun
/-- a folded half is the half at an optional place -/
theorem folD_lf (f : Fn) (l : Nat → Int) (i c : Nat) : folD f l i c = dOf (lf f l (2 * i) (i - c)) := by
  unfold folD
  by_cases h : i ≤ c
  · rw [if_pos h]
    have e : i - c = 0 := by omega
    rw [e]
    rfl
  · rw [if_neg h]
    obtain ⟨k, e⟩ : ∃ k, i - c = k + 1 := ⟨i - c - 1, by omega⟩
    rw [e]
    rfl
theorem good_step {f : Fn} {l : Nat → Int} {n i c : Nat} {left right : Option Wo} {v : Wo} (hc : c < n) (g : Good f l n i c v)
    (hl0 : c = 0 → left = none) (hl : ∀ k, c = k + 1 → ∃ u, left = some u ∧ Good f l n i k u)
    (hr : c + 1 < n → ∃ u, right = some u ∧ Good f l n i (c + 1) u) (hr0 : c + 1 = n → right = none) : Good f l n (i + 1) c (nextW f left v right) := by
  obtain ⟨go, gf⟩ := g
  constructor
  · show two f _ _ _ = _
    by_cases h : c + (i + 1) < n
    · obtain ⟨u, rfl, uo, _⟩ := hr (by omega)
      have e1 : u.1 = .num (w f l (2 * i) (c + i + 1)) := by
        rw [uo]; unfold ownD; rw [if_pos (by omega), show c + 1 + i = c + i + 1 by omega]
      have e2 : v.1 = dOf (lf f l (2 * i) (c + i + 1)) := by
        rw [go]; unfold ownD; rw [if_pos (by omega)]; rfl
      have e3 : ownD f l n (i + 1) c = .num (w f l (2 * i + 2) (c + i + 1)) := by
        unfold ownD; rw [if_pos h]; rfl
      rw [e3]
      show two f _ v.1 u.1 = _
      rw [e1, e2]
      cases c with
      | zero =>
        rw [hl0 rfl]
        show two f v.2 _ _ = _
        rw [gf (by omega)]
        refine two_step f l (2 * i) (0 + i + 1) _ (folD_ne _ _ _ _) fun y hy => ?_
        rw [folD_lf, show y = i - 0 by omega]
      | succ k =>
        obtain ⟨u', rfl, uo', _⟩ := hl k rfl
        show two f u'.1 _ _ = _
        have e4 : u'.1 = .num (w f l (2 * i) (k + i)) := by
          rw [uo']; unfold ownD; rw [if_pos (by omega)]
        rw [e4]
        refine two_step f l (2 * i) (k + 1 + i + 1) _ nofun fun y hy => ?_
        have : y = k + i + 1 := by omega
        subst this
        rfl
    · have e3 : ownD f l n (i + 1) c = .bey := by unfold ownD; rw [if_neg h]
      rw [e3]
      refine two_bey (.inr (.inr ?_))
      by_cases h1 : c + 1 < n
      · obtain ⟨u, rfl, uo, _⟩ := hr h1
        show u.1 = _
        rw [uo]; unfold ownD; rw [if_neg (by omega)]
      · rw [hr0 (by omega)]
        rfl
  · intro hi
    show two f _ _ _ = _
    have hv : v.2 = folD f l i c := gf (by omega)
    have hx : behW left v = if i + 1 ≤ c then .non else .num (w f l (2 * i) (i - c)) := by
      cases c with
      | zero =>
        rw [hl0 rfl, if_neg (by omega)]
        show v.1 = _
        rw [go]; unfold ownD; rw [if_pos (by omega), show 0 + i = i - 0 by omega]
      | succ k =>
        obtain ⟨u', rfl, _, uf'⟩ := hl k rfl
        show u'.2 = _
        rw [uf' (by omega)]
        unfold folD
        by_cases h : i ≤ k
        · rw [if_pos h, if_pos (by omega)]
        · rw [if_neg h, if_neg (by omega), show i - (k + 1) = i - k - 1 by omega]
    have hp : deeW right = folD f l i (c + 1) := by
      by_cases h1 : c + 1 < n
      · obtain ⟨u, rfl, _, uf⟩ := hr h1
        exact uf (by omega)
      · rw [hr0 (by omega)]
        unfold folD
        rw [if_pos (by omega)]
        rfl
    show two f (deeW right) v.2 (behW left v) = _
    rw [hx, hp, hv]
    by_cases h : i + 1 ≤ c
    · rw [if_pos h, two_non (folD_ne _ _ _ _) (folD_ne _ _ _ _)]
      unfold folD
      rw [if_pos h]
    · rw [if_neg h]
      have e5 : folD f l (i + 1) c = .num (w f l (2 * i + 2) (i - c)) := by
        unfold folD; rw [if_neg h, show i + 1 - c - 1 = i - c by omega, show 2 * (i + 1) = 2 * i + 2 by omega]
      rw [e5, folD_lf f l i c]
      refine two_step f l (2 * i) (i - c) _ (folD_ne _ _ _ _) fun y hy => ?_
      rw [folD_lf, show y = i - (c + 1) by omega]

/-- how many cells are kept apart from the first -/
def hiAt (n t i : Nat) : Nat := if t + 1 < n then t - i else n - 1
def cutAt (n t : Nat) : Nat := if t + 1 < n then 1 else 0
theorem tickL_length (f : Fn) (ws : List Wo) (h : Nat) : (tickL f ws h).length = ws.length - h := by
  unfold tickL
  rw [List.length_map, List.length_range]
theorem tickL_get {f : Fn} {ws : List Wo} {h c : Nat} (hc : c < ws.length - h) : (tickL f ws h)[c]? = some (nextW f (if c = 0 then none else ws[c - 1]?) (ws.getD c (.non, .non)) ws[c + 1]?) := by
  unfold tickL
  rw [List.getElem?_map, List.getElem?_range hc]
  rfl
/-- between two turns: the worths that are kept are what they are in the whole strip -/
structure Kept (f : Fn) (l : Nat → Int) (n t i : Nat) (ws : List Wo) : Prop where
  len : ws.length = hiAt n t i + 1
  at_ : ∀ c v, ws[c]? = some v → Good f l n i c v
theorem kept_begin (f : Fn) (l : Nat → Int) {n t : Nat} (hn : 0 < n) : Kept f l n t 0 ((List.range (min (n - 1) t + 1)).map fun c => (.num (l c), .non)) := by
  constructor
  · rw [List.length_map, List.length_range]
    unfold hiAt
    split <;> omega
  · intro c v e
    rw [List.getElem?_map] at e
    by_cases hc : c < min (n - 1) t + 1
    · rw [List.getElem?_range hc] at e
      cases Option.some.inj e
      exact good_begin f l (by omega)
    · rw [List.getElem?_eq_none (by rw [List.length_range]; omega)] at e
      cases e
theorem kept_step {f : Fn} {l : Nat → Int} {n t i : Nat} {ws : List Wo} (hn : 0 < n) (hi : i < t) (k : Kept f l n t i ws) : Kept f l n t (i + 1) (tickL f ws (cutAt n t)) := by
  obtain ⟨kl, ka⟩ := k
  have hlen : ws.length - cutAt n t = hiAt n t (i + 1) + 1 := by
    rw [kl]; unfold hiAt cutAt
    split <;> omega
  have hmax : ws.length ≤ n := by
    rw [kl]; unfold hiAt; split <;> omega
  constructor
  · rw [tickL_length, hlen]
  · intro c v e
    have hc : c < ws.length - cutAt n t := by
      have h1 := (List.getElem?_eq_some_iff.mp e).1
      rw [tickL_length] at h1
      exact h1
    rw [tickL_get hc] at e
    cases Option.some.inj e
    have hcl : c < ws.length := by omega
    have hget : ws[c]? = some (ws.getD c (.non, .non)) := by
      rw [List.getD_eq_getElem?_getD, List.getElem?_eq_getElem hcl]
      rfl
    refine good_step (by omega) (ka c _ hget) (fun h => if_pos h) (fun k hk => ?_) (fun h => ?_) (fun h => ?_)
    · have hkl : k < ws.length := by omega
      refine ⟨ws[k], ?_, ka k _ (List.getElem?_eq_getElem hkl)⟩
      rw [if_neg (by omega), show c - 1 = k by omega, List.getElem?_eq_getElem hkl]
    · have h1 : c + 1 < ws.length := by
        unfold hiAt cutAt at hlen
        unfold hiAt at kl
        unfold cutAt at hc
        split at hc <;> split at kl <;> omega
      exact ⟨ws[c + 1], List.getElem?_eq_getElem h1, ka _ _ (List.getElem?_eq_getElem h1)⟩
    · exact List.getElem?_eq_none (by omega)
/-- what cell 0 says -/
def saysW (f : Fn) (ys : List Int) (v : Wo) : Bool := match v.1 with
  | .num x => ys.contains (f v.2.opt x)
  | _ => false
theorem good_says {f : Fn} {l : Nat → Int} {n i : Nat} {v : Wo} (ys : List Int) (g : Good f l n i 0 v) :
    saysW f ys v = if i < n then ys.contains (w f l (2 * i + 1) i) else false := by
  obtain ⟨go, gf⟩ := g
  unfold saysW
  rw [go]
  unfold ownD
  by_cases h : i < n
  · rw [if_pos (by omega), if_pos h, gf (by omega), folD_lf, dOf_opt]
    show ys.contains (f (lf f l (2 * i) i) (w f l (2 * i) (0 + i))) = _
    rw [show 0 + i = i by omega, w_succ]
  · rw [if_neg (by omega), if_neg h]
/-- what is said of a worth that a call may be asked about -/
theorem good_fine {f : Fn} {l : Nat → Int} {n i : Nat} {v : Wo} (g : Good f l n i 0 v) : v.1 = .bey ∨ ((∃ x, v.1 = .num x) ∧ v.2 ≠ .bey) := by
  obtain ⟨go, gf⟩ := g
  by_cases h : 0 + i < n
  · refine .inr ⟨⟨w f l (2 * i) (0 + i), ?_⟩, ?_⟩
    · rw [go]; unfold ownD; rw [if_pos h]
    · rw [gf (by omega)]; exact folD_ne _ _ _ _
  · exact .inl (by rw [go]; unfold ownD; rw [if_neg h])
/-- the row of one way, cell by cell -/
def rowW (f : Fn) (l : Nat → Int) (m s : Nat) : List Int := (List.range m).map (w f l s)
theorem rowW_length (f : Fn) (l : Nat → Int) (m s : Nat) : (rowW f l m s).length = m := by
  unfold rowW
  rw [List.length_map, List.length_range]
theorem rowW_get {f : Fn} {l : Nat → Int} {m s x : Nat} (h : x < m) : (rowW f l m s)[x]? = some (w f l s x) := by
  unfold rowW
  rw [List.getElem?_map, List.getElem?_range h]
  rfl
end BW
/-! Own rules: a dict whose keys are pairs (a worth or None, a worth). -/
namespace BW
open PySem PySem.Spec PyProof.Rows L2

/-! ### keys and entries -/
abbrev NK := Option Int × Int
def oV : Option Int → V
  | none => .non
  | some i => .int i
def oL : Option Int → Leaf
  | none => .none
  | some i => .num i
def keyV (k : NK) : List V := [oV k.1, .int k.2]
def keyL (k : NK) : List Leaf := [oL k.1, .num k.2]
theorem oL_inj : ∀ {a b : Option Int}, oL a = oL b → a = b
  | none, none, _ => rfl
  | some _, some _, e => by
    injection e with e
    rw [e]
  | none, some _, e => nomatch e
  | some _, none, e => nomatch e
theorem keyL_inj {a b : NK} (e : keyL a = keyL b) : a = b := by
  obtain ⟨a1, a2⟩ := a
  obtain ⟨b1, b2⟩ := b
  unfold keyL at e
  injection e with e1 e2
  injection e2 with e3 _
  injection e3 with e4
  exact Prod.ext (oL_inj e1) e4
/-- an entry: the key, where its tuple stands, the worth -/
abbrev Ent := NK × Addr × Int
def lookE (es : List Ent) (k : NK) : Option Int := (es.find? fun e => decide (e.1 = k)).map (·.2.2)
def putE (es : List Ent) (k : NK) (b : Addr) (v : Int) : List Ent :=
  if (lookE es k).isSome = true then es.map (fun e => if e.1 = k then (e.1, e.2.1, v) else e) else es ++ [(k, b, v)]
theorem putE_new {es : List Ent} {k : NK} (h : lookE es k = none) (b : Addr) (v : Int) : putE es k b v = es ++ [(k, b, v)] := by
  unfold putE
  rw [h, if_neg (by simp)]
theorem putE_len (es : List Ent) (k : NK) (b : Addr) (v : Int) : (putE es k b v).length ≤ es.length + 1 := by
  unfold putE
  split
  · rw [List.length_map]; exact Nat.le_succ _
  · rw [List.length_append]; exact Nat.le_refl _
theorem putE_mem {es : List Ent} {k : NK} {b : Addr} {v : Int} {x : Ent} (h : x ∈ putE es k b v) :
    (∃ e ∈ es, x.1 = e.1 ∧ x.2.1 = e.2.1 ∧ (x.2.2 = e.2.2 ∨ x.2.2 = v)) ∨ x = (k, b, v) := by
  unfold putE at h
  split at h
  · obtain ⟨e, he, rfl⟩ := List.mem_map.mp h
    refine .inl ⟨e, he, ?_⟩
    split
    · exact ⟨rfl, rfl, .inr rfl⟩
    · exact ⟨rfl, rfl, .inl rfl⟩
  · rcases List.mem_append.mp h with h | h
    · exact .inl ⟨x, h, rfl, rfl, .inl rfl⟩
    · exact .inr (List.mem_singleton.mp h)

/-! ### the dict's object -/
def EntRel (e : Ent) (x : List Leaf × Addr × Value) : Prop := x.1 = keyL e.1 ∧ x.2.1 = e.2.1 ∧ RelV (.int e.2.2) x.2.2
abbrev kd (P : Program) (w : World) : HeapKind P w (List Leaf) := tupleKind (leafKind P w)
def NDat (P : Program) (w : World) (a : Addr) (es : List Ent) (h : Heap) : Prop :=
  es.length ≤ sizeLine ∧ (a == sysModules) = false ∧ ∃ xs : List (List Leaf × Addr × Value), Paired EntRel es xs ∧
    ∃ o ds ep, h.get? a = some o ∧ o.ExactDict ∧ o.data = .dict ds ep ∧ ds.toList = xs.map (entryOfKey (kd P w)) ∧ (xs.map (·.1)).Nodup
def nd (P : Program) (w : World) (a : Addr) (es : List Ent) : HO := .ext (NDat P w a es)
section
variable {P : Program} {w : World} {H H' : Hp} {h : Heap} {a b : Addr} {es : List Ent} {k : NK}
theorem nd_ok (d : NDat P w a es h) : ObjOk P w H h a (nd P w a es) := by
  refine ⟨d, ?_, fun h1 h2 d1 st => ?_⟩
  · obtain ⟨_, _, _, _, o, _, _, e, _⟩ := d
    exact ⟨o, e⟩
  · obtain ⟨z, sm, xs, r, o, ds, ep, e, q⟩ := d1
    exact ⟨z, sm, xs, r, o, ds, ep, st o e, q⟩
theorem nd_empty (h : Heap) (hb : sysModules < h.objs.size) : NDat P w h.objs.size [] (h.push { cls := .type "dict", data := .dict #[] }) :=
  ⟨Nat.zero_le _, beq_eq_false_iff_ne.mpr fun e => Nat.lt_irrefl _ (by rw [← e] at hb; exact hb), [], .nil, _, #[], 0, Heap.get?_push_size _ rfl, ⟨rfl, rfl, rfl⟩, rfl, rfl, .nil⟩
/-- the dict at a holds es, and the keys' tuples stand where they are said to -/
structure ND (P : Program) (w : World) (H : Hp) (a : Addr) (es : List Ent) : Prop where
  at_ : H a = some (nd P w a es)
  keys : ∀ e ∈ es, H e.2.1 = some (.tup (keyV e.1))
theorem ND.same (d : ND P w H a es) (s : Same H H') : ND P w H' a es := ⟨s _ _ d.at_, fun e he => s _ _ (d.keys e he)⟩
theorem leaf_oV : ∀ {o : Option Int} {u : Value}, RelV (oV o) u → (leafKind P w).is (oL o) u = true
  | none, u, r => by
    cases (show u = Value.none from r)
    rfl
  | some i, u, r => by
    obtain ⟨t, e⟩ := (show ∃ t, u = Value.int i t from r)
    subst e
    exact decide_eq_true rfl
theorem key_at (ok : HOk P w H h) (e : H b = some (.tup (keyV k))) : (kd P w).is h (keyL k) b := by
  obtain ⟨_, its, r, o, h1, h2, n, h3⟩ := (show ObjOk P w H h b (.tup (keyV k)) from ok b _ e)
  obtain ⟨u1, u2, rfl, r1, r2⟩ := vals2 r
  obtain ⟨t, e2⟩ := (show ∃ t, u2 = Value.int k.2 t from r2)
  subst e2
  exact ⟨o, _, n, h1, h2, h3, .cons (leaf_oV r1) (.cons (decide_eq_true rfl) .nil)⟩
theorem nd_of (ok : HOk P w H h) (d : ND P w H a es) : es.length ≤ sizeLine ∧ (a == sysModules) = false ∧ ∃ xs, Paired EntRel es xs ∧ h.DictOfH (kd P w) a xs := by
  obtain ⟨⟨z, sm, xs, r, o, ds, ep, h1, h2, h3, h4, h5⟩, _⟩ := (show ObjOk P w H h a (nd P w a es) from ok a _ d.at_)
  refine ⟨z, sm, xs, r, o, ds, ep, h1, h2, h3, h4, ?_, h5⟩
  have go : ∀ {l : List Ent} {m : List (List Leaf × Addr × Value)}, Paired EntRel l m → (∀ e ∈ l, H e.2.1 = some (.tup (keyV e.1))) → ∀ x ∈ m, (kd P w).is h x.1 x.2.1 := by
    intro l m p
    induction p with
    | nil => exact fun _ x hx => nomatch hx
    | @cons e x l m q _ ih =>
      intro hk y hy
      rcases List.mem_cons.mp hy with rfl | hy
      · rw [q.1, q.2.1]
        exact key_at ok (hk e List.mem_cons_self)
      · exact ih (fun e he => hk e (List.mem_cons_of_mem _ he)) y hy
  exact go r d.keys
theorem NDat.of_dict {xs : List (List Leaf × Addr × Value)} (z : es.length ≤ sizeLine) (sm : (a == sysModules) = false) (r : Paired EntRel es xs) (d : h.DictOfH (kd P w) a xs) : NDat P w a es h := by
  obtain ⟨o, ds, ep, h1, h2, h3, h4, _, h5⟩ := d
  exact ⟨z, sm, xs, r, o, ds, ep, h1, h2, h3, h4, h5⟩
end
/-! ### looking up, storing -/
theorem look_rel {es : List Ent} {xs : List (List Leaf × Addr × Value)} (r : Paired EntRel es xs) (k : NK) :
    (lookE es k = none ∧ atKey xs (keyL k) = none) ∨ ∃ v b u, lookE es k = some v ∧ atKey xs (keyL k) = some (b, u) ∧ RelV (.int v) u := by
  induction r with
  | nil => exact .inl ⟨rfl, rfl⟩
  | @cons e x l m q _ ih =>
    obtain ⟨q1, q2, q3⟩ := q
    by_cases hk : e.1 = k
    · refine .inr ⟨e.2.2, x.2.1, x.2.2, ?_, ?_, q3⟩
      · simp [lookE, hk]
      · simp [atKey, q1, hk]
    · have hx : ¬ x.1 = keyL k := fun z => hk (keyL_inj (q1.symm.trans z))
      have e1 : lookE (e :: l) k = lookE l k := by simp [lookE, hk]
      have e2 : atKey (x :: m) (keyL k) = atKey m (keyL k) := by simp [atKey, hx]
      rw [e1, e2]
      exact ih
theorem put_rel {es : List Ent} {xs : List (List Leaf × Addr × Value)} (r : Paired EntRel es xs) (k : NK) (b : Addr) {v : Int} {u : Value} (ru : RelV (.int v) u) :
    Paired EntRel (putE es k b v) (storedH xs (keyL k) b u) := by
  have e : (lookE es k).isSome = (atKey xs (keyL k)).isSome := by
    rcases look_rel r k with ⟨h1, h2⟩ | ⟨_, _, _, h1, h2, _⟩ <;> rw [h1, h2] <;> rfl
  unfold putE storedH
  rw [e]
  by_cases q : (atKey xs (keyL k)).isSome = true
  · rw [if_pos q, if_pos q]
    clear e q
    induction r with
    | nil => exact .nil
    | @cons e x l m q _ ih =>
      refine .cons ?_ ih
      obtain ⟨q1, q2, q3⟩ := q
      unfold putAt
      dsimp only
      by_cases hk : e.1 = k
      · rw [if_pos hk, if_pos (by rw [q1, hk])]
        exact ⟨q1, q2, ru⟩
      · rw [if_neg hk, if_neg fun z => hk (keyL_inj (q1.symm.trans z))]
        exact ⟨q1, q2, q3⟩
  · rw [if_neg q, if_neg q]
    exact Paired.snoc r ⟨rfl, rfl, ru⟩
theorem ND.put {P : Program} {w : World} {H : Hp} {a b : Addr} {es : List Ent} {k : NK} (d : ND P w H a es) (hb : H b = some (.tup (keyV k))) (v : Int) :
    ND P w (upd H a (nd P w a (putE es k b v))) a (putE es k b v) := by
  refine ⟨upd_same, fun x hx => ?_⟩
  have off : ∀ c ys, H c = some (.tup ys) → upd H a (nd P w a (putE es k b v)) c = some (.tup ys) := fun c ys e => by
    rw [upd_ne (ne_of e d.at_ (fun z => nomatch z))]
    exact e
  rcases putE_mem hx with ⟨e, he, e1, e2, _⟩ | rfl
  · rw [e1, e2]
    exact off _ _ (d.keys e he)
  · exact off _ _ hb

section
variable {X : Cx} {pins : List (Addr × Obj)} {σ : L2.St} {H : Hp} {s : Shared} {a b : Addr} {es : List Ent} {k : NK} {A : Around} {E : Value → Shared → Prop}
/-- the dict's object is written anew -/
theorem nd_write {xs : List (List Leaf × Addr × Value)} {es' : List Ent} {h' : Heap} {t' : Nat} (I : Inv X pins σ H s) (hm : Mut (H a)) (hs : Heap.SameBut a s.heap h') (z : es'.length ≤ sizeLine) (sm : (a == sysModules) = false)
    (r : Paired EntRel es' xs) (d : h'.DictOfH (kd X.prog X.w) a xs) : Inv X pins σ (upd H a (nd X.prog X.w a es')) { s with heap := h', toks := t' } := by
  refine d_write I hm hs ?_ (nd_ok (NDat.of_dict z sm r d))
  obtain ⟨o, _, _, e, _⟩ := d
  exact ⟨o, e⟩
/-- d[k] = v -/
theorem nd_set {v : Int} {u : Value} {Q : Unit → Shared → Prop} (hu : A.units + 1 < cLine) (I : Inv X pins σ H s) (d : ND X.prog X.w H a es) (hb : H b = some (.tup (keyV k))) (hz : es.length < sizeLine) (ru : RelV (.int v) u)
    (h : ∀ s', Inv X pins σ (upd H a (nd X.prog X.w a (putE es k b v))) s' → Q () s') : wpAny (model X.prog X.w) A (setItem (.ref a) (.ref b) u) Q E s := by
  obtain ⟨z, sm, xs, r, dd⟩ := nd_of I.hok d
  have hl : (putE es k b v).length ≤ sizeLine := Nat.le_trans (putE_len es k b v) hz
  refine wpAny_setItem_heap (hsz := by rw [← Paired.length r]; exact z) (tupleKind_room_in1 hu) (key_at I.hok hb) dd fun h' d' hs => h _ ?_
  exact nd_write I (by rw [d.at_]; trivial) hs hl sm (put_rel r k b ru) d'
/-- the same within a comprehension -/
theorem nd_dictSet {v : Int} {u : Value} {Q : Unit → Shared → Prop} (hu : A.units < cLine) (I : Inv X pins σ H s) (d : ND X.prog X.w H a es) (hb : H b = some (.tup (keyV k))) (hz : es.length < sizeLine) (ru : RelV (.int v) u)
    (h : ∀ s', Inv X pins σ (upd H a (nd X.prog X.w a (putE es k b v))) s' → Q () s') : wpAny (model X.prog X.w) A (dictSet a (.ref b) u) Q E s := by
  obtain ⟨z, sm, xs, r, dd⟩ := nd_of I.hok d
  have hl : (putE es k b v).length ≤ sizeLine := Nat.le_trans (putE_len es k b v) hz
  refine wpAny_dictSet_heap (hsz := by rw [← Paired.length r]; exact z) (show (kd X.prog X.w).room A from hu) (key_at I.hok hb) dd fun h' d' hs => h _ ?_
  exact nd_write I (by rw [d.at_]; trivial) hs hl sm (put_rel r k b ru) d'
/-- d.get(k, x) -/
theorem nd_get {y : V} {u : Value} {Q : Value → Shared → Prop} (hu : A.units + 1 < cLine) (I : Inv X pins σ H s) (d : ND X.prog X.w H a es) (hb : H b = some (.tup (keyV k))) (ry : RelV y u)
    (h : ∀ w' s', Inv X pins σ H s' → RelV (((lookE es k).map V.int).getD y) w' → Q w' s') : wpAny (model X.prog X.w) A (call (.builtin "dict.get") [.ref a, .ref b, u]) Q E s := by
  obtain ⟨_, sm, xs, r, dd⟩ := nd_of I.hok d
  refine call_meetsIn F.slot_dict_get dd.typeIs F.entry_dict_get (F.args_dict_get_3 _ _ _) (meetsH_dict_get_default (kd X.prog X.w) a b sm u) ⟨tupleKind_room_in1 hu, keyL k, xs, key_at I.hok hb, dd, h _ _ (I.tok _) ?_⟩
  rcases look_rel r k with ⟨h1, h2⟩ | ⟨v, c, x, h1, h2, h3⟩
  · rw [h1, h2]; exact ry
  · rw [h1, h2]; exact h3
/-- d[k] -/
theorem nd_at {v : Int} {Q : Value → Shared → Prop} (hu : A.units + 1 < cLine) (I : Inv X pins σ H s) (d : ND X.prog X.w H a es) (hb : H b = some (.tup (keyV k))) (hv : lookE es k = some v)
    (h : ∀ w' s', Inv X pins σ H s' → RelV (.int v) w' → Q w' s') : wpAny (model X.prog X.w) A (getItem (.ref a) (.ref b)) Q E s := by
  obtain ⟨_, sm, xs, r, dd⟩ := nd_of I.hok d
  rcases look_rel r k with ⟨h1, _⟩ | ⟨v', c, x, h1, h2, h3⟩
  · rw [h1] at hv; cases hv
  · rw [h1] at hv
    cases hv
    exact wpAny_getItem_heap (tupleKind_room_in1 hu) (key_at I.hok hb) dd h2 (h _ _ (I.tok _) h3)
end

/-! ### as rules of the layer -/
section
variable {X : Cx} {o i e f value : Expr} {pos pos' apos cpos : Pos} {td ty tv tx : TE}
def tNdNew (P : Program) (w : World) : TE := fun _ H Q => ∀ p, H p = none → Q (.ref p) (upd H p (nd P w p []))
theorem pe_ndNew : PE X (.Dict [] [] pos) (tNdNew X.prog X.w) := ⟨fun pins s σ H Q I h => wpAny_Dict_empty ⟨.ref s.heap.objs.size, _,
  I.laid (a := s.heap.objs.size) (t' := s.toks) (fun _ _ q => Heap.get?_push_of_some _ q) (Nat.le_refl _) (nd_ok (nd_empty s.heap I.big)), rfl, h _ (I.hok.fresh (Nat.le_refl _))⟩⟩
def sNdPut (P : Program) (w : World) (td ty tv : TE) : TS := fun D σ H => tv σ H fun v H1 => td σ H1 fun x H2 => ty σ H2 fun y H3 => ∃ a es k b z, v = .int z ∧ x = .ref a ∧ y = .ref b ∧ ND P w H3 a es ∧ H3 b = some (.tup (keyV k)) ∧
  es.length < sizeLine ∧ D.nx σ (upd H3 a (nd P w a (putE es k b z)))
theorem ps_ndPut (hu : X.A.units + 1 < cLine) (ho : PE X o td) (hi : PE X i ty) (hv : PE X value tv) (hs : swapsWith value (some (.Subscript o i pos')) pos.line X.env = pure false := by rfl) :
    PS X (.Assign [.Subscript o i pos'] value pos) (sNdPut X.prog X.w td ty tv) := by
  refine ⟨fun pins s σ H D I h => wpAny_Assign_Subscript (thn (hv.run pins s σ H _ I h) fun r s1 ⟨v, H1, I1, rv, q1⟩ => thn (ho.run pins s1 σ H1 _ I1 q1) fun u s2 ⟨x, H2, I2, rx, q2⟩ =>
    thn (hi.run pins s2 σ H2 _ I2 q2) fun iv s3 ⟨y, H3, I3, ry, a, es, k, b, z, ev, ex, ey, d, hb, hz, q3⟩ => ?_) hs⟩
  subst ev ex ey
  cases (show u = Value.ref a from rx)
  cases (show iv = Value.ref b from ry)
  exact nd_set hu I3 d hb hz rv fun s4 I4 => ⟨σ, _, I4, q3⟩
def tNdGet (P : Program) (w : World) (td ty tx : TE) : TE := fun σ H Q => td σ H fun x H1 => ∃ a es, x = .ref a ∧ ND P w H1 a es ∧ ty σ H1 fun y H2 => tx σ H2 fun z H3 => ∃ k b, y = .ref b ∧ ND P w H3 a es ∧ H3 b = some (.tup (keyV k)) ∧
  Q (((lookE es k).map V.int).getD z) H3
theorem nd_type {pins : List (Addr × Obj)} {σ : L2.St} {H : Hp} {s : Shared} {a : Addr} {es : List Ent} (I : Inv X pins σ H s) (d : ND X.prog X.w H a es) :
    s.TypeIs (.ref a) "dict" ∧ ∀ b, Value.ref a = .ref b → ∃ ob, s.heap.get? b = some ob ∧ ob.dict = none := by
  obtain ⟨_, _, xs, _, dd⟩ := nd_of I.hok d
  refine ⟨dd.typeIs, fun b q => ?_⟩
  cases q
  obtain ⟨ob, _, _, h1, h2, _⟩ := dd
  exact ⟨ob, h1, h2.2.1⟩
theorem pe_ndGet (hu : X.A.units + 1 < cLine) (ho : PE X o td) (he : PE X e ty) (hf : PE X f tx) (m : M2 X o "get" apos e f cpos) : PE X (.Call (.Attribute o "get" apos) [e, f] [] cpos) (tNdGet X.prog X.w td ty tx) := by
  refine ⟨fun pins s σ H Q I h => wpAny_Call_method m.base m.few m.line F.plainAttrs_dict F.slot_dict_get F.type_dict_get (thn (ho.run pins s σ H _ I h) fun u s1 ⟨x, H1, I1, rx, a, es, ex, d, q1⟩ => ?_)⟩
  subst ex
  cases (show u = Value.ref a from rx)
  obtain ⟨t1, t2⟩ := nd_type I1 d
  refine ⟨t1, t2, ?_⟩
  rw [m.trees]
  refine Calls.callWith_builtin rfl (Calls.evalArgs_plain (Calls.spliced_cons (thn (he.run pins s1 σ H1 _ I1 q1) fun iv s2 ⟨y, H2, I2, ry, q2⟩ =>
    Calls.spliced_cons (thn (hf.run pins s2 σ H2 _ I2 q2) fun fv s3 ⟨z, H3, I3, rz, k, b, ey, d3, hb, q3⟩ => Calls.spliced_nil ?_))))
  subst ey
  cases (show iv = Value.ref b from ry)
  exact nd_get hu I3 d3 hb rz fun w' s4 I4 rw' => ⟨_, H3, I4, rw', q3⟩
def tNdAt (P : Program) (w : World) (td ty : TE) : TE := fun σ H Q => td σ H fun x H1 => ty σ H1 fun y H2 => ∃ a es k b v, x = .ref a ∧ y = .ref b ∧ ND P w H2 a es ∧ H2 b = some (.tup (keyV k)) ∧ lookE es k = some v ∧ Q (.int v) H2
theorem pe_ndAt (hu : X.A.units + 1 < cLine) (ho : PE X o td) (hi : PE X i ty) (hs : NoSl i) : PE X (.Subscript o i pos) (tNdAt X.prog X.w td ty) := by
  refine ⟨fun pins s σ H Q I h => subD_of F.slot_dict_getitem.lookup hs (thn (ho.run pins s σ H _ I h) fun u s1 ⟨x, H1, I1, rx, q1⟩ => thn (hi.run pins s1 σ H1 _ I1 q1) fun iv s2 ⟨y, H2, I2, ry, a, es, k, b, v, ex, ey, d, hb, hv, q2⟩ => ?_)⟩
  subst ex ey
  cases (show u = Value.ref a from rx)
  cases (show iv = Value.ref b from ry)
  exact ⟨(nd_type I2 d).1, nd_at hu I2 d hb hv fun w' s3 I3 rw' => ⟨_, H2, I3, rw', q2⟩⟩
/-- isinstance(d, dict) and the like -/
theorem call_ndIsi : CallR X (.builtin "isinstance") (fun xs H Q => ∃ (a : Addr) (es : List Ent) (c : V) (u : Value) (r : Bool), xs = [.ref a, c] ∧ ND X.prog X.w H a es ∧ ClsV c u ∧ PySem.W.kitOne X.K (.type "dict") u = some r ∧ Q (.bl r) H) := by
  intro pins s σ H xs us Q I r h
  obtain ⟨a, es, c, u, rb, rfl, d, cv, hk, q⟩ := h
  obtain ⟨u1, u2, rfl, r1, r2⟩ := vals2 r
  cases (show u1 = Value.ref a from r1)
  have e2 := cv.eq r2
  subst e2
  exact PySem.W.kia_one PySem.W.kitx_dict I.kIn (nd_type I d).1 hk (fun z => nomatch z) fun tk => ⟨.bl rb, H, I.tok tk, rfl, q⟩
/-- len(d) -/
theorem call_ndLen : CallR X (.builtin "len") (fun xs H Q => ∃ (a : Addr) (es : List Ent), xs = [.ref a] ∧ ND X.prog X.w H a es ∧ Q (.int es.length) H) := by
  intro pins s σ H xs us Q I r h
  obtain ⟨a, es, rfl, d, q⟩ := h
  obtain rfl := Vals.ref1 r
  obtain ⟨z, sm, xs, pr, dd⟩ := nd_of I.hok d
  obtain ⟨ds, ep, dr, hs, _⟩ := dd.raw
  have hl := Paired.length pr
  rw [sizeLine_eq] at z
  refine PyProof.Rows.call_len_slot (n := ds.size) dr.typeIs F.slot_dict_len (fun Q' hq => call_len_raw sm dr hq) (by omega) (by omega) ?_
  exact ⟨.int es.length, H, (I.tok _).tok _, ⟨_, by rw [hs, ← hl]⟩, q⟩
end
end BW
namespace BW
open PySem PySem.Spec PyProof.Rows L2

/-! ### several new objects at once -/
theorem inv_news {X : Cx} {pins : List (Addr × Obj)} {σ : L2.St} {H H' : Hp} {s : Shared} {h' : Heap} {tk : Nat} (I : Inv X pins σ H s) (hk : ∀ b o, s.heap.get? b = some o → h'.get? b = some o) (sm : Same H H')
    (hn : ∀ b, b < s.heap.objs.size → H' b = H b) (ok : ∀ b o, H' b = some o → s.heap.objs.size ≤ b → ObjOk X.prog X.w H' h' b o) : Inv X pins σ H' { s with heap := h', toks := tk } := by
  refine I.un ⟨fun b o q _ _ _ => hk b o q, fun b o q _ _ _ => ⟨o.slots, hk b o q⟩, fun b o q n _ => ?_, fun b o q _ => ⟨o, hk b o q⟩, fun b xs q => sm b _ q, fun b o u q => sm b _ q, fun b ps q => ⟨#[], by rw [sm b _ q]; simp⟩⟩ fun b o e => ?_
  · rw [hn b (Heap.lt_size q)]; exact n
  · by_cases hb : b < s.heap.objs.size
    · rw [hn b hb] at e
      exact (I.hok b o e).stay (fun c v _ y => hk c v y) (fun c y => sm c _ y) fun c xs y => sm c _ y
    · exact ok b o e (Nat.not_lt.mp hb)
theorem lk_none : ∀ {as : List Addr} {es : List Ent} {b : Addr}, b ∉ as → (as.zip es).lookup b = none
  | [], _, _, _ => rfl
  | _ :: _, [], _, _ => rfl
  | a :: as, e :: es, b, h => by
    rw [List.zip_cons_cons]
    have hb : (b == a) = false := beq_eq_false_iff_ne.mpr fun z => h (by rw [z]; exact List.mem_cons_self)
    simp only [List.lookup, hb]
    exact lk_none fun z => h (List.mem_cons_of_mem _ z)
theorem lk_some : ∀ {as : List Addr} {es : List Ent} {b : Addr} {e : Ent}, (as.zip es).lookup b = some e → ∃ j : Nat, as[j]? = some b ∧ es[j]? = some e
  | [], _, _, _, h => nomatch h
  | _ :: _, [], _, _, h => nomatch h
  | a :: as, x :: es, b, e, h => by
    rw [List.zip_cons_cons] at h
    by_cases hb : b = a
    · subst hb
      simp only [List.lookup, beq_self_eq_true, Option.some.injEq] at h
      exact ⟨0, rfl, by rw [h]; rfl⟩
    · have hb' : (b == a) = false := beq_eq_false_iff_ne.mpr hb
      simp only [List.lookup, hb'] at h
      obtain ⟨j, h1, h2⟩ := lk_some h
      exact ⟨j + 1, h1, h2⟩
theorem lk_get : ∀ {as : List Addr} {es : List Ent} {b : Addr} {e : Ent} {j : Nat}, as.Nodup → as[j]? = some b → es[j]? = some e → (as.zip es).lookup b = some e
  | [], _, _, _, _, _, h, _ => nomatch h
  | _ :: _, [], _, _, _, _, _, h => nomatch h
  | a :: as, x :: es, b, e, 0, _, h1, h2 => by
    cases Option.some.inj h1
    cases Option.some.inj h2
    simp [List.lookup]
  | a :: as, x :: es, b, e, j + 1, hn, h1, h2 => by
    have hm : b ∈ as := List.mem_of_getElem? (show as[j]? = some b from h1)
    have hb : (b == a) = false := beq_eq_false_iff_ne.mpr fun z => (List.nodup_cons.mp hn).1 (by rw [← z]; exact hm)
    rw [List.zip_cons_cons]
    simp only [List.lookup, hb]
    exact lk_get (List.nodup_cons.mp hn).2 h1 h2
theorem paired_of_get {α β : Type} {F : α → β → Prop} : ∀ {xs : List α} {ys : List β}, xs.length = ys.length → (∀ (j : Nat) x y, xs[j]? = some x → ys[j]? = some y → F x y) → Paired F xs ys
  | [], [], _, _ => .nil
  | [], _ :: _, h, _ => by simp at h
  | _ :: _, [], h, _ => by simp at h
  | x :: xs, y :: ys, h, f => .cons (f 0 x y rfl rfl) (paired_of_get (by simpa using h) fun j a b h1 h2 => f (j + 1) a b h1 h2)
theorem paired_at {α β : Type} {F : α → β → Prop} {xs : List α} {ys : List β} (p : Paired F xs ys) : ∀ {j : Nat} {x : α} {y : β}, xs[j]? = some x → ys[j]? = some y → F x y := by
  induction p with
  | nil => exact fun h _ => nomatch h
  | @cons a b l m q _ ih =>
    intro j x y h1 h2
    cases j with
    | zero =>
      cases Option.some.inj h1
      cases Option.some.inj h2
      exact q
    | succ j => exact ih h1 h2
theorem vals_refs' : ∀ as : List Addr, Vals (as.map V.ref) (as.map Value.ref)
  | [] => .nil
  | _ :: as => .cons rfl (vals_refs' as)

/-! ### list(d.items()) -/
/-- the pairs ts of the entries es -/
def PairsOf (H : Hp) (ts : List Addr) (es : List Ent) : Prop := Paired (fun t (e : Ent) => H t = some (.tup [.ref e.2.1, .int e.2.2])) ts es
def tNdItems (P : Program) (w : World) (te : TE) : TE := fun σ H Q => te σ H fun x H1 => ∃ a es, x = .ref a ∧ ND P w H1 a es ∧
  ∀ H' p ts, Same H1 H' → H1 p = none → H' p = some (.lst (ts.map V.ref)) → PairsOf H' ts es → Q (.ref p) H'
theorem nd_itemsCall {X : Cx} {pins : List (Addr × Obj)} {σ : L2.St} {H : Hp} {s : Shared} {a r : Addr} {es : List Ent} {Q : VK} {E : Value → Shared → Prop} (hc : X.calm = true) (I : Inv X pins σ H s) (d : ND X.prog X.w H a es) (hv : s.heap.IsItemsView r a)
    (q : ∀ H' p ts, Same H H' → H p = none → H' p = some (.lst (ts.map V.ref)) → PairsOf H' ts es → Q (.ref p) H') : wpAny (model X.prog X.w) X.A (call (.type "list") [.ref r]) (EP X pins σ Q) E s := by
  obtain ⟨z, sm, xs, pr, dd⟩ := nd_of I.hok d
  obtain ⟨ds, ep, dr, hs, he⟩ := dd.raw
  have hl := Paired.length pr
  refine PySem.W.dil_call (I.ok.hd hc) hv dr (by omega) fun h' tk acc c as hk hS hla hG hacc => ?_
  generalize hB : s.heap.objs.size = B at hS hG ⊢
  have nd0 : as.Nodup := hG.rise.imp fun h => Nat.ne_of_lt h
  have up : ∀ t ∈ as, B < t := hG.above
  have low : ∀ b, b < s.heap.objs.size → b ∉ as ∧ b ≠ B := fun b hb => ⟨fun m => Nat.lt_asymm (up b m) (hB ▸ hb), fun z => Nat.lt_irrefl b (by rw [z, ← hB] at hb; exact absurd hb (Nat.lt_irrefl _))⟩
  have nB : H B = none := I.hok.fresh (Nat.le_of_eq hB)
  have nT : ∀ t ∈ as, H t = none := fun t m => I.hok.fresh (by rw [hB]; exact Nat.le_of_lt (up t m))
  have nBa : B ∉ as := fun m => Nat.lt_irrefl _ (up B m)
  let H' : Hp := fun b => if b = B then some (.lst (as.map V.ref)) else match (as.zip es).lookup b with
    | some e => some (.tup [.ref e.2.1, .int e.2.2])
    | none => H b
  have oB : H' B = some (.lst (as.map V.ref)) := if_pos rfl
  have oT : ∀ {b : Addr} {e : Ent}, b ≠ B → (as.zip es).lookup b = some e → H' b = some (.tup [.ref e.2.1, .int e.2.2]) := fun {b e} h1 h2 => by
    show (if b = B then _ else _) = _
    rw [if_neg h1, h2]
  have oN : ∀ {b : Addr}, b ≠ B → (as.zip es).lookup b = none → H' b = H b := fun {b} h1 h2 => by
    show (if b = B then _ else _) = _
    rw [if_neg h1, h2]
  have sm1 : Same H H' := fun b o q => by
    rw [oN (fun z => by rw [z, nB] at q; cases q) (lk_none fun m => by rw [nT b m] at q; cases q)]
    exact q
  have J : Inv X pins σ H' { s with heap := h', toks := tk } := by
    refine inv_news (tk := tk) I hk sm1 (fun b hb => oN (low b hb).2 (lk_none (low b hb).1)) fun b o q hb => ?_
    by_cases e1 : b = B
    · subst e1
      rw [oB] at q
      cases q
      exact ⟨by rw [List.length_map]; omega, acc.toList, c, by rw [hacc]; exact vals_refs' as, by rw [Array.toArray_toList]; exact hS⟩
    · cases e2 : (as.zip es).lookup b with
      | none =>
        rw [oN e1 e2, I.hok.fresh hb] at q
        cases q
      | some e =>
        rw [oT e1 e2] at q
        cases q
        obtain ⟨j, j1, j2⟩ := lk_some e2
        obtain ⟨hj, e3⟩ := hG.pairs j b j1
        obtain ⟨y, y1, y2, y3, _⟩ := he j hj
        obtain ⟨r1, r2, r3⟩ := paired_at pr j2 y1
        refine ⟨by show 2 ≤ sizeLine; decide, [ds[j].key, ds[j].val], .cons ?_ (.cons ?_ .nil), _, e3, rfl, 0, rfl⟩
        · rw [y2, r2]; rfl
        · rw [y3]; exact r3
  refine ⟨.ref B, H', J, rfl, q H' B as sm1 nB oB ?_⟩
  exact paired_of_get (by omega) fun j t e j1 j2 => oT (fun z => nBa (by rw [← z]; exact List.mem_of_getElem? j1)) (lk_get nd0 j1 j2)
section
variable {X : Cx} {e : Expr} {te : TE} {p apos cpos pos : Pos}
theorem pe_ndItems (hc : X.calm = true) (he : PE X e te) (hg : Gl X "list") (hm : X.mg "list" = none) (hbase : attributeBase e "items" X.env (eval e X.env) = eval e X.env := by rfl) (hline : (apos.endLine == cpos.line) = true := by rfl)
    (na : starEach [.Call (.Attribute e "items" apos) [] [] cpos] X.env = (false, eval (.Call (.Attribute e "items" apos) [] [] cpos) X.env) :: starEach [] X.env := by rfl) :
    PE X (.Call (.Name "list" p) [.Call (.Attribute e "items" apos) [] [] cpos] [] pos) (tNdItems X.prog X.w te) := by
  refine ⟨fun pins s σ H Q I hq => wpAny_Call_Name_kw (ld_blt I hg hm boot_list (PyProof.Rows.callWith_type1 ?_ na rfl))⟩
  rw [na]
  refine Calls.spliced_cons (wpAny_Call_method (T := "dict") (id := "dict.items") hbase rfl hline F.plainAttrs_dict F.slot_dict_items F.type_dict_items (thn (he.run pins s σ H _ I hq) fun u s1 ⟨x, H1, I1, rx, a, es, ex, d, q⟩ => ?_))
  subst ex
  cases (show u = Value.ref a from rx)
  obtain ⟨t1, t2⟩ := nd_type I1 d
  obtain ⟨_, sm, xs, _, dd⟩ := nd_of I1.hok d
  obtain ⟨ds, ep, dr, _, _⟩ := dd.raw
  refine ⟨t1, t2, ?_⟩
  show wpAny _ _ (callWith cpos (.builtin "dict.items") [.ref a] [] []) _ X.xe s1
  refine method_meetsIn F.slot_dict_items F.entry_dict_items rfl (PySem.evalArgs_none ⟨rfl, t1, F.args_dict_items_1 _, _, meets_dict_items_raw a sm, ⟨ds, ep, dr⟩, ?_⟩)
  have I2 : Inv X pins σ H1 { s1 with heap := s1.heap.push { cls := .type "dict_items", data := .fields #[.ref a] } } := I1.kept (t' := s1.toks) fun b ob q => Heap.get?_push_of_some _ q
  exact Calls.spliced_nil (nd_itemsCall hc I2 d ⟨_, Heap.get?_push_size _ rfl, rfl, rfl⟩ q)

/-! ### a tuple without a dict of its own, and dict(t) of a tuple of pairs -/
def ptup (a : Addr) (ys : List V) : HO := .ext fun h => ys.length ≤ sizeLine ∧ ∃ its : List Value, Vals ys its ∧ h.get? a = some { cls := .type "tuple", data := .seq its.toArray }
theorem call_ptup : CallR X (.type "tuple") (fun xs H Q => ∃ p ys, xs = [.ref p] ∧ SqL X.K H p ys ∧ ∀ l, H l = none → Q (.ref l) (upd H l (ptup l ys))) := by
  intro pins s σ H xs us Q I r h
  obtain ⟨p, ys, rfl, hs, q⟩ := h
  obtain rfl := Vals.ref1 r
  obtain ⟨its, rv, pl, hz⟩ := I.list hs
  refine call_tuple_list pl.isList (fun h' hk => ?_) (by rw [List.size_toArray, ← rv.length]; exact hz)
  have I1 : Inv X pins σ H { s with heap := h' } := I.kept (t' := s.toks) hk
  refine ⟨.ref h'.objs.size, _, I1.laid (t' := s.toks) (o := ptup h'.objs.size ys) (fun b o e => Heap.get?_push_of_some _ e) (Nat.le_refl _) ⟨⟨hz, its, rv, Heap.get?_push_size _ rfl⟩, ⟨_, Heap.get?_push_size _ rfl⟩, fun h1 h2 ⟨z, i, v, e⟩ st => ⟨z, i, v, st _ e⟩⟩, rfl, q _ (I1.hok.fresh (Nat.le_refl _))⟩
def putAllE (es more : List Ent) : List Ent := more.foldl (fun acc e => putE acc e.1 e.2.1 e.2.2) es
theorem putAll_rel {more : List Ent} {ms : List (List Leaf × Addr × Value)} (r : Paired EntRel more ms) : ∀ {es : List Ent} {xs : List (List Leaf × Addr × Value)}, Paired EntRel es xs → Paired EntRel (putAllE es more) (storedAllH xs ms) := by
  induction r with
  | nil => exact fun p => p
  | @cons e m l k q _ ih =>
    intro es xs p
    obtain ⟨q1, q2, q3⟩ := q
    have z := put_rel p e.1 e.2.1 q3
    rw [← q1, ← q2] at z
    have z' : Paired EntRel (putE es e.1 e.2.1 e.2.2) (storedH xs m.1 m.2.1 m.2.2) := by rw [← q2]; exact z
    exact ih z'
theorem putAll_len : ∀ (more es : List Ent), (putAllE es more).length ≤ es.length + more.length
  | [], _ => Nat.le_refl _
  | e :: more, es => by
    have h1 := putAll_len more (putE es e.1 e.2.1 e.2.2)
    have h2 := putE_len es e.1 e.2.1 e.2.2
    show (putAllE (putE es e.1 e.2.1 e.2.2) more).length ≤ es.length + (more.length + 1)
    omega
theorem putAll_mem : ∀ (more : List Ent) {es : List Ent} {x : Ent}, x ∈ putAllE es more → ∃ e ∈ es ++ more, x.1 = e.1 ∧ x.2.1 = e.2.1
  | [], es, x, h => ⟨x, by rw [List.append_nil]; exact h, rfl, rfl⟩
  | m :: more, es, x, h => by
    obtain ⟨e, he, e1, e2⟩ := putAll_mem more (es := putE es m.1 m.2.1 m.2.2) h
    rcases List.mem_append.mp he with he | he
    · rcases putE_mem he with ⟨y, hy, y1, y2, _⟩ | rfl
      · exact ⟨y, List.mem_append_left _ hy, e1.trans y1, e2.trans y2⟩
      · exact ⟨m, List.mem_append_right _ List.mem_cons_self, e1, e2⟩
    · exact ⟨e, List.mem_append_right _ (List.mem_cons_of_mem _ he), e1, e2⟩
/-- dict(t), t a tuple of pairs (key, worth) -/
theorem call_ndOf (hc : X.calm = true) (hu : X.A.units + 2 < cLine) : CallR X (.type "dict") (fun xs H Q => ∃ (a : Addr) (ts : List Addr) (es : List Ent), xs = [.ref a] ∧ H a = some (ptup a (ts.map V.ref)) ∧ PairsOf H ts es ∧
    (∀ e ∈ es, H e.2.1 = some (.tup (keyV e.1))) ∧ ∀ l, H l = none → Q (.ref l) (upd H l (nd X.prog X.w l (putAllE [] es)))) := by
  intro pins s σ H xs us Q I r h
  obtain ⟨a, ts, es, rfl, ha, hp, hkeys, q⟩ := h
  obtain rfl := Vals.ref1 r
  obtain ⟨⟨hz, its, rv, ho⟩, _⟩ := (show ObjOk X.prog X.w H s.heap a (ptup a (ts.map V.ref)) from I.hok a _ ha)
  have hlt := Paired.length hp
  have hli := rv.length
  rw [List.length_map] at hz hli
  -- the pairs as they stand in the heap
  have each : ∀ (l : List Addr) (m : List Ent), Paired (fun t (e : Ent) => H t = some (.tup [.ref e.2.1, .int e.2.2])) l m → (∀ e ∈ m, H e.2.1 = some (.tup (keyV e.1))) →
      ∃ ps : List (List Leaf × Addr × Value), Paired EntRel m ps ∧ (∀ x ∈ ps, (kd X.prog X.w).is s.heap x.1 x.2.1) ∧ Paired (fun t (x : List Leaf × Addr × Value) => s.heap.IsTuple t #[.ref x.2.1, x.2.2]) l ps := by
    intro l m p
    induction p with
    | nil => exact fun _ => ⟨[], .nil, (fun x hx => nomatch hx), .nil⟩
    | @cons t e l m q0 _ ih =>
      intro hk
      obtain ⟨ps, p1, p2, p3⟩ := ih fun e he => hk e (List.mem_cons_of_mem _ he)
      obtain ⟨_, i2, r2, o, o1, o2, n, o3⟩ := (show ObjOk X.prog X.w H s.heap t (.tup [.ref e.2.1, .int e.2.2]) from I.hok t _ q0)
      obtain ⟨u1, u2, rfl, r3, r4⟩ := vals2 r2
      cases (show u1 = Value.ref e.2.1 from r3)
      refine ⟨(keyL e.1, e.2.1, u2) :: ps, .cons ⟨rfl, rfl, r4⟩ p1, fun x hx => ?_, .cons ⟨o, o1, o2, n, o3⟩ p3⟩
      rcases List.mem_cons.mp hx with rfl | hx
      · exact key_at I.hok (hk e List.mem_cons_self)
      · exact p2 x hx
  obtain ⟨ps, p1, p2, p3⟩ := each ts es hp hkeys
  have hlp := Paired.length p1
  have hits : its = ts.map Value.ref := refs_at rv
  refine call_dict_pairsH (knd := kd X.prog X.w) (ps := ps) (PairArg.tuple a its.toArray (fun j => ts.getD j 0) (ps.map fun x => (.ref x.2.1, x.2.2))) (I.ok.hd hc) (show X.A.units + 1 + 1 < cLine by omega) ⟨⟨_, _, ho, rfl, rfl, rfl⟩, ?_, fun j k v hj => ?_⟩ ⟨by rw [List.length_map], fun i key v hi => ?_⟩
    (fun h' hk x hx => ?_) (by rw [List.length_map]; omega) fun h' tk hd' hk => ?_
  · rw [List.size_toArray, List.length_map]; omega
  · rw [List.getElem?_map] at hj
    cases e1 : ps[j]? with
    | none => rw [e1] at hj; cases hj
    | some x =>
      rw [e1] at hj
      cases Option.some.inj hj
      have hjl : j < ts.length := by
        have := (List.getElem?_eq_some_iff.mp e1).1
        omega
      have e2 : ts[j]? = some (ts.getD j 0) := by
        rw [List.getD_eq_getElem?_getD, List.getElem?_eq_getElem hjl]
        rfl
      refine ⟨?_, .inl (paired_at p3 e2 e1)⟩
      rw [hits, List.getElem?_toArray, List.getElem?_map, e2]
      rfl
  · have hi' : (ps.map fun x => (Value.ref x.2.1, x.2.2))[i]? = some (key, v) := hi
    rw [List.getElem?_map] at hi'
    cases e1 : ps[i]? with
    | none => rw [e1] at hi'; cases hi'
    | some x =>
      rw [e1] at hi'
      cases Option.some.inj hi'
      exact ⟨x.1, x.2.1, rfl, rfl⟩
  · refine (tupleKind_stays (knd := leafKind X.prog X.w)).stays (fun b o vs n e _ => ?_) (p2 x hx)
    exact hk b o (Nat.ne_of_lt (Heap.lt_size e)) (fun z => nomatch z) e
  · have I1 : Inv X pins σ H { s with heap := h', toks := tk } := I.kept fun b o e => hk b o (fun z => nomatch z) e
    have hsz : (putAllE [] es).length ≤ sizeLine := by
      have := putAll_len es []
      have e0 : ([] : List Ent).length = 0 := rfl
      omega
    have dat : NDat X.prog X.w s.heap.objs.size (putAllE [] es) h' := NDat.of_dict hsz (beq_eq_false_iff_ne.mpr fun e => Nat.lt_irrefl _ (Nat.lt_of_lt_of_le I.big (Nat.le_of_eq e))) (putAll_rel p1 .nil) hd'
    have nS : H s.heap.objs.size = none := I.hok.fresh (Nat.le_refl _)
    refine ⟨.ref s.heap.objs.size, _, inv_news (tk := tk) I (fun b o e => hk b o (fun z => nomatch z) e) (fun b o e => ?_) (fun b hb => upd_ne (Nat.ne_of_lt hb)) (fun b o e hb => ?_), rfl, q _ nS⟩
    · rw [upd_ne (ne_of_none e nS)]; exact e
    · by_cases hbs : b = s.heap.objs.size
      · subst hbs
        rw [upd_same] at e
        cases e
        exact nd_ok dat
      · rw [upd_ne hbs, I.hok.fresh hb] at e
        cases e
end
end BW
namespace BW
open PySem PySem.Spec PyProof.Rows L2

/-! ### y = {k: v for target in list}: keys that are pairs -/
/-- one turn: the target, the key, the worth, the store -/
def tNdTurn (P : Program) (w : World) (g : TG) (tk tv : TE) (vs : List Nat) (σ : L2.St) (D : Addr) (x : V) (H : Hp) (Nx : Hp → Prop) : Prop :=
  g x (wipe σ vs) H fun σ2 H2 => wipe σ2 vs = wipe σ vs ∧ tk σ2 H2 fun y H4 => tv σ2 H4 fun z H5 =>
    ∃ es k b v, y = .ref b ∧ z = .int v ∧ ND P w H5 D es ∧ H5 b = some (.tup (keyV k)) ∧ es.length < sizeLine ∧ Nx (upd H5 D (nd P w D (putE es k b v)))
def tNdComp (P : Program) (w : World) (wi : TI) (g : TG) (tk tv : TE) (vs : List Nat) : TE := fun σ H Q => wi σ H fun J H1 => ∀ D, H1 D = none → ∃ W : Nat → Nat → Hp → Prop, (∃ m, W 0 m (upd H1 D (nd P w D []))) ∧
  ∀ i m H, W i m H → (J.stop i H ∧ Q (.ref D) H) ∨ (J.go i H ∧ ∃ Nx : Hp → Prop, (∀ H', Nx H' → ∃ m', m' < m ∧ W (i + 1) m' H') ∧ ∀ x H', J.yld i H x H' → tNdTurn P w g tk tv vs σ D x H' Nx)
section
variable {X : Cx} {kx vx tg iter : Expr} {scope : Scope} {own : List (Str × Nat)} {pos spos py : Pos} {wi : TI} {g : TG} {tk tv : TE}
/-- a block's part holds wherever the block stands -/
abbrev InBlk (X : Cx) (scope : Scope) (F : Cx → Prop) : Prop := ∀ (s : Shared) (H : Hp) (C : Addr) (cl : List (Str × Addr)) (fp : List Addr), F (X.blk s H scope (compEnvC scope cl C X.env) fp)
theorem nd_comp {pins : List (Addr × Obj)} {s : Shared} {σ : L2.St} {H : Hp} {Q : VK} {fpos : Pos} {use : Option (Value → Sem Unit)} {Qf : Value → Shared → Prop} (hc : X.calm = true) (hu : X.A.units < cLine) (hN : X.N.Nodup)
    (I : Inv X pins σ H s) (hi : PI X tg iter wi) (ok : BlkOk X.N X.env.scope scope own) (hg : InBlk X scope fun Y => PG Y tg g) (hk : InBlk X scope fun Y => PE Y kx tk) (hv : InBlk X scope fun Y => PE Y vx tv)
    (hs : ∀ x, foldedSetIterable iter X.env x = pure x) (h : tNdComp X.prog X.w wi g tk tv (own.map (·.2)) σ H Q)
    (back : ∀ D C s' m H', Inv X pins σ H' s' → Q (.ref D) H' → s'.heap.Ns C m → FpOk X pins H' C → compPost (model X.prog X.w) X.A X.xe use Qf (.ref D) C (.ok .next) s') :
    wpAny (model X.prog X.w) X.A (comprehension (.DictComp kx vx [⟨tg, iter, [], 0⟩] scope pos) scope X.env fpos newDict false (eval iter X.env) use) Qf X.xe s := by
  have cellsOk : ∀ y ∈ scope.names, y.2 = .free → ∃ c, X.env.cells.lookup y.1 = some c := fun y hy e => (ok.free y hy e).elim (fun k => I.ok.has _ (.inl k)) fun k => I.ok.has _ (.inr k)
  refine wpAny_comprehension_free (use := use) rfl hs (closure_ok cellsOk) ok.kind (fun y hy e => by rw [ok.uniq y hy, e]) (thn (hi.run pins s σ H _ I h) fun xv sA hA => thn hA fun itv sB hB => ?_)
  obtain ⟨it, fp, tn, J, HB, rfl, IB, T, stB, fB, q⟩ := hB
  refine wpAny_newObj_type (newEnv_comp ?_)
  obtain ⟨W, ⟨m0, w0⟩, turn⟩ := q sB.heap.objs.size (IB.hok.fresh (Nat.le_refl _))
  -- the state behind the new dict
  obtain ⟨sC, eC⟩ : ∃ sC : Shared, sC = { sB with heap := sB.heap.push { cls := .type "dict", data := .dict #[] } } := ⟨_, rfl⟩
  obtain ⟨D, eD⟩ : ∃ D, D = sB.heap.objs.size := ⟨_, rfl⟩
  obtain ⟨HC, eH⟩ : ∃ HC, HC = upd HB D (nd X.prog X.w D []) := ⟨_, rfl⟩
  have IC : Inv X pins σ HC sC := by
    rw [eC, eH, eD]
    exact IB.laid (t' := sB.toks) (fun b o e => Heap.get?_push_of_some _ e) (Nat.le_refl _) (nd_ok (nd_empty sB.heap IB.big))
  have oldC : ∀ b o, sB.heap.get? b = some o → sC.heap.get? b = some o := fun b o e => by rw [eC]; exact Heap.get?_push_of_some _ e
  have fpB : ∀ b ∈ fp, ∃ o, sB.heap.get? b = some o := fun b hb => (T.obj _ _ stB b hb).elim fun o e => ⟨o, e.1⟩
  have fpC : ∀ b ∈ fp, FpOk X pins HC b ∧ b < sC.heap.objs.size := fun b hb => by
    obtain ⟨o, e⟩ := fpB b hb
    refine ⟨⟨?_, (fB b hb).2⟩, Heap.lt_size (oldC b o e)⟩
    rw [eH, upd_ne (by rw [eD]; exact Nat.ne_of_lt (Heap.lt_size e))]
    exact (fB b hb).1
  have ID := block_start IC ok hN fpC
  rw [← eD] at w0 turn
  rw [← eH] at w0
  -- the block's own frame
  have cdef : ∀ fr cl0, compEnvC scope cl0 fr X.env = compEnvC scope cl0 fr X.env := fun _ _ => rfl
  have gD := hg sC HC sC.heap.objs.size (cellsFrom (sC.heap.objs.size + 1) scope.names (cloFrom X.env.cells scope.names [])) fp
  have kD := hk sC HC sC.heap.objs.size (cellsFrom (sC.heap.objs.size + 1) scope.names (cloFrom X.env.cells scope.names [])) fp
  have vD := hv sC HC sC.heap.objs.size (cellsFrom (sC.heap.objs.size + 1) scope.names (cloFrom X.env.cells scope.names [])) fp
  rw [← eD]
  suffices G : codeAny (model X.prog X.w) X.A (.compLoop (.DictComp kx vx [⟨tg, iter, [], 0⟩] scope pos) 0 (.ref it) (.ref D) (compEnvC scope (cellsFrom (sC.heap.objs.size + 1) scope.names (cloFrom X.env.cells scope.names [])) sC.heap.objs.size X.env))
      (compPost (model X.prog X.w) X.A X.xe use Qf (.ref D) sC.heap.objs.size) { sC with heap := pushCells (sC.heap.push { cls := .type "dict", data := .dict #[] }) scope.names } by
    have st0 : tn 0 (pushCells (sC.heap.push { cls := .type "dict", data := .dict #[] }) scope.names) := T.keep _ _ _ stB fun b _ o e => pushCells_keeps _ _ _ _ (Heap.get?_push_of_some _ (oldC b o e))
    have z := codeAny_compStart_dict G (T.self X.A 0 _ _ _ st0 G)
    rw [eC] at z
    rw [eC] at G
    exact z
  have st1 : tn 0 ({ sC with heap := pushCells (sC.heap.push { cls := .type "dict", data := .dict #[] }) scope.names } : Shared).heap := T.keep _ _ _ stB fun b _ o e => pushCells_keeps _ _ _ _ (Heap.get?_push_of_some _ (oldC b o e))
  generalize hce : compEnvC scope (cellsFrom (sC.heap.objs.size + 1) scope.names (cloFrom X.env.cells scope.names [])) sC.heap.objs.size X.env = ce at ID gD kD vD ⊢
  have frame : ce.locals = sC.heap.objs.size := by rw [← hce]; rfl
  generalize hsE : ({ sC with heap := pushCells (sC.heap.push { cls := .type "dict", data := .dict #[] }) scope.names } : Shared) = sE at ID st1 ⊢
  have own0 : ∀ {τ : L2.St} {K' : Hp} {r : Shared}, Inv (X.blk sC HC scope ce fp) [] τ K' r → (∀ b ∈ fp, K' b = none) → ∀ b ∈ fp, FpOk (X.blk sC HC scope ce fp) [] K' b := fun {τ K' r} J' z b hb =>
    ⟨z b hb, (J'.ok.exf b hb).1, J'.ok.exfs b hb, .inl hb, fun x c e => (J'.ok.exf b hb).2 x c e, fun p hp => nomatch hp⟩
  refine compLoop_anyD (fun n r => ∃ i K', Inv (X.blk sC HC scope ce fp) [] (wipe σ (own.map (·.2))) K' r ∧ tn i r.heap ∧ (∀ b ∈ fp, K' b = none) ∧ W i n K') ?_ m0 ⟨0, HC, ID, st1, fun b hb => (fpC b hb).1.1, w0⟩
  rintro n r1 ⟨i, K1, J1, t1, z1, ww⟩
  rcases turn i n K1 ww with ⟨stop, fin⟩ | ⟨go, Nx, less, step⟩
  · -- no item is left
    refine thnF (T.done (X.blk sC HC scope ce fp) rfl rfl rfl hc i [] r1 _ K1 (fun _ _ => False) J1 (own0 J1 z1) t1 stop) fun v r2 ⟨ev, J2⟩ => ?_
    subst ev
    have out : Inv X pins σ K1 r2 := IC.call' (ch := fp) J2.os J2.base J2.hok J2.bare fun b hb => ⟨(fpC b hb).1.2.2.2.1, (fpC b hb).1.2.1, (fpC b hb).1.2.2.2.2.1, (fpC b hb).1.2.2.2.2.2⟩
    have nf : K1 sC.heap.objs.size = none := by rw [← frame]; exact J2.free
    obtain ⟨m, hm, _⟩ := J2.loc
    exact back D sC.heap.objs.size r2 m K1 out fin (by rw [← frame]; exact hm) (IC.fpOk (Nat.le_refl _) nf)
  · -- a turn
    refine thnF (T.item (X.blk sC HC scope ce fp) rfl rfl rfl hc i [] r1 _ K1 (fun _ _ => False) J1 (own0 J1 z1) t1 go) fun v r2 ⟨u, ev, h2⟩ => ?_
    subst ev
    refine thnF h2 fun _ r3 ⟨x, K3, J3, rx, yl, t3, z3⟩ => ?_
    have J3p := J3.pinned (own0 J3 z3) (T.obj _ _ t3)
    refine thnF (gD.run _ r3 _ K3 x u _ J3p rx (step x K3 yl)) fun _ r4 ⟨σ4, K4, J4, ew, q4⟩ => ?_
    refine thnF ((pts_nil (X := X.blk sC HC scope ce fp)).run _ r4 σ4 K4 _ J4 (show tYes σ4 K4 (fun c K5 => c = true ∧ K5 = K4) from ⟨rfl, rfl⟩)) fun c r5 ⟨K5, J5, ec, eK⟩ => ?_
    subst ec eK
    rw [if_pos rfl]
    refine thnF (kD.run _ r5 σ4 K5 _ J5 q4) fun ku r6 ⟨ky, K6, J6, rk, q6⟩ => thnF (vD.run _ r6 σ4 K6 _ J6 q6) fun vu r7 ⟨vz, K7, J7, rz, es, k, b, y, ek, ez, d7, hb7, l7, nx⟩ => ?_
    subst ek ez
    cases (show ku = Value.ref b from rk)
    refine nd_dictSet (X := X.blk sC HC scope ce fp) hu J7 d7 hb7 l7 rz fun r8 J8 => ?_
    obtain ⟨m', lt, w8⟩ := less _ nx
    have stay : ∀ c ∈ fp, ∀ o, r3.heap.get? c = some o → r8.heap.get? c = some o ∧ _ = none := fun c hc o e =>
      have z := J8.pin (c, o) (List.mem_append_right _ (List.mem_append_right _ (mem_pinsAt hc e)))
      ⟨z.1, z.2.1⟩
    refine ⟨m', lt, i + 1, _, (J8.unpinned (pins := [])).weak (by rw [← ew, wipe_length]) (fun j y e => ?_), T.keep _ _ _ t3 fun c hc o e => (stay c hc o e).1, fun c hc => ?_, w8⟩
    · rw [← ew] at e
      exact (wipe_some e).1
    · obtain ⟨o, e, _⟩ := T.obj _ _ t3 c hc
      exact (stay c hc o e).2
/-- y = {..} on one line, y a local -/
theorem ps_setNdc {i : Nat} {y : Str} (hc : X.calm = true) (hu : X.A.units < cLine) (hN : X.N.Nodup) (hy : X.N[i]? = some y) (hyl : X.env.scope.names.lookup y = some .local) (hsw : swapsWith (.DictComp kx vx [⟨tg, iter, [], 0⟩] scope pos) (some (.Name y py)) spos.line X.env = pure true)
    (hi : PI X tg iter wi) (ok : BlkOk X.N X.env.scope scope own) (hg : InBlk X scope fun Y => PG Y tg g) (hk : InBlk X scope fun Y => PE Y kx tk) (hv : InBlk X scope fun Y => PE Y vx tv) (hs : ∀ x, foldedSetIterable iter X.env x = pure x := by intro _; rfl) :
    PS X (.Assign [.Name y py] (.DictComp kx vx [⟨tg, iter, [], 0⟩] scope pos) spos) (tAsg (tNdComp X.prog X.w wi g tk tv (own.map (·.2))) (gName i)) := by
  refine ⟨fun pins s σ H D I h => ?_⟩
  have hq : tNdComp X.prog X.w wi g tk tv (own.map (·.2)) σ H (fun x H1 => gName i x σ H1 D.nx) := h
  rw [exec_Assign_Name_used _ _ _ _ hsw]
  refine wpAny_bind (wpAny_standAt (wpAny_bind ?_))
  show wpAny _ X.A ((comprehension (.DictComp kx vx [⟨tg, iter, [], 0⟩] scope pos) scope X.env (firstIterPos [⟨tg, iter, [], 0⟩] pos) newDict false (eval iter X.env) (some (assign (.Name y py) X.env))) >>= fun _ => pure ()) _ _ s
  refine wpAny_bind (thn (nd_comp (Qf := fun _ s' => SP X pins D .next s') hc hu hN I hi ok hg hk hv hs hq fun L C r m K' J q hn f => ?_) fun _ r z => wpAny_pure (wpAny_pure z))
  show wpAny _ _ (assign (.Name y py) X.env (.ref L)) _ _ _
  refine wpAny_assign_Name (store_ok2 (v := V.ref L) J hN hy (.inl hyl) rfl (fun r2 J2 ⟨a, sb, ha⟩ => ?_) (.inr hyl))
  obtain ⟨f0, f1, f2, f3, f4, f5⟩ := f
  have apart : C ≠ a := ha.elim (fun z => by rw [z]; exact f1) fun z e => f4 y a z e.symm
  exact ⟨m, hn.sameBut sb apart, fun h3 sb3 => ⟨_, K', J2.turned (t' := r2.toks) (fun b o hb e => (sb3.2 b hb).trans e) f0 f1 f3 f4 f5, q⟩⟩
theorem sw_dict {gs : List Comprehension} {y : Str} {l : Nat} {env : Env} (hk : env.scope.kind = .function) (hy : env.scope.names.lookup y = some .local) (hl : (py.line == pos.line) = true)
    (ha : (scope.names.any fun (n, k) => n == y && (k == .local || k == .cell)) = false) : swapsWith (.DictComp kx vx gs scope pos) (some (.Name y py)) l env = pure true := by
  have k1 : env.kindOf y = some .local := hy
  have k2 : env.blockKind = .function := by unfold Env.blockKind; rw [hk]; rfl
  unfold swapsWith
  simp only [k1, k2, ha, Expr.pos, hl]
  rfl
end
end BW
namespace BW
open PySem PySem.Spec PyProof.Rows L2

/-! ### sorted(d, key=f): f gives a new list of two ints -/
def ordO : Option Int → Int
  | none => -1
  | some i => i
def keyD2 (k : NK) : PyData := .list [.int (ordO k.1), .int k.2]
/-- f's promise -/
def spOrd : Sp := fun vs H Q _ => ∃ b k, vs = [.ref b] ∧ H b = some (.tup (keyV k)) ∧ ∀ p H', Same H H' → H p = none → H' p = some (.lst [.int (ordO k.1), .int k.2]) → Q (.ref p) H'
theorem alike_keys (es : List NK) : PySem.W.AllAlike (es.map keyD2) := PySem.W.AllAlike.of fun b b' => by simp [keyD2, PySem.W.alike, PySem.W.alikeAll]
theorem sortable_keys (es : List NK) : PySem.W.Sortable (es.map keyD2) := PySem.W.Sortable.others fun b => ⟨nofun, nofun⟩
theorem depth_key (k : NK) : (keyD2 k).depth ≤ 2 := by simp [keyD2, PyData.depth, PyData.depthAll]
def addrOf : Value → Addr
  | .ref a => a
  | _ => 0
/-- the keys that were made so far -/
def KeysMade (H : Hp) (us : List Value) (ks : List NK) : Prop := Paired (fun u k => ∃ b, u = Value.ref b ∧ H b = some (.lst [.int (ordO k.1), .int k.2])) us ks
theorem KeysMade.same {H H' : Hp} {us : List Value} {ks : List NK} (m : KeysMade H us ks) (s : Same H H') : KeysMade H' us ks := Paired.mapP m fun _ _ ⟨b, e, h⟩ => ⟨b, e, s _ _ h⟩
theorem keys_read {X : Cx} {pins : List (Addr × Obj)} {σ : L2.St} {H : Hp} {s : Shared} (I : Inv X pins σ H s) {us : List Value} {ks : List NK} (m : KeysMade H us ks) :
    PySem.W.EachIs (fun v d => ∃ as, Reads s.heap v d as) us (ks.map keyD2) := by
  induction m with
  | nil => exact .nil
  | @cons u k us ks q _ ih =>
    obtain ⟨b, rfl, hb⟩ := q
    refine .cons ?_ ih
    exact Dp.reads I (keyD2 k) (.ref b) _ (.lst (SqL.of hb) (.cons (.int _) (.cons (.int _) .nil))) rfl
theorem out_perm {κ : PyProof.Rows.KeyKind} {us : List Value} {as : List Addr} (hl : us.length = as.length) :
    ∃ bs : List Addr, PySem.W.sortVals κ false us (as.map Value.ref) = bs.map Value.ref ∧ bs.Perm as := by
  have hp : (PySem.W.sortVals κ false us (as.map Value.ref)).Perm (as.map Value.ref) := by
    unfold PySem.W.sortVals
    have e := (List.mergeSort_perm (us.zip (as.map Value.ref)) (PySem.W.sortLe κ.toKeyOrd false fun p : Keyed => PySem.W.keyD κ p.1)).map Prod.snd
    rw [List.map_snd_zip (by rw [List.length_map]; omega)] at e
    exact e
  have back : ∀ l : List Value, (∀ v ∈ l, ∃ a, v = Value.ref a) → l = (l.map addrOf).map Value.ref := by
    intro l
    induction l with
    | nil => exact fun _ => rfl
    | cons v l ih =>
      intro h
      obtain ⟨a, rfl⟩ := h v List.mem_cons_self
      rw [List.map_cons, List.map_cons, ← ih fun u hu => h u (List.mem_cons_of_mem _ hu)]
      rfl
  refine ⟨_, back _ fun v hv => ?_, ?_⟩
  · obtain ⟨a, _, rfl⟩ := List.mem_map.mp (hp.mem_iff.mp hv)
    exact ⟨a, rfl⟩
  · have e := hp.map addrOf
    rw [List.map_map] at e
    have e2 : as.map (addrOf ∘ Value.ref) = as := by
      have : (addrOf ∘ Value.ref) = id := rfl
      rw [this, List.map_id]
    rw [e2] at e
    exact e

section
variable {X : Cx} {pins : List (Addr × Obj)} {σ : L2.St}
/-- the two lists of the sort, pinned as they stand -/
theorem repin {H : Hp} {s : Shared} {a kS : Addr} {o1 o2 : Obj} (I : Inv X pins σ H s) (h1 : s.heap.get? kS = some o1) (h2 : s.heap.get? a = some o2) (n1 : H kS = none) (n2 : H a = none)
    (l1 : kS ≠ X.env.locals ∧ kS ∉ X.fs) (l2 : a ≠ X.env.locals ∧ a ∉ X.fs) (c1 : ∀ v, o1.data ≠ .cell v) (c2 : ∀ v, o2.data ≠ .cell v) : Inv X (pins ++ [(kS, o1), (a, o2)]) σ H s :=
  I.pins_of fun p hp => by
    rcases List.mem_append.mp hp with hp | hp
    · exact I.pin p (List.mem_append_right _ hp)
    · rcases List.mem_cons.mp hp with rfl | hp
      · exact ⟨h1, n1, l1.1, l1.2, c1⟩
      · rcases List.mem_cons.mp hp with rfl | hp
        · exact ⟨h2, n2, l2.1, l2.2, c2⟩
        · exact nomatch hp
/-- one key is made -/
theorem key_call {k f : Nat} {fd : FuncData} {A : Around} (F : FnOk X.prog X.w X.K X.mg X.base CX0 k f fd ["key"] spOrd) (hr : Room k A) (hf : A.frames = some X.stack) (hb : Binds X.K fd ["key"] []) {H : Hp} {s : Shared} {b : Addr} {key : NK} (I : Inv X pins σ H s)
    (h : H b = some (.tup (keyV key))) {E : Value → Shared → Prop} : wpAny (model X.prog X.w) A (call (.ref f) [.ref b]) (fun u s' => ∃ p H', u = Value.ref p ∧ Inv X pins σ H' s' ∧ Same H H' ∧ H' p = some (.lst [.int (ordO key.1), .int key.2])) E s := by
  have e0 : Env0 X.prog X.w X.K X.mg X.base A X.stack s H := ⟨hf, I.env0.mod, I.env0.bs, I.env0.bsz, I.env0.funs, I.env0.frf, I.env0.hok, I.env0.bare⟩
  refine wpAny_call (codeAny_mono (F.run A X.stack s H ⟨[.ref b], []⟩ [.ref b] [V.ref b] (fun v H' => ∃ p, v = .ref p ∧ Same H H' ∧ H' p = some (.lst [.int (ordO key.1), .int key.2])) E0 hr e0 (hb s [.ref b] I.kIn rfl) (.cons rfl .nil)
    ⟨b, key, rfl, h, fun p H' sm _ hp => ⟨p, rfl, sm, hp⟩⟩) fun r s' hq => ?_)
  cases r with
  | error e => exact hq.elim
  | ok fl =>
    cases fl with
    | ret u =>
      obtain ⟨v, H', J, rv, p, rfl, sm, hp⟩ := I.after hq
      exact ⟨p, H', rv, J, sm, hp⟩
    | _ => exact hq.elim
/-- all keys are made, then the items are sorted by them -/
theorem nd_sortRest {k f a kS : Nat} {fd : FuncData} {A : Around} {E : Value → Shared → Prop} (F : FnOk X.prog X.w X.K X.mg X.base CX0 k f fd ["key"] spOrd) (hr : Room k A) (hf : A.frames = some X.stack) (hb : Binds X.K fd ["key"] []) (hu : A.units + 3 < cLine) {H : Hp} {s : Shared} {e1 : Nat}
    (I : Inv X pins σ H s) (fk : FpOk X pins H kS) (fa : FpOk X pins H a) (hka : kS ≠ a) (nk : s.heap.get? kS = some (seqObj "list" #[] 0)) (na : s.heap.get? a = some (seqObj "list" #[] e1)) {as : List Addr} {ks : List NK}
    (hk : Paired (fun b key => H b = some (.tup (keyV key))) as ks) (hz : as.length ≤ sizeLine) {R : PySem.Fin → Shared → Prop}
    (h : ∀ (bs : List Addr) H' s', Inv X pins σ H' s' → Same H H' → H' a = some (.lst (bs.map V.ref)) → bs.Perm as → R (.done (.ret .none)) s') :
    wpAny (model X.prog X.w) A (ksk_rest a (.ref f) false (as.map Value.ref).toArray e1 (.ref kS)) R E s := by
  obtain ⟨fk0, fk1, fk2, fk3, fk4, fk5⟩ := fk
  obtain ⟨fa0, fa1, fa2, fa3, fa4, fa5⟩ := fa
  have hlen := Paired.length hk
  unfold ksk_rest
  refine wpAny_bind (wpAny_rule ?_)
  rw [List.forIn_toArray]
  refine wpAny_bind (ksk_fold (fun i r => ∃ H1 kA e, Inv X (pins ++ [(kS, seqObj "list" kA e), (a, seqObj "list" #[] e1)]) σ H1 r ∧ Same H H1 ∧ KeysMade H1 kA.toList (ks.take i)) (as.map Value.ref) 0 s
    ⟨H, #[], 0, repin I nk na fk0 fa0 ⟨fk1, fk2⟩ ⟨fa1, fa2⟩ (fun _ z => nomatch z) (fun _ z => nomatch z), Same.refl H, by rw [List.take_zero]; exact .nil⟩ (fun j x r hx ⟨H1, kA, e, J, sm, mk⟩ => ?_) fun r ⟨H1, kA, e, J, sm, mk⟩ => ?_)
  · -- a turn
    simp only [Nat.zero_add] at mk ⊢
    rw [List.getElem?_map] at hx
    obtain ⟨b, hbj, ex⟩ : ∃ b, as[j]? = some b ∧ x = Value.ref b := by
      cases q : as[j]? with
      | none => rw [q] at hx; cases hx
      | some b => rw [q] at hx; exact ⟨b, rfl, (Option.some.inj hx).symm⟩
    subst ex
    have hjl : j < as.length := (List.getElem?_eq_some_iff.mp hbj).1
    obtain ⟨key, hkj⟩ : ∃ key, ks[j]? = some key := ⟨ks[j]'(by omega), List.getElem?_eq_getElem (by omega)⟩
    have hkb := paired_at hk hbj hkj
    have hkz : kA.size ≤ sizeLine := by
      have z := Paired.length mk
      rw [Array.length_toList, List.length_take] at z
      omega
    refine wpAny_bind (wpAny_attempt (wpAny_mono (key_call F hr hf hb J (sm _ _ hkb)) (fun u r2 ⟨p, H2, eu, J2, sm2, hp⟩ => ?_) fun _ _ z => z))
    subst eu
    obtain ⟨pk1, pk2, _⟩ := J2.pin (kS, seqObj "list" kA e) (List.mem_append_right _ (List.mem_append_right _ List.mem_cons_self))
    obtain ⟨pa1, pa2, _⟩ := J2.pin (a, seqObj "list" #[] e1) (List.mem_append_right _ (List.mem_append_right _ (List.mem_cons_of_mem _ List.mem_cons_self)))
    dsimp only at pk1 pk2 pa1 pa2
    have J3 : Inv X pins σ H2 r2 := J2.unpinned
    have sb := Heap.SameBut.update r2.heap kS (Obj.mapSeq (·.push (Value.ref p)))
    obtain ⟨c2, hc2⟩ : ∃ c2, (r2.heap.update kS (Obj.mapSeq (·.push (Value.ref p)))).get? kS = some (seqObj "list" (kA.push (.ref p)) c2) := ⟨_, get?_update_seq pk1 (·.push (Value.ref p))⟩
    refine wpAny_bind (listUpdate_at pk1 rfl ?_ hkz (by rw [Array.size_push]; omega))
    have J4 := J3.turned (t' := r2.toks) (fun b o z q => (sb.2 b z).trans q) pk2 fk1 fk3 fk4 fk5
    refine wpAny_pure ⟨rfl, H2, kA.push (.ref p), c2, repin J4 hc2 ((sb.2 a hka.symm).trans pa1) pk2 pa2 ⟨fk1, fk2⟩ ⟨fa1, fa2⟩ (fun _ z => nomatch z) (fun _ z => nomatch z), sm.trans sm2, ?_⟩
    have et : ks.take (j + 1) = ks.take j ++ [key] := by rw [List.take_add_one, hkj]; rfl
    rw [et, Array.toList_push]
    exact Paired.snoc (mk.same sm2) ⟨p, rfl, hp⟩
  · -- behind the turns
    have et : ks.take (0 + (as.map Value.ref).length) = ks := List.take_of_length_le (by rw [List.length_map]; omega)
    rw [et] at mk
    obtain ⟨pk1, pk2, _⟩ := J.pin (kS, seqObj "list" kA e) (List.mem_append_right _ (List.mem_append_right _ List.mem_cons_self))
    obtain ⟨pa1, pa2, _⟩ := J.pin (a, seqObj "list" #[] e1) (List.mem_append_right _ (List.mem_append_right _ (List.mem_cons_of_mem _ List.mem_cons_self)))
    dsimp only at pk1 pk2 pa1 pa2
    have J3 : Inv X pins σ H1 r := J.unpinned
    have lk := Paired.length mk
    rw [Array.length_toList] at lk
    refine wpAny_bind (listItems_at pk1 rfl ?_)
    refine PySem.W.keyH_end (κ := PySem.W.dataKind r.heap (ks.map keyD2)) (h₁ := PySem.W.hideAll r.heap [kS]) (vs := as.map Value.ref) (fun b o _ q => PySem.W.of_hideAll [kS] q) (PySem.W.hideAll_none [kS] List.mem_cons_self) pk1 pa1 hka
      (PySem.W.SortsAt.data (keys_read J3 mk) (alike_keys ks) (sortable_keys ks) fun d hd => ?_) (by rw [List.length_map]; omega) (by rw [List.length_map]; exact hz) fun h' tk c kp hA => ?_
    · obtain ⟨key, _, rfl⟩ := List.mem_map.mp hd
      have := depth_key key
      omega
    obtain ⟨bs, e2, pm⟩ := out_perm (κ := PySem.W.dataKind r.heap (ks.map keyD2)) (us := kA.toList) (as := as) (by rw [Array.length_toList]; omega)
    rw [e2] at hA
    have stay : ∀ b o, b ≠ a → b ≠ kS → r.heap.get? b = some o → h'.get? b = some o := fun b o z1 z2 q => kp b o z1 (PySem.W.hideAll_get [kS] q fun m => z2 (List.mem_singleton.mp m))
    have off : ∀ {b : Addr} {u : HO}, H1 b = some u → b ≠ a ∧ b ≠ kS := fun {b u} q => ⟨(fun z => by rw [z, pa2] at q; cases q), (fun z => by rw [z, pk2] at q; cases q)⟩
    have sm3 : Same H1 (upd H1 a (.lst (bs.map V.ref))) := fun b o q => by rw [upd_ne (off q).1]; exact q
    refine h bs (upd H1 a (.lst (bs.map V.ref))) _ (J3.step (g' := r.gens) (d' := r.drawn) (t' := tk) (ch := [a, kS]) (fun b hb => ?_) (fun b o _ _ hc q _ => stay b o (fun z => hc (by simp [z])) (fun z => hc (by simp [z])) q) (fun b o _ _ hc q _ => ⟨o.slots, stay b o (fun z => hc (by simp [z])) (fun z => hc (by simp [z])) q⟩)
      (fun b o hc q n => by rw [upd_ne (fun z => hc (by simp [z]))]; exact n) (fun b o hc q => ⟨o, stay b o (fun z => hc (by simp [z])) (fun z => hc (by simp [z])) q⟩) (fun b xs q => sm3 b _ q) (fun b o u q => sm3 b _ q) (fun b ps q => ⟨#[], by rw [sm3 b _ q]; simp⟩) (fun m hm => ?_) (fun b u q => ?_) J3.bare) (sm.trans sm3) upd_same pm
    · rcases List.mem_cons.mp hb with rfl | hb
      · exact ⟨fa3, fa1, fa4, fa5⟩
      · rcases List.mem_cons.mp hb with rfl | hb
        · exact ⟨fk3, fk1, fk4, fk5⟩
        · exact nomatch hb
    · obtain ⟨o, es, ep, ho, w⟩ := hm
      exact ⟨o, es, ep, stay _ o fa1.symm fk1.symm ho, w⟩
    · by_cases z : b = a
      · subst z
        rw [upd_same] at q
        cases q
        refine ⟨by rw [List.length_map, pm.length_eq]; exact hz, bs.map Value.ref, c, vals_refs' bs, hA⟩
      · rw [upd_ne z] at q
        refine (J3.hok b u q).stay (fun d v hd y => ?_) (fun d y => sm3 d _ y) fun d xs y => sm3 d _ y
        rcases hd with rfl | hd
        · exact stay d v (off q).1 (off q).2 y
        · exact stay d v (off hd).1 (off hd).2 y
def rNdSorted (P : Program) (w : World) (f : Addr) : List V → List V → Hp → VK → Prop := fun vs zs H Q => ∃ d es, vs = [.ref d] ∧ zs = [.ref f] ∧ ND P w H d es ∧
  ∀ (bs : List Addr) H' p, Same H H' → H p = none → H' p = some (.lst (bs.map V.ref)) → bs.Perm (es.map (·.2.1)) → Q (.ref p) H'
theorem keys_paired {H : Hp} : ∀ {es : List Ent}, (∀ e ∈ es, H e.2.1 = some (.tup (keyV e.1))) → Paired (fun b key => H b = some (.tup (keyV key))) (es.map (·.2.1)) (es.map (·.1))
  | [], _ => .nil
  | e :: es, h => .cons (h e List.mem_cons_self) (keys_paired fun x hx => h x (List.mem_cons_of_mem _ hx))
theorem call_ndSorted {k f : Nat} {fd : FuncData} (hc : X.calm = true) (F : FnOk X.prog X.w X.K X.mg X.base CX0 k f fd ["key"] spOrd) (hr : Room (k + 2) X.A) (hb : Binds X.K fd ["key"] []) : CallRK X (.builtin "sorted") [Str.ofString "key"] (rNdSorted X.prog X.w f) := by
  intro pins s σ H vs zs us ws Q I rv rz h
  obtain ⟨d, es, rfl, rfl, nd0, q⟩ := h
  obtain rfl := Vals.ref1 rv
  obtain rfl := Vals.ref1 rz
  obtain ⟨z, sm, xs, pr, o, ds, ep, ho, hx, hd, he, _, _⟩ := nd_of I.hok nd0
  have l1 : ds.size = xs.length := size_of_entries he
  have l2 := Paired.length pr
  show wpAny _ _ (call (.builtin "sorted") [.ref d] [(Str.ofString "key", .ref f)]) _ _ _
  refine call_function_entry_kw kind_sorted plain_sorted entry_sorted (ksk_s1 _ _) ?_
  unfold Builtin.«sorted»
  refine wpAny_bind (m := checkCount "sorted" 1 1 _) (wpAny_pure ?_)
  refine wpAny_bind (PySem.W.kdu_collect (A := X.A.in1) (kdl_raw sm hx hd) (show X.A.in1.handled = none from I.ok.hd hc) ho (by omega) fun h1 tk1 acc hk1 it => ?_)
  -- what was gathered: the keys' tuples
  have ea : acc.toList = (es.map (·.2.1)).map Value.ref := by
    apply List.ext_getElem?
    intro j
    have hl : acc.toList.length = es.length := by rw [Array.length_toList, it.1]; omega
    rw [List.getElem?_map, List.getElem?_map]
    cases hj : acc.toList[j]? with
    | none =>
      have z1 := List.getElem?_eq_none_iff.mp hj
      rw [List.getElem?_eq_none (by omega)]
      rfl
    | some v =>
      have z1 := (List.getElem?_eq_some_iff.mp hj).1
      have z2 : j < es.length := by omega
      have z3 : j < xs.length := by omega
      obtain ⟨en, hen, hv⟩ := it.2 j v (by rw [← Array.getElem?_toList]; exact hj)
      have qe := entry_at he j
      rw [hen, List.getElem?_eq_getElem z3] at qe
      have e2 : en = entryOfKey (kd X.prog X.w) xs[j] := Option.some.inj qe
      obtain ⟨_, r2, _⟩ := paired_at pr (List.getElem?_eq_getElem z2) (List.getElem?_eq_getElem z3)
      rw [List.getElem?_eq_getElem z2, hv, e2]
      show some (Value.ref xs[j].2.1) = some (Value.ref es[j].2.1)
      rw [r2]
  rw [ea]
  have hz : ((es.map (·.2.1)).map Value.ref).length ≤ sizeLine := by rw [List.length_map, List.length_map]; exact z
  refine wpAny_bind (wpAny_newList ?_ hz)
  have I1 : Inv X pins σ H { s with heap := h1, toks := tk1 } := I.kept hk1
  have hoL : (h1.push (seqObj "list" ((es.map (·.2.1)).map Value.ref).toArray 0)).get? h1.objs.size = some (seqObj "list" ((es.map (·.2.1)).map Value.ref).toArray 0) := Heap.get?_push_size _ rfl
  refine wpAny_bind (wpAny_holding (wpAny_call_entry_kw slot_list_sort ⟨_, hoL, rfl⟩ entry_list_sort ?_ (ksk_l1 _ _)))
  rw [ksk_t1]
  unfold ksk_tree
  refine wpAny_bind (listItems_at hoL rfl ?_)
  refine wpAny_bind (listUpdate_at hoL rfl ?_ (by rw [List.size_toArray]; exact hz) (Nat.zero_le _))
  obtain ⟨e1, ho1⟩ : ∃ e1, ((h1.push (seqObj "list" ((es.map (·.2.1)).map Value.ref).toArray 0)).update h1.objs.size (Obj.mapSeq fun _ => (#[] : Array Value))).get? h1.objs.size = some (seqObj "list" #[] e1) := ⟨_, get?_update_seq hoL fun _ => #[]⟩
  refine wpAny_bind (seqEpoch_at ho1 rfl ?_)
  refine wpAny_bind (wpAny_newTuple ?_ (by show ((es.map (·.2.1)).map Value.ref).length ≤ _; exact hz))
  refine wpAny_bind (wpAny_newList ?_ (Nat.zero_le _))
  refine wpAny_holding ?_
  have keep2 : ∀ b o, h1.get? b = some o → (((h1.push (seqObj "list" ((es.map (·.2.1)).map Value.ref).toArray 0)).update h1.objs.size (Obj.mapSeq fun _ => (#[] : Array Value))).push (seqObj "tuple" ((es.map (·.2.1)).map Value.ref).toArray 0)).get? b = some o := fun b o q =>
    Heap.get?_push_of_some _ ((Heap.get?_update_ne _ _ _ _ (Nat.ne_of_lt (Heap.lt_size q))).trans (Heap.get?_push_of_some _ q))
  have I2 := I1.kept (t' := tk1) keep2
  have I3 := I1.kept (t' := tk1) fun b o q => Heap.get?_push_of_some (seqObj "list" #[] 0) (keep2 b o q)
  have lt : h1.objs.size < (((h1.push (seqObj "list" ((es.map (·.2.1)).map Value.ref).toArray 0)).update h1.objs.size (Obj.mapSeq fun _ => (#[] : Array Value))).push (seqObj "tuple" ((es.map (·.2.1)).map Value.ref).toArray 0)).objs.size :=
    Heap.lt_size (Heap.get?_push_of_some _ ho1)
  refine nd_sortRest (A := X.A.in1.in1) F hr.in1.in1 I.ok.frames hb (by have := hr.un; show X.A.units + 1 + 1 + 3 < cLine; omega) I3 (I2.fpOk (Nat.le_refl _) (I2.hok.fresh (Nat.le_refl _))) (I1.fpOk (Nat.le_refl _) (I1.hok.fresh (Nat.le_refl _))) (Nat.ne_of_gt lt)
    (Heap.get?_push_size _ rfl) (Heap.get?_push_of_some _ (Heap.get?_push_of_some _ ho1)) (keys_paired nd0.keys) (by rw [List.length_map]; exact z) fun bs H' s' J sm1 hp pm => ⟨_, rfl, ?_⟩
  exact wpAny_pure ⟨_, rfl, .ref h1.objs.size, H', J, rfl, q bs H' h1.objs.size sm1 (I1.hok.fresh (Nat.le_refl _)) hp pm⟩
end
end BW
namespace BW
open PySem PySem.Spec PyProof.Rows L2
section
variable {X : Cx}
/-- o.f = .. within a tuple of targets -/
def gFld (K : PySem.W.Frag) (to : TE) (f : Str) : TG := fun v σ H Q => to σ H fun x H1 => ∃ a C dx fs, x = .ref a ∧ H1 a = some (.ins C dx fs) ∧ Cls K C ∧ NoAttr K C f ∧ fs.length < 1000 ∧ Q σ (upd H1 a (.ins C dx (putF f v fs)))
theorem pg_fld {o : Expr} {f : Str} {pos : Pos} {to : TE} (ho : PE X o to) : PG X (.Attribute o f pos) (gFld X.K to f) := by
  refine ⟨fun pins s σ H v u Q I r h => ?_⟩
  rw [assign_Attribute]
  refine wpAny_bind (wpAny_holding (thn (ho.run pins s σ H _ I h) fun ov s1 ⟨x, H1, I1, r1, a, C, dx, fs, ex, ea, c, n, hl, q⟩ => ?_))
  subst ex
  cases (show ov = Value.ref a from r1)
  refine wpAny_bind (wpAny_standAt (wpAny_bind (wpAny_holding (setattr_ok I1 ea c n hl r fun s2 I2 => ?_))))
  exact wpAny_release ⟨σ, _, I2, q⟩
/-- repr of a truth value -/
theorem call_reprB : CallR X (.builtin "repr") (fun xs H Q => ∃ b, xs = [.bl b] ∧ Q (.str (if b = true then "True" else "False")) H) := by
  intro pins s σ H xs us Q I r h
  obtain ⟨b, rfl, q⟩ := h
  obtain ⟨u, rfl, ru⟩ := vals1 r
  cases (show u = Value.bool b from ru)
  exact PySem.P.repr_of_bool ⟨.str _, H, I.tok _, ⟨_, rfl⟩, q⟩
/-- x in a tuple of data of any depth -/
def rInT (K : PySem.W.Frag) : R2 := fun x y H Q => ∃ d ds, Dp K H x d ∧ Dp K H y (.tuple ds) ∧ SeqAt.shaped d = true ∧ SeqAt.shaped (.tuple ds) = true ∧ Q (.bl (ds.any fun z => PyData.eqv z d)) H
theorem op_inT (hu : X.A.units + 65 < cLine) : OpR X (compareOp .In) (rInT X.K) := by
  intro pins s σ H x y v u Q I rx ry h
  obtain ⟨d, ds, hd, he, sd, se, q⟩ := h
  obtain ⟨as, r1⟩ := Dp.reads I d x v hd rx
  obtain ⟨bs, r2⟩ := Dp.reads I (.tuple ds) y u he ry
  exact SeqAt.in_tuple_reads r2 r1 (SeqAt.canLay_of_shaped se) (SeqAt.canLay_of_shaped sd) (room_in_shaped sd hu) ⟨.bl _, H, I, rfl, q⟩
end
end BW
namespace BW
open PySem PySem.Spec PyProof.Rows L2
/-! ### the text by places -/
def top (i : Nat) : Stmt := PySem.Challenge.pw_backwardrow_k24_whole_every_beginning_is.main.body.getD i (.Pass ⟨0, 0, 0, 0⟩)
abbrev sIsInteger : Stmt := top 11
abbrev sIsWithin : Stmt := top 12
abbrev sIsLetter : Stmt := top 13
abbrev sIsWord : Stmt := top 14
abbrev sNeedNumber : Stmt := top 15
abbrev sNeedWord : Stmt := top 16
abbrev sPairsIn : Stmt := top 17
abbrev sNeedRow : Stmt := top 23
abbrev sTwoTicks : Stmt := top 26
abbrev sBegun : Stmt := top 37
abbrev sTicked : Stmt := top 38
abbrev sWorthIn : Stmt := top 39
abbrev sSeatIn : Stmt := top 40
abbrev sDueIn : Stmt := top 41
abbrev sSaidIn : Stmt := top 42
abbrev sToldIn : Stmt := top 43
abbrev sNeedBoth : Stmt := top 44
abbrev sWorthAt : Stmt := top 45
abbrev sTold : Stmt := top 46
abbrev sSaid : Stmt := top 47
abbrev sKeyOrder : Stmt := top 60
abbrev sIsKey : Stmt := top 61
abbrev sRulesFrom : Stmt := top 62
abbrev sWorthsFrom : Stmt := top 63
abbrev sLRibbon : Stmt := top 66
abbrev sLSnip : Stmt := top 67
abbrev sLPick : Stmt := top 68
abbrev sLRules : Stmt := top 69
abbrev sLRow : Stmt := top 70
abbrev sLTable : Stmt := top 71
abbrev sLNext : Stmt := top 72
abbrev sLStrip : Stmt := top 73
abbrev sLWord : Stmt := top 74
abbrev sLaw : Stmt := top 75
abbrev sWInit : Stmt := inClass (top 27) 0
abbrev sWBegin : Stmt := inClass (top 27) 1
abbrev sWNext : Stmt := inClass (top 27) 2
abbrev sWSays : Stmt := inClass (top 27) 3
abbrev sTInit : Stmt := inClass (top 64) 0
abbrev sTBegin : Stmt := inClass (top 64) 2
abbrev sTNext : Stmt := inClass (top 64) 3
abbrev sTSays : Stmt := inClass (top 64) 4
abbrev FnP (K : PySem.W.Frag) (x : Str) (st : Stmt) (f : Addr) (fd : FuncData) : Prop := FunD K x x (defArgs st) (defBody st) (defScope st) [] [] f fd
abbrev FnD1 (K : PySem.W.Frag) (x : Str) (st : Stmt) (v : V) (f : Addr) (fd : FuncData) : Prop := FunD K x x (defArgs st) (defBody st) (defScope st) [v] [] f fd
abbrev FnDs (K : PySem.W.Frag) (x : Str) (st : Stmt) (dvs : List V) (f : Addr) (fd : FuncData) : Prop := FunD K x x (defArgs st) (defBody st) (defScope st) dvs [] f fd
abbrev FnM (K : PySem.W.Frag) (x q : Str) (st : Stmt) (f : Addr) (fd : FuncData) : Prop := FunD K x q (defArgs st) (defBody st) (defScope st) [] [] f fd
end BW
set_option maxHeartbeats 0
namespace BW
open PySem PySem.Spec PyProof.Rows L2
def dIsInteger : He.DefD := ⟨("is_integer", none), "is_integer", "is_integer", defArgs sIsInteger, defBody sIsInteger, defScope sIsInteger, [], []⟩
def dIsWithin : He.DefD := ⟨("is_within", none), "is_within", "is_within", defArgs sIsWithin, defBody sIsWithin, defScope sIsWithin, [], []⟩
def dIsLetter : He.DefD := ⟨("is_letter", none), "is_letter", "is_letter", defArgs sIsLetter, defBody sIsLetter, defScope sIsLetter, [], []⟩
def dIsWord : He.DefD := ⟨("is_word", none), "is_word", "is_word", defArgs sIsWord, defBody sIsWord, defScope sIsWord, [], []⟩
def dNeedNumber : He.DefD := ⟨("need_number", none), "need_number", "need_number", defArgs sNeedNumber, defBody sNeedNumber, defScope sNeedNumber, [], []⟩
def dNeedWord : He.DefD := ⟨("need_word", none), "need_word", "need_word", defArgs sNeedWord, defBody sNeedWord, defScope sNeedWord, [], []⟩
def dPairsIn : He.DefD := ⟨("pairs_in", none), "pairs_in", "pairs_in", defArgs sPairsIn, defBody sPairsIn, defScope sPairsIn, [], []⟩
def dNeedRow : He.DefD := ⟨("need_row", none), "need_row", "need_row", defArgs sNeedRow, defBody sNeedRow, defScope sNeedRow, [.str "row"], []⟩
def dTwoTicks : He.DefD := ⟨("two_ticks", none), "two_ticks", "two_ticks", defArgs sTwoTicks, defBody sTwoTicks, defScope sTwoTicks, [], []⟩
def dBegun : He.DefD := ⟨("begun", none), "begun", "begun", defArgs sBegun, defBody sBegun, defScope sBegun, [], []⟩
def dTicked : He.DefD := ⟨("ticked", none), "ticked", "ticked", defArgs sTicked, defBody sTicked, defScope sTicked, [.int 0, .int 0], []⟩
def dWorthIn : He.DefD := ⟨("worth_in", none), "worth_in", "worth_in", defArgs sWorthIn, defBody sWorthIn, defScope sWorthIn, [], []⟩
def dSeatIn : He.DefD := ⟨("seat_in", none), "seat_in", "seat_in", defArgs sSeatIn, defBody sSeatIn, defScope sSeatIn, [], []⟩
def dDueIn : He.DefD := ⟨("due_in", none), "due_in", "due_in", defArgs sDueIn, defBody sDueIn, defScope sDueIn, [], []⟩
def dSaidIn : He.DefD := ⟨("said_in", none), "said_in", "said_in", defArgs sSaidIn, defBody sSaidIn, defScope sSaidIn, [], []⟩
def dToldIn : He.DefD := ⟨("told_in", none), "told_in", "told_in", defArgs sToldIn, defBody sToldIn, defScope sToldIn, [], []⟩
def dNeedBoth : He.DefD := ⟨("need_both", none), "need_both", "need_both", defArgs sNeedBoth, defBody sNeedBoth, defScope sNeedBoth, [], []⟩
def dWorthAt : He.DefD := ⟨("worth_at", none), "worth_at", "worth_at", defArgs sWorthAt, defBody sWorthAt, defScope sWorthAt, [], []⟩
def dTold : He.DefD := ⟨("told", none), "told", "told", defArgs sTold, defBody sTold, defScope sTold, [], []⟩
def dSaid : He.DefD := ⟨("said", none), "said", "said", defArgs sSaid, defBody sSaid, defScope sSaid, [], []⟩
def dKeyOrder : He.DefD := ⟨("key_order", none), "key_order", "key_order", defArgs sKeyOrder, defBody sKeyOrder, defScope sKeyOrder, [], []⟩
def dIsKey : He.DefD := ⟨("is_key", none), "is_key", "is_key", defArgs sIsKey, defBody sIsKey, defScope sIsKey, [], []⟩
def dRulesFrom : He.DefD := ⟨("rules_from", none), "rules_from", "rules_from", defArgs sRulesFrom, defBody sRulesFrom, defScope sRulesFrom, [], []⟩
def dWorthsFrom : He.DefD := ⟨("worths_from", none), "worths_from", "worths_from", defArgs sWorthsFrom, defBody sWorthsFrom, defScope sWorthsFrom, [], []⟩
def dLRibbon : He.DefD := ⟨("_law_ribbon", none), "_law_ribbon", "_law_ribbon", defArgs sLRibbon, defBody sLRibbon, defScope sLRibbon, [], []⟩
def dLSnip : He.DefD := ⟨("_law_snip", none), "_law_snip", "_law_snip", defArgs sLSnip, defBody sLSnip, defScope sLSnip, [], []⟩
def dLPick : He.DefD := ⟨("_law_pick", none), "_law_pick", "_law_pick", defArgs sLPick, defBody sLPick, defScope sLPick, [], []⟩
def dLRules : He.DefD := ⟨("_law_rules", none), "_law_rules", "_law_rules", defArgs sLRules, defBody sLRules, defScope sLRules, [], []⟩
def dLRow : He.DefD := ⟨("_law_row", none), "_law_row", "_law_row", defArgs sLRow, defBody sLRow, defScope sLRow, [], []⟩
def dLTable : He.DefD := ⟨("_law_table", none), "_law_table", "_law_table", defArgs sLTable, defBody sLTable, defScope sLTable, [], []⟩
def dLNext : He.DefD := ⟨("_law_next", none), "_law_next", "_law_next", defArgs sLNext, defBody sLNext, defScope sLNext, [], []⟩
def dLStrip : He.DefD := ⟨("_law_strip", none), "_law_strip", "_law_strip", defArgs sLStrip, defBody sLStrip, defScope sLStrip, [], []⟩
def dLWord : He.DefD := ⟨("_law_word", none), "_law_word", "_law_word", defArgs sLWord, defBody sLWord, defScope sLWord, [], []⟩
def dLaw : He.DefD := ⟨("law", none), "law", "law", defArgs sLaw, defBody sLaw, defScope sLaw, [], []⟩
def dWInit : He.DefD := ⟨("TwoWays", some "__init__"), "__init__", "TwoWays.__init__", defArgs sWInit, defBody sWInit, defScope sWInit, [], []⟩
def dWBegin : He.DefD := ⟨("TwoWays", some "begin"), "begin", "TwoWays.begin", defArgs sWBegin, defBody sWBegin, defScope sWBegin, [], []⟩
def dWNext : He.DefD := ⟨("TwoWays", some "next"), "next", "TwoWays.next", defArgs sWNext, defBody sWNext, defScope sWNext, [], []⟩
def dWSays : He.DefD := ⟨("TwoWays", some "says"), "says", "TwoWays.says", defArgs sWSays, defBody sWSays, defScope sWSays, [], []⟩
def dTInit : He.DefD := ⟨("Table", some "__init__"), "__init__", "Table.__init__", defArgs sTInit, defBody sTInit, defScope sTInit, [], []⟩
def dTBegin : He.DefD := ⟨("Table", some "begin"), "begin", "Table.begin", defArgs sTBegin, defBody sTBegin, defScope sTBegin, [], []⟩
def dTNext : He.DefD := ⟨("Table", some "next"), "next", "Table.next", defArgs sTNext, defBody sTNext, defScope sTNext, [], []⟩
def dTSays : He.DefD := ⟨("Table", some "says"), "says", "Table.says", defArgs sTSays, defBody sTSays, defScope sTSays, [], []⟩
def fn : List He.DefD := [dIsInteger, dIsWithin, dIsLetter, dIsWord, dNeedNumber, dNeedWord, dPairsIn, dNeedRow, dTwoTicks, dBegun, dTicked, dWorthIn, dSeatIn, dDueIn, dSaidIn, dToldIn, dNeedBoth, dWorthAt, dTold, dSaid, dKeyOrder, dIsKey, dRulesFrom, dWorthsFrom, dLRibbon, dLSnip, dLPick, dLRules, dLRow, dLTable, dLNext, dLStrip, dLWord, dLaw, dWInit, dWBegin, dWNext, dWSays, dTInit, dTBegin, dTNext, dTSays]
def fa1 : List He.Fa := [.glo "is_integer", .glo "is_within", .glo "is_letter", .glo "is_word", .glo "need_number", .glo "need_word", .glo "pairs_in", .glo "need_row", .glo "two_ticks", .glo "begun", .glo "ticked", .glo "worth_in", .glo "seat_in", .glo "due_in", .glo "said_in", .glo "told_in", .glo "need_both", .glo "worth_at", .glo "told", .glo "said", .glo "key_order", .glo "is_key", .glo "rules_from", .glo "worths_from", .glo "_law_ribbon", .glo "_law_snip", .glo "_law_pick", .glo "_law_rules", .glo "_law_row", .glo "_law_table", .glo "_law_next", .glo "_law_strip", .glo "_law_word", .glo "law", .glo "Row", .glo "TwoWays", .glo "Table", .glo "BEYOND", .free "len", .free "int"]
def fa2 : List He.Fa := [.free "abs", .free "list", .free "tuple", .free "isinstance", .free "bool", .free "dict", .free "all", .free "range", .free "max", .free "min", .free "sorted", .free "set", .free "enumerate", .free "repr", .int "LONGEST" 200, .int "MOST_LETTERS" 6, .int "ONE_WAY" 1, .int "TWO_WAYS" 2, .int "MOST_TICKS" 1000, .int "MOST_WORTHS" 12, .cls "TwoWays", .cls "Table", .noat "TwoWays" "row", .noat "TwoWays" "letters", .noat "TwoWays" "ways", .noat "Table" "ways", .noat "Table" "letters", .noat "Table" "worths", .noat "Table" "rules", .noat "Table" "yes", .noat "Table" "by_key", .meth "TwoWays" "begin", .meth "TwoWays" "next", .meth "TwoWays" "says", .meth "Table" "begin", .meth "Table" "next", .meth "Table" "says", .mkr "TwoWays", .mkr "Table"]
def fa3 : List He.Fa := []
def fa : List He.Fa := fa1 ++ (fa2 ++ fa3)
def nm0 : List PySem.Str := ["_wall", "RowError", "BadNumber", "BadWord", "BadRow", "BadTable", "Misfit", "BadText", "LONGEST", "is_integer", "is_within", "is_letter", "is_word", "need_number", "need_word"]
def nm1 : List PySem.Str := ["pairs_in", "MOST_LETTERS", "ONE_WAY", "TWO_WAYS", "Row", "need_row", "BEYOND", "two_ticks", "TwoWays", "FIGURES", "MOST_FIGURES", "written", "Scan", "scans_of", "scan_at"]
def nm2 : List PySem.Str := ["MOST_TICKS", "begun", "ticked", "worth_in", "seat_in", "due_in", "said_in", "told_in", "need_both", "worth_at", "told", "said", "MOST_WORTHS", "BORDER", "TO"]
def nm3 : List PySem.Str := ["item_of", "rule_text", "parts_text", "place_taken", "key_taken", "yes_taken", "parts_read", "key_order", "is_key", "rules_from", "worths_from", "Table", "_law_ribbon", "_law_snip", "_law_pick"]
def nm4 : List PySem.Str := ["_law_rules", "_law_row", "_law_table", "_law_next", "_law_strip", "_law_word"]
def nms : List PySem.Str := nm0 ++ nm1 ++ nm2 ++ nm3 ++ nm4

/-- a class's own facts: instances of C are of the class at R, too -/
def insB (K : PySem.W.Frag) (x : Str) : Bool := He.eqO (PySem.W.findIn K (.ref (He.ga K x)) "__class__") (some (some (.builtin "object.__class__"))) && (decide (PySem.W.mroIn K (He.ga K x) (.type "object") = some true) && decide (PySem.W.kitOne K (.ref (He.ga K x)) (.ref (He.ga K "Row")) = some true))
def exB (K : PySem.W.Frag) : Bool := He.tupB K "BEYOND" [] && (insB K "TwoWays" && (insB K "Table" && (decide (PySem.W.takesIn K (.builtin "object.__class__") = some true) && He.eqO (PySem.W.specialIn K (.builtin "object.__class__") "__get__") (some (some (.builtin "getset_descriptor.__get__"))))))
/-- what the head tells: the facts, the defs, the rest -/
def obsB (g : Addr → Option Obj) : He.AlD × Bool := (He.obsDG 4 fa fn g, exB (He.frG g (He.asD g 4)))
def hk : PySem.W.Hook where
  α := He.AlD × Bool
  obs := fun s => obsB s.heap.get?
  val := fun _ => (He.valD fn, true)
  says := fun _ h => ∃ K : PySem.W.Frag, K.In h ∧ He.SaysD fa fn K ∧ exB K = true
  of := fun _ h e => ⟨_, He.frG_in, congrArg Prod.fst e, congrArg Prod.snd e⟩
  keeps := fun _ _ _ ⟨K, hK, c⟩ k => ⟨K, PySem.W.Frag.In.keeps hK k, c⟩
abbrev R : PySem.W.OpenRow := PySem.W.OpenLaw.row PySem.Challenge.rw_backwardrow_k24_whole_every_beginning_is
def ob (s : PySem.W.SharedT) : He.AlD × Bool := obsB (HandSHeadRun.getT s)
theorem ob_eq (s : PySem.W.SharedT) : ob s = hk.obs s.abs := by
  have e : HandSHeadRun.getT s = s.abs.heap.get? := funext (HandSHeadRun.getT_eq s)
  show obsB (HandSHeadRun.getT s) = obsB s.abs.heap.get?
  rw [e]
theorem run (w : World) : HandSHeadRun.RunEq R (PySem.W.view R.prog [75]) hk ob 20000 nms w := by
  intro os
  kernel_rfl
end BW
namespace BW
open PySem PySem.Spec PyProof.Rows L2

/-! ### what the walk asks of the top -/
abbrev cW (K : PySem.W.Frag) : Addr := He.ga K "TwoWays"
abbrev cT (K : PySem.W.Frag) : Addr := He.ga K "Table"
abbrev cR (K : PySem.W.Frag) : Addr := He.ga K "Row"
abbrev aB (K : PySem.W.Frag) : Addr := He.ga K "BEYOND"
/-- an instance of C is a Row -/
structure IsRow (K : PySem.W.Frag) (C : Addr) : Prop where
  ha : PySem.W.findIn K (.ref C) "__class__" = some (some (.builtin "object.__class__"))
  hm : PySem.W.mroIn K C (.type "object") = some true
  hk : PySem.W.kitOne K (.ref C) (.ref (cR K)) = some true
structure Tx (K : PySem.W.Frag) (mg : Str → Option Value) : Prop where
  clW : Cls K (cW K)
  clT : Cls K (cT K)
  gR : mg "Row" = some (.ref (cR K))
  gW : mg "TwoWays" = some (.ref (cW K))
  gT : mg "Table" = some (.ref (cT K))
  gB : mg "BEYOND" = some (.ref (aB K))
  bey : ∀ H, SqT K H (aB K) []
  rowW : IsRow K (cW K)
  rowT : IsRow K (cT K)
  tk : PySem.W.takesIn K (.builtin "object.__class__") = some true
  gs : PySem.W.specialIn K (.builtin "object.__class__") "__get__" = some (some (.builtin "getset_descriptor.__get__"))
  wRow : NoAttr K (cW K) "row"
  wLet : NoAttr K (cW K) "letters"
  wWay : NoAttr K (cW K) "ways"
  tWay : NoAttr K (cT K) "ways"
  tLet : NoAttr K (cT K) "letters"
  tWor : NoAttr K (cT K) "worths"
  tRul : NoAttr K (cT K) "rules"
  tYes : NoAttr K (cT K) "yes"
  tKey : NoAttr K (cT K) "by_key"
  len : mg "len" = none
  int : mg "int" = none
  abs : mg "abs" = none
  list : mg "list" = none
  tuple : mg "tuple" = none
  isi : mg "isinstance" = none
  bool : mg "bool" = none
  dict : mg "dict" = none
  all : mg "all" = none
  range : mg "range" = none
  max : mg "max" = none
  min : mg "min" = none
  sorted : mg "sorted" = none
  set : mg "set" = none
  enum : mg "enumerate" = none
  repr : mg "repr" = none
  longest : ∃ t, mg "LONGEST" = some (.int 200 t)
  mLetters : ∃ t, mg "MOST_LETTERS" = some (.int 6 t)
  one : ∃ t, mg "ONE_WAY" = some (.int 1 t)
  twoW : ∃ t, mg "TWO_WAYS" = some (.int 2 t)
  mTicks : ∃ t, mg "MOST_TICKS" = some (.int 1000 t)
  mWorths : ∃ t, mg "MOST_WORTHS" = some (.int 12 t)

/-- a module's number -/
theorem pe_gi {X : Cx} {x : Str} {i : Int} {pos : Pos} (hg : Gl X x) (hm : ∃ t, X.mg x = some (.int i t)) (hd : (x == ("__debug__" : Str)) = false := by decide) : PE X (.Name x pos) (tC (.int i)) := by
  obtain ⟨t, e⟩ := hm
  exact pe_glob hg e ⟨t, rfl⟩ hd
section
variable {P : Program} {w : World} {K : PySem.W.Frag} {mg : Str → Option Value} {base : Heap}
theorem okD {x qual : Str} {params : Arguments} {body : List Stmt} {scope : Scope} {dvs : List V} {f : Addr} {fd : FuncData} {N ps : List Str} {k : Nat} {sp : Sp} (F : FunD K x qual params body scope dvs [] f fd) (S : FnScope N ps scope)
    (len : ∀ vs H Q E, sp vs H Q E → vs.length = ps.length)
    (hbody : ∀ (cdv : Value) (A : Around) (outer : List Env) (s : Shared) (H : Hp) (vs : List V) (Q : VK) (E : XK), Room k (A.deeper (envOfC qual scope s.heap.objs.size f cdv)) → sp vs H Q E →
      ∃ t, PSs (cxOf CX0 P w K mg base N qual scope f cdv A outer s H E).nox body t ∧ t { nx := fun _ H' => Q .non H', rt := Q } (start N vs) H) : FnOk P w K mg base CX0 (k + 1) f fd ps sp :=
  F.ok S len fun cdv A outer s H vs Q E hr h => let ⟨t, h1, h2⟩ := hbody cdv A outer s H vs Q E hr h; ⟨t, h1.nox, h2⟩

/-! ### is_integer, is_within, is_letter -/
def spIsInt : Sp := fun vs H Q _ => ∃ i : Int, vs = [.int i] ∧ Q (.bl true) H
theorem scIsInt : FnScope ["value"] ["value"] (defScope sIsInteger) := ⟨rfl, rfl, rfl, by decide +kernel, rfl, by decide +kernel, by decide +kernel⟩
theorem ok_isInt {f : Addr} {fd : FuncData} (F : FnP K "is_integer" sIsInteger f fd) (T : Tx K mg) : FnOk P w K mg base CX0 1 f fd ["value"] spIsInt := by
  refine okD F scIsInt (fun vs H Q E h => ?_) (fun cdv A outer s H vs Q E hr h => ?_)
  · obtain ⟨i, rfl, _⟩ := h
    rfl
  · obtain ⟨i, rfl, k⟩ := h
    refine ⟨_, pss_one (ps_ret (pe_and (pe_callB call_isi (by rfl) T.isi (by decide +kernel) (pa_cons (pv 0) (pa_cons (pe_bltn (v := .ty "int") (by rfl) T.int (by decide +kernel) rfl) pa_nil)))
      (pe_one (pe_not (pe_callB call_isi (by rfl) T.isi (by decide +kernel) (pa_cons (pv 0) (pa_cons (pe_bltn (v := .ty "bool") (by rfl) T.bool (by decide +kernel) rfl) pa_nil))))))), ?_⟩
    refine ⟨_, rfl, .int i, .ty "int", .type "int", .type "int", true, rfl, .ty _, .base (.int i), kit_ty (by decide +kernel), true, rfl, ?_⟩
    refine iteT ⟨_, rfl, .int i, .ty "bool", .type "int", .type "bool", false, rfl, .ty _, .base (.int i), kit_ty (by decide +kernel), false, rfl, ?_⟩
    exact k
theorem b_isInt {f : Addr} {fd : FuncData} (F : FnP K "is_integer" sIsInteger f fd) : Binds K fd ["value"] [] := F.bindsN fun _ _ _ _ _ _ us hl => match us, hl with | [_], _ => rfl
def spWithin : Sp := fun vs H Q _ => ∃ v lo hi : Int, vs = [.int v, .int lo, .int hi] ∧ Q (.bl (decide (lo ≤ v) && decide (v ≤ hi))) H
theorem scWithin : FnScope ["value", "least", "most"] ["value", "least", "most"] (defScope sIsWithin) := ⟨rfl, rfl, rfl, by decide +kernel, rfl, by decide +kernel, by decide +kernel⟩
theorem ok_within {f g : Addr} {fd gd : FuncData} (F : FnP K "is_within" sIsWithin f fd) (T : Tx K mg) (G : FnP K "is_integer" sIsInteger g gd) (mG : mg "is_integer" = some (.ref g)) : FnOk P w K mg base CX0 2 f fd ["value", "least", "most"] spWithin := by
  refine okD F scWithin (fun vs H Q E h => ?_) (fun cdv A outer s H vs Q E hr h => ?_)
  · obtain ⟨v, lo, hi, rfl, _⟩ := h
    rfl
  · obtain ⟨v, lo, hi, rfl, k⟩ := h
    refine ⟨_, pss_cons (ps_if (pt_not (pt_val (pe_call (ok_isInt G T) hr rfl mG G.kp (b_isInt G) .nil pass0 (pa_cons (pv 0) pa_nil)))) (pss_one (ps_ret pe_bl)) pss_nil)
      (pss_one (ps_ret (pe_and (pe_or (pe_cmp (pc_isN (pv 1)) rfl) (pe_one (pe_cmp (pc_le (pv 1) (pv 0)) rfl))) (pe_one (pe_or (pe_cmp (pc_isN (pv 2)) rfl) (pe_one (pe_cmp (pc_le (pv 0) (pv 2)) rfl))))))), ?_⟩
    refine ⟨_, rfl, v, rfl, true, rfl, iteF ?_⟩
    refine ⟨_, rfl, false, rfl, iteF ⟨_, rfl, _, rfl, lo, v, rfl, rfl, decide (lo ≤ v), rfl, ?_⟩⟩
    by_cases h1 : lo ≤ v
    · rw [decide_eq_true h1] at k ⊢
      refine iteT ⟨_, rfl, false, rfl, iteF ⟨_, rfl, _, rfl, v, hi, rfl, rfl, ?_⟩⟩
      rw [Bool.true_and] at k
      exact k
    · rw [decide_eq_false h1] at k ⊢
      exact iteF k
end
end BW
namespace BW
open PySem PySem.Spec PyProof.Rows L2
theorem all_true (n : Nat) : (List.replicate n true).all id = true := by
  induction n with
  | zero => rfl
  | succ n ih => rw [List.replicate_succ, List.all_cons, ih]; rfl
theorem map_true (n : Nat) : (List.replicate n true).map V.bl = List.replicate n (V.bl true) := List.map_replicate
theorem Same.put {H : Hp} {p : Addr} {o : HO} (n : H p = none) : Same H (upd H p o) := fun b u e => by
  rw [upd_ne (ne_of_none e n)]
  exact e
theorem kit_seq {K : PySem.W.Frag} {t : String} (h : t = "list" ∨ t = "tuple") : PySem.W.kitAny K (.type t) [.type "list", .type "tuple"] = some true := by
  rcases h with rfl | rfl
  · exact kitAny_cons (b := true) (kit_ty (by decide +kernel)) (fun z => nomatch z) fun _ => rfl
  · exact kitAny_cons (b := false) (kit_ty (by decide +kernel)) (fun _ => kitAny_cons (b := true) (kit_ty (by decide +kernel)) (fun z => nomatch z) fun _ => rfl) fun z => nomatch z
section
variable {P : Program} {w : World} {K : PySem.W.Frag} {mg : Str → Option Value} {base : Heap} {f g : Addr} {fd gd : FuncData}
def spLetter : Sp := fun vs H Q _ => ∃ v n : Int, vs = [.int v, .int n] ∧ Q (.bl (decide (0 ≤ v) && decide (v ≤ n - 1))) H
theorem scLetter : FnScope ["value", "letters"] ["value", "letters"] (defScope sIsLetter) := ⟨rfl, rfl, rfl, by decide +kernel, rfl, by decide +kernel, by decide +kernel⟩
theorem b_within (F : FnP K "is_within" sIsWithin f fd) : Binds K fd ["value", "least", "most"] [] := F.bindsN fun _ _ _ _ _ _ us hl => match us, hl with | [_, _, _], _ => rfl
theorem ok_letter (F : FnP K "is_letter" sIsLetter f fd) (G : FnP K "is_within" sIsWithin g gd) (mG : mg "is_within" = some (.ref g)) (OG : FnOk P w K mg base CX0 2 g gd ["value", "least", "most"] spWithin) : FnOk P w K mg base CX0 3 f fd ["value", "letters"] spLetter := by
  refine okD F scLetter (fun vs H Q E h => ?_) (fun cdv A outer s H vs Q E hr h => ?_)
  · obtain ⟨v, n, rfl, _⟩ := h
    rfl
  · obtain ⟨v, n, rfl, k⟩ := h
    refine ⟨_, pss_one (ps_ret (pe_call OG hr rfl mG G.kp (b_within G) .nil pass0 (pa_cons (pv 0) (pa_cons pe_int (pa_cons (pe_op op_sub (pv 1) pe_int) pa_nil))))), ?_⟩
    exact ⟨_, rfl, _, rfl, _, _, rfl, rfl, v, 0, n - 1, rfl, k⟩
theorem b_letter (F : FnP K "is_letter" sIsLetter f fd) : Binds K fd ["value", "letters"] [] := F.bindsN fun _ _ _ _ _ _ us hl => match us, hl with | [_, _], _ => rfl
/-- a word: a list of letters -/
structure WordAt (H : Hp) (a : Addr) (n : Int) (ns : List Int) : Prop where
  at_ : H a = some (.lst (ns.map V.int))
  pos : 1 ≤ ns.length
  few : ns.length ≤ 200
  let_ : ∀ x ∈ ns, 0 ≤ x ∧ x < n
theorem WordAt.same {H H' : Hp} {a : Addr} {n : Int} {ns : List Int} (d : WordAt H a n ns) (s : Same H H') : WordAt H' a n ns := ⟨s _ _ d.at_, d.pos, d.few, d.let_⟩
def spWord : Sp := fun vs H Q _ => ∃ a n ns, vs = [.ref a, .int n] ∧ WordAt H a n ns ∧ ∀ H', Same H H' → Q (.bl true) H'
theorem scWord : FnScope ["value", "letters", "each"] ["value", "letters"] (defScope sIsWord) := ⟨rfl, rfl, rfl, by decide +kernel, rfl, by decide +kernel, by decide +kernel⟩
theorem int_at {ns : List Int} {i : Nat} {x : V} (h : (ns.map V.int)[i]? = some x) : ∃ z, x = .int z ∧ ns[i]? = some z := by
  rw [List.getElem?_map] at h
  cases e : ns[i]? with
  | none => rw [e] at h; cases h
  | some z => rw [e] at h; exact ⟨z, (Option.some.inj h).symm, rfl⟩
theorem ok_word (F : FnP K "is_word" sIsWord f fd) (T : Tx K mg) (G : FnP K "is_letter" sIsLetter g gd) (mG : mg "is_letter" = some (.ref g)) (OG : FnOk P w K mg base CX0 3 g gd ["value", "letters"] spLetter) : FnOk P w K mg base CX0 4 f fd ["value", "letters"] spWord := by
  refine okD F scWord (fun vs H Q E h => ?_) (fun cdv A outer s H vs Q E hr h => ?_)
  · obtain ⟨a, n, ns, rfl, _⟩ := h
    rfl
  · obtain ⟨a, n, ns, rfl, D, k⟩ := h
    obtain ⟨ha, h1, h2, h3⟩ := id D
    refine ⟨_, pss_cons (ps_if (PW.pt (pw_or (pt_not (pt_val (pe_callB call_isiT (by rfl) T.isi (by decide +kernel) (pa_cons (pv 0) (pa_cons (pe_tup (pa_cons (pe_bltn (v := .ty "list") (by rfl) T.list (by decide +kernel) rfl) (pa_cons (pe_bltn (v := .ty "tuple") (by rfl) T.tuple (by decide +kernel) rfl) pa_nil))) pa_nil)))))
        (pw_or1 (pt_not (pt_chain op_le op_le pe_int (pe_callB call_len (by rfl) T.len boot_len (pa_cons (pv 0) pa_nil)) (pe_gi rfl T.longest)))))) (pss_one (ps_ret pe_bl)) pss_nil)
      (pss_one (ps_ret (pe_callB (cr_all rfl) (by rfl) T.all (by decide +kernel) (pa_cons (pe_lc (own := [("each", 2)]) (g := gName 2) (tt := tYes) rfl scWord.nd (pi_list (pv 0)) (blkOk_by (N := ["value", "letters", "each"]) (sc := defScope sIsWord) (by decide +kernel))
        (fun _ _ _ _ _ => pg_name (i := 2) scWord.nd rfl (Or.inl rfl)) (fun _ _ _ _ _ => pts_nil) (fun _ _ _ _ _ => pe_call OG hr rfl mG G.kp (b_letter G) .nil pass0 (pa_cons (pv 2) (pa_cons (pv 1) pa_nil)))) pa_nil)))), ?_⟩
    refine ⟨_, rfl, (by show 2 ≤ sizeLine; decide), fun tp ntp => ?_⟩
    have s1 : Same H (upd H tp (.tup [.ty "list", .ty "tuple"])) := Same.put ntp
    refine ⟨.ref a, tp, [.ty "list", .ty "tuple"], .type "list", [.type "list", .type "tuple"], true, rfl, upd_same, .cons (.ty _) (.cons (.ty _) .nil), .base (.lst (s1 _ _ ha)), kit_seq (.inl rfl), true, rfl, iteF ?_⟩
    have e1 : decide ((1 : Int) ≤ (((ns.map V.int).length : Nat) : Int)) = true := decide_eq_true (by rw [List.length_map]; omega)
    have e2 : decide ((((ns.map V.int).length : Nat) : Int) ≤ (200 : Int)) = true := decide_eq_true (by rw [List.length_map]; omega)
    refine ⟨_, rfl, .ref a, _, rfl, .inl ⟨_, SqL.of (s1 _ _ ha), rfl⟩, 1, _, rfl, rfl, decide ((1 : Int) ≤ (((ns.map V.int).length : Nat) : Int)), rfl, ?_⟩
    rw [e1]
    refine iteT ⟨_, _, rfl, rfl, decide ((((ns.map V.int).length : Nat) : Int) ≤ (200 : Int)), rfl, ?_⟩
    rw [e2]
    refine iteF ?_
    refine ⟨_, rfl, a, rfl, ⟨_, SqL.of (s1 _ _ ha)⟩, fun E1 nE => ?_⟩
    refine lc_list (K := K) (a := a) (xs := ns.map V.int) (fun i H2 => Same (upd H tp (.tup [.ty "list", .ty "tuple"])) H2 ∧ H2 E1 = some (.lst (List.replicate i (V.bl true)))) ⟨Same.put nE, upd_same⟩ (fun i H2 _ q => SqL.of (q.1 _ _ (s1 _ _ ha))) ?_ ?_
    · rintro i x H2 hi ⟨s2, hE⟩
      obtain ⟨z, rfl, hz⟩ := int_at hi
      have hz2 := h3 z (List.mem_of_getElem? hz)
      have e3 : (decide (0 ≤ z) && decide (z ≤ n - 1)) = true := by rw [decide_eq_true hz2.1, decide_eq_true (show z ≤ n - 1 by omega)]; rfl
      have hil : i < (ns.map V.int).length := (List.getElem?_eq_some_iff.mp hi).1
      rw [List.length_map] at hil
      refine ⟨rfl, _, rfl, _, rfl, z, n, rfl, ?_⟩
      rw [e3]
      refine ⟨_, hE, by rw [List.length_replicate]; exact small1000 (by omega), fun b o e => ?_, by rw [upd_same, List.replicate_succ']⟩
      rw [upd_ne (fun z => by rw [z, nE] at e; cases e)]
      exact s2 b o e
    · rintro H2 ⟨s2, hE⟩
      rw [← map_true] at hE
      refine ⟨E1, _, rfl, SqL.of hE, ?_⟩
      rw [all_true]
      exact k H2 (s1.trans s2)
theorem b_word (F : FnP K "is_word" sIsWord f fd) : Binds K fd ["value", "letters"] [] := F.bindsN fun _ _ _ _ _ _ us hl => match us, hl with | [_, _], _ => rfl
end
end BW
namespace BW
open PySem PySem.Spec PyProof.Rows L2
section
variable {P : Program} {w : World} {K : PySem.W.Frag} {mg : Str → Option Value} {base : Heap} {f g : Addr} {fd gd : FuncData}
/-! ### need_number, need_word -/
def spNeedNum : Sp := fun vs H Q _ => ∃ (v lo hi : Int) (x : V), vs = [.int v, x, .int lo, .int hi] ∧ lo ≤ v ∧ v ≤ hi ∧ Q .non H
theorem scNeedNum : FnScope ["value", "part", "least", "most"] ["value", "part", "least", "most"] (defScope sNeedNumber) := ⟨rfl, rfl, rfl, by decide +kernel, rfl, by decide +kernel, by decide +kernel⟩
theorem ok_needNum (F : FnP K "need_number" sNeedNumber f fd) (G : FnP K "is_within" sIsWithin g gd) (mG : mg "is_within" = some (.ref g)) (OG : FnOk P w K mg base CX0 2 g gd ["value", "least", "most"] spWithin) : FnOk P w K mg base CX0 3 f fd ["value", "part", "least", "most"] spNeedNum := by
  refine okD F scNeedNum (fun vs H Q E h => ?_) (fun cdv A outer s H vs Q E hr h => ?_)
  · obtain ⟨v, lo, hi, x, rfl, _⟩ := h
    rfl
  · obtain ⟨v, lo, hi, x, rfl, h1, h2, k⟩ := h
    refine ⟨_, pss_one (ps_if (pt_not (pt_val (pe_call OG hr rfl mG G.kp (b_within G) .nil pass0 (pa_cons (pv 0) (pa_cons (pv 2) (pa_cons (pv 3) pa_nil)))))) pss_never pss_nil), ?_⟩
    refine ⟨_, rfl, _, rfl, _, rfl, v, lo, hi, rfl, _, rfl, ?_⟩
    rw [decide_eq_true h1, decide_eq_true h2]
    exact iteF k
theorem b_needNum (F : FnP K "need_number" sNeedNumber f fd) : Binds K fd ["value", "part", "least", "most"] [] := F.bindsN fun _ _ _ _ _ _ us hl => match us, hl with | [_, _, _, _], _ => rfl
def spNeedWord : Sp := fun vs H Q _ => ∃ a n ns x, vs = [.ref a, .int n, x] ∧ WordAt H a n ns ∧ ∀ p H', Same H H' → H p = none → H' p = some (.tup (ns.map V.int)) → Q (.ref p) H'
theorem scNeedWord : FnScope ["value", "letters", "part"] ["value", "letters", "part"] (defScope sNeedWord) := ⟨rfl, rfl, rfl, by decide +kernel, rfl, by decide +kernel, by decide +kernel⟩
theorem ok_needWord (F : FnP K "need_word" sNeedWord f fd) (T : Tx K mg) (G : FnP K "is_word" sIsWord g gd) (mG : mg "is_word" = some (.ref g)) (OG : FnOk P w K mg base CX0 4 g gd ["value", "letters"] spWord) : FnOk P w K mg base CX0 5 f fd ["value", "letters", "part"] spNeedWord := by
  refine okD F scNeedWord (fun vs H Q E h => ?_) (fun cdv A outer s H vs Q E hr h => ?_)
  · obtain ⟨a, n, ns, x, rfl, _⟩ := h
    rfl
  · obtain ⟨a, n, ns, x, rfl, D, k⟩ := h
    refine ⟨_, pss_cons (ps_if (pt_not (pt_val (pe_call OG hr rfl mG G.kp (b_word G) .nil pass0 (pa_cons (pv 0) (pa_cons (pv 1) pa_nil))))) pss_never pss_nil)
      (pss_one (ps_ret (pe_callTy call_tuple_of (by rfl) T.tuple (by decide +kernel) (pa_cons (pv 0) pa_nil)))), ?_⟩
    refine ⟨_, rfl, _, rfl, a, n, ns, rfl, D, fun H1 s1 => ⟨_, rfl, iteF ?_⟩⟩
    refine ⟨_, rfl, a, _, rfl, .inl ⟨SqL.of (s1 _ _ D.at_), fun p np => ?_⟩⟩
    exact k p _ (s1.trans (Same.put np)) (s1.free np) upd_same
theorem b_needWord (F : FnP K "need_word" sNeedWord f fd) : Binds K fd ["value", "letters", "part"] [] := F.bindsN fun _ _ _ _ _ _ us hl => match us, hl with | [_, _, _], _ => rfl
/-! ### pairs_in -/
def spPairs (P : Program) (w : World) : Sp := fun vs H Q _ => ∃ d es, vs = [.ref d] ∧ ND P w H d es ∧ ∀ H' p ts, Same H H' → H p = none → H' p = some (.lst (ts.map V.ref)) → PairsOf H' ts es → Q (.ref p) H'
theorem scPairs : FnScope ["value", "each"] ["value"] (defScope sPairsIn) := ⟨rfl, rfl, rfl, by decide +kernel, rfl, by decide +kernel, by decide +kernel⟩
theorem ok_pairs (F : FnP K "pairs_in" sPairsIn f fd) (T : Tx K mg) : FnOk P w K mg base CX0 1 f fd ["value"] (spPairs P w) := by
  refine okD F scPairs (fun vs H Q E h => ?_) (fun cdv A outer s H vs Q E hr h => ?_)
  · obtain ⟨d, es, rfl, _⟩ := h
    rfl
  · obtain ⟨d, es, rfl, D, k⟩ := h
    refine ⟨_, pss_cons (ps_if (pt_val (pe_callB call_ndIsi (by rfl) T.isi (by decide +kernel) (pa_cons (pv 0) (pa_cons (pe_bltn (v := .ty "dict") (by rfl) T.dict (by decide +kernel) rfl) pa_nil))))
      (pss_one (ps_ret (pe_ndItems rfl (pv 0) (by rfl) T.list))) pss_nil) pss_never, ?_⟩
    refine ⟨_, rfl, d, es, .ty "dict", .type "dict", true, rfl, D, .ty _, kit_ty (by decide +kernel), true, rfl, iteT ?_⟩
    exact ⟨_, rfl, d, es, rfl, D, k⟩
theorem b_pairs (F : FnP K "pairs_in" sPairsIn f fd) : Binds K fd ["value"] [] := F.bindsN fun _ _ _ _ _ _ us hl => match us, hl with | [_], _ => rfl
/-! ### need_row -/
def spNeedRow (K : PySem.W.Frag) : Sp := fun vs H Q _ => ∃ r C dx fs x, vs = [.ref r, x] ∧ H r = some (.ins C dx fs) ∧ (C = cW K ∨ C = cT K) ∧ Q .non H
theorem scNeedRow : FnScope ["value", "part"] ["value", "part"] (defScope sNeedRow) := ⟨rfl, rfl, rfl, by decide +kernel, rfl, by decide +kernel, by decide +kernel⟩
theorem ok_needRow (F : FnDs K "need_row" sNeedRow [.str "row"] f fd) (T : Tx K mg) : FnOk P w K mg base CX0 1 f fd ["value", "part"] (spNeedRow K) := by
  refine okD F scNeedRow (fun vs H Q E h => ?_) (fun cdv A outer s H vs Q E hr h => ?_)
  · obtain ⟨r, C, dx, fs, x, rfl, _⟩ := h
    rfl
  · obtain ⟨r, C, dx, fs, x, rfl, hH, hC, k⟩ := h
    have hR : Cls K C ∧ IsRow K C := by
      rcases hC with rfl | rfl
      · exact ⟨T.clW, T.rowW⟩
      · exact ⟨T.clT, T.rowT⟩
    refine ⟨_, pss_one (ps_if (pt_not (pt_val (pe_callB call_isi (by rfl) T.isi (by decide +kernel) (pa_cons (pv 0) (pa_cons (pe_glob (v := .ref (cR K)) (by rfl) T.gR rfl) pa_nil))))) pss_never pss_nil), ?_⟩
    exact ⟨_, rfl, .ref r, .ref (cR K), .ref C, .ref (cR K), true, rfl, .own _, .base (.ins hH hR.1 hR.2.ha T.gs T.tk hR.2.hm), hR.2.hk, true, rfl, iteF k⟩
theorem b_needRow (F : FnDs K "need_row" sNeedRow [.str "row"] f fd) : ∃ ds, Vals [.str "row"] ds ∧ Binds K fd ["value", "part"] ds :=
  FunD.binds1 (ps := ["value", "part"]) F 1 0 (by decide) rfl fun T kV doc pm an cdv ct us its hu hi => match us, its, hu, hi with | [_], [_], _, _ => ⟨_, rfl, rfl⟩
/-! ### key_order -/
theorem scOrd : FnScope ["key", "each"] ["key"] (defScope sKeyOrder) := ⟨rfl, rfl, rfl, by decide +kernel, rfl, by decide +kernel, by decide +kernel⟩
theorem ok_ord (F : FnP K "key_order" sKeyOrder f fd) : FnOk P w K mg base CX0 1 f fd ["key"] spOrd := by
  refine okD F scOrd (fun vs H Q E h => ?_) (fun cdv A outer s H vs Q E hr h => ?_)
  · obtain ⟨b, key, rfl, _⟩ := h
    rfl
  · obtain ⟨b, key, rfl, hb, k⟩ := h
    refine ⟨_, pss_one (ps_ret (pe_lc (own := [("each", 1)]) (g := gName 1) (tt := tYes) rfl scOrd.nd (pi_tup (pv 0)) (blkOk_by (N := ["key", "each"]) (sc := defScope sKeyOrder) (by decide +kernel))
      (fun _ _ _ _ _ => pg_name (i := 1) scOrd.nd rfl (Or.inl rfl)) (fun _ _ _ _ _ => pts_nil) (fun _ _ _ _ _ => pe_ifExp (pt_cmp (pc_isN (pv 1)) rfl) (pe_un un_neg pe_int) (pv 1)))), ?_⟩
    refine ⟨_, rfl, b, rfl, ⟨_, SqT.of hb⟩, fun D nD => ?_⟩
    refine lc_tup (K := K) (a := b) (xs := keyV key) (fun i H2 => Same H H2 ∧ H2 D = some (.lst (([V.int (ordO key.1), V.int key.2] : List V).take i))) ⟨Same.put nD, upd_same⟩ (fun i H2 _ q => SqT.of (q.1 _ _ hb)) ?_ ?_
    · rintro i x H2 hi ⟨s2, hD⟩
      have fin : ∀ (y : V) (i : Nat), ([V.int (ordO key.1), V.int key.2] : List V).take (i + 1) = ([V.int (ordO key.1), V.int key.2] : List V).take i ++ [y] → H2 D = some (.lst (([V.int (ordO key.1), V.int key.2] : List V).take i)) →
          ∃ acc, H2 D = some (.lst acc) ∧ acc.length < sizeLine ∧ Same H (upd H2 D (.lst (acc ++ [y]))) ∧ upd H2 D (.lst (acc ++ [y])) D = some (.lst (([V.int (ordO key.1), V.int key.2] : List V).take (i + 1))) := fun y i e hD => by
        refine ⟨_, hD, small1000 (by rw [List.length_take]; exact Nat.le_trans (Nat.min_le_right _ _) (show 2 ≤ 1000 by decide)), fun c o q => ?_, by rw [upd_same, e]⟩
        rw [upd_ne (fun z => by rw [z, nD] at q; cases q)]
        exact s2 c o q
      refine ⟨rfl, ?_⟩
      obtain ⟨k1, k2⟩ := key
      match i, hi with
      | 0, hi =>
        cases Option.some.inj hi
        cases k1 with
        | none => exact ⟨_, rfl, _, rfl, iteT ⟨1, rfl, fin _ 0 rfl hD⟩⟩
        | some l => exact ⟨_, rfl, _, rfl, iteF ⟨_, rfl, fin _ 0 rfl hD⟩⟩
      | 1, hi =>
        cases Option.some.inj hi
        exact ⟨_, rfl, _, rfl, iteF ⟨_, rfl, fin _ 1 rfl hD⟩⟩
    · rintro H2 ⟨s2, hD⟩
      exact k D H2 s2 nD hD
theorem b_ord (F : FnP K "key_order" sKeyOrder f fd) : Binds K fd ["key"] [] := F.bindsN fun _ _ _ _ _ _ us hl => match us, hl with | [_], _ => rfl
/-! ### is_key -/
structure InR (n : Int) (k : NK) : Prop where
  lo : ∀ l, k.1 = some l → 0 ≤ l ∧ l < n
  ow : 0 ≤ k.2 ∧ k.2 < n
def spIsKey : Sp := fun vs H Q _ => ∃ b n key, vs = [.ref b, .int 1, .int n] ∧ H b = some (.tup (keyV key)) ∧ InR n key ∧ ∀ H', Same H H' → Q (.bl true) H'
theorem scIsKey : FnScope ["value", "ways", "worths", "each"] ["value", "ways", "worths"] (defScope sIsKey) := ⟨rfl, rfl, rfl, by decide +kernel, rfl, by decide +kernel, by decide +kernel⟩
theorem within_true {lo hi v : Int} (h1 : lo ≤ v) (h2 : v ≤ hi) : (decide (lo ≤ v) && decide (v ≤ hi)) = true := by
  rw [decide_eq_true h1, decide_eq_true h2]
  rfl
theorem ok_isKey (F : FnP K "is_key" sIsKey f fd) (T : Tx K mg) (G : FnP K "is_within" sIsWithin g gd) (mG : mg "is_within" = some (.ref g)) (OG : FnOk P w K mg base CX0 2 g gd ["value", "least", "most"] spWithin) : FnOk P w K mg base CX0 3 f fd ["value", "ways", "worths"] spIsKey := by
  refine okD F scIsKey (fun vs H Q E h => ?_) (fun cdv A outer s H vs Q E hr h => ?_)
  · obtain ⟨b, n, key, rfl, _⟩ := h
    rfl
  · obtain ⟨b, n, ⟨k1, k2⟩, rfl, hb, R, k⟩ := h
    refine ⟨_, pss_cons (ps_if (PW.pt (pw_or (pt_not (pt_val (pe_callB call_isiT (by rfl) T.isi (by decide +kernel) (pa_cons (pv 0) (pa_cons (pe_tup (pa_cons (pe_bltn (v := .ty "list") (by rfl) T.list (by decide +kernel) rfl) (pa_cons (pe_bltn (v := .ty "tuple") (by rfl) T.tuple (by decide +kernel) rfl) pa_nil))) pa_nil)))))
        (pw_or (pt_cmpR op_ne (pe_callB call_len (by rfl) T.len boot_len (pa_cons (pv 0) pa_nil)) (pe_op op_add (pv 1) pe_int) (nomark _))
        (pw_or1 (pt_not (pt_val (pe_call OG hr rfl mG G.kp (b_within G) .nil pass0 (pa_cons (pe_ix ix_tup (pv 0) pe_int (fun _ _ => rfl)) (pa_cons pe_int (pa_cons (pe_op op_sub (pv 2) pe_int) pa_nil))))))))))
        (pss_one (ps_ret pe_bl)) pss_nil)
      (pss_one (ps_ret (pe_callB (cr_all rfl) (by rfl) T.all (by decide +kernel) (pa_cons (pe_lc (own := [("each", 3)]) (g := gName 3) (tt := tYes) rfl scIsKey.nd
        (pi_tup (pe_tup (pa_cons (pe_ix ix_tup (pv 0) pe_int (fun _ _ => rfl)) (pa_cons (pe_ix ix_tup (pv 0) (pe_un un_neg pe_int) (fun _ _ => rfl)) pa_nil)))) (blkOk_by (N := ["value", "ways", "worths", "each"]) (sc := defScope sIsKey) (by decide +kernel))
        (fun _ _ _ _ _ => pg_name (i := 3) scIsKey.nd rfl (Or.inl rfl)) (fun _ _ _ _ _ => pts_nil)
        (fun _ _ _ _ _ => pe_or (pe_cmp (pc_isN (pv 3)) rfl) (pe_one (pe_call OG hr rfl mG G.kp (b_within G) .nil pass0 (pa_cons (pv 3) (pa_cons pe_int (pa_cons (pe_op op_sub (pv 2) pe_int) pa_nil))))))) pa_nil)))), ?_⟩
    refine ⟨_, rfl, (by show 2 ≤ sizeLine; decide), fun tp ntp => ?_⟩
    have s1 : Same H (upd H tp (.tup [.ty "list", .ty "tuple"])) := Same.put ntp
    have hb1 := s1 _ _ hb
    refine ⟨.ref b, tp, [.ty "list", .ty "tuple"], .type "tuple", [.type "list", .type "tuple"], true, rfl, upd_same, .cons (.ty _) (.cons (.ty _) .nil), .base (.tup hb1), kit_seq (.inr rfl), true, rfl, iteF ?_⟩
    refine ⟨_, rfl, .ref b, 2, rfl, .inr ⟨_, SqT.of hb1, rfl⟩, _, rfl, 1, 1, rfl, rfl, rfl, false, rfl, iteF ?_⟩
    refine ⟨_, rfl, b, _, 1, .int k2, rfl, rfl, SqT.of hb1, rfl, _, rfl, _, _, rfl, rfl, k2, 0, n - 1, rfl, true, ?_, iteF ?_⟩
    · rw [within_true R.ow.1 (by have := R.ow.2; omega)]
    refine ⟨_, rfl, b, _, 0, oV k1, rfl, rfl, SqT.of hb1, rfl, _, rfl, 1, rfl, b, _, -1, .int k2, rfl, rfl, SqT.of hb1, rfl, (by show 2 ≤ sizeLine; decide), fun tq ntq => ?_⟩
    have s2 : Same H (upd (upd H tp (.tup [.ty "list", .ty "tuple"])) tq (.tup [oV k1, .int k2])) := s1.trans (Same.put ntq)
    refine ⟨tq, rfl, ⟨_, SqT.of upd_same⟩, fun D nD => ?_⟩
    refine lc_tup (K := K) (a := tq) (xs := [oV k1, .int k2]) (fun i H2 => Same (upd (upd H tp (.tup [.ty "list", .ty "tuple"])) tq (.tup [oV k1, .int k2])) H2 ∧ H2 D = some (.lst (List.replicate i (V.bl true)))) ⟨Same.put nD, upd_same⟩ (fun i H2 _ q => SqT.of (q.1 _ _ upd_same)) ?_ ?_
    · rintro i x H2 hi ⟨s3, hD⟩
      have hil : i < 2 := (List.getElem?_eq_some_iff.mp hi).1
      have fin : ∃ acc, H2 D = some (.lst acc) ∧ acc.length < sizeLine ∧ Same (upd (upd H tp (.tup [.ty "list", .ty "tuple"])) tq (.tup [oV k1, .int k2])) (upd H2 D (.lst (acc ++ [.bl true]))) ∧ upd H2 D (.lst (acc ++ [.bl true])) D = some (.lst (List.replicate (i + 1) (V.bl true))) := by
        refine ⟨_, hD, by rw [List.length_replicate]; exact small1000 (by omega), fun c o e => ?_, by rw [upd_same, List.replicate_succ']⟩
        rw [upd_ne (fun z => by rw [z, nD] at e; cases e)]
        exact s3 c o e
      refine ⟨rfl, ?_⟩
      have each : ∀ v : Int, 0 ≤ v ∧ v < n → (decide (0 ≤ v) && decide (v ≤ n - 1)) = true := fun v hv => within_true hv.1 (by have := hv.2; omega)
      match i, hi, fin with
      | 0, hi, fin =>
        cases Option.some.inj hi
        cases k1 with
        | none => exact ⟨_, rfl, true, rfl, iteT fin⟩
        | some l =>
          refine ⟨_, rfl, false, rfl, iteF ⟨_, rfl, _, rfl, _, _, rfl, rfl, l, 0, n - 1, rfl, ?_⟩⟩
          rw [each l (R.lo l rfl)]
          exact fin
      | 1, hi, fin =>
        cases Option.some.inj hi
        refine ⟨_, rfl, false, rfl, iteF ⟨_, rfl, _, rfl, _, _, rfl, rfl, k2, 0, n - 1, rfl, ?_⟩⟩
        rw [each _ R.ow]
        exact fin
    · rintro H2 ⟨s3, hD⟩
      have hD' : H2 D = some (.lst ((List.replicate 2 true).map V.bl)) := by rw [map_true]; exact hD
      refine ⟨D, _, rfl, SqL.of hD', ?_⟩
      rw [all_true]
      exact k H2 (s2.trans s3)
theorem b_isKey (F : FnP K "is_key" sIsKey f fd) : Binds K fd ["value", "ways", "worths"] [] := F.bindsN fun _ _ _ _ _ _ us hl => match us, hl with | [_, _, _], _ => rfl
end
end BW
namespace BW
open PySem PySem.Spec PyProof.Rows L2
/-! ### the objects -/
def encD (K : PySem.W.Frag) : D → V
  | .non => .non
  | .num i => .int i
  | .bey => .ref (aB K)
def encW (K : PySem.W.Frag) (v : Wo) : List V := [encD K v.1, encD K v.2]
abbrev F0 := List (Str × V)
def fldT (n m : Int) (ru ye bk : Addr) : F0 := putF "by_key" (.ref bk) (putF "yes" (.ref ye) (putF "rules" (.ref ru) (putF "worths" (.int m) (putF "letters" (.int n) (putF "ways" (.int 1) [])))))
def fldW (t : Addr) (n : Int) : F0 := putF "ways" (.int 2) (putF "letters" (.int n) (putF "row" (.ref t) []))
theorem fldT_ways (n m : Int) (ru ye bk : Addr) : (fldT n m ru ye bk).lookup ("ways" : Str) = some (.int 1) := by
  unfold fldT
  rw [lookup_putF, if_neg (by decide +kernel), lookup_putF, if_neg (by decide +kernel), lookup_putF, if_neg (by decide +kernel), lookup_putF, if_neg (by decide +kernel), lookup_putF, if_neg (by decide +kernel), lookup_putF, if_pos rfl]
theorem fldT_letters (n m : Int) (ru ye bk : Addr) : (fldT n m ru ye bk).lookup ("letters" : Str) = some (.int n) := by
  unfold fldT
  rw [lookup_putF, if_neg (by decide +kernel), lookup_putF, if_neg (by decide +kernel), lookup_putF, if_neg (by decide +kernel), lookup_putF, if_neg (by decide +kernel), lookup_putF, if_pos rfl]
theorem fldT_yes (n m : Int) (ru ye bk : Addr) : (fldT n m ru ye bk).lookup ("yes" : Str) = some (.ref ye) := by
  unfold fldT
  rw [lookup_putF, if_neg (by decide +kernel), lookup_putF, if_pos rfl]
theorem fldT_key (n m : Int) (ru ye bk : Addr) : (fldT n m ru ye bk).lookup ("by_key" : Str) = some (.ref bk) := by
  unfold fldT
  rw [lookup_putF, if_pos rfl]
theorem fldT_no (n m : Int) (ru ye bk : Addr) {x : Str} (h : x ∉ (["ways", "letters", "worths", "rules", "yes", "by_key"] : List Str)) : (fldT n m ru ye bk).lookup x = none := by
  simp only [List.mem_cons, not_or, List.not_mem_nil, not_false_eq_true, and_true] at h
  obtain ⟨h1, h2, h3, h4, h5, h6⟩ := h
  unfold fldT
  rw [lookup_putF, if_neg h6, lookup_putF, if_neg h5, lookup_putF, if_neg h4, lookup_putF, if_neg h3, lookup_putF, if_neg h2, lookup_putF, if_neg h1]
  rfl
theorem fldW_row (t : Addr) (n : Int) : (fldW t n).lookup ("row" : Str) = some (.ref t) := by
  unfold fldW
  rw [lookup_putF, if_neg (by decide +kernel), lookup_putF, if_neg (by decide +kernel), lookup_putF, if_pos rfl]
theorem fldW_letters (t : Addr) (n : Int) : (fldW t n).lookup ("letters" : Str) = some (.int n) := by
  unfold fldW
  rw [lookup_putF, if_neg (by decide +kernel), lookup_putF, if_pos rfl]
theorem fldW_ways (t : Addr) (n : Int) : (fldW t n).lookup ("ways" : Str) = some (.int 2) := by
  unfold fldW
  rw [lookup_putF, if_pos rfl]
theorem fldW_no (t : Addr) (n : Int) {x : Str} (h : x ∉ (["row", "letters", "ways"] : List Str)) : (fldW t n).lookup x = none := by
  simp only [List.mem_cons, not_or, List.not_mem_nil, not_false_eq_true, and_true] at h
  obtain ⟨h1, h2, h3⟩ := h
  unfold fldW
  rw [lookup_putF, if_neg h3, lookup_putF, if_neg h2, lookup_putF, if_neg h1]
  rfl
/-- a Table stands at a: n letters, the rule f, the worths ys that say yes -/
structure TabAt (P : Program) (w : World) (K : PySem.W.Frag) (H : Hp) (a : Addr) (n : Int) (f : Fn) (ys : List Int) : Prop where
  ex : ∃ dx m ru ye bk es, H a = some (.ins (cT K) dx (fldT n m ru ye bk)) ∧ H ye = some (.tup (ys.map V.int)) ∧ ND P w H bk es ∧ ∀ k, (lookE es k).getD k.2 = f k.1 k.2
/-- a TwoWays of it stands at r -/
structure TwAt (P : Program) (w : World) (K : PySem.W.Frag) (H : Hp) (r : Addr) (n : Int) (f : Fn) (ys : List Int) : Prop where
  ex : ∃ dx t, H r = some (.ins (cW K) dx (fldW t n)) ∧ TabAt P w K H t n f ys
theorem TabAt.same {P : Program} {w : World} {K : PySem.W.Frag} {H H' : Hp} {a : Addr} {n : Int} {f : Fn} {ys : List Int} (d : TabAt P w K H a n f ys) (s : Same H H') : TabAt P w K H' a n f ys := by
  obtain ⟨dx, m, ru, ye, bk, es, h1, h2, h3, h4⟩ := d.ex
  exact ⟨dx, m, ru, ye, bk, es, s _ _ h1, s _ _ h2, h3.same s, h4⟩
theorem TwAt.same {P : Program} {w : World} {K : PySem.W.Frag} {H H' : Hp} {r : Addr} {n : Int} {f : Fn} {ys : List Int} (d : TwAt P w K H r n f ys) (s : Same H H') : TwAt P w K H' r n f ys := by
  obtain ⟨dx, t, h1, h2⟩ := d.ex
  exact ⟨dx, t, s _ _ h1, h2.same s⟩

section
variable {P : Program} {w : World} {K : PySem.W.Frag} {mg : Str → Option Value} {base : Heap} {f g h2 : Addr} {fd gd hd2 : FuncData}
/-! ### Table's begin, next, says -/
def spTBegin (P : Program) (w : World) (K : PySem.W.Frag) : Sp := fun vs H Q _ => ∃ a l, vs = [.ref a, .int l] ∧ Q (.int l) H
theorem scTBegin : FnScope ["self", "letter"] ["self", "letter"] (defScope sTBegin) := ⟨rfl, rfl, rfl, by decide +kernel, rfl, by decide +kernel, by decide +kernel⟩
theorem ok_tBegin (F : FnM K "begin" "Table.begin" sTBegin f fd) : FnOk P w K mg base CX0 1 f fd ["self", "letter"] (spTBegin P w K) := by
  refine okD F scTBegin (fun vs H Q E h => ?_) (fun cdv A outer s H vs Q E hr h => ?_)
  · obtain ⟨a, l, rfl, _⟩ := h
    rfl
  · obtain ⟨a, l, rfl, k⟩ := h
    exact ⟨_, pss_one (ps_ret (pv 1)), _, rfl, k⟩
theorem b_tBegin (F : FnM K "begin" "Table.begin" sTBegin f fd) : Binds K fd ["self", "letter"] [] := F.bindsN fun _ _ _ _ _ _ us hl => match us, hl with | [_, _], _ => rfl
def spTNext (P : Program) (w : World) (K : PySem.W.Frag) : Sp := fun vs H Q _ => ∃ a n f ys l o x, vs = [.ref a, oV l, .int o, x] ∧ TabAt P w K H a n f ys ∧ ∀ H', Same H H' → Q (.int (f l o)) H'
theorem scTNext : FnScope ["self", "left", "own", "right", "key"] ["self", "left", "own", "right"] (defScope sTNext) := ⟨rfl, rfl, rfl, by decide +kernel, rfl, by decide +kernel, by decide +kernel⟩
theorem ok_tNext (F : FnM K "next" "Table.next" sTNext f fd) (T : Tx K mg) : FnOk P w K mg base CX0 1 f fd ["self", "left", "own", "right"] (spTNext P w K) := by
  refine okD F scTNext (fun vs H Q E h => ?_) (fun cdv A outer s H vs Q E hr h => ?_)
  · obtain ⟨a, n, f, ys, l, o, x, rfl, _⟩ := h
    rfl
  · obtain ⟨a, n, f, ys, l, o, x, rfl, D, k⟩ := h
    have hu := hu_of hr
    obtain ⟨dx, m, ru, ye, bk, es, ha, _, hd, hf⟩ := D.ex
    refine ⟨_, pss_cons (ps_set (i := 4) scTNext.nd rfl (Or.inl rfl) (pe_ifExp (pt_cmpR op_eq (pe_fld (pv 0) rfl) (pe_gi rfl T.one) (nomark _)) (pe_tup (pa_cons (pv 1) (pa_cons (pv 2) pa_nil))) (pe_tup (pa_cons (pv 1) (pa_cons (pv 2) (pa_cons (pv 3) pa_nil))))))
      (pss_one (ps_ret (pe_ndGet hu (pe_fld (pv 0) rfl) (pv 4) (pv 2) ⟨rfl, rfl, rfl, rfl⟩))), ?_⟩
    refine ⟨_, rfl, a, _, dx, _, _, rfl, ha, T.clT, T.tWay, fldT_ways _ _ _ _ _, rfl, true, rfl, iteT ⟨_, rfl, _, rfl, (by show 2 ≤ sizeLine; decide), fun p np => ?_⟩⟩
    have s1 : Same H (upd H p (.tup [oV l, .int o])) := Same.put np
    have hd1 := hd.same s1
    refine ⟨_, rfl, a, _, dx, _, _, rfl, s1 _ _ ha, T.clT, T.tKey, fldT_key _ _ _ _ _, bk, es, rfl, hd1, _, rfl, _, rfl, (l, o), p, rfl, hd1, upd_same, ?_⟩
    have e : ((lookE es (l, o)).map V.int).getD (.int o) = .int (f l o) := by
      rw [← hf (l, o)]
      cases lookE es (l, o) <;> rfl
    rw [e]
    exact k _ s1
theorem b_tNext (F : FnM K "next" "Table.next" sTNext f fd) : Binds K fd ["self", "left", "own", "right"] [] := F.bindsN fun _ _ _ _ _ _ us hl => match us, hl with | [_, _, _, _], _ => rfl
theorem inV_ints (v : Int) : ∀ ys : List Int, inV (.int v) (ys.map V.int) = ys.contains v
  | [] => rfl
  | y :: ys => by
    have ih := inV_ints v ys
    unfold inV at ih ⊢
    rw [List.map_cons, List.any_cons, ih, List.contains_cons]
    have e : eqV (.int y) (.int v) = (v == y) := by
      show (y == v) = (v == y)
      rw [Bool.eq_iff_iff, beq_iff_eq, beq_iff_eq]
      exact eq_comm
    rw [e]
theorem flat_ints : ∀ ys : List Int, (ys.map V.int).all flatV = true
  | [] => rfl
  | y :: ys => by
    rw [List.map_cons, List.all_cons, flat_ints ys]
    rfl
def spTSays (P : Program) (w : World) (K : PySem.W.Frag) : Sp := fun vs H Q _ => ∃ a n f ys v, vs = [.ref a, .int v] ∧ TabAt P w K H a n f ys ∧ Q (.bl (ys.contains v)) H
theorem scTSays : FnScope ["self", "worth"] ["self", "worth"] (defScope sTSays) := ⟨rfl, rfl, rfl, by decide +kernel, rfl, by decide +kernel, by decide +kernel⟩
theorem ok_tSays (F : FnM K "says" "Table.says" sTSays f fd) (T : Tx K mg) : FnOk P w K mg base CX0 1 f fd ["self", "worth"] (spTSays P w K) := by
  refine okD F scTSays (fun vs H Q E h => ?_) (fun cdv A outer s H vs Q E hr h => ?_)
  · obtain ⟨a, n, f, ys, v, rfl, _⟩ := h
    rfl
  · obtain ⟨a, n, f, ys, v, rfl, D, k⟩ := h
    obtain ⟨dx, m, ru, ye, bk, es, ha, hy, _, _⟩ := D.ex
    refine ⟨_, pss_one (ps_ret (pe_cmpR op_in_seq (pv 1) (pe_fld (pv 0) rfl) (by rfl))), ?_⟩
    refine ⟨_, rfl, _, rfl, a, _, dx, _, _, rfl, ha, T.clT, T.tYes, fldT_yes _ _ _ _ _, ye, _, rfl, .inr (SqT.of hy), rfl, flat_ints ys, ?_⟩
    show Q (.bl (inV (.int v) (ys.map V.int))) H
    rw [inV_ints]
    exact k
theorem b_tSays (F : FnM K "says" "Table.says" sTSays f fd) : Binds K fd ["self", "worth"] [] := F.bindsN fun _ _ _ _ _ _ us hl => match us, hl with | [_, _], _ => rfl
end
end BW
namespace BW
open PySem PySem.Spec PyProof.Rows L2
theorem hu65 {A : Around} {k : Nat} (hr : Room k A) : A.units + 65 < cLine := by
  have := hr.un
  omega
/-! ### halves as data -/
def pdD : D → PyData
  | .non => .none
  | .num i => .int i
  | .bey => .tuple []
theorem dp_D {K : PySem.W.Frag} {mg : Str → Option Value} (T : Tx K mg) (H : Hp) : ∀ v : D, Dp K H (encD K v) (pdD v)
  | .non => .non
  | .num i => .int i
  | .bey => .tup (T.bey H) .nil
theorem shaped_D : ∀ v : D, SeqAt.shaped (pdD v) = true
  | .non => by simp [pdD, SeqAt.shaped, PyData.canLay0, PyData.depth]
  | .num i => by simp [pdD, SeqAt.shaped, PyData.canLay0, PyData.depth]
  | .bey => by simp [pdD, SeqAt.shaped, PyData.canLay0, PyData.canLayAll0, PyData.depth, PyData.depthAll]
theorem shaped_3 (p q x : D) : SeqAt.shaped (.tuple [pdD p, pdD q, pdD x]) = true := by
  cases p <;> cases q <;> cases x <;> simp [pdD, SeqAt.shaped, PyData.canLay0, PyData.canLayAll0, PyData.depth, PyData.depthAll]
theorem eqv_bey : ∀ v : D, PyData.eqv (pdD v) (.tuple []) = decide (v = .bey)
  | .non => by simp [pdD, PyData.eqv]
  | .num i => by simp [pdD, PyData.eqv]
  | .bey => by simp [pdD, PyData.eqv, PyData.eqvAll]
theorem enc_opt {K : PySem.W.Frag} : ∀ {v : D}, v ≠ .bey → encD K v = oV v.opt
  | .non, _ => rfl
  | .num _, _ => rfl
  | .bey, h => absurd rfl h
theorem putF_ne (f : Str) (v : V) : ∀ fs : F0, putF f v fs ≠ []
  | [] => nofun
  | (k, x) :: r => by
    show (if k = f then (k, v) :: r else (k, x) :: putF f v r) ≠ []
    split <;> nofun
section
variable {P : Program} {w : World} {K : PySem.W.Frag} {mg : Str → Option Value} {base : Heap} {f g g2 g3 : Addr} {fd gd gd2 gd3 : FuncData}
abbrev OkTN (P : Program) (w : World) (K : PySem.W.Frag) (mg : Str → Option Value) (base : Heap) (g : Addr) (gd : FuncData) : Prop := FnOk P w K mg base CX0 1 g gd ["self", "left", "own", "right"] (spTNext P w K)
/-! ### two_ticks -/
def spTwo (P : Program) (w : World) (K : PySem.W.Frag) : Sp := fun vs H Q _ => ∃ a n f ys p q x, vs = [.ref a, encD K p, encD K q, encD K x] ∧ TabAt P w K H a n f ys ∧ ∀ H', Same H H' → Q (encD K (two f p q x)) H'
theorem scTwo : FnScope ["row", "p", "q", "x", "beside"] ["row", "p", "q", "x"] (defScope sTwoTicks) := ⟨rfl, rfl, rfl, by decide +kernel, rfl, by decide +kernel, by decide +kernel⟩
theorem ok_two (F : FnP K "two_ticks" sTwoTicks f fd) (T : Tx K mg) (G : FnM K "next" "Table.next" sTNext g gd) (M : Meth K (cT K) "next" g) (OG : OkTN P w K mg base g gd) : FnOk P w K mg base CX0 2 f fd ["row", "p", "q", "x"] (spTwo P w K) := by
  refine okD F scTwo (fun vs H Q E h => ?_) (fun cdv A outer s H vs Q E hr h => ?_)
  · obtain ⟨a, n, f, ys, p, q, x, rfl, _⟩ := h
    rfl
  · obtain ⟨a, n, f, ys, p, q, x, rfl, D, k⟩ := h
    have hu := hu65 hr
    refine ⟨_, pss_cons (ps_if (pt_cmpR (op_inT hu) (pe_glob (v := .ref (aB K)) (by rfl) T.gB rfl) (pe_tup (pa_cons (pv 1) (pa_cons (pv 2) (pa_cons (pv 3) pa_nil)))) (by rfl)) (pss_one (ps_ret (pe_glob (v := .ref (aB K)) (by rfl) T.gB rfl))) pss_nil)
      (pss_cons (ps_if (pt_cmp (pc_isN (pv 3)) rfl) (pss_one (ps_ret pe_non)) pss_nil)
      (pss_cons (ps_set (i := 4) scTwo.nd rfl (Or.inl rfl) (pe_ifExp (pt_cmp (pc_isN (pv 2)) rfl) pe_non (pe_meth (pv 0) T.clT M OG hr (b_tNext G) .nil pass0 (pa_cons (pv 1) (pa_cons (pv 2) (pa_cons pe_non pa_nil))))))
      (pss_one (ps_ret (pe_meth (pv 0) T.clT M OG hr (b_tNext G) .nil pass0 (pa_cons (pv 4) (pa_cons (pe_meth (pv 0) T.clT M OG hr (b_tNext G) .nil pass0 (pa_cons (pv 2) (pa_cons (pv 3) (pa_cons pe_non pa_nil)))) (pa_cons pe_non pa_nil)))))))), ?_⟩
    refine ⟨_, rfl, _, rfl, _, rfl, (by show 3 ≤ sizeLine; decide), fun tp ntp => ?_⟩
    have s1 : Same H (upd H tp (.tup [encD K p, encD K q, encD K x])) := Same.put ntp
    refine ⟨.tuple [], [pdD p, pdD q, pdD x], .tup (T.bey _) .nil, .tup (SqT.of upd_same) (.cons (dp_D T _ p) (.cons (dp_D T _ q) (.cons (dp_D T _ x) .nil))), shaped_D .bey, shaped_3 p q x, _, rfl, ?_⟩
    have e1 : ([pdD p, pdD q, pdD x].any fun z => PyData.eqv z (.tuple [])) = decide (p = .bey ∨ q = .bey ∨ x = .bey) := by
      simp only [List.any_cons, List.any_nil, eqv_bey, Bool.or_false]
      by_cases h1 : p = .bey <;> by_cases h2 : q = .bey <;> by_cases h3 : x = .bey <;> simp [h1, h2, h3]
    rw [e1]
    by_cases hb : p = .bey ∨ q = .bey ∨ x = .bey
    · rw [decide_eq_true hb]
      refine iteT ?_
      have z := k _ s1
      rw [two_bey hb] at z
      exact z
    · rw [decide_eq_false hb]
      have hp : p ≠ .bey := fun e => hb (.inl e)
      have hq : q ≠ .bey := fun e => hb (.inr (.inl e))
      have ex := D.same s1
      obtain ⟨dx, m, ru, ye, bk, es, ha, _, _, _⟩ := D.ex
      have ha1 := s1 _ _ ha
      refine iteF ?_
      cases x with
      | bey => exact absurd (.inr (.inr rfl)) hb
      | non =>
        have z := k _ s1
        rw [two_non hp hq] at z
        exact ⟨_, rfl, true, rfl, iteT z⟩
      | num xi =>
        refine ⟨_, rfl, false, rfl, iteF ?_⟩
        have nn : (fldT n m ru ye bk).lookup ("next" : Str) = none := fldT_no _ _ _ _ _ (by decide +kernel)
        cases q with
        | bey => exact absurd rfl hq
        | non =>
          refine ⟨_, rfl, true, rfl, iteT ?_⟩
          refine ⟨_, rfl, a, dx, _, rfl, ha1, nn, _, rfl, _, rfl, a, dx, _, rfl, ha1, nn, _, rfl, _, rfl, a, n, f, ys, none, xi, .non, rfl, ex, fun H2 s2 => ?_⟩
          refine ⟨a, n, f, ys, none, f none xi, .non, rfl, ex.same s2, fun H3 s3 => ?_⟩
          have z := k H3 ((s1.trans s2).trans s3)
          unfold two at z
          rw [if_neg hb] at z
          exact z
        | num qi =>
          refine ⟨_, rfl, false, rfl, iteF ?_⟩
          refine ⟨_, rfl, a, dx, _, rfl, ha1, nn, _, rfl, _, rfl, a, n, f, ys, p.opt, qi, .non, by rw [← enc_opt hp]; rfl, ex, fun H2 s2 => ?_⟩
          refine ⟨_, rfl, a, dx, _, rfl, s2 _ _ ha1, nn, _, rfl, _, rfl, a, dx, _, rfl, s2 _ _ ha1, nn, _, rfl, _, rfl, a, n, f, ys, some qi, xi, .non, rfl, ex.same s2, fun H3 s3 => ?_⟩
          refine ⟨a, n, f, ys, some (f p.opt qi), f (some qi) xi, .non, rfl, (ex.same s2).same s3, fun H4 s4 => ?_⟩
          have z := k H4 (((s1.trans s2).trans s3).trans s4)
          unfold two at z
          rw [if_neg hb] at z
          exact z
theorem b_two (F : FnP K "two_ticks" sTwoTicks f fd) : Binds K fd ["row", "p", "q", "x"] [] := F.bindsN fun _ _ _ _ _ _ us hl => match us, hl with | [_, _, _, _], _ => rfl
end
end BW
namespace BW
open PySem PySem.Spec PyProof.Rows L2
theorem hu64 {A : Around} {k : Nat} (hr : Room k A) : A.units + 64 < cLine := by
  have := hr.un
  omega
/-- what was tracked but x is as it was: a table, a row that stand elsewhere still stand -/
theorem TabAt.but {P : Program} {w : World} {K : PySem.W.Frag} {H H' : Hp} {a x dx C : Addr} {n : Int} {f : Fn} {ys : List Int} (d : TabAt P w K H a n f ys) (hx : H x = some (.ins C dx [])) (s : ∀ b o, H b = some o → b ≠ x → H' b = some o) : TabAt P w K H' a n f ys := by
  obtain ⟨dy, m, ru, ye, bk, es, h1, h2, h3, h4⟩ := d.ex
  refine ⟨dy, m, ru, ye, bk, es, s _ _ h1 (ne_of h1 hx fun z => ?_), s _ _ h2 (ne_of h2 hx fun z => nomatch z), ⟨s _ _ h3.at_ (ne_of h3.at_ hx fun z => nomatch z), fun e he => s _ _ (h3.keys e he) (ne_of (h3.keys e he) hx fun z => nomatch z)⟩, h4⟩
  injection z with _ _ z3
  exact putF_ne _ _ _ z3
section
variable {P : Program} {w : World} {K : PySem.W.Frag} {mg : Str → Option Value} {base : Heap} {f g g2 g3 : Addr} {fd gd gd2 gd3 : FuncData}
/-! ### TwoWays(row) -/
def spWInit (P : Program) (w : World) (K : PySem.W.Frag) : Sp := fun vs H Q _ => ∃ x dx t n f ys, vs = [.ref x, .ref t] ∧ H x = some (.ins (cW K) dx []) ∧ TabAt P w K H t n f ys ∧ ∀ H', (∀ b o, H b = some o → b ≠ x → H' b = some o) → TwAt P w K H' x n f ys → Q .non H'
theorem scWInit : FnScope ["self", "row"] ["self", "row"] (defScope sWInit) := ⟨rfl, rfl, rfl, by decide +kernel, rfl, by decide +kernel, by decide +kernel⟩
theorem ok_wInit (F : FnM K "__init__" "TwoWays.__init__" sWInit f fd) (T : Tx K mg) (G : FnDs K "need_row" sNeedRow [.str "row"] g gd) (mG : mg "need_row" = some (.ref g)) (OG : FnOk P w K mg base CX0 1 g gd ["value", "part"] (spNeedRow K)) : FnOk P w K mg base CX0 2 f fd ["self", "row"] (spWInit P w K) := by
  obtain ⟨ds, vd, bd⟩ := b_needRow G
  refine okD F scWInit (fun vs H Q E h => ?_) (fun cdv A outer s H vs Q E hr h => ?_)
  · obtain ⟨x, dx, t, n, f, ys, rfl, _⟩ := h
    rfl
  · obtain ⟨x, dx, t, n, f, ys, rfl, hx, D, k⟩ := h
    obtain ⟨dy, m, ru, ye, bk, es, ht, _, _, _⟩ := D.ex
    refine ⟨_, pss_cons (ps_expr (pe_call OG hr rfl mG G.kp bd vd pass0 (pa_cons (pv 1) pa_nil)))
      (pss_cons (ps_if (pt_cmpR op_ne (pe_fld (pv 1) rfl) (pe_gi rfl T.one) (nomark _)) pss_never pss_nil)
      (pss_cons (ps_fld (pv 0) (pv 1) rfl) (pss_cons (ps_fld (pv 0) (pe_fld (pv 1) rfl) rfl) (pss_one (ps_fld (pv 0) (pe_gi rfl T.twoW) rfl))))), ?_⟩
    have nxt : x ≠ t := fun z => by
      rw [z, ht] at hx
      injection Option.some.inj hx with _ _ z3
      exact putF_ne _ _ _ z3
    refine ⟨_, rfl, t, _, dy, _, .str "row", rfl, ht, .inr rfl, ?_⟩
    refine ⟨_, rfl, t, _, dy, _, _, rfl, ht, T.clT, T.tWay, fldT_ways _ _ _ _ _, rfl, false, rfl, iteF ?_⟩
    refine ⟨_, rfl, _, rfl, x, _, dx, [], rfl, hx, T.clW, T.wRow, (by show 0 < 1000; decide), ?_⟩
    refine ⟨_, rfl, t, _, dy, _, _, rfl, (by rw [upd_ne nxt.symm]; exact ht), T.clT, T.tLet, fldT_letters _ _ _ _ _, _, rfl, x, _, dx, _, rfl, upd_same, T.clW, T.wLet, (by show 1 < 1000; decide), ?_⟩
    refine ⟨_, rfl, x, _, dx, _, rfl, upd_same, T.clW, T.wWay, (by show 2 < 1000; decide), ?_⟩
    have but : ∀ b o, H b = some o → b ≠ x → upd (upd (upd H x (.ins (cW K) dx (putF "row" (.ref t) []))) x (.ins (cW K) dx (putF "letters" (.int n) (putF "row" (.ref t) [])))) x (.ins (cW K) dx (fldW t n)) b = some o := fun b o e hb => by
      rw [upd_ne hb, upd_ne hb, upd_ne hb]
      exact e
    exact k _ but ⟨⟨dx, t, upd_same, D.but hx but⟩⟩
theorem b_wInit (F : FnM K "__init__" "TwoWays.__init__" sWInit f fd) : Binds K fd ["self", "row"] [] := F.bindsN fun _ _ _ _ _ _ us hl => match us, hl with | [_, _], _ => rfl
/-! ### TwoWays.begin -/
def spWBegin (P : Program) (w : World) (K : PySem.W.Frag) : Sp := fun vs H Q _ => ∃ r l n f ys, vs = [.ref r, .int l] ∧ TwAt P w K H r n f ys ∧ ∀ p H', Same H H' → H p = none → H' p = some (.tup (encW K (.num l, .non))) → Q (.ref p) H'
theorem scWBegin : FnScope ["self", "letter"] ["self", "letter"] (defScope sWBegin) := ⟨rfl, rfl, rfl, by decide +kernel, rfl, by decide +kernel, by decide +kernel⟩
theorem ok_wBegin (F : FnM K "begin" "TwoWays.begin" sWBegin f fd) (T : Tx K mg) (G : FnM K "begin" "Table.begin" sTBegin g gd) (M : Meth K (cT K) "begin" g) : FnOk P w K mg base CX0 2 f fd ["self", "letter"] (spWBegin P w K) := by
  refine okD F scWBegin (fun vs H Q E h => ?_) (fun cdv A outer s H vs Q E hr h => ?_)
  · obtain ⟨r, l, n, f, ys, rfl, _⟩ := h
    rfl
  · obtain ⟨r, l, n, f, ys, rfl, D, k⟩ := h
    obtain ⟨dx, t, h1, D2⟩ := D.ex
    obtain ⟨dy, m, ru, ye, bk, es, ht, _, _, _⟩ := D2.ex
    refine ⟨_, pss_one (ps_ret (pe_tup (pa_cons (pe_meth (pe_fld (pv 0) rfl) T.clT M (ok_tBegin G) hr (b_tBegin G) .nil pass0 (pa_cons (pv 1) pa_nil)) (pa_cons pe_non pa_nil)))), ?_⟩
    refine ⟨_, rfl, r, _, dx, _, _, rfl, h1, T.clW, T.wRow, fldW_row _ _, t, dy, _, rfl, ht, fldT_no _ _ _ _ _ (by decide +kernel), _, rfl, t, l, rfl, (by show 2 ≤ sizeLine; decide), fun p np => ?_⟩
    exact k p _ (Same.put np) np upd_same
theorem b_wBegin (F : FnM K "begin" "TwoWays.begin" sWBegin f fd) : Binds K fd ["self", "letter"] [] := F.bindsN fun _ _ _ _ _ _ us hl => match us, hl with | [_, _], _ => rfl
/-! ### TwoWays.next -/
def OptAt (K : PySem.W.Frag) (H : Hp) (v : V) (u : Option Wo) : Prop := (u = none ∧ v = .non) ∨ ∃ a x, u = some x ∧ v = .ref a ∧ H a = some (.tup (encW K x))
def spWNext (P : Program) (w : World) (K : PySem.W.Frag) : Sp := fun vs H Q _ => ∃ r lv o rv l v rt n f ys, vs = [.ref r, lv, .ref o, rv] ∧ TwAt P w K H r n f ys ∧ OptAt K H lv l ∧ H o = some (.tup (encW K v)) ∧ OptAt K H rv rt ∧
  ∀ p H', Same H H' → H p = none → H' p = some (.tup (encW K (nextW f l v rt))) → Q (.ref p) H'
abbrev nWNext : List Str := ["self", "left", "own", "right", "here", "folded", "before", "behind", "after", "deeper"]
theorem scWNext : FnScope nWNext ["self", "left", "own", "right"] (defScope sWNext) := ⟨rfl, rfl, rfl, by decide +kernel, rfl, by decide +kernel, by decide +kernel⟩
theorem ok_wNext (F : FnM K "next" "TwoWays.next" sWNext f fd) (T : Tx K mg) (G : FnP K "two_ticks" sTwoTicks g gd) (mG : mg "two_ticks" = some (.ref g)) (OG : FnOk P w K mg base CX0 2 g gd ["row", "p", "q", "x"] (spTwo P w K)) : FnOk P w K mg base CX0 3 f fd ["self", "left", "own", "right"] (spWNext P w K) := by
  refine okD F scWNext (fun vs H Q E h => ?_) (fun cdv A outer s H vs Q E hr h => ?_)
  · obtain ⟨r, lv, o, rv, l, v, rt, n, f, ys, rfl, _⟩ := h
    rfl
  · obtain ⟨r, lv, o, rv, l, v, rt, n, f, ys, rfl, D, hl, ho, hrt, k⟩ := h
    obtain ⟨dx, t, h1, D2⟩ := D.ex
    refine ⟨_, pss_cons (ps_asg (pv 2) (pg_tup rfl (pgs_cons (pg_name (i := 4) scWNext.nd rfl (Or.inl rfl)) (pgs_cons (pg_name (i := 5) scWNext.nd rfl (Or.inl rfl)) pgs_nil))))
      (pss_cons (ps_asg (pe_ifExp (pt_cmp (pc_isN (pv 1)) rfl) (pe_tup (pa_cons (pv 5) (pa_cons (pv 4) pa_nil))) (pv 1)) (pg_tup rfl (pgs_cons (pg_name (i := 6) scWNext.nd rfl (Or.inl rfl)) (pgs_cons (pg_name (i := 7) scWNext.nd rfl (Or.inl rfl)) pgs_nil))))
      (pss_cons (ps_asg (pe_ifExp (pt_cmp (pc_isN (pv 3)) rfl) (pe_tup (pa_cons (pe_glob (v := .ref (aB K)) (by rfl) T.gB rfl) (pa_cons pe_non pa_nil))) (pv 3)) (pg_tup rfl (pgs_cons (pg_name (i := 8) scWNext.nd rfl (Or.inl rfl)) (pgs_cons (pg_name (i := 9) scWNext.nd rfl (Or.inl rfl)) pgs_nil))))
      (pss_one (ps_ret (pe_tup (pa_cons (pe_call OG hr rfl mG G.kp (b_two G) .nil pass0 (pa_cons (pe_fld (pv 0) rfl) (pa_cons (pv 6) (pa_cons (pv 4) (pa_cons (pv 8) pa_nil)))))
        (pa_cons (pe_call OG hr rfl mG G.kp (b_two G) .nil pass0 (pa_cons (pe_fld (pv 0) rfl) (pa_cons (pv 9) (pa_cons (pv 5) (pa_cons (pv 7) pa_nil))))) pa_nil))))))), ?_⟩
    refine ⟨_, rfl, o, _, rfl, SqT.of ho, rfl, _, _, rfl, _, _, rfl, rfl, ?_⟩
    rcases hl with ⟨rfl, rfl⟩ | ⟨la, lw, rfl, rfl, hla⟩
    · refine ⟨_, rfl, true, rfl, iteT ⟨_, rfl, _, rfl, (by show 2 ≤ sizeLine; decide), fun tp ntp => ⟨tp, _, rfl, SqT.of upd_same, rfl, _, _, rfl, _, _, rfl, rfl, ?_⟩⟩⟩
      have s1 : Same H _ := Same.put (o := .tup [encD K v.2, encD K v.1]) ntp
      rcases hrt with ⟨rfl, rfl⟩ | ⟨ra, rw0, rfl, rfl, hra⟩
      · refine ⟨_, rfl, true, rfl, iteT ⟨(by show 2 ≤ sizeLine; decide), fun tq ntq => ⟨tq, _, rfl, SqT.of upd_same, rfl, _, _, rfl, _, _, rfl, rfl, ?_⟩⟩⟩
        have s2 : Same H _ := s1.trans (Same.put (o := .tup [.ref (aB K), .non]) ntq)
        refine ⟨_, rfl, r, _, dx, _, _, rfl, s2 _ _ h1, T.clW, T.wRow, fldW_row _ _, _, rfl, _, rfl, _, rfl, t, n, f, ys, v.2, v.1, .bey, rfl, D2.same s2, fun H5 s5 => ?_⟩
        refine ⟨_, rfl, r, _, dx, _, _, rfl, s5 _ _ (s2 _ _ h1), T.clW, T.wRow, fldW_row _ _, _, rfl, _, rfl, _, rfl, t, n, f, ys, .non, v.2, v.1, rfl, (D2.same s2).same s5, fun H6 s6 => ⟨(by show 2 ≤ sizeLine; decide), fun p np => ?_⟩⟩
        exact k p _ (((s2.trans s5).trans s6).trans (Same.put np)) ((s2.trans (s5.trans s6)).free np) upd_same
      · refine ⟨_, rfl, false, rfl, iteF ⟨_, rfl, ra, _, rfl, SqT.of (s1 _ _ hra), rfl, _, _, rfl, _, _, rfl, rfl, ?_⟩⟩
        refine ⟨_, rfl, r, _, dx, _, _, rfl, s1 _ _ h1, T.clW, T.wRow, fldW_row _ _, _, rfl, _, rfl, _, rfl, t, n, f, ys, v.2, v.1, rw0.1, rfl, D2.same s1, fun H5 s5 => ?_⟩
        refine ⟨_, rfl, r, _, dx, _, _, rfl, s5 _ _ (s1 _ _ h1), T.clW, T.wRow, fldW_row _ _, _, rfl, _, rfl, _, rfl, t, n, f, ys, rw0.2, v.2, v.1, rfl, (D2.same s1).same s5, fun H6 s6 => ⟨(by show 2 ≤ sizeLine; decide), fun p np => ?_⟩⟩
        exact k p _ (((s1.trans s5).trans s6).trans (Same.put np)) ((s1.trans (s5.trans s6)).free np) upd_same
    · refine ⟨_, rfl, false, rfl, iteF ⟨_, rfl, la, _, rfl, SqT.of hla, rfl, _, _, rfl, _, _, rfl, rfl, ?_⟩⟩
      have s1 : Same H H := Same.refl H
      rcases hrt with ⟨rfl, rfl⟩ | ⟨ra, rw0, rfl, rfl, hra⟩
      · refine ⟨_, rfl, true, rfl, iteT ⟨(by show 2 ≤ sizeLine; decide), fun tq ntq => ⟨tq, _, rfl, SqT.of upd_same, rfl, _, _, rfl, _, _, rfl, rfl, ?_⟩⟩⟩
        have s2 : Same H _ := s1.trans (Same.put (o := .tup [.ref (aB K), .non]) ntq)
        refine ⟨_, rfl, r, _, dx, _, _, rfl, s2 _ _ h1, T.clW, T.wRow, fldW_row _ _, _, rfl, _, rfl, _, rfl, t, n, f, ys, lw.1, v.1, .bey, rfl, D2.same s2, fun H5 s5 => ?_⟩
        refine ⟨_, rfl, r, _, dx, _, _, rfl, s5 _ _ (s2 _ _ h1), T.clW, T.wRow, fldW_row _ _, _, rfl, _, rfl, _, rfl, t, n, f, ys, .non, v.2, lw.2, rfl, (D2.same s2).same s5, fun H6 s6 => ⟨(by show 2 ≤ sizeLine; decide), fun p np => ?_⟩⟩
        exact k p _ (((s2.trans s5).trans s6).trans (Same.put np)) ((s2.trans (s5.trans s6)).free np) upd_same
      · refine ⟨_, rfl, false, rfl, iteF ⟨_, rfl, ra, _, rfl, SqT.of (s1 _ _ hra), rfl, _, _, rfl, _, _, rfl, rfl, ?_⟩⟩
        refine ⟨_, rfl, r, _, dx, _, _, rfl, s1 _ _ h1, T.clW, T.wRow, fldW_row _ _, _, rfl, _, rfl, _, rfl, t, n, f, ys, lw.1, v.1, rw0.1, rfl, D2.same s1, fun H5 s5 => ?_⟩
        refine ⟨_, rfl, r, _, dx, _, _, rfl, s5 _ _ (s1 _ _ h1), T.clW, T.wRow, fldW_row _ _, _, rfl, _, rfl, _, rfl, t, n, f, ys, rw0.2, v.2, lw.2, rfl, (D2.same s1).same s5, fun H6 s6 => ⟨(by show 2 ≤ sizeLine; decide), fun p np => ?_⟩⟩
        exact k p _ (((s1.trans s5).trans s6).trans (Same.put np)) ((s1.trans (s5.trans s6)).free np) upd_same
theorem b_wNext (F : FnM K "next" "TwoWays.next" sWNext f fd) : Binds K fd ["self", "left", "own", "right"] [] := F.bindsN fun _ _ _ _ _ _ us hl => match us, hl with | [_, _, _, _], _ => rfl
end
end BW
namespace BW
open PySem PySem.Spec PyProof.Rows L2
/-- a walk over a range that a name holds -/
def iRngV (te : TE) : TI := fun σ H R => te σ H fun x H1 => ∃ p lo hi, x = .ref p ∧ H1 p = some (.rng lo hi) ∧ (-(2 ^ 62) ≤ lo ∧ lo < 2 ^ 62 ∧ -(2 ^ 62) ≤ hi ∧ hi < 2 ^ 62) ∧ R (Itr lo (hi - lo).toNat) H1
theorem pi_rngV {X : Cx} {tg e : Expr} {te : TE} (he : PE X e te) : PI X tg e (iRngV te) := by
  refine ⟨fun pins s σ H R I h => thn (he.run pins s σ H _ I h) fun v s1 ⟨x, H1, I1, r1, p, lo, hi, ex, hp, ⟨b1, b2, b3, b4⟩, q⟩ => ?_⟩
  subst ex
  cases (show v = Value.ref p from r1)
  obtain ⟨t, u, v, ho⟩ := (show ObjOk X.prog X.w H1 s1.heap p (.rng lo hi) from I1.hok p _ hp)
  refine wpAny_pyIter_range (show IsRange s1.heap p lo hi 1 t u v from ho) (small_one b1 b2 b3 b4) ⟨s1.heap.objs.size, [s1.heap.objs.size], _, _, H1, rfl, I1.kept (t' := s1.toks) fun b o e => Heap.get?_push_of_some _ e, turn_range _ lo (hi - lo).toNat, ?_, fun b hb => ?_, q⟩
  · have z1 : lo + ((0 : Nat) : Int) * 1 = lo := by simp
    have z2 : (((hi - lo).toNat : Nat) : Int) - ((0 : Nat) : Int) = Builtin.Range.rangeSize lo hi 1 := by
      rw [rangeSize_one]
      split <;> omega
    show IsRangeIter _ _ (lo + ((0 : Nat) : Int) * 1) ((((hi - lo).toNat : Nat) : Int) - ((0 : Nat) : Int)) 1
    rw [z1, z2]
    exact Heap.get?_push_size _ rfl
  · rw [List.mem_singleton.mp hb]
    exact I1.fpOk (Nat.le_refl _) (I1.hok.fresh (Nat.le_refl _))
/-- tuples of worths -/
def WsAt (K : PySem.W.Frag) (H : Hp) (as : List Addr) (ws : List Wo) : Prop := Paired (fun a v => H a = some (.tup (encW K v))) as ws
theorem WsAt.same {K : PySem.W.Frag} {H H' : Hp} {as : List Addr} {ws : List Wo} (d : WsAt K H as ws) (s : Same H H') : WsAt K H' as ws := Paired.mapP d fun _ _ e => s _ _ e
theorem WsAt.put {K : PySem.W.Frag} {H : Hp} {D : Addr} {xs ys : List V} {as : List Addr} {ws : List Wo} (d : WsAt K H as ws) (h : H D = some (.lst xs)) : WsAt K (upd H D (.lst ys)) as ws := Paired.mapP d fun _ _ e => by
  rw [upd_ne (ne_of e h fun z => nomatch z)]
  exact e
theorem WsAt.get {K : PySem.W.Frag} {H : Hp} {as : List Addr} {ws : List Wo} (d : WsAt K H as ws) {i : Nat} {v : Wo} (h : ws[i]? = some v) : ∃ a, as[i]? = some a ∧ H a = some (.tup (encW K v)) := by
  have hl := Paired.length d
  have hi := (List.getElem?_eq_some_iff.mp h).1
  have e : as[i]? = some (as[i]'(by omega)) := List.getElem?_eq_getElem (by omega)
  exact ⟨_, e, paired_at d e h⟩
section
variable {P : Program} {w : World} {K : PySem.W.Frag} {mg : Str → Option Value} {base : Heap} {f g g2 g3 : Addr} {fd gd gd2 gd3 : FuncData}
/-! ### TwoWays.says -/
def Fine (v : Wo) : Prop := v.1 = .bey ∨ ((∃ x, v.1 = .num x) ∧ v.2 ≠ .bey)
def spWSays (P : Program) (w : World) (K : PySem.W.Frag) : Sp := fun vs H Q _ => ∃ r o v n f ys, vs = [.ref r, .ref o] ∧ TwAt P w K H r n f ys ∧ H o = some (.tup (encW K v)) ∧ Fine v ∧ ∀ H', Same H H' → Q (.bl (saysW f ys v)) H'
theorem scWSays : FnScope ["self", "worth", "here", "folded"] ["self", "worth"] (defScope sWSays) := ⟨rfl, rfl, rfl, by decide +kernel, rfl, by decide +kernel, by decide +kernel⟩
theorem ok_wSays (F : FnM K "says" "TwoWays.says" sWSays f fd) (T : Tx K mg) (G : FnM K "next" "Table.next" sTNext g gd) (M : Meth K (cT K) "next" g) (OG : OkTN P w K mg base g gd)
    (G2 : FnM K "says" "Table.says" sTSays g2 gd2) (M2 : Meth K (cT K) "says" g2) : FnOk P w K mg base CX0 2 f fd ["self", "worth"] (spWSays P w K) := by
  refine okD F scWSays (fun vs H Q E h => ?_) (fun cdv A outer s H vs Q E hr h => ?_)
  · obtain ⟨r, o, v, n, f, ys, rfl, _⟩ := h
    rfl
  · obtain ⟨r, o, v, n, f, ys, rfl, D, ho, fine, k⟩ := h
    obtain ⟨dx, t, h1, D2⟩ := D.ex
    obtain ⟨dy, m, ru, ye, bk, es, ht, _, _, _⟩ := D2.ex
    refine ⟨_, pss_cons (ps_asg (pv 1) (pg_tup rfl (pgs_cons (pg_name (i := 2) scWSays.nd rfl (Or.inl rfl)) (pgs_cons (pg_name (i := 3) scWSays.nd rfl (Or.inl rfl)) pgs_nil))))
      (pss_one (ps_ret (pe_and (pe_cmpR (op_neD (hu64 hr)) (pv 2) (pe_glob (v := .ref (aB K)) (by rfl) T.gB rfl) (nomark _)) (pe_one (pe_meth (pe_fld (pv 0) rfl) T.clT M2 (ok_tSays G2 T) hr (b_tSays G2) .nil pass0
        (pa_cons (pe_meth (pe_fld (pv 0) rfl) T.clT M OG hr (b_tNext G) .nil pass0 (pa_cons (pv 3) (pa_cons (pv 2) (pa_cons pe_non pa_nil)))) pa_nil)))))), ?_⟩
    refine ⟨_, rfl, o, _, rfl, SqT.of ho, rfl, _, _, rfl, _, _, rfl, rfl, ?_⟩
    refine ⟨_, rfl, pdD v.1, .tuple [], dp_D T _ _, .tup (T.bey _) .nil, shaped_D _, shaped_D .bey, _, rfl, ?_⟩
    rw [eqv_bey]
    have z := k H (Same.refl H)
    rcases fine with e1 | ⟨⟨x, e1⟩, e2⟩
    · rw [decide_eq_true e1]
      unfold saysW at z
      rw [e1] at z
      exact iteF z
    · rw [decide_eq_false (by rw [e1]; nofun)]
      refine iteT ⟨_, rfl, r, _, dx, _, _, rfl, h1, T.clW, T.wRow, fldW_row _ _, t, dy, _, rfl, ht, fldT_no _ _ _ _ _ (by decide +kernel), ?_⟩
      refine ⟨_, rfl, r, _, dx, _, _, rfl, h1, T.clW, T.wRow, fldW_row _ _, t, dy, _, rfl, ht, fldT_no _ _ _ _ _ (by decide +kernel), ?_⟩
      refine ⟨_, rfl, _, rfl, t, n, f, ys, v.2.opt, x, .non, by rw [← enc_opt e2, e1]; rfl, D2, fun H2 s2 => ?_⟩
      refine ⟨t, n, f, ys, f v.2.opt x, rfl, D2.same s2, ?_⟩
      have z2 := k H2 s2
      unfold saysW at z2
      rw [e1] at z2
      exact z2
theorem b_wSays (F : FnM K "says" "TwoWays.says" sWSays f fd) : Binds K fd ["self", "worth"] [] := F.bindsN fun _ _ _ _ _ _ us hl => match us, hl with | [_, _], _ => rfl
/-! ### seat_in, due_in -/
def spSeat (P : Program) (w : World) (K : PySem.W.Frag) : Sp := fun vs H Q _ => ∃ r m n f ys, vs = [.ref r, .int m] ∧ TwAt P w K H r n f ys ∧ Q (.int 0) H
def spDue (P : Program) (w : World) (K : PySem.W.Frag) : Sp := fun vs H Q _ => ∃ r m n f ys, vs = [.ref r, .int m] ∧ TwAt P w K H r n f ys ∧ Q (.int (m - 1)) H
theorem scSeat : FnScope ["row", "many"] ["row", "many"] (defScope sSeatIn) := ⟨rfl, rfl, rfl, by decide +kernel, rfl, by decide +kernel, by decide +kernel⟩
theorem scDue : FnScope ["row", "many"] ["row", "many"] (defScope sDueIn) := ⟨rfl, rfl, rfl, by decide +kernel, rfl, by decide +kernel, by decide +kernel⟩
theorem ok_seat (F : FnP K "seat_in" sSeatIn f fd) (T : Tx K mg) : FnOk P w K mg base CX0 1 f fd ["row", "many"] (spSeat P w K) := by
  refine okD F scSeat (fun vs H Q E h => ?_) (fun cdv A outer s H vs Q E hr h => ?_)
  · obtain ⟨r, m, n, f, ys, rfl, _⟩ := h
    rfl
  · obtain ⟨r, m, n, f, ys, rfl, D, k⟩ := h
    obtain ⟨dx, t, h1, _⟩ := D.ex
    exact ⟨_, pss_one (ps_ret (pe_ifExp (pt_cmpR op_eq (pe_fld (pv 0) rfl) (pe_gi rfl T.one) (nomark _)) (pe_op op_sub (pv 1) pe_int) pe_int)), _, rfl, r, _, dx, _, _, rfl, h1, T.clW, T.wWay, fldW_ways _ _, rfl, false, rfl, iteF k⟩
theorem ok_due (F : FnP K "due_in" sDueIn f fd) (T : Tx K mg) : FnOk P w K mg base CX0 1 f fd ["row", "many"] (spDue P w K) := by
  refine okD F scDue (fun vs H Q E h => ?_) (fun cdv A outer s H vs Q E hr h => ?_)
  · obtain ⟨r, m, n, f, ys, rfl, _⟩ := h
    rfl
  · obtain ⟨r, m, n, f, ys, rfl, D, k⟩ := h
    obtain ⟨dx, t, h1, _⟩ := D.ex
    exact ⟨_, pss_one (ps_ret (pe_ifExp (pt_cmpR op_eq (pe_fld (pv 0) rfl) (pe_gi rfl T.one) (nomark _)) (pe_op op_sub (pe_op op_mul pe_int (pv 1)) pe_int) (pe_op op_sub (pv 1) pe_int))), _, rfl, r, _, dx, _, _, rfl, h1, T.clW, T.wWay, fldW_ways _ _, rfl, false, rfl, iteF ⟨_, rfl, _, _, rfl, rfl, k⟩⟩
theorem b_seat (F : FnP K "seat_in" sSeatIn f fd) : Binds K fd ["row", "many"] [] := F.bindsN fun _ _ _ _ _ _ us hl => match us, hl with | [_, _], _ => rfl
theorem b_due (F : FnP K "due_in" sDueIn f fd) : Binds K fd ["row", "many"] [] := F.bindsN fun _ _ _ _ _ _ us hl => match us, hl with | [_, _], _ => rfl
/-! ### begun -/
def begL (ns : List Int) : List Wo := ns.map fun l => (.num l, .non)
def spBegun (P : Program) (w : World) (K : PySem.W.Frag) : Sp := fun vs H Q _ => ∃ r a n f ys ns, vs = [.ref r, .ref a] ∧ TwAt P w K H r n f ys ∧ SqT K H a (ns.map V.int) ∧ ns.length ≤ 200 ∧ ∀ p H' as, Same H H' → H p = none → H' p = some (.tup (as.map V.ref)) → WsAt K H' as (begL ns) → Q (.ref p) H'
theorem scBegun : FnScope ["row", "word", "letter"] ["row", "word"] (defScope sBegun) := ⟨rfl, rfl, rfl, by decide +kernel, rfl, by decide +kernel, by decide +kernel⟩
theorem Same.sqT {K : PySem.W.Frag} {H H' : Hp} {a : Addr} {xs : List V} (e : Same H H') (h : SqT K H a xs) : SqT K H' a xs := by
  rcases h with (h | ⟨o, h⟩) | h
  · exact .inl (.inl (e _ _ h))
  · exact .inl (.inr ⟨o, e _ _ h⟩)
  · exact .inr h
theorem take_next {α β : Type} {ns : List α} {fn : α → β} {i : Nat} {z : α} (h : ns[i]? = some z) : (ns.map fn).take (i + 1) = (ns.map fn).take i ++ [fn z] := by
  rw [List.take_add_one, List.getElem?_map, h]
  rfl
theorem ok_begun (F : FnP K "begun" sBegun f fd) (T : Tx K mg) (G : FnM K "begin" "TwoWays.begin" sWBegin g gd) (M : Meth K (cW K) "begin" g) (OG : FnOk P w K mg base CX0 2 g gd ["self", "letter"] (spWBegin P w K)) : FnOk P w K mg base CX0 3 f fd ["row", "word"] (spBegun P w K) := by
  refine okD F scBegun (fun vs H Q E h => ?_) (fun cdv A outer s H vs Q E hr h => ?_)
  · obtain ⟨r, a, n, f, ys, ns, rfl, _⟩ := h
    rfl
  · obtain ⟨r, a, n, f, ys, ns, rfl, D, ha, hz, k⟩ := h
    obtain ⟨dx, t, h1, _⟩ := D.ex
    refine ⟨_, pss_one (ps_ret (pe_callTy call_tuple_of (by rfl) T.tuple (by decide +kernel) (pa_cons (pe_lc (own := [("letter", 2)]) (g := gName 2) (tt := tYes) rfl scBegun.nd (pi_tup (pv 1)) (blkOk_by (N := ["row", "word", "letter"]) (sc := defScope sBegun) (by decide +kernel))
      (fun _ _ _ _ _ => pg_name (i := 2) scBegun.nd rfl (Or.inl rfl)) (fun _ _ _ _ _ => pts_nil) (fun _ _ _ _ _ => pe_meth (pv 0) T.clW M OG hr (b_wBegin G) .nil pass0 (pa_cons (pv 2) pa_nil))) pa_nil))), ?_⟩
    refine ⟨_, rfl, a, rfl, ⟨_, ha⟩, fun E1 nE => ?_⟩
    refine lc_tup (K := K) (a := a) (xs := ns.map V.int) (fun i H2 => ∃ bs, Same H H2 ∧ H2 E1 = some (.lst (bs.map V.ref)) ∧ WsAt K H2 bs ((begL ns).take i)) ⟨[], Same.put nE, upd_same, .nil⟩ (fun i H2 _ ⟨_, q, _⟩ => Same.sqT q ha) ?_ ?_
    · rintro i x H2 hi ⟨bs, s2, hE, hb⟩
      obtain ⟨z, rfl, hzi⟩ := int_at hi
      have hlb := Paired.length hb
      rw [List.length_take] at hlb
      have hln : (begL ns).length = ns.length := List.length_map _
      refine ⟨rfl, _, rfl, r, dx, _, rfl, s2 _ _ h1, fldW_no _ _ (by decide +kernel), _, rfl, r, z, n, f, ys, rfl, D.same s2, fun p H4 s4 np hp => ?_⟩
      refine ⟨bs.map V.ref, s4 _ _ hE, by rw [List.length_map]; exact small1000 (by omega), bs ++ [p], fun b o e => ?_, by rw [upd_same, List.map_append]; rfl, ?_⟩
      · rw [upd_ne (fun y => by rw [y, nE] at e; cases e)]
        exact s4 _ _ (s2 b o e)
      · rw [show begL ns = ns.map _ from rfl, take_next hzi]
        exact WsAt.put (K := K) (Paired.snoc (hb.same s4) hp) (s4 _ _ hE)
    · rintro H2 ⟨bs, s2, hE, hb⟩
      have e1 : (begL ns).take (ns.map V.int).length = begL ns := List.take_of_length_le (by rw [List.length_map]; exact Nat.le_of_eq (List.length_map _))
      rw [e1] at hb
      refine ⟨E1, _, rfl, .inl ⟨SqL.of hE, fun p np => ?_⟩⟩
      exact k p _ bs (s2.trans (Same.put np)) (s2.free np) upd_same (hb.same (Same.put np))
theorem b_begun (F : FnP K "begun" sBegun f fd) : Binds K fd ["row", "word"] [] := F.bindsN fun _ _ _ _ _ _ us hl => match us, hl with | [_, _], _ => rfl
/-! ### ticked -/
def spTicked (P : Program) (w : World) (K : PySem.W.Frag) : Sp := fun vs H Q _ => ∃ (r a : Addr) (h : Nat) (n : Int) (f : Fn) (ys : List Int) (as : List Addr) (ws : List Wo), vs = [.ref r, .ref a, .int 0, .int h] ∧ TwAt P w K H r n f ys ∧ H a = some (.tup (as.map V.ref)) ∧ WsAt K H as ws ∧ ws.length ≤ 200 ∧ h ≤ ws.length ∧
  ∀ p H' bs, Same H H' → H p = none → H' p = some (.tup (bs.map V.ref)) → WsAt K H' bs (tickL f ws h) → Q (.ref p) H'
abbrev nTicked : List Str := ["row", "worths", "low", "high", "beside", "cells", "at"]
theorem scTicked : FnScope nTicked ["row", "worths", "low", "high"] (defScope sTicked) := ⟨rfl, rfl, rfl, by decide +kernel, rfl, by decide +kernel, by decide +kernel⟩
/-- what stands at the place i of (None, *worths, None) -/
theorem beside_at {as : List Addr} {i : Nat} : (V.non :: (as.map V.ref ++ [V.non]))[i]? = if i = 0 then some .non else if i - 1 < as.length then as[i - 1]?.map V.ref else if i - 1 = as.length then some .non else none := by
  cases i with
  | zero => rfl
  | succ i =>
    rw [List.getElem?_cons_succ, if_neg (Nat.succ_ne_zero i), Nat.add_sub_cancel]
    by_cases h : i < as.length
    · rw [if_pos h, List.getElem?_append_left (by rw [List.length_map]; exact h), List.getElem?_map]
    · rw [if_neg h, List.getElem?_append_right (by rw [List.length_map]; omega), List.length_map]
      by_cases h2 : i = as.length
      · rw [if_pos h2, h2, Nat.sub_self]; rfl
      · rw [if_neg h2, List.getElem?_eq_none (by simp; omega)]
theorem ok_ticked (F : FnDs K "ticked" sTicked [.int 0, .int 0] f fd) (T : Tx K mg) (G : FnM K "next" "TwoWays.next" sWNext g gd) (M : Meth K (cW K) "next" g) (OG : FnOk P w K mg base CX0 3 g gd ["self", "left", "own", "right"] (spWNext P w K)) :
    FnOk P w K mg base CX0 4 f fd ["row", "worths", "low", "high"] (spTicked P w K) := by
  refine okD F scTicked (fun vs H Q E h => ?_) (fun cdv A outer s H vs Q E hr h => ?_)
  · obtain ⟨r, a, h, n, f, ys, as, ws, rfl, _⟩ := h
    rfl
  · obtain ⟨r, a, h, n, f, ys, as, ws, rfl, D, ha, hw, hz, hh, k⟩ := h
    obtain ⟨dx, t, h1, _⟩ := D.ex
    have hl := Paired.length hw
    refine ⟨_, pss_cons (ps_set (i := 4) scTicked.nd rfl (Or.inr rfl) (pe_tup (pa_cons pe_non (StX.pa_star (pv 1) (pa_cons pe_non pa_nil)))))
      (pss_cons (ps_set (i := 5) scTicked.nd rfl (Or.inl rfl) (pe_callTy cr_range2 (by rfl) T.range (by decide +kernel) (pa_cons (pv 2) (pa_cons (pe_op op_sub (pe_callB call_len (by rfl) T.len boot_len (pa_cons (pv 1) pa_nil)) (pv 3)) pa_nil))))
      (pss_cons (ps_if (pt_cmpR op_eq (pe_fld (pv 0) rfl) (pe_gi rfl T.one) (nomark _)) pss_never pss_nil)
      (pss_one (ps_ret (pe_callTy call_tuple_of (by rfl) T.tuple (by decide +kernel) (pa_cons (pe_lc (own := [("at", 6)]) (g := gName 6) (tt := tYes) rfl scTicked.nd (pi_rngV (pv 5)) (blkOk_by (N := nTicked) (sc := defScope sTicked) (by decide +kernel))
        (fun _ _ _ _ _ => pg_name (i := 6) scTicked.nd rfl (Or.inl rfl)) (fun _ _ _ _ _ => pts_nil) (fun _ _ _ _ _ => pe_meth (pv 0) T.clW M OG hr (b_wNext G) .nil pass0
          (pa_cons (pe_ix (r := rIxT K) ix_tup (pv 4) (pv 6) (fun _ _ => rfl)) (pa_cons (pe_ix (r := rIxT K) ix_tup (pv 1) (pv 6) (fun _ _ => rfl)) (pa_cons (pe_ix (r := rIxT K) ix_tup (pv 4) (pe_op op_add (pv 6) pe_int) (fun _ _ => rfl)) pa_nil))))) pa_nil)))))), ?_⟩
    have hlen : (as.map V.ref).length = ws.length := by rw [List.length_map]; omega
    have hbl : (V.non :: (as.map V.ref ++ [V.non])).length = ws.length + 2 := by rw [List.length_cons, List.length_append, hlen]; rfl
    -- beside, cells
    refine ⟨_, rfl, a, _, rfl, .inl (SqT.of ha), ?_⟩
    refine ⟨Nat.le_of_lt (small1000 (by show (V.non :: (as.map V.ref ++ [V.non])).length ≤ 1000; omega)), fun tb ntb => ?_⟩
    have s1 : Same H (upd H tb (.tup (V.non :: (as.map V.ref ++ [V.non])))) := Same.put ntb
    refine ⟨_, rfl, _, rfl, .ref a, ws.length, rfl, .inr ⟨_, SqT.of (s1 _ _ ha), hlen.symm⟩, _, rfl, _, _, rfl, rfl, _, _, rfl, fun tc ntc => ?_⟩
    have s2 := s1.trans (Same.put (o := .rng 0 ((ws.length : Int) - (h : Int))) ntc)
    refine ⟨_, rfl, r, _, dx, _, _, rfl, s2 _ _ h1, T.clW, T.wWay, fldW_ways _ _, rfl, false, rfl, iteF ?_⟩
    have htb : upd (upd H tb (.tup (V.non :: (as.map V.ref ++ [V.non])))) tc (.rng 0 ((ws.length : Int) - (h : Int))) tb = some (.tup (V.non :: (as.map V.ref ++ [V.non]))) := Same.put ntc _ _ upd_same
    generalize hH3 : upd (upd H tb (.tup (V.non :: (as.map V.ref ++ [V.non])))) tc (.rng 0 ((ws.length : Int) - (h : Int))) = H3 at s2 htb ⊢
    have htc : H3 tc = some (.rng 0 ((ws.length : Int) - (h : Int))) := by rw [← hH3]; exact upd_same
    refine ⟨_, rfl, tc, 0, _, rfl, htc, ⟨by omega, by omega, by omega, by omega⟩, fun E1 nE => ?_⟩
    have hnt : ((ws.length : Int) - (h : Int) - 0).toNat = ws.length - h := by omega
    rw [hnt]
    refine lc_range (lo := 0) (n := ws.length - h) (fun i H2 => ∃ bs, Same H3 H2 ∧ H2 E1 = some (.lst (bs.map V.ref)) ∧ WsAt K H2 bs ((tickL f ws h).take i)) ⟨[], Same.put nE, upd_same, .nil⟩ ?_ ?_
    · rintro i H2 hi ⟨bs, s3, hE, hb⟩
      have s23 := s2.trans s3
      have hiw : i < ws.length := by omega
      obtain ⟨v, hv⟩ : ∃ v, ws[i]? = some v := ⟨_, List.getElem?_eq_getElem hiw⟩
      obtain ⟨o, ho1, ho2⟩ := hw.get hv
      have hgd : ws.getD i (.non, .non) = v := by rw [List.getD_eq_getElem?_getD, hv]; rfl
      have ez : (0 : Int) + (i : Nat) = ((i : Nat) : Int) := by omega
      -- what stands left and right
      obtain ⟨lv, hlv, hlo⟩ : ∃ lv, (V.non :: (as.map V.ref ++ [V.non]))[i]? = some lv ∧ OptAt K H lv (if i = 0 then none else ws[i - 1]?) := by
        rw [beside_at]
        by_cases h0 : i = 0
        · rw [if_pos h0, if_pos h0]
          exact ⟨_, rfl, .inl ⟨rfl, rfl⟩⟩
        · rw [if_neg h0, if_neg h0, if_pos (by omega)]
          obtain ⟨u, hu⟩ : ∃ u, ws[i - 1]? = some u := ⟨_, List.getElem?_eq_getElem (by omega)⟩
          obtain ⟨c, c1, c2⟩ := hw.get hu
          rw [c1, hu]
          exact ⟨_, rfl, .inr ⟨c, u, rfl, rfl, c2⟩⟩
      obtain ⟨rv, hrv, hro⟩ : ∃ rv, (V.non :: (as.map V.ref ++ [V.non]))[i + 2]? = some rv ∧ OptAt K H rv ws[i + 1]? := by
        rw [beside_at, if_neg (by omega)]
        by_cases h0 : i + 1 < ws.length
        · rw [if_pos (by omega)]
          obtain ⟨u, hu⟩ : ∃ u, ws[i + 1]? = some u := ⟨_, List.getElem?_eq_getElem h0⟩
          obtain ⟨c, c1, c2⟩ := hw.get hu
          rw [show i + 2 - 1 = i + 1 by omega, c1, hu]
          exact ⟨_, rfl, .inr ⟨c, u, rfl, rfl, c2⟩⟩
        · rw [if_neg (by omega), if_pos (by omega), List.getElem?_eq_none (by omega)]
          exact ⟨_, rfl, .inl ⟨rfl, rfl⟩⟩
      have up : ∀ {x : V} {u : Option Wo}, OptAt K H x u → OptAt K H2 x u := fun {x u} q => q.elim .inl fun ⟨c, y, q1, q2, q3⟩ => .inr ⟨c, y, q1, q2, s23 _ _ q3⟩
      have hlb := Paired.length hb
      rw [List.length_take] at hlb
      refine ⟨rfl, _, rfl, r, dx, _, rfl, s23 _ _ h1, fldW_no _ _ (by decide +kernel), ?_⟩
      refine ⟨_, rfl, _, rfl, tb, _, _, lv, rfl, rfl, SqT.of (s3 _ _ htb), at_of ez hlv, ?_⟩
      refine ⟨_, rfl, _, rfl, a, _, _, .ref o, rfl, rfl, SqT.of (s23 _ _ ha), at_of ez (by rw [List.getElem?_map, ho1]; rfl), ?_⟩
      refine ⟨_, rfl, _, rfl, _, _, rfl, rfl, tb, _, _, rv, rfl, rfl, SqT.of (s3 _ _ htb), at_of (j := i + 2) (by omega) hrv, ?_⟩
      refine ⟨r, lv, o, rv, _, v, _, n, f, ys, rfl, D.same s23, up hlo, s23 _ _ ho2, up hro, fun p H4 s4 np hp => ?_⟩
      refine ⟨bs.map V.ref, s4 _ _ hE, by rw [List.length_map]; exact small1000 (by omega), bs ++ [p], fun b u e => ?_, by rw [upd_same, List.map_append]; rfl, ?_⟩
      · rw [upd_ne (fun y => by rw [y, nE] at e; cases e)]
        exact s4 _ _ (s3 b u e)
      · have et : (tickL f ws h).take (i + 1) = (tickL f ws h).take i ++ [nextW f (if i = 0 then none else ws[i - 1]?) v ws[i + 1]?] := by
          rw [List.take_add_one, tickL_get hi, hgd]
          rfl
        rw [et]
        exact WsAt.put (K := K) (Paired.snoc (hb.same s4) hp) (s4 _ _ hE)
    · rintro H2 ⟨bs, s3, hE, hb⟩
      rw [List.take_of_length_le (Nat.le_of_eq (tickL_length f ws h))] at hb
      refine ⟨E1, _, rfl, .inl ⟨SqL.of hE, fun p np => ?_⟩⟩
      exact k p _ bs ((s2.trans s3).trans (Same.put np)) ((s2.trans s3).free np) upd_same (hb.same (Same.put np))
theorem b_ticked (F : FnDs K "ticked" sTicked [.int 0, .int 0] f fd) : Binds K fd ["row", "worths", "low", "high"] [] := by
  obtain ⟨ds, v, b⟩ := FunD.binds1 (ps := ["row", "worths", "low", "high"]) F 4 2 (by decide) rfl fun T kV doc pm an cdv ct us its hu hi => match us, its, hu, hi with | [_, _, _, _], [_, _], _, _ => ⟨_, rfl, rfl⟩
  cases (show Vals [] ds from v)
  exact b
end
end BW
namespace BW
open PySem PySem.Spec PyProof.Rows L2
theorem iteTb {b : Bool} {A B : Prop} (h : b = true) (a : A) : if b = true then A else B := by
  rw [if_pos h]
  exact a
theorem iteFb {b : Bool} {A B : Prop} (h : b = false) (a : B) : if b = true then A else B := by
  rw [if_neg (by rw [h]; nofun)]
  exact a
theorem rSlA_of {K : PySem.W.Frag} {H : Hp} {a : Addr} {xs : List V} {lo hi : Option Int} {Q : VK} (h : H a = some (.tup xs)) (k : ∀ b H', Same H H' → H' b = some (.tup (cutV xs lo hi)) → Q (.ref b) H') : rSlA K (.ref a) lo hi H Q := by
  refine ⟨a, xs, rfl, SqT.of h, fun hw => k a H (Same.refl H) ?_, fun _ p np => k p _ (Same.put np) upd_same⟩
  rw [h]
  unfold cutV
  rw [hw.1, hw.2, List.drop_zero, Nat.sub_zero, List.take_length]
theorem begL_take {ns : List Int} {t : Nat} (hn : 1 ≤ ns.length) : begL (ns.take (hiAt ns.length t 0 + 1)) = (List.range (min (ns.length - 1) t + 1)).map fun c => (.num (ns.getD c 0), .non) := by
  have e : hiAt ns.length t 0 + 1 = min (ns.length - 1) t + 1 := by
    unfold hiAt
    split <;> omega
  rw [e]
  unfold begL
  refine List.ext_getElem? fun c => ?_
  rw [List.getElem?_map, List.getElem?_map]
  by_cases h : c < min (ns.length - 1) t + 1
  · rw [List.getElem?_take_of_lt h, List.getElem?_range h, List.getElem?_eq_getElem (show c < ns.length by omega)]
    show some (D.num _, D.non) = some (D.num (ns.getD c 0), D.non)
    rw [List.getD_eq_getElem?_getD, List.getElem?_eq_getElem (show c < ns.length by omega)]
    rfl
  · rw [List.getElem?_eq_none (by rw [List.length_take]; omega), List.getElem?_eq_none (by rw [List.length_range]; omega)]
    rfl
section
variable {P : Program} {w : World} {K : PySem.W.Frag} {mg : Str → Option Value} {base : Heap} {f g g2 g3 g4 : Addr} {fd gd gd2 gd3 gd4 : FuncData}
/-! ### worth_in -/
def spWorthIn (P : Program) (w : World) (K : PySem.W.Frag) : Sp := fun vs H Q _ => ∃ (r a : Addr) (t : Nat) (n : Int) (f : Fn) (ys ns : List Int), vs = [.ref r, .ref a, .int 0, .int t] ∧ TwAt P w K H r n f ys ∧ H a = some (.tup (ns.map V.int)) ∧ 1 ≤ ns.length ∧ ns.length ≤ 200 ∧ t ≤ 1000 ∧
  ∀ o H' v, Same H H' → H' o = some (.tup (encW K v)) → Good f (fun i => ns.getD i 0) ns.length t 0 v → Q (.ref o) H'
abbrev nWorthIn : List Str := ["row", "word", "cell", "tick", "low", "high", "worths", "_", "cut_low", "cut_high"]
theorem scWorthIn : FnScope nWorthIn ["row", "word", "cell", "tick"] (defScope sWorthIn) := ⟨rfl, rfl, rfl, by decide +kernel, rfl, by decide +kernel, by decide +kernel⟩
theorem ok_worthIn (F : FnP K "worth_in" sWorthIn f fd) (T : Tx K mg) (GB : FnP K "begun" sBegun g gd) (mB : mg "begun" = some (.ref g)) (OB : FnOk P w K mg base CX0 3 g gd ["row", "word"] (spBegun P w K))
    (GT : FnDs K "ticked" sTicked [.int 0, .int 0] g2 gd2) (mT : mg "ticked" = some (.ref g2)) (OT : FnOk P w K mg base CX0 4 g2 gd2 ["row", "worths", "low", "high"] (spTicked P w K)) :
    FnOk P w K mg base CX0 5 f fd ["row", "word", "cell", "tick"] (spWorthIn P w K) := by
  refine okD F scWorthIn (fun vs H Q E h => ?_) (fun cdv A outer s H vs Q E hr h => ?_)
  · obtain ⟨r, a, t, n, f, ys, ns, rfl, _⟩ := h
    rfl
  · obtain ⟨r, a, t, n, f, ys, ns, rfl, D, ha, hn1, hn2, ht, k⟩ := h
    obtain ⟨dx, tt, h1, _⟩ := D.ex
    refine ⟨_, pss_cons (ps_set (i := 4) scWorthIn.nd rfl (Or.inl rfl) (pe_callB (call_max2 rfl) (by rfl) T.max (by decide +kernel) (pa_cons pe_int (pa_cons (pe_op op_sub (pv 2) (pv 3)) pa_nil))))
      (pss_cons (ps_set (i := 5) scWorthIn.nd rfl (Or.inl rfl) (pe_ifExp (pt_cmpR op_eq (pe_fld (pv 0) rfl) (pe_gi rfl T.one) (nomark _)) (pv 2) (pe_callB (call_min2 rfl) (by rfl) T.min (by decide +kernel) (pa_cons (pe_op op_sub (pe_callB call_len (by rfl) T.len boot_len (pa_cons (pv 1) pa_nil)) pe_int) (pa_cons (pe_op op_add (pv 2) (pv 3)) pa_nil)))))
      (pss_cons (ps_set (i := 6) scWorthIn.nd rfl (Or.inl rfl) (pe_call OB (hr.mono (by decide)) rfl mB GB.kp (b_begun GB) .nil pass0 (pa_cons (pv 0) (pa_cons (pe_slice sl_tupA (pv 1) (po_some (pv 4)) (po_some (pe_op op_add (pv 5) pe_int))) pa_nil))))
      (pss_cons (ps_for (PassesOwn.never) rfl (pi_range1 (by rfl) T.range (pa_cons (pv 3) pa_nil)) (pg_name (i := 7) scWorthIn.nd rfl (Or.inl rfl))
        (pss_cons (ps_par (i := 8) (j := 9) rfl scWorthIn.nd rfl rfl (by decide) rfl rfl (pa_cons (pe_callTy call_int1 (by rfl) T.int (by decide +kernel) (pa_cons (pe_cmp (pc_gt (pv 4) pe_int) rfl) pa_nil))
          (pa_cons (pe_callTy call_int1 (by rfl) T.int (by decide +kernel) (pa_cons (pe_and (pe_cmp (pc_lt (pv 5) (pe_op op_sub (pe_callB call_len (by rfl) T.len boot_len (pa_cons (pv 1) pa_nil)) pe_int)) rfl) (pe_one (pe_cmpR op_ne (pe_fld (pv 0) rfl) (pe_gi rfl T.one) (nomark _)))) pa_nil)) pa_nil)) rfl)
        (pss_cons (ps_set (i := 6) scWorthIn.nd rfl (Or.inl rfl) (pe_call OT hr rfl mT GT.kp (b_ticked GT) .nil pass0 (pa_cons (pv 0) (pa_cons (pv 6) (pa_cons (pv 8) (pa_cons (pv 9) pa_nil))))))
        (pss_one (ps_par (i := 4) (j := 5) rfl scWorthIn.nd rfl rfl (by decide) rfl rfl (pa_cons (pe_op op_add (pv 4) (pv 8)) (pa_cons (pe_op op_sub (pv 5) (pv 9)) pa_nil)) rfl)))))
      (pss_one (ps_ret (pe_ix (r := rIxT K) ix_tup (pv 6) (pe_op op_sub (pv 2) (pv 4)) (fun _ _ => rfl))))))), ?_⟩
    have hln : (ns.map V.int).length = ns.length := List.length_map _
    -- low, high
    refine ⟨_, rfl, _, rfl, _, _, rfl, rfl, _, _, rfl, ?_⟩
    rw [if_neg (show ¬ ((0 : Int) - (t : Nat) > 0) by omega)]
    refine ⟨_, rfl, r, _, dx, _, _, rfl, h1, T.clW, T.wWay, fldW_ways _ _, rfl, false, rfl, iteF ?_⟩
    refine ⟨_, rfl, .ref a, ns.length, rfl, .inr ⟨_, SqT.of ha, hln.symm⟩, _, _, rfl, rfl, _, rfl, _, rfl, _, _, rfl, rfl, _, _, rfl, ?_⟩
    have eh : (if (0 : Int) + (t : Nat) < (ns.length : Nat) - 1 then (0 : Int) + (t : Nat) else (ns.length : Nat) - 1) = ((hiAt ns.length t 0 : Nat) : Int) := by
      unfold hiAt
      split <;> split <;> omega
    rw [eh]
    have hh : hiAt ns.length t 0 < ns.length := by
      unfold hiAt
      split <;> omega
    have s0 : HT.sIx (ns.map V.int).length 0 (some 0) = 0 := by
      rw [show (some (0 : Int)) = some (((0 : Nat) : Nat) : Int) from rfl, HT.sIx_nat]
      exact Nat.zero_min _
    have s1 : HT.sIx (ns.map V.int).length (ns.map V.int).length (some (((hiAt ns.length t 0 : Nat) : Int) + 1)) = hiAt ns.length t 0 + 1 := by
      rw [show ((hiAt ns.length t 0 : Nat) : Int) + 1 = ((hiAt ns.length t 0 + 1 : Nat) : Int) by omega, HT.sIx_nat, hln]
      omega
    have ec : cutV (ns.map V.int) (some 0) (some (((hiAt ns.length t 0 : Nat) : Int) + 1)) = (ns.take (hiAt ns.length t 0 + 1)).map V.int := by
      unfold cutV
      rw [s0, s1, List.drop_zero, Nat.sub_zero, List.map_take]
    -- begun
    refine ⟨_, rfl, _, rfl, _, rfl, 0, rfl, _, rfl, _, _, rfl, rfl, _, rfl, rSlA_of ha fun b H3 s3 hb => ?_⟩
    rw [ec] at hb
    refine ⟨r, b, n, f, ys, _, rfl, D.same s3, SqT.of hb, (by rw [List.length_take]; omega), fun p H4 as s4 np hp hw => ?_⟩
    rw [begL_take hn1] at hw
    have s34 := s3.trans s4
    -- the ticks
    refine ⟨_, rfl, t, rfl, by omega, by omega, ?_⟩
    rw [Int.toNat_natCast]
    refine for_range (lo := 0) (n := t) (fun i σ H5 => ∃ q bs ws z1 z2 z3, Same H H5 ∧ H5 q = some (.tup (bs.map V.ref)) ∧ WsAt K H5 bs ws ∧ Kept f (fun i => ns.getD i 0) ns.length t i ws ∧
      σ = [some (.ref r), some (.ref a), some (.int 0), some (.int t), some (.int 0), some (.int ((hiAt ns.length t i : Nat) : Int)), some (.ref q), z1, z2, z3]) ⟨p, as, _, _, _, _, s34, hp, hw, kept_begin f _ (by omega), rfl⟩ ?_ ?_
    · rintro i σ H5 hi ⟨q, bs, ws, z1, z2, z3, s5, hq, hb5, hk, rfl⟩
      have hik := hk.len
      have hlt : hiAt ns.length t i < ns.length := by
        unfold hiAt
        split <;> omega
      refine ⟨_, rfl, 0, 0, rfl, rfl, .inr ⟨_, rfl, ?_⟩⟩
      refine ⟨_, rfl, _, rfl, .ref a, ns.length, rfl, .inr ⟨_, SqT.of (s5 _ _ ha), hln.symm⟩, _, _, rfl, rfl, _, _, rfl, rfl, _, rfl, ?_⟩
      by_cases hc : t + 1 < ns.length
      · refine iteTb (decide_eq_true (show ((hiAt ns.length t i : Nat) : Int) < ((ns.length : Nat) : Int) - 1 by unfold hiAt; rw [if_pos hc]; omega)) ?_
        refine ⟨_, rfl, r, _, dx, _, _, rfl, s5 _ _ h1, T.clW, T.wWay, fldW_ways _ _, rfl, .inr ⟨true, rfl, _, _, rfl, ?_⟩⟩
        refine ⟨_, rfl, _, rfl, _, rfl, _, rfl, r, q, cutAt ns.length t, n, f, ys, bs, ws, (by unfold cutAt; rw [if_pos hc]; rfl), D.same s5, hq, hb5, by omega, (by unfold cutAt; split <;> omega), fun p2 H6 bs2 s6 np2 hp2 hw2 => ?_⟩
        refine ⟨_, rfl, _, rfl, _, _, rfl, rfl, _, rfl, _, rfl, _, _, rfl, rfl, _, _, rfl, ?_⟩
        exact ⟨p2, bs2, _, _, _, _, s5.trans s6, hp2, hw2, kept_step (by omega) hi hk, congrArg (fun y : Int => [some (V.ref r), some (.ref a), some (.int 0), some (.int t), some (.int 0), some (.int y), some (.ref p2), _, _, _])
          (show ((hiAt ns.length t i : Nat) : Int) - 1 = ((hiAt ns.length t (i + 1) : Nat) : Int) by unfold hiAt; rw [if_pos hc, if_pos hc]; omega)⟩
      · refine iteFb (decide_eq_false (show ¬ ((hiAt ns.length t i : Nat) : Int) < ((ns.length : Nat) : Int) - 1 by unfold hiAt; rw [if_neg hc]; omega)) ?_
        refine .inr ⟨false, rfl, _, _, rfl, ?_⟩
        refine ⟨_, rfl, _, rfl, _, rfl, _, rfl, r, q, cutAt ns.length t, n, f, ys, bs, ws, (by unfold cutAt; rw [if_neg hc]; rfl), D.same s5, hq, hb5, by omega, (by unfold cutAt; split <;> omega), fun p2 H6 bs2 s6 np2 hp2 hw2 => ?_⟩
        refine ⟨_, rfl, _, rfl, _, _, rfl, rfl, _, rfl, _, rfl, _, _, rfl, rfl, _, _, rfl, ?_⟩
        exact ⟨p2, bs2, _, _, _, _, s5.trans s6, hp2, hw2, kept_step (by omega) hi hk, congrArg (fun y : Int => [some (V.ref r), some (.ref a), some (.int 0), some (.int t), some (.int 0), some (.int y), some (.ref p2), _, _, _])
          (show ((hiAt ns.length t i : Nat) : Int) - 0 = ((hiAt ns.length t (i + 1) : Nat) : Int) by unfold hiAt; rw [if_neg hc, if_neg hc]; omega)⟩
    · rintro σ H5 ⟨q, bs, ws, z1, z2, z3, s5, hq, hb5, hk, rfl⟩
      have h0 : 0 < ws.length := by
        rw [hk.len]
        exact Nat.succ_pos _
      obtain ⟨v, hv⟩ : ∃ v, ws[0]? = some v := ⟨_, List.getElem?_eq_getElem h0⟩
      obtain ⟨o, ho1, ho2⟩ := hb5.get hv
      refine ⟨_, rfl, _, rfl, _, rfl, _, _, rfl, rfl, q, _, _, .ref o, rfl, rfl, SqT.of hq, at_of (j := 0) rfl (by rw [List.getElem?_map, ho1]; rfl), ?_⟩
      exact k o H5 v s5 ho2 (hk.at_ 0 v hv)
end
end BW
namespace BW
open PySem PySem.Spec PyProof.Rows L2
/-- what is said of a word at a tick -/
def saidB (f : Fn) (ys ns : List Int) (t : Nat) : Bool := if t < ns.length then ys.contains (w f (fun i => ns.getD i 0) (2 * t + 1) t) else false
section
variable {P : Program} {w : World} {K : PySem.W.Frag} {mg : Str → Option Value} {base : Heap} {f g g2 g3 g4 : Addr} {fd gd gd2 gd3 gd4 : FuncData}
/-! ### said_in, told_in -/
def spSaidIn (P : Program) (w : World) (K : PySem.W.Frag) : Sp := fun vs H Q _ => ∃ (r a : Addr) (t : Nat) (n : Int) (f : Fn) (ys ns : List Int), vs = [.ref r, .ref a, .int t] ∧ TwAt P w K H r n f ys ∧ H a = some (.tup (ns.map V.int)) ∧ 1 ≤ ns.length ∧ ns.length ≤ 200 ∧ t ≤ 1000 ∧
  ∀ H', Same H H' → Q (.bl (saidB f ys ns t)) H'
theorem scSaidIn : FnScope ["row", "word", "tick"] ["row", "word", "tick"] (defScope sSaidIn) := ⟨rfl, rfl, rfl, by decide +kernel, rfl, by decide +kernel, by decide +kernel⟩
theorem b_worthIn (F : FnP K "worth_in" sWorthIn f fd) : Binds K fd ["row", "word", "cell", "tick"] [] := F.bindsN fun _ _ _ _ _ _ us hl => match us, hl with | [_, _, _, _], _ => rfl
theorem ok_saidIn (F : FnP K "said_in" sSaidIn f fd) (T : Tx K mg) (GS : FnP K "seat_in" sSeatIn g gd) (mS : mg "seat_in" = some (.ref g)) (GW : FnP K "worth_in" sWorthIn g2 gd2) (mW : mg "worth_in" = some (.ref g2))
    (OW : FnOk P w K mg base CX0 5 g2 gd2 ["row", "word", "cell", "tick"] (spWorthIn P w K)) (GY : FnM K "says" "TwoWays.says" sWSays g3 gd3) (MY : Meth K (cW K) "says" g3) (OY : FnOk P w K mg base CX0 2 g3 gd3 ["self", "worth"] (spWSays P w K)) :
    FnOk P w K mg base CX0 6 f fd ["row", "word", "tick"] (spSaidIn P w K) := by
  refine okD F scSaidIn (fun vs H Q E h => ?_) (fun cdv A outer s H vs Q E hr h => ?_)
  · obtain ⟨r, a, t, n, f, ys, ns, rfl, _⟩ := h
    rfl
  · obtain ⟨r, a, t, n, f, ys, ns, rfl, D, ha, hn1, hn2, ht, k⟩ := h
    obtain ⟨dx, tt, h1, _⟩ := D.ex
    refine ⟨_, pss_one (ps_ret (pe_meth (pv 0) T.clW MY OY (hr.mono (by decide)) (b_wSays GY) .nil pass0 (pa_cons (pe_call OW hr rfl mW GW.kp (b_worthIn GW) .nil pass0 (pa_cons (pv 0) (pa_cons (pv 1) (pa_cons
      (pe_call (ok_seat GS T) (hr.mono (by decide)) rfl mS GS.kp (b_seat GS) .nil pass0 (pa_cons (pv 0) (pa_cons (pe_callB call_len (by rfl) T.len boot_len (pa_cons (pv 1) pa_nil)) pa_nil))) (pa_cons (pv 2) pa_nil))))) pa_nil))), ?_⟩
    refine ⟨_, rfl, r, dx, _, rfl, h1, fldW_no _ _ (by decide +kernel), _, rfl, _, rfl, _, rfl, _, rfl, .ref a, ns.length, rfl, .inr ⟨_, SqT.of ha, (List.length_map _).symm⟩, r, _, n, f, ys, rfl, D, ?_⟩
    refine ⟨_, rfl, r, a, t, n, f, ys, ns, rfl, D, ha, hn1, hn2, ht, fun o H2 v s2 ho hv => ?_⟩
    refine ⟨r, o, v, n, f, ys, rfl, D.same s2, ho, good_fine hv, fun H3 s3 => ?_⟩
    rw [good_says ys hv]
    exact k H3 (s2.trans s3)
theorem b_saidIn (F : FnP K "said_in" sSaidIn f fd) : Binds K fd ["row", "word", "tick"] [] := F.bindsN fun _ _ _ _ _ _ us hl => match us, hl with | [_, _, _], _ => rfl
def spToldIn (P : Program) (w : World) (K : PySem.W.Frag) : Sp := fun vs H Q _ => ∃ (r a : Addr) (n : Int) (f : Fn) (ys ns : List Int), vs = [.ref r, .ref a] ∧ TwAt P w K H r n f ys ∧ H a = some (.tup (ns.map V.int)) ∧ 1 ≤ ns.length ∧ ns.length ≤ 200 ∧
  ∀ H', Same H H' → Q (.bl (saidB f ys ns (ns.length - 1))) H'
theorem scToldIn : FnScope ["row", "word"] ["row", "word"] (defScope sToldIn) := ⟨rfl, rfl, rfl, by decide +kernel, rfl, by decide +kernel, by decide +kernel⟩
theorem ok_toldIn (F : FnP K "told_in" sToldIn f fd) (T : Tx K mg) (GD : FnP K "due_in" sDueIn g gd) (mD : mg "due_in" = some (.ref g)) (GS : FnP K "said_in" sSaidIn g2 gd2) (mS : mg "said_in" = some (.ref g2)) (OS : FnOk P w K mg base CX0 6 g2 gd2 ["row", "word", "tick"] (spSaidIn P w K)) :
    FnOk P w K mg base CX0 7 f fd ["row", "word"] (spToldIn P w K) := by
  refine okD F scToldIn (fun vs H Q E h => ?_) (fun cdv A outer s H vs Q E hr h => ?_)
  · obtain ⟨r, a, n, f, ys, ns, rfl, _⟩ := h
    rfl
  · obtain ⟨r, a, n, f, ys, ns, rfl, D, ha, hn1, hn2, k⟩ := h
    refine ⟨_, pss_one (ps_ret (pe_call OS hr rfl mS GS.kp (b_saidIn GS) .nil pass0 (pa_cons (pv 0) (pa_cons (pv 1) (pa_cons
      (pe_call (ok_due GD T) (hr.mono (by decide)) rfl mD GD.kp (b_due GD) .nil pass0 (pa_cons (pv 0) (pa_cons (pe_callB call_len (by rfl) T.len boot_len (pa_cons (pv 1) pa_nil)) pa_nil))) pa_nil))))), ?_⟩
    refine ⟨_, rfl, _, rfl, _, rfl, _, rfl, .ref a, ns.length, rfl, .inr ⟨_, SqT.of ha, (List.length_map _).symm⟩, r, _, n, f, ys, rfl, D, ?_⟩
    exact ⟨r, a, ns.length - 1, n, f, ys, ns, congrArg (fun x : Int => [V.ref r, V.ref a, V.int x]) (show ((ns.length : Nat) : Int) - 1 = ((ns.length - 1 : Nat) : Int) by omega), D, ha, hn1, hn2, by omega, k⟩
theorem b_toldIn (F : FnP K "told_in" sToldIn f fd) : Binds K fd ["row", "word"] [] := F.bindsN fun _ _ _ _ _ _ us hl => match us, hl with | [_, _], _ => rfl
/-! ### need_both -/
def spNeedBoth (P : Program) (w : World) (K : PySem.W.Frag) : Sp := fun vs H Q _ => ∃ (r a : Addr) (n : Int) (f : Fn) (ys ns : List Int), vs = [.ref r, .ref a] ∧ TwAt P w K H r n f ys ∧ WordAt H a n ns ∧
  ∀ p H', Same H H' → H p = none → H' p = some (.tup (ns.map V.int)) → Q (.ref p) H'
theorem scNeedBoth : FnScope ["row", "word"] ["row", "word"] (defScope sNeedBoth) := ⟨rfl, rfl, rfl, by decide +kernel, rfl, by decide +kernel, by decide +kernel⟩
theorem ok_needBoth (F : FnP K "need_both" sNeedBoth f fd) (T : Tx K mg) (G : FnDs K "need_row" sNeedRow [.str "row"] g gd) (mG : mg "need_row" = some (.ref g)) (OG : FnOk P w K mg base CX0 1 g gd ["value", "part"] (spNeedRow K))
    (G2 : FnP K "need_word" sNeedWord g2 gd2) (m2 : mg "need_word" = some (.ref g2)) (O2 : FnOk P w K mg base CX0 5 g2 gd2 ["value", "letters", "part"] spNeedWord) : FnOk P w K mg base CX0 6 f fd ["row", "word"] (spNeedBoth P w K) := by
  obtain ⟨ds, vd, bd⟩ := b_needRow G
  refine okD F scNeedBoth (fun vs H Q E h => ?_) (fun cdv A outer s H vs Q E hr h => ?_)
  · obtain ⟨r, a, n, f, ys, ns, rfl, _⟩ := h
    rfl
  · obtain ⟨r, a, n, f, ys, ns, rfl, D, W, k⟩ := h
    obtain ⟨dx, tt, h1, _⟩ := D.ex
    refine ⟨_, pss_cons (ps_expr (pe_call OG (hr.mono (by decide)) rfl mG G.kp bd vd pass0 (pa_cons (pv 0) pa_nil)))
      (pss_one (ps_ret (pe_call O2 hr rfl m2 G2.kp (b_needWord G2) .nil pass0 (pa_cons (pv 1) (pa_cons (pe_fld (pv 0) rfl) (pa_cons pe_str pa_nil)))))), ?_⟩
    refine ⟨_, rfl, r, _, dx, _, .str "row", rfl, h1, .inl rfl, ?_⟩
    exact ⟨_, rfl, _, rfl, r, _, dx, _, _, rfl, h1, T.clW, T.wLet, fldW_letters _ _, a, n, ns, _, rfl, W, k⟩
theorem b_needBoth (F : FnP K "need_both" sNeedBoth f fd) : Binds K fd ["row", "word"] [] := F.bindsN fun _ _ _ _ _ _ us hl => match us, hl with | [_, _], _ => rfl
abbrev OkNB (P : Program) (w : World) (K : PySem.W.Frag) (mg : Str → Option Value) (base : Heap) (g : Addr) (gd : FuncData) : Prop := FnOk P w K mg base CX0 6 g gd ["row", "word"] (spNeedBoth P w K)
/-! ### told -/
def spTold (P : Program) (w : World) (K : PySem.W.Frag) : Sp := fun vs H Q _ => ∃ (r a : Addr) (n : Int) (f : Fn) (ys ns : List Int), vs = [.ref r, .ref a] ∧ TwAt P w K H r n f ys ∧ WordAt H a n ns ∧ ∀ H', Same H H' → Q (.bl (saidB f ys ns (ns.length - 1))) H'
theorem scTold : FnScope ["row", "word"] ["row", "word"] (defScope sTold) := ⟨rfl, rfl, rfl, by decide +kernel, rfl, by decide +kernel, by decide +kernel⟩
theorem ok_told (F : FnP K "told" sTold f fd) (G : FnP K "need_both" sNeedBoth g gd) (mG : mg "need_both" = some (.ref g)) (OG : OkNB P w K mg base g gd) (G2 : FnP K "told_in" sToldIn g2 gd2) (m2 : mg "told_in" = some (.ref g2))
    (O2 : FnOk P w K mg base CX0 7 g2 gd2 ["row", "word"] (spToldIn P w K)) : FnOk P w K mg base CX0 8 f fd ["row", "word"] (spTold P w K) := by
  refine okD F scTold (fun vs H Q E h => ?_) (fun cdv A outer s H vs Q E hr h => ?_)
  · obtain ⟨r, a, n, f, ys, ns, rfl, _⟩ := h
    rfl
  · obtain ⟨r, a, n, f, ys, ns, rfl, D, W, k⟩ := h
    refine ⟨_, pss_one (ps_ret (pe_call O2 hr rfl m2 G2.kp (b_toldIn G2) .nil pass0 (pa_cons (pv 0) (pa_cons (pe_call OG (hr.mono (by decide)) rfl mG G.kp (b_needBoth G) .nil pass0 (pa_cons (pv 0) (pa_cons (pv 1) pa_nil))) pa_nil)))), ?_⟩
    refine ⟨_, rfl, _, rfl, _, rfl, r, a, n, f, ys, ns, rfl, D, W, fun p H2 s2 np hp => ?_⟩
    exact ⟨r, p, n, f, ys, ns, rfl, D.same s2, hp, W.pos, W.few, fun H3 s3 => k H3 (s2.trans s3)⟩
theorem b_told (F : FnP K "told" sTold f fd) : Binds K fd ["row", "word"] [] := F.bindsN fun _ _ _ _ _ _ us hl => match us, hl with | [_, _], _ => rfl
/-! ### said -/
def spSaid (P : Program) (w : World) (K : PySem.W.Frag) : Sp := fun vs H Q _ => ∃ (r a : Addr) (t : Nat) (n : Int) (f : Fn) (ys ns : List Int), vs = [.ref r, .ref a, .int t] ∧ TwAt P w K H r n f ys ∧ WordAt H a n ns ∧ t ≤ 1000 ∧ ∀ H', Same H H' → Q (.bl (saidB f ys ns t)) H'
abbrev nSaid : List Str := ["row", "word", "tick", "letters"]
theorem scSaid : FnScope nSaid ["row", "word", "tick"] (defScope sSaid) := ⟨rfl, rfl, rfl, by decide +kernel, rfl, by decide +kernel, by decide +kernel⟩
theorem ok_said (F : FnP K "said" sSaid f fd) (T : Tx K mg) (G : FnP K "need_both" sNeedBoth g gd) (mG : mg "need_both" = some (.ref g)) (OG : OkNB P w K mg base g gd) (G2 : FnP K "said_in" sSaidIn g2 gd2) (m2 : mg "said_in" = some (.ref g2))
    (O2 : FnOk P w K mg base CX0 6 g2 gd2 ["row", "word", "tick"] (spSaidIn P w K)) (G3 : FnP K "need_number" sNeedNumber g3 gd3) (m3 : mg "need_number" = some (.ref g3)) (O3 : FnOk P w K mg base CX0 3 g3 gd3 ["value", "part", "least", "most"] spNeedNum) :
    FnOk P w K mg base CX0 8 f fd ["row", "word", "tick"] (spSaid P w K) := by
  refine okD F scSaid (fun vs H Q E h => ?_) (fun cdv A outer s H vs Q E hr h => ?_)
  · obtain ⟨r, a, t, n, f, ys, ns, rfl, _⟩ := h
    rfl
  · obtain ⟨r, a, t, n, f, ys, ns, rfl, D, W, ht, k⟩ := h
    refine ⟨_, pss_cons (ps_set (i := 3) scSaid.nd rfl (Or.inl rfl) (pe_call OG (hr.mono (by decide)) rfl mG G.kp (b_needBoth G) .nil pass0 (pa_cons (pv 0) (pa_cons (pv 1) pa_nil))))
      (pss_cons (ps_expr (pe_call O3 (hr.mono (by decide)) rfl m3 G3.kp (b_needNum G3) .nil pass0 (pa_cons (pv 2) (pa_cons pe_str (pa_cons pe_int (pa_cons (pe_gi rfl T.mTicks) pa_nil))))))
      (pss_one (ps_ret (pe_call O2 (hr.mono (by decide)) rfl m2 G2.kp (b_saidIn G2) .nil pass0 (pa_cons (pv 0) (pa_cons (pv 3) (pa_cons (pv 2) pa_nil))))))), ?_⟩
    refine ⟨_, rfl, _, rfl, r, a, n, f, ys, ns, rfl, D, W, fun p H2 s2 np hp => ?_⟩
    refine ⟨_, rfl, t, 0, 1000, _, rfl, by omega, by omega, ?_⟩
    exact ⟨_, rfl, _, rfl, _, rfl, r, p, t, n, f, ys, ns, rfl, D.same s2, hp, W.pos, W.few, ht, fun H3 s3 => k H3 (s2.trans s3)⟩
theorem b_said (F : FnP K "said" sSaid f fd) : Binds K fd ["row", "word", "tick"] [] := F.bindsN fun _ _ _ _ _ _ us hl => match us, hl with | [_, _, _], _ => rfl
/-! ### worth_at -/
def spWorthAt (P : Program) (w : World) (K : PySem.W.Frag) : Sp := fun vs H Q _ => ∃ (r a : Addr) (t : Nat) (n : Int) (f : Fn) (ys ns : List Int), vs = [.ref r, .ref a, .int 0, .int t] ∧ TwAt P w K H r n f ys ∧ WordAt H a n ns ∧ t ≤ 1000 ∧
  ∀ o H' v, Same H H' → H' o = some (.tup (encW K v)) → Good f (fun i => ns.getD i 0) ns.length t 0 v → Q (.ref o) H'
abbrev nWorthAt : List Str := ["row", "word", "cell", "tick", "letters"]
theorem scWorthAt : FnScope nWorthAt ["row", "word", "cell", "tick"] (defScope sWorthAt) := ⟨rfl, rfl, rfl, by decide +kernel, rfl, by decide +kernel, by decide +kernel⟩
theorem ok_worthAt (F : FnP K "worth_at" sWorthAt f fd) (T : Tx K mg) (G : FnP K "need_both" sNeedBoth g gd) (mG : mg "need_both" = some (.ref g)) (OG : OkNB P w K mg base g gd) (G2 : FnP K "worth_in" sWorthIn g2 gd2) (m2 : mg "worth_in" = some (.ref g2))
    (O2 : FnOk P w K mg base CX0 5 g2 gd2 ["row", "word", "cell", "tick"] (spWorthIn P w K)) (G3 : FnP K "need_number" sNeedNumber g3 gd3) (m3 : mg "need_number" = some (.ref g3)) (O3 : FnOk P w K mg base CX0 3 g3 gd3 ["value", "part", "least", "most"] spNeedNum) :
    FnOk P w K mg base CX0 8 f fd ["row", "word", "cell", "tick"] (spWorthAt P w K) := by
  refine okD F scWorthAt (fun vs H Q E h => ?_) (fun cdv A outer s H vs Q E hr h => ?_)
  · obtain ⟨r, a, t, n, f, ys, ns, rfl, _⟩ := h
    rfl
  · obtain ⟨r, a, t, n, f, ys, ns, rfl, D, W, ht, k⟩ := h
    refine ⟨_, pss_cons (ps_set (i := 4) scWorthAt.nd rfl (Or.inl rfl) (pe_call OG (hr.mono (by decide)) rfl mG G.kp (b_needBoth G) .nil pass0 (pa_cons (pv 0) (pa_cons (pv 1) pa_nil))))
      (pss_cons (ps_expr (pe_call O3 (hr.mono (by decide)) rfl m3 G3.kp (b_needNum G3) .nil pass0 (pa_cons (pv 2) (pa_cons pe_str (pa_cons pe_int (pa_cons (pe_op op_sub (pe_callB call_len (by rfl) T.len boot_len (pa_cons (pv 4) pa_nil)) pe_int) pa_nil))))))
      (pss_cons (ps_expr (pe_call O3 (hr.mono (by decide)) rfl m3 G3.kp (b_needNum G3) .nil pass0 (pa_cons (pv 3) (pa_cons pe_str (pa_cons pe_int (pa_cons (pe_gi rfl T.mTicks) pa_nil))))))
      (pss_one (ps_ret (pe_call O2 (hr.mono (by decide)) rfl m2 G2.kp (b_worthIn G2) .nil pass0 (pa_cons (pv 0) (pa_cons (pv 4) (pa_cons (pv 2) (pa_cons (pv 3) pa_nil))))))))), ?_⟩
    refine ⟨_, rfl, _, rfl, r, a, n, f, ys, ns, rfl, D, W, fun p H2 s2 np hp => ?_⟩
    have hp1 := W.pos
    refine ⟨_, rfl, _, rfl, .ref p, ns.length, rfl, .inr ⟨_, SqT.of hp, (List.length_map _).symm⟩, _, _, rfl, rfl, 0, 0, _, _, rfl, by omega, by omega, ?_⟩
    refine ⟨_, rfl, t, 0, 1000, _, rfl, by omega, by omega, ?_⟩
    exact ⟨_, rfl, _, rfl, _, rfl, _, rfl, r, p, t, n, f, ys, ns, rfl, D.same s2, hp, W.pos, W.few, ht, fun o H3 v s3 => k o H3 v (s2.trans s3)⟩
theorem b_worthAt (F : FnP K "worth_at" sWorthAt f fd) : Binds K fd ["row", "word", "cell", "tick"] [] := F.bindsN fun _ _ _ _ _ _ us hl => match us, hl with | [_, _, _, _], _ => rfl
end
end BW
namespace BW
open PySem PySem.Spec PyProof.Rows L2
/-! ### entries with keys that differ -/
theorem lookE_no {es : List Ent} {k : NK} (h : ∀ e ∈ es, e.1 ≠ k) : lookE es k = none := by
  unfold lookE
  rw [List.find?_eq_none.mpr fun e he => by simpa using h e he]
  rfl
theorem lookE_in : ∀ {es : List Ent} {e : Ent}, (es.map (·.1)).Nodup → e ∈ es → lookE es e.1 = some e.2.2
  | [], _, _, h => nomatch h
  | x :: es, e, hn, h => by
    rw [List.map_cons, List.nodup_cons] at hn
    rcases List.mem_cons.mp h with rfl | h
    · simp [lookE]
    · have hx : ¬ x.1 = e.1 := fun z => hn.1 (by rw [z]; exact List.mem_map.mpr ⟨e, h, rfl⟩)
      have e1 : lookE (x :: es) e.1 = lookE es e.1 := by simp [lookE, hx]
      rw [e1]
      exact lookE_in hn.2 h
theorem lookE_perm {es es' : List Ent} (p : es'.Perm es) (hn : (es.map (·.1)).Nodup) (k : NK) : lookE es' k = lookE es k := by
  have hn' : (es'.map (·.1)).Nodup := (p.map _).nodup_iff.mpr hn
  by_cases h : ∃ e ∈ es, e.1 = k
  · obtain ⟨e, he, rfl⟩ := h
    rw [lookE_in hn he, lookE_in hn' (p.mem_iff.mpr he)]
  · have h1 : ∀ e ∈ es, e.1 ≠ k := fun e he z => h ⟨e, he, z⟩
    rw [lookE_no h1, lookE_no fun e he => h1 e (p.mem_iff.mp he)]
theorem putAll_new : ∀ (more es : List Ent), ((es ++ more).map (·.1)).Nodup → putAllE es more = es ++ more
  | [], es, _ => (List.append_nil es).symm
  | e :: more, es, h => by
    have h2 : ((es ++ [e]) ++ more).map (·.1) = (es ++ e :: more).map (·.1) := by rw [List.append_assoc]; rfl
    have h3 : lookE es e.1 = none := lookE_no fun x hx z => by
      rw [List.map_append, List.map_cons, List.nodup_append] at h
      exact h.2.2 x.1 (List.mem_map.mpr ⟨x, hx, rfl⟩) e.1 List.mem_cons_self z
    show putAllE (putE es e.1 e.2.1 e.2.2) more = _
    rw [putE_new h3, show ((e.1, e.2.1, e.2.2) : Ent) = e from rfl, putAll_new more (es ++ [e]) (by rw [h2]; exact h), List.append_assoc]
    rfl
theorem putAll_nodup {es : List Ent} (h : (es.map (·.1)).Nodup) : putAllE [] es = es := putAll_new es [] h
theorem perm_map_inv {α β : Type} {f : α → β} {bs cs : List β} (p : bs.Perm cs) : ∀ es : List α, cs = es.map f → ∃ es' : List α, es'.Perm es ∧ es'.map f = bs := by
  induction p with
  | nil => exact fun es h => ⟨es, .refl _, h.symm⟩
  | cons x _ ih =>
    intro es h
    cases es with
    | nil => cases h
    | cons e es =>
      injection h with h1 h2
      obtain ⟨l, q1, q2⟩ := ih es h2
      exact ⟨e :: l, q1.cons e, by rw [List.map_cons, q2, h1]⟩
  | swap x y l =>
    intro es h
    match es, h with
    | [], h => cases h
    | [_], h => cases h
    | e1 :: e2 :: es, h =>
      injection h with h1 h2
      injection h2 with h3 h4
      exact ⟨e2 :: e1 :: es, .swap _ _ _, by rw [List.map_cons, List.map_cons, h1, h3, h4]⟩
  | trans _ _ ih1 ih2 =>
    intro es h
    obtain ⟨l, q1, q2⟩ := ih2 es h
    obtain ⟨m, q3, q4⟩ := ih1 l q2.symm
    exact ⟨m, q3.trans q1, q4⟩
/-! ### {k: v for target in list} as an expression -/
section
variable {X : Cx} {kx vx tg iter : Expr} {scope : Scope} {own : List (Str × Nat)} {pos spos py : Pos} {wi : TI} {g : TG} {tk tv : TE}
theorem pe_ndComp (hc : X.calm = true) (hu : X.A.units < cLine) (hN : X.N.Nodup) (hi : PI X tg iter wi) (ok : BlkOk X.N X.env.scope scope own) (hg : InBlk X scope fun Y => PG Y tg g) (hk : InBlk X scope fun Y => PE Y kx tk) (hv : InBlk X scope fun Y => PE Y vx tv)
    (hs : ∀ x, foldedSetIterable iter X.env x = pure x := by intro _; rfl) : PE X (.DictComp kx vx [⟨tg, iter, [], 0⟩] scope pos) (tNdComp X.prog X.w wi g tk tv (own.map (·.2))) := by
  refine ⟨fun pins s σ H Q I h => ?_⟩
  rw [arm_eval_DictComp]
  refine nd_comp (use := none) hc hu hN I hi ok hg hk hv hs h fun D C s' m H' J q hn f => ⟨m, hn, fun h2 sb => ?_⟩
  obtain ⟨f0, f1, f2, f3, f4, f5⟩ := f
  exact ⟨.ref D, H', J.turned (t' := s'.toks) (fun b o hb e => (sb.2 b hb).trans e) f0 f1 f3 f4 f5, rfl, q⟩
end
theorem ndc_list {P : Program} {w : World} {K : PySem.W.Frag} {a : Addr} {xs : List V} {g : TG} {tk tv : TE} {vs : List Nat} {σ : L2.St} {H1 : Hp} {D : Addr} {Qd : Hp → Prop} (Pv : Nat → Hp → Prop) (h0 : Pv 0 (upd H1 D (nd P w D [])))
    (hl : ∀ i H, i ≤ xs.length → Pv i H → SqL K H a xs) (hs : ∀ i x H, xs[i]? = some x → Pv i H → tNdTurn P w g tk tv vs σ D x H (Pv (i + 1))) (hd : ∀ H, Pv xs.length H → Qd H) :
    ∃ W : Nat → Nat → Hp → Prop, (∃ m, W 0 m (upd H1 D (nd P w D []))) ∧ ∀ i m H, W i m H →
      ((Itl K a).stop i H ∧ Qd H) ∨ ((Itl K a).go i H ∧ ∃ Nx : Hp → Prop, (∀ H', Nx H' → ∃ m', m' < m ∧ W (i + 1) m' H') ∧ ∀ x H', (Itl K a).yld i H x H' → tNdTurn P w g tk tv vs σ D x H' Nx) := by
  refine ⟨fun i m H => m = xs.length - i ∧ i ≤ xs.length ∧ Pv i H, ⟨xs.length, rfl, Nat.zero_le _, h0⟩, ?_⟩
  rintro i m H ⟨rfl, hi, p⟩
  have q := hl i H hi p
  rcases Nat.lt_or_ge i xs.length with hlt | hge
  · refine .inr ⟨⟨xs, xs[i], q, List.getElem?_eq_getElem hlt⟩, Pv (i + 1), fun H' p' => ⟨_, Nat.sub_lt_sub_left hlt (Nat.lt_succ_self i), rfl, hlt, p'⟩, fun x H' y => ?_⟩
    obtain ⟨rfl, y⟩ := y
    exact hs i x _ (y xs q) p
  · obtain rfl : i = xs.length := Nat.le_antisymm hi hge
    exact .inl ⟨⟨xs, q, Nat.le_refl _⟩, hd H p⟩
end BW
namespace BW
open PySem PySem.Spec PyProof.Rows L2
section
variable {P : Program} {w : World} {K : PySem.W.Frag} {mg : Str → Option Value} {base : Heap} {f g g2 g3 g4 : Addr} {fd gd gd2 gd3 gd4 : FuncData}
/-! ### worths_from -/
def spWorthsFrom : Sp := fun vs H Q _ => ∃ (a : Addr) (m : Int) (ys : List Int), vs = [.ref a, .int m] ∧ H a = some (.lst (ys.map V.int)) ∧ (∀ y ∈ ys, 0 ≤ y ∧ y < m) ∧ ys.Nodup ∧ ys.length ≤ 60 ∧
  ∀ p H' ys', Same H H' → H p = none → H' p = some (.tup (ys'.map V.int)) → List.Perm ys' ys → Q (.ref p) H'
abbrev nWorthsFrom : List Str := ["value", "worths", "each"]
theorem scWorthsFrom : FnScope nWorthsFrom ["value", "worths"] (defScope sWorthsFrom) := ⟨rfl, rfl, rfl, by decide +kernel, rfl, by decide +kernel, by decide +kernel⟩
theorem ok_worthsFrom (F : FnP K "worths_from" sWorthsFrom f fd) (T : Tx K mg) (G : FnP K "is_within" sIsWithin g gd) (mG : mg "is_within" = some (.ref g)) (OG : FnOk P w K mg base CX0 2 g gd ["value", "least", "most"] spWithin) :
    FnOk P w K mg base CX0 3 f fd ["value", "worths"] spWorthsFrom := by
  refine okD F scWorthsFrom (fun vs H Q E h => ?_) (fun cdv A outer s H vs Q E hr h => ?_)
  · obtain ⟨a, m, ys, rfl, _⟩ := h
    rfl
  · obtain ⟨a, m, ys, rfl, ha, hin, hnd, hz, k⟩ := h
    refine ⟨_, pss_cons (ps_if (PW.pt (pw_or (pt_not (pt_val (pe_callB call_isiT (by rfl) T.isi (by decide +kernel) (pa_cons (pv 0) (pa_cons (pe_tup (pa_cons (pe_bltn (v := .ty "list") (by rfl) T.list (by decide +kernel) rfl) (pa_cons (pe_bltn (v := .ty "tuple") (by rfl) T.tuple (by decide +kernel) rfl) pa_nil))) pa_nil)))))
        (pw_or1 (pt_not (pt_val (pe_callB (cr_all rfl) (by rfl) T.all (by decide +kernel) (pa_cons (pe_lc (own := [("each", 2)]) (g := gName 2) (tt := tYes) rfl scWorthsFrom.nd (pi_list (pv 0)) (blkOk_by (N := nWorthsFrom) (sc := defScope sWorthsFrom) (by decide +kernel))
          (fun _ _ _ _ _ => pg_name (i := 2) scWorthsFrom.nd rfl (Or.inl rfl)) (fun _ _ _ _ _ => pts_nil) (fun _ _ _ _ _ => pe_call OG hr rfl mG G.kp (b_within G) .nil pass0 (pa_cons (pv 2) (pa_cons pe_int (pa_cons (pe_op op_sub (pv 1) pe_int) pa_nil))))) pa_nil))))))) pss_never pss_nil)
      (pss_cons (ps_if (pt_cmp (pc_lt (RZ.pe_lenSetI (by rfl) T.len (by rfl) T.set (pv 0)) (pe_callB call_len (by rfl) T.len boot_len (pa_cons (pv 0) pa_nil))) rfl) pss_never pss_nil)
      (pss_one (ps_ret (pe_callTy call_tuple_of (by rfl) T.tuple (by decide +kernel) (pa_cons (pe_callB cr_sorted (by rfl) T.sorted (by decide +kernel) (pa_cons (pv 0) pa_nil)) pa_nil))))), ?_⟩
    refine ⟨_, rfl, (by show 2 ≤ sizeLine; decide), fun tp ntp => ?_⟩
    have s1 : Same H (upd H tp (.tup [.ty "list", .ty "tuple"])) := Same.put ntp
    refine ⟨.ref a, tp, [.ty "list", .ty "tuple"], .type "list", [.type "list", .type "tuple"], true, rfl, upd_same, .cons (.ty _) (.cons (.ty _) .nil), .base (.lst (s1 _ _ ha)), kit_seq (.inl rfl), true, rfl, iteF ?_⟩
    refine ⟨_, rfl, a, rfl, ⟨_, SqL.of (s1 _ _ ha)⟩, fun E1 nE => ?_⟩
    refine lc_list (K := K) (a := a) (xs := ys.map V.int) (fun i H2 => Same (upd H tp (.tup [.ty "list", .ty "tuple"])) H2 ∧ H2 E1 = some (.lst (List.replicate i (V.bl true)))) ⟨Same.put nE, upd_same⟩ (fun i H2 _ q => SqL.of (q.1 _ _ (s1 _ _ ha))) ?_ ?_
    · rintro i x H2 hi ⟨s2, hE⟩
      obtain ⟨z, rfl, hz1⟩ := int_at hi
      have hz2 := hin z (List.mem_of_getElem? hz1)
      have hil : i < (ys.map V.int).length := (List.getElem?_eq_some_iff.mp hi).1
      rw [List.length_map] at hil
      refine ⟨rfl, _, rfl, _, rfl, _, _, rfl, rfl, z, 0, m - 1, rfl, ?_⟩
      rw [within_true hz2.1 (show z ≤ m - 1 by omega)]
      refine ⟨_, hE, by rw [List.length_replicate]; exact small1000 (by omega), fun b o e => ?_, by rw [upd_same, List.replicate_succ']⟩
      rw [upd_ne (fun z => by rw [z, nE] at e; cases e)]
      exact s2 b o e
    · rintro H2 ⟨s2, hE⟩
      rw [← map_true] at hE
      have s12 := s1.trans s2
      refine ⟨E1, _, rfl, SqL.of hE, ?_⟩
      rw [all_true]
      refine ⟨true, rfl, iteF ?_⟩
      refine ⟨_, rfl, a, ys, rfl, SqL.of (s12 _ _ ha), hnd, by omega, _, rfl, .ref a, _, rfl, .inl ⟨_, SqL.of (s12 _ _ ha), rfl⟩, _, _, rfl, rfl, _, rfl, ?_⟩
      refine iteFb (decide_eq_false (show ¬ ((ys.length : Nat) : Int) < (((ys.map V.int).length : Nat) : Int) by rw [List.length_map]; omega)) ?_
      refine ⟨_, rfl, a, ys, rfl, SqL.of (s12 _ _ ha), by omega, fun ns' q hp hs nq => ?_⟩
      refine ⟨q, _, rfl, .inl ⟨SqL.of upd_same, fun l nl => ?_⟩⟩
      have s3 := s12.trans (Same.put (o := .lst (ns'.map V.int)) nq)
      exact k l _ ns' (s3.trans (Same.put nl)) (s3.free nl) upd_same hp
theorem b_worthsFrom (F : FnP K "worths_from" sWorthsFrom f fd) : Binds K fd ["value", "worths"] [] := F.bindsN fun _ _ _ _ _ _ us hl => match us, hl with | [_, _], _ => rfl
end
end BW
namespace BW
open PySem PySem.Spec PyProof.Rows L2
theorem PairsOf.same {H H' : Hp} {ts : List Addr} {es : List Ent} (d : PairsOf H ts es) (s : Same H H') : PairsOf H' ts es := Paired.mapP d fun _ _ e => s _ _ e
theorem ref_at {as : List Addr} {i : Nat} {x : V} (h : (as.map V.ref)[i]? = some x) : ∃ a, x = .ref a ∧ as[i]? = some a := by
  rw [List.getElem?_map] at h
  cases e : as[i]? with
  | none => rw [e] at h; cases h
  | some a => rw [e] at h; exact ⟨a, (Option.some.inj h).symm, rfl⟩
theorem pe_ndAtP {X : Cx} {P : Program} {w : World} {o i : Expr} {pos : Pos} {td ty : TE} (eP : X.prog = P) (eW : X.w = w) (hu : X.A.units + 1 < cLine) (ho : PE X o td) (hi : PE X i ty) (hs : NoSl i) : PE X (.Subscript o i pos) (tNdAt P w td ty) := by
  subst eP eW
  exact pe_ndAt hu ho hi hs
def rTupOf (K : PySem.W.Frag) : List V → Hp → VK → Prop := fun xs H Q => ∃ p ys, xs = [.ref p] ∧ ((SqL K H p ys ∧ ∀ l, H l = none → Q (.ref l) (upd H l (.tup ys))) ∨ (SqT K H p ys ∧ Q (.ref p) H))
theorem call_tupP {X : Cx} {K : PySem.W.Frag} (eK : X.K = K) : CallR X (.type "tuple") (rTupOf K) := by
  subst eK
  exact call_tuple_of
theorem hu1 {A : Around} {k : Nat} (hr : Room k A) : A.units + 1 < cLine := by
  have := hr.un
  omega
/-- the rules that a Table may be made of -/
structure RulesOk (P : Program) (w : World) (H : Hp) (d : Addr) (es : List Ent) (m : Int) : Prop where
  at_ : ND P w H d es
  key : ∀ e ∈ es, InR m e.1
  val : ∀ e ∈ es, 0 ≤ e.2.2 ∧ e.2.2 < m
  dif : (es.map (·.1)).Nodup
  few : es.length ≤ 500
theorem RulesOk.same {P : Program} {w : World} {H H' : Hp} {d : Addr} {es : List Ent} {m : Int} (r : RulesOk P w H d es m) (s : Same H H') : RulesOk P w H' d es m := ⟨r.at_.same s, r.key, r.val, r.dif, r.few⟩
section
variable {P : Program} {w : World} {K : PySem.W.Frag} {mg : Str → Option Value} {base : Heap} {f g g2 g3 g4 : Addr} {fd gd gd2 gd3 gd4 : FuncData}
/-! ### rules_from -/
def spRulesFrom (P : Program) (w : World) : Sp := fun vs H Q _ => ∃ (d : Addr) (m : Int) (es : List Ent), vs = [.ref d, .int 1, .int m] ∧ RulesOk P w H d es m ∧
  ∀ p H' (ts : List Addr) (es' : List Ent), Same H H' → H p = none → H' p = some (ptup p (ts.map V.ref)) → PairsOf H' ts es' → List.Perm es' es → Q (.ref p) H'
abbrev nRulesFrom : List Str := ["value", "ways", "worths", "pairs", "found", "key", "own"]
theorem scRulesFrom : FnScope nRulesFrom ["value", "ways", "worths"] (defScope sRulesFrom) := ⟨rfl, rfl, rfl, by decide +kernel, rfl, by decide +kernel, by decide +kernel⟩
theorem ok_rulesFrom (F : FnP K "rules_from" sRulesFrom f fd) (T : Tx K mg) (G : FnP K "pairs_in" sPairsIn g gd) (mG : mg "pairs_in" = some (.ref g)) (G2 : FnP K "is_key" sIsKey g2 gd2) (m2 : mg "is_key" = some (.ref g2)) (O2 : FnOk P w K mg base CX0 3 g2 gd2 ["value", "ways", "worths"] spIsKey)
    (G3 : FnP K "is_within" sIsWithin g3 gd3) (m3 : mg "is_within" = some (.ref g3)) (O3 : FnOk P w K mg base CX0 2 g3 gd3 ["value", "least", "most"] spWithin) (G4 : FnP K "key_order" sKeyOrder g4 gd4) (m4 : mg "key_order" = some (.ref g4)) :
    FnOk P w K mg base CX0 4 f fd ["value", "ways", "worths"] (spRulesFrom P w) := by
  refine okD F scRulesFrom (fun vs H Q E h => ?_) (fun cdv A outer s H vs Q E hr h => ?_)
  · obtain ⟨d, m, es, rfl, _⟩ := h
    rfl
  · obtain ⟨d, m, es, rfl, R, k⟩ := h
    refine ⟨_, pss_cons (ps_set (i := 3) scRulesFrom.nd rfl (Or.inl rfl) (pe_call (ok_pairs G T) (hr.mono (by decide)) rfl mG G.kp (b_pairs G) .nil pass0 (pa_cons (pv 0) pa_nil)))
      (pss_cons (ps_if (PW.pt (pw_or (pt_cmp (pc_isN (pv 3)) rfl) (pw_or1 (pt_not (pt_val (pe_callB (cr_all rfl) (by rfl) T.all (by decide +kernel) (pa_cons
          (pe_lc (own := [("key", 5), ("own", 6)]) (g := gTup K 2 (gCons (gName 5) (gCons (gName 6) gNil))) (tt := tYes) rfl scRulesFrom.nd (pi_list (pv 3)) (blkOk_by (N := nRulesFrom) (sc := defScope sRulesFrom) (by decide +kernel))
            (fun _ _ _ _ _ => pg_tup rfl (pgs_cons (pg_name (i := 5) scRulesFrom.nd rfl (Or.inl rfl)) (pgs_cons (pg_name (i := 6) scRulesFrom.nd rfl (Or.inl rfl)) pgs_nil))) (fun _ _ _ _ _ => pts_nil)
            (fun _ _ _ _ _ => pe_and (pe_call O2 hr rfl m2 G2.kp (b_isKey G2) .nil pass0 (pa_cons (pv 5) (pa_cons (pv 1) (pa_cons (pv 2) pa_nil))))
              (pe_one (pe_call O3 (hr.mono (by decide)) rfl m3 G3.kp (b_within G3) .nil pass0 (pa_cons (pv 6) (pa_cons pe_int (pa_cons (pe_op op_sub (pv 2) pe_int) pa_nil))))))) pa_nil))))))) pss_never pss_nil)
      (pss_cons (ps_set (i := 4) scRulesFrom.nd rfl (Or.inr rfl) (pe_ndComp (own := [("key", 5), ("own", 6)]) (g := gTup K 2 (gCons (gName 5) (gCons (gName 6) gNil))) rfl (hr.units0) scRulesFrom.nd (pi_list (pv 3)) (blkOk_by (N := nRulesFrom) (sc := defScope sRulesFrom) (by decide +kernel))
            (fun _ _ _ _ _ => pg_tup rfl (pgs_cons (pg_name (i := 5) scRulesFrom.nd rfl (Or.inl rfl)) (pgs_cons (pg_name (i := 6) scRulesFrom.nd rfl (Or.inl rfl)) pgs_nil)))
            (fun _ _ _ _ _ => pe_callTy (call_tupP rfl) (by rfl) T.tuple (by decide +kernel) (pa_cons (pv 5) pa_nil)) (fun _ _ _ _ _ => pv 6)))
      (pss_cons (ps_if (pt_cmp (pc_lt (pe_callB call_ndLen (by rfl) T.len boot_len (pa_cons (pv 4) pa_nil)) (pe_callB call_len (by rfl) T.len boot_len (pa_cons (pv 3) pa_nil))) rfl) pss_never pss_nil)
      (pss_one (ps_ret (pe_callTy call_ptup (by rfl) T.tuple (by decide +kernel) (pa_cons (pe_lc (own := [("key", 5)]) (g := gName 5) (tt := tYes) rfl scRulesFrom.nd
          (pi_list (pe_callBK (call_ndSorted rfl (ok_ord G4) hr (b_ord G4)) (by rfl) T.sorted (by decide +kernel) (pa_cons (pv 4) pa_nil) (pk_cons (pe_glob (v := .ref g4) (by rfl) m4 rfl) pk_nil))) (blkOk_by (N := nRulesFrom) (sc := defScope sRulesFrom) (by decide +kernel))
          (fun _ _ _ _ _ => pg_name (i := 5) scRulesFrom.nd rfl (Or.inl rfl)) (fun _ _ _ _ _ => pts_nil)
          (fun _ _ _ _ _ => pe_tup (pa_cons (pv 5) (pa_cons (pe_ndAtP rfl rfl (hu1 hr) (pv 4) (pv 5) (fun _ _ => rfl)) pa_nil)))) pa_nil))))))), ?_⟩
    have R0 := R
    obtain ⟨D0, hkey, hval, hdif, hfew⟩ := R0
    -- pairs
    refine ⟨_, rfl, d, es, rfl, D0, fun H1 p ts s1 np hp hts => ?_⟩
    have hlt := Paired.length hts
    have pair : ∀ (i : Nat) (x : V), (ts.map V.ref)[i]? = some x → ∃ t e, x = .ref t ∧ es[i]? = some e ∧ e ∈ es ∧ H1 t = some (.tup [.ref e.2.1, .int e.2.2]) := fun i x hi => by
      obtain ⟨t, rfl, ht⟩ := ref_at hi
      have hil := (List.getElem?_eq_some_iff.mp ht).1
      have he : es[i]? = some es[i] := List.getElem?_eq_getElem (by omega)
      exact ⟨t, _, rfl, he, List.getElem_mem _, paired_at hts ht he⟩
    -- all keys and worths are fit
    refine ⟨_, rfl, false, rfl, iteF ⟨_, rfl, p, rfl, ⟨_, SqL.of hp⟩, fun E1 nE => ?_⟩⟩
    refine lc_list (K := K) (a := p) (xs := ts.map V.ref) (fun i H2 => Same H1 H2 ∧ H2 E1 = some (.lst (List.replicate i (V.bl true)))) ⟨Same.put nE, upd_same⟩ (fun i H2 _ q => SqL.of (q.1 _ _ hp)) ?_ ?_
    · rintro i x H2 hi ⟨s2, hE⟩
      obtain ⟨t, e, rfl, he, hm, ht⟩ := pair i x hi
      have hil : i < (ts.map V.ref).length := (List.getElem?_eq_some_iff.mp hi).1
      rw [List.length_map] at hil
      refine ⟨t, _, rfl, SqT.of (s2 _ _ ht), rfl, _, _, rfl, _, _, rfl, rfl, rfl, _, rfl, _, rfl, _, rfl, e.2.1, m, e.1, rfl, s2 _ _ (s1 _ _ (D0.keys e hm)), hkey e hm, fun H3 s3 => ⟨true, rfl, iteT ?_⟩⟩
      refine ⟨_, rfl, _, rfl, _, _, rfl, rfl, e.2.2, 0, m - 1, rfl, ?_⟩
      rw [within_true (hval e hm).1 (show e.2.2 ≤ m - 1 by have := (hval e hm).2; omega)]
      refine ⟨_, s3 _ _ hE, by rw [List.length_replicate]; exact small1000 (by omega), fun b o q => ?_, by rw [upd_same, List.replicate_succ']⟩
      rw [upd_ne (fun z => by rw [z, nE] at q; cases q)]
      exact s3 _ _ (s2 b o q)
    · rintro H2 ⟨s2, hE⟩
      rw [← map_true] at hE
      refine ⟨E1, _, rfl, SqL.of hE, ?_⟩
      rw [all_true]
      refine ⟨true, rfl, iteF ?_⟩
      -- found
      refine ⟨_, rfl, p, rfl, ⟨_, SqL.of (s2 _ _ hp)⟩, fun D nD => ?_⟩
      have s12 := s1.trans s2
      refine ndc_list (K := K) (a := p) (xs := ts.map V.ref) (fun i H3 => Same H2 H3 ∧ ND P w H3 D (es.take i)) ⟨Same.put nD, ⟨upd_same, fun e he => nomatch he⟩⟩ (fun i H3 _ q => SqL.of (q.1 _ _ (s2 _ _ hp))) ?_ ?_
      · rintro i x H3 hi ⟨s3, D3⟩
        obtain ⟨t, e, rfl, he, hm, ht⟩ := pair i x hi
        have hil : i < (ts.map V.ref).length := (List.getElem?_eq_some_iff.mp hi).1
        rw [List.length_map] at hil
        have hb := s3 _ _ (s12 _ _ (D0.keys e hm))
        refine ⟨t, _, rfl, SqT.of (s3 _ _ (s2 _ _ ht)), rfl, _, _, rfl, _, _, rfl, rfl, rfl, _, rfl, e.2.1, _, rfl, .inr ⟨SqT.of hb, _, rfl, es.take i, e.1, e.2.1, e.2.2, rfl, rfl, D3, hb, by rw [List.length_take]; exact small1000 (by omega), fun b o q => ?_, ?_⟩⟩
        · rw [upd_ne (fun z => by rw [z, nD] at q; cases q)]
          exact s3 b o q
        · have et : es.take (i + 1) = es.take i ++ [e] := by rw [List.take_add_one, he]; rfl
          have hn : lookE (es.take i) e.1 = none := lookE_no fun x hx z => by
            have h2 : ((es.take (i + 1)).map (·.1)).Nodup := List.Nodup.sublist ((List.take_sublist _ _).map _) hdif
            rw [et, List.map_append, List.nodup_append] at h2
            exact h2.2.2 x.1 (List.mem_map.mpr ⟨x, hx, rfl⟩) e.1 List.mem_cons_self z
          have z := ND.put D3 hb e.2.2
          rw [putE_new hn] at z
          rw [putE_new hn, et]
          exact z
      · rintro H3 ⟨s3, D3⟩
        rw [List.take_of_length_le (by rw [List.length_map]; omega)] at D3
        have s13 := s12.trans s3
        refine ⟨_, rfl, D, _, rfl, D3, _, rfl, .ref p, _, rfl, .inl ⟨_, SqL.of (s3 _ _ (s2 _ _ hp)), rfl⟩, _, _, rfl, rfl, _, rfl, ?_⟩
        refine iteFb (decide_eq_false (show ¬ ((es.length : Nat) : Int) < (((ts.map V.ref).length : Nat) : Int) by rw [List.length_map]; omega)) ?_
        -- what is answered
        refine ⟨_, rfl, D, es, rfl, rfl, D3, fun bs H4 q s4 nq hq hperm => ?_⟩
        obtain ⟨es', hp', hb'⟩ := perm_map_inv hperm es rfl
        have s14 := s13.trans s4
        have hle : es'.length = es.length := hp'.length_eq
        have hlb : bs.length = es'.length := by rw [← hb', List.length_map]
        refine ⟨q, rfl, ⟨_, SqL.of hq⟩, fun E2 nE2 => ?_⟩
        refine lc_list (K := K) (a := q) (xs := bs.map V.ref) (fun i H5 => ∃ ts', Same H4 H5 ∧ H5 E2 = some (.lst (ts'.map V.ref)) ∧ PairsOf H5 ts' (es'.take i)) ⟨[], Same.put nE2, upd_same, .nil⟩ (fun i H5 _ ⟨_, z, _⟩ => SqL.of (z _ _ hq)) ?_ ?_
        · rintro i x H5 hi ⟨ts', s5, hE5, hts5⟩
          obtain ⟨b, rfl, hbi⟩ := ref_at hi
          have hil := (List.getElem?_eq_some_iff.mp hbi).1
          have he : es'[i]? = some (es'[i]'(by omega)) := List.getElem?_eq_getElem (by omega)
          generalize hee : es'[i]'(by omega) = e at he
          have hm : e ∈ es := hp'.mem_iff.mp (List.mem_of_getElem? he)
          have hbe : b = e.2.1 := by
            rw [← hb', List.getElem?_map, he] at hbi
            exact (Option.some.inj hbi).symm
          subst hbe
          have hlts := Paired.length hts5
          rw [List.length_take] at hlts
          have hkb := s5 _ _ (s14 _ _ (D0.keys e hm))
          refine ⟨rfl, _, rfl, _, rfl, _, rfl, D, es, e.1, e.2.1, e.2.2, rfl, rfl, (D3.same s4).same s5, hkb, lookE_in hdif hm, (by show 2 ≤ sizeLine; decide), fun pp npp => ?_⟩
          have s6 : Same H5 _ := Same.put (o := .tup [.ref e.2.1, .int e.2.2]) npp
          refine ⟨_, s6 _ _ hE5, by rw [List.length_map]; exact small1000 (by omega), ts' ++ [pp], fun b o z => ?_, by rw [upd_same, List.map_append]; rfl, ?_⟩
          · rw [upd_ne (fun y => by rw [y, nE2] at z; cases z)]
            exact s6 _ _ (s5 b o z)
          · have et : es'.take (i + 1) = es'.take i ++ [e] := by rw [List.take_add_one, he]; rfl
            rw [et]
            have off : ∀ (c : Addr) (ys : List V) (l : List V), upd H5 pp (.tup [.ref e.2.1, .int e.2.2]) c = some (.tup ys) → upd (upd H5 pp (.tup [.ref e.2.1, .int e.2.2])) E2 (.lst l) c = some (.tup ys) := fun c ys l z => by
              rw [upd_ne (ne_of z (s6 _ _ hE5) fun y => nomatch y)]
              exact z
            exact Paired.mapP (Paired.snoc (hts5.same s6) upd_same) fun _ _ z => off _ _ _ z
        · rintro H5 ⟨ts', s5, hE5, hts5⟩
          rw [List.take_of_length_le (by rw [List.length_map]; omega)] at hts5
          refine ⟨E2, _, rfl, SqL.of hE5, fun l nl => ?_⟩
          exact k l _ ts' es' ((s14.trans s5).trans (Same.put nl)) ((s14.trans s5).free nl) upd_same (hts5.same (Same.put nl)) hp'
theorem b_rulesFrom (F : FnP K "rules_from" sRulesFrom f fd) : Binds K fd ["value", "ways", "worths"] [] := F.bindsN fun _ _ _ _ _ _ us hl => match us, hl with | [_, _, _], _ => rfl
end
end BW
namespace BW
open PySem PySem.Spec PyProof.Rows L2
/-- what was tracked but x is as it was -/
def But (x : Addr) (H H' : Hp) : Prop := ∀ b o, H b = some o → b ≠ x → H' b = some o
theorem But.same {x : Addr} {H H' : Hp} (s : Same H H') : But x H H' := fun b o e _ => s b o e
theorem But.trans {x : Addr} {H H' H2 : Hp} (s : But x H H') (t : But x H' H2) : But x H H2 := fun b o e n => t b o (s b o e n) n
theorem But.upd (x : Addr) (H : Hp) (o : HO) : But x H (upd H x o) := fun b u e n => by
  rw [upd_ne n]
  exact e
theorem ND.but {P : Program} {w : World} {H H' : Hp} {d x dx C : Addr} {fs : List (Str × V)} {es : List Ent} (n : ND P w H d es) (hx : H x = some (.ins C dx fs)) (s : But x H H') : ND P w H' d es :=
  ⟨s _ _ n.at_ (ne_of n.at_ hx fun z => nomatch z), fun e he => s _ _ (n.keys e he) (ne_of (n.keys e he) hx fun z => nomatch z)⟩
theorem RulesOk.but {P : Program} {w : World} {H H' : Hp} {d x dx C : Addr} {fs : List (Str × V)} {es : List Ent} {m : Int} (r : RulesOk P w H d es m) (hx : H x = some (.ins C dx fs)) (s : But x H H') : RulesOk P w H' d es m := ⟨r.at_.but hx s, r.key, r.val, r.dif, r.few⟩
theorem PairsOf.but {H H' : Hp} {x dx C : Addr} {fs : List (Str × V)} {ts : List Addr} {es : List Ent} (d : PairsOf H ts es) (hx : H x = some (.ins C dx fs)) (s : But x H H') : PairsOf H' ts es := Paired.mapP d fun _ _ e => s _ _ e (ne_of e hx fun z => nomatch z)
theorem hu2 {A : Around} {k : Nat} (hr : Room k A) : A.units + 2 < cLine := by
  have := hr.un
  omega
section
variable {P : Program} {w : World} {K : PySem.W.Frag} {mg : Str → Option Value} {base : Heap} {f g g2 g3 g4 : Addr} {fd gd gd2 gd3 gd4 : FuncData}
/-! ### Table(ways, letters, worths, rules, yes) -/
def ruleF (es : List Ent) : Fn := fun l o => (lookE es (l, o)).getD o
def spTInit (P : Program) (w : World) (K : PySem.W.Frag) : Sp := fun vs H Q _ => ∃ (x dx d y : Addr) (n m : Int) (es : List Ent) (ys : List Int), vs = [.ref x, .int 1, .int n, .int m, .ref d, .ref y] ∧ H x = some (.ins (cT K) dx []) ∧ (1 ≤ n ∧ n ≤ 6) ∧ (n ≤ m ∧ m ≤ 12) ∧ RulesOk P w H d es m ∧
  H y = some (.lst (ys.map V.int)) ∧ (∀ y ∈ ys, 0 ≤ y ∧ y < m) ∧ ys.Nodup ∧ ys.length ≤ 60 ∧ ∀ H' ys', But x H H' → List.Perm ys' ys → TabAt P w K H' x n (ruleF es) ys' → Q .non H'
abbrev nTInit : List Str := ["self", "ways", "letters", "worths", "rules", "yes"]
theorem scTInit : FnScope nTInit nTInit (defScope sTInit) := ⟨rfl, rfl, rfl, by decide +kernel, rfl, by decide +kernel, by decide +kernel⟩
theorem ok_tInit (F : FnM K "__init__" "Table.__init__" sTInit f fd) (T : Tx K mg) (G : FnP K "is_within" sIsWithin g gd) (mG : mg "is_within" = some (.ref g)) (OG : FnOk P w K mg base CX0 2 g gd ["value", "least", "most"] spWithin)
    (G2 : FnP K "rules_from" sRulesFrom g2 gd2) (m2 : mg "rules_from" = some (.ref g2)) (O2 : FnOk P w K mg base CX0 4 g2 gd2 ["value", "ways", "worths"] (spRulesFrom P w))
    (G3 : FnP K "worths_from" sWorthsFrom g3 gd3) (m3 : mg "worths_from" = some (.ref g3)) (O3 : FnOk P w K mg base CX0 3 g3 gd3 ["value", "worths"] spWorthsFrom) : FnOk P w K mg base CX0 5 f fd nTInit (spTInit P w K) := by
  refine okD F scTInit (fun vs H Q E h => ?_) (fun cdv A outer s H vs Q E hr h => ?_)
  · obtain ⟨x, dx, d, y, n, m, es, ys, rfl, _⟩ := h
    rfl
  · obtain ⟨x, dx, d, y, n, m, es, ys, rfl, hx, hn, hm, R, hy, hyin, hyd, hyz, k⟩ := h
    refine ⟨_, pss_cons (ps_if (pt_not (pt_val (pe_call OG (hr.mono (by decide)) rfl mG G.kp (b_within G) .nil pass0 (pa_cons (pv 1) (pa_cons (pe_gi rfl T.one) (pa_cons (pe_gi rfl T.twoW) pa_nil)))))) pss_never pss_nil)
      (pss_cons (ps_if (pt_not (pt_val (pe_call OG (hr.mono (by decide)) rfl mG G.kp (b_within G) .nil pass0 (pa_cons (pv 2) (pa_cons pe_int (pa_cons (pe_gi rfl T.mLetters) pa_nil)))))) pss_never pss_nil)
      (pss_cons (ps_if (pt_not (pt_val (pe_call OG (hr.mono (by decide)) rfl mG G.kp (b_within G) .nil pass0 (pa_cons (pv 3) (pa_cons (pv 2) (pa_cons (pe_gi rfl T.mWorths) pa_nil)))))) pss_never pss_nil)
      (pss_cons (ps_asg (pe_tup (pa_cons (pv 1) (pa_cons (pv 2) (pa_cons (pv 3) pa_nil)))) (pg_tup rfl (pgs_cons (pg_fld (pv 0)) (pgs_cons (pg_fld (pv 0)) (pgs_cons (pg_fld (pv 0)) pgs_nil)))))
      (pss_cons (ps_fld (pv 0) (pe_call O2 hr rfl m2 G2.kp (b_rulesFrom G2) .nil pass0 (pa_cons (pv 4) (pa_cons (pv 1) (pa_cons (pv 3) pa_nil)))) rfl)
      (pss_cons (ps_fld (pv 0) (pe_call O3 (hr.mono (by decide)) rfl m3 G3.kp (b_worthsFrom G3) .nil pass0 (pa_cons (pv 5) (pa_cons (pv 3) pa_nil))) rfl)
      (pss_one (ps_fld (pv 0) (pe_callTy (call_ndOf rfl (hu2 hr)) (by rfl) T.dict (by decide +kernel) (pa_cons (pe_fld (pv 0) rfl) pa_nil)) rfl))))))), ?_⟩
    refine ⟨_, rfl, 1, 1, 2, rfl, true, rfl, iteF ?_⟩
    refine ⟨_, rfl, n, 1, 6, rfl, _, rfl, ?_⟩
    rw [within_true hn.1 hn.2]
    refine iteF ?_
    refine ⟨_, rfl, _, rfl, m, n, 12, rfl, _, rfl, ?_⟩
    rw [within_true hm.1 hm.2]
    refine iteF ?_
    -- the three numbers
    refine ⟨_, rfl, _, rfl, _, rfl, (by show 3 ≤ sizeLine; decide), fun tp ntp => ?_⟩
    have x1 : upd H tp (.tup [.int 1, .int n, .int m]) x = some (.ins (cT K) dx []) := Same.put ntp _ _ hx
    have u1 : But x H (upd H tp (.tup [.int 1, .int n, .int m])) := But.same (Same.put ntp)
    refine ⟨tp, _, rfl, SqT.of upd_same, rfl, _, _, rfl, _, rfl, x, _, dx, _, rfl, x1, T.clT, T.tWay, (by show 0 < 1000; decide), ?_⟩
    refine ⟨_, _, rfl, _, rfl, x, _, dx, _, rfl, upd_same, T.clT, T.tLet, (by show 1 < 1000; decide), ?_⟩
    refine ⟨_, _, rfl, _, rfl, x, _, dx, _, rfl, upd_same, T.clT, T.tWor, (by show 2 < 1000; decide), ?_⟩
    have u2 := ((u1.trans (But.upd x _ (.ins (cT K) dx (putF "ways" (.int 1) [])))).trans (But.upd x _ (.ins (cT K) dx (putF "letters" (.int n) (putF "ways" (.int 1) []))))).trans (But.upd x _ (.ins (cT K) dx (putF "worths" (.int m) (putF "letters" (.int n) (putF "ways" (.int 1) [])))))
    refine ⟨rfl, ?_⟩
    generalize hH2 : upd (upd (upd (upd H tp (.tup [.int 1, .int n, .int m])) x (.ins (cT K) dx (putF "ways" (.int 1) []))) x (.ins (cT K) dx (putF "letters" (.int n) (putF "ways" (.int 1) [])))) x (.ins (cT K) dx (putF "worths" (.int m) (putF "letters" (.int n) (putF "ways" (.int 1) [])))) = H2 at u2 ⊢
    have x2 : H2 x = some (.ins (cT K) dx (putF "worths" (.int m) (putF "letters" (.int n) (putF "ways" (.int 1) [])))) := by rw [← hH2]; exact upd_same
    -- the rules
    refine ⟨_, rfl, _, rfl, _, rfl, d, m, es, rfl, R.but hx u2, fun ru H3 ts es' s3 nru hru hts hp => ?_⟩
    have x3 := s3 _ _ x2
    refine ⟨_, rfl, x, _, dx, _, rfl, x3, T.clT, T.tRul, (by show 3 < 1000; decide), ?_⟩
    have u3 := u2.trans (But.same s3)
    have keys3 : ∀ e ∈ es', H3 e.2.1 = some (.tup (keyV e.1)) := fun e he => ((R.at_.but hx u3).keys e (hp.mem_iff.mp he))
    have v4 : But x H3 (upd H3 x (.ins (cT K) dx (putF "rules" (.ref ru) (putF "worths" (.int m) (putF "letters" (.int n) (putF "ways" (.int 1) [])))))) := But.upd x _ _
    generalize hH4 : upd H3 x (.ins (cT K) dx (putF "rules" (.ref ru) (putF "worths" (.int m) (putF "letters" (.int n) (putF "ways" (.int 1) []))))) = H4 at v4 ⊢
    have x4 : H4 x = some (.ins (cT K) dx (putF "rules" (.ref ru) (putF "worths" (.int m) (putF "letters" (.int n) (putF "ways" (.int 1) []))))) := by rw [← hH4]; exact upd_same
    -- the worths that say yes
    refine ⟨_, rfl, _, rfl, y, m, ys, rfl, (u3.trans v4) _ _ hy (ne_of hy hx fun z => nomatch z), hyin, hyd, hyz, fun ye H5 ys' s5 nye hye hpy => ?_⟩
    have x5 := s5 _ _ x4
    refine ⟨_, rfl, x, _, dx, _, rfl, x5, T.clT, T.tYes, (by show 4 < 1000; decide), ?_⟩
    have v6 : But x H5 (upd H5 x (.ins (cT K) dx (putF "yes" (.ref ye) (putF "rules" (.ref ru) (putF "worths" (.int m) (putF "letters" (.int n) (putF "ways" (.int 1) []))))))) := But.upd x _ _
    generalize hH6 : upd H5 x (.ins (cT K) dx (putF "yes" (.ref ye) (putF "rules" (.ref ru) (putF "worths" (.int m) (putF "letters" (.int n) (putF "ways" (.int 1) [])))))) = H6 at v6 ⊢
    have x6 : H6 x = some (.ins (cT K) dx (putF "yes" (.ref ye) (putF "rules" (.ref ru) (putF "worths" (.int m) (putF "letters" (.int n) (putF "ways" (.int 1) [])))))) := by rw [← hH6]; exact upd_same
    have v36 : But x H3 H6 := (v4.trans (But.same s5)).trans v6
    have hye6 : H6 ye = some (.tup (ys'.map V.int)) := v6 _ _ hye (ne_of hye x5 fun z => nomatch z)
    have hru6 : H6 ru = some (ptup ru (ts.map V.ref)) := v36 _ _ hru (ne_of hru x3 fun z => nomatch z)
    have keys6 : ∀ e ∈ es', H6 e.2.1 = some (.tup (keyV e.1)) := fun e he => v36 _ _ (keys3 e he) (ne_of (keys3 e he) x3 fun z => nomatch z)
    -- the rules by their keys
    refine ⟨_, rfl, x, _, dx, _, _, rfl, x6, T.clT, T.tRul, (by rw [lookup_putF, if_neg (by decide +kernel), lookup_putF, if_pos rfl]), ru, ts, es', rfl, hru6, hts.but x3 v36, keys6, fun l nl => ?_⟩
    have hnd : (es'.map (·.1)).Nodup := (hp.map _).nodup_iff.mpr R.dif
    rw [putAll_nodup hnd]
    have s7 : Same H6 (upd H6 l (nd P w l es')) := Same.put nl
    have x7 := s7 _ _ x6
    refine ⟨_, rfl, x, _, dx, _, rfl, x7, T.clT, T.tKey, (by show 5 < 1000; decide), ?_⟩
    have v8 : But x (upd H6 l (nd P w l es')) (upd (upd H6 l (nd P w l es')) x (.ins (cT K) dx (putF "by_key" (.ref l) (putF "yes" (.ref ye) (putF "rules" (.ref ru) (putF "worths" (.int m) (putF "letters" (.int n) (putF "ways" (.int 1) [])))))))) := But.upd x _ _
    have nd7 : ND P w (upd H6 l (nd P w l es')) l es' := ⟨upd_same, fun e he => s7 _ _ (keys6 e he)⟩
    refine k _ ys' ((u3.trans v36).trans ((But.same s7).trans v8)) hpy ⟨⟨dx, m, ru, ye, l, es', upd_same, v8 _ _ (s7 _ _ hye6) (ne_of hye6 x6 fun z => nomatch z), nd7.but x7 v8, fun key => ?_⟩⟩
    rw [lookE_perm hp R.dif]
    rfl
theorem b_tInit (F : FnM K "__init__" "Table.__init__" sTInit f fd) : Binds K fd nTInit [] := F.bindsN fun _ _ _ _ _ _ us hl => match us, hl with | [_, _, _, _, _, _], _ => rfl
end
end BW
namespace BW
open PySem PySem.Spec PyProof.Rows L2
/-- a ribbon: cells, at most t of them are spent -/
def Rib (H : Hp) (r q : Addr) (t : Nat) : Prop := ∃ (u : Nat) (l : Int) (cs : List Int), H r = some (.lst [.ref q, .int u, .int l]) ∧ H q = some (.lst (cs.map V.int)) ∧ 0 ≤ l ∧ u ≤ t ∧ cs.length ≤ 60
theorem Rib.same {H H' : Hp} {r q : Addr} {t : Nat} (d : Rib H r q t) (s : Same H H') : Rib H' r q t := by
  obtain ⟨u, l, cs, h1, h2, h3⟩ := d
  exact ⟨u, l, cs, s _ _ h1, s _ _ h2, h3⟩
theorem Rib.mono {H : Hp} {r q : Addr} {t t' : Nat} (d : Rib H r q t) (h : t ≤ t') : Rib H r q t' := by
  obtain ⟨u, l, cs, h1, h2, h3, h4, h5⟩ := d
  exact ⟨u, l, cs, h1, h2, h3, Nat.le_trans h4 h, h5⟩
theorem ints_ne {cs : List Int} {q : Addr} {r : List V} : HO.lst (cs.map V.int) ≠ HO.lst (.ref q :: r) := by
  intro z
  injection z with z
  cases cs with
  | nil => exact nomatch z
  | cons c cs => injection z with z _; exact nomatch z
theorem pow5_ok {a t : Int} (h1 : 0 ≤ a) (h2 : a < 2147483629) (h3 : 0 ≤ t) (h4 : t < 100000) : (a + 45077 * t + 8537).natAbs < 2 ^ 64 := by omega
theorem pow3_ok {b t : Int} (h1 : 0 ≤ b) (h2 : b < 2147483587) (h3 : 0 ≤ t) (h4 : t < 100000) : (b * (2 * t + 3631) + 93047 * t * t + 45077).natAbs < 2 ^ 64 := by
  have e1 : b * (2 * t + 3631) ≤ 2147483587 * 203631 := Int.mul_le_mul (by omega) (by omega) (by omega) (by omega)
  have e2 : 0 ≤ b * (2 * t + 3631) := Int.mul_nonneg h1 (by omega)
  have e3 : 93047 * t * t ≤ (93047 * 100000) * 100000 := Int.mul_le_mul (by omega) (by omega) h3 (by omega)
  have e4 : 0 ≤ 93047 * t * t := Int.mul_nonneg (by omega) h3
  generalize b * (2 * t + 3631) = x at *
  generalize 93047 * t * t = y at *
  omega
theorem lay_ints : ∀ cs : List Int, PyData.canLayAll0 (cs.map PyData.int) = true
  | [] => rfl
  | c :: cs => by
    show (PyData.canLay0 (.int c) && PyData.canLayAll0 (cs.map PyData.int)) = true
    rw [lay_ints cs]
    rfl
theorem depth_ints : ∀ cs : List Int, PyData.depthAll (cs.map PyData.int) ≤ 1
  | [] => by simp [PyData.depthAll]
  | c :: cs => by
    have h := depth_ints cs
    simp only [List.map_cons, PyData.depthAll, PyData.depth]
    omega
theorem shaped_ints (cs : List Int) : SeqAt.shaped (.list (cs.map PyData.int)) = true := by
  have h := depth_ints cs
  unfold SeqAt.shaped
  have h1 : PyData.canLay0 (.list (cs.map PyData.int)) = true := lay_ints cs
  rw [h1, Bool.true_and]
  refine decide_eq_true ?_
  simp only [PyData.depth]
  omega
theorem dp_ints {K : PySem.W.Frag} {H : Hp} : ∀ cs : List Int, DpAll K H (cs.map V.int) (cs.map PyData.int)
  | [] => .nil
  | c :: cs => .cons (.int c) (dp_ints cs)
theorem eqv_nil (cs : List Int) : PyData.eqv (.list (cs.map PyData.int)) (.list []) = decide (cs = []) := by
  cases cs with
  | nil => simp [PyData.eqv, PyData.eqvAll]
  | cons c cs => simp [PyData.eqv, PyData.eqvAll]
section
variable {P : Program} {w : World} {K : PySem.W.Frag} {mg : Str → Option Value} {base : Heap} {f g g2 g3 g4 : Addr} {fd gd gd2 gd3 gd4 : FuncData}
/-! ### _law_ribbon -/
def spRibbon (K : PySem.W.Frag) : Sp := fun vs H Q _ => ∃ (a : Addr) (ns : List Int), vs = [.ref a] ∧ SqL K H a (ns.map V.int) ∧ ∀ r q H', Same H H' → H r = none → Rib H' r q 0 → Q (.ref r) H'
abbrev nRibbon : List Str := ["_law_script", "_law_cell"]
theorem scRibbon : FnScope nRibbon ["_law_script"] (defScope sLRibbon) := ⟨rfl, rfl, rfl, by decide +kernel, rfl, by decide +kernel, by decide +kernel⟩
theorem ok_ribbon (F : FnP K "_law_ribbon" sLRibbon f fd) (T : Tx K mg) : FnOk P w K mg base CX0 1 f fd ["_law_script"] (spRibbon K) := by
  refine okD F scRibbon (fun vs H Q E h => ?_) (fun cdv A outer s H vs Q E hr h => ?_)
  · obtain ⟨a, ns, rfl, _⟩ := h
    rfl
  · obtain ⟨a, ns, rfl, ha, k⟩ := h
    refine ⟨_, pss_one (ps_ret (pe_lst (pa_cons (pe_lc (own := [("_law_cell", 1)]) (g := gName 1) (tt := tYes) rfl scRibbon.nd (pi_list (pe_slice sl_list (pv 0) po_none (po_some pe_int))) (blkOk_by (N := nRibbon) (sc := defScope sLRibbon) (by decide +kernel))
      (fun _ _ _ _ _ => pg_name (i := 1) scRibbon.nd rfl (Or.inl rfl)) (fun _ _ _ _ _ => pts_nil) (fun _ _ _ _ _ => pe_callTy call_int1 (by rfl) T.int (by decide +kernel) (pa_cons (pv 1) pa_nil))) (pa_cons pe_int (pa_cons pe_int pa_nil))))), ?_⟩
    refine ⟨_, rfl, 60, rfl, a, _, rfl, ha, fun p np => ⟨p, rfl, ⟨_, SqL.of upd_same⟩, fun E1 nE => ?_⟩⟩
    have ec : ∃ cs : List Int, cutV (ns.map V.int) none (some 60) = cs.map V.int ∧ cs.length ≤ 60 := by
      refine ⟨ns.take (min 60 ns.length), ?_, by rw [List.length_take]; omega⟩
      unfold cutV
      rw [HT.sIx_none, show (some (60 : Int)) = some (((60 : Nat) : Nat) : Int) from rfl, HT.sIx_nat, List.drop_zero, Nat.sub_zero, List.length_map, List.map_take]
    obtain ⟨cs, ec, hcs⟩ := ec
    rw [ec] at nE ⊢
    have s1 : Same H (upd H p (.lst (cs.map V.int))) := Same.put np
    refine lc_list (K := K) (a := p) (xs := cs.map V.int) (fun i H2 => Same (upd H p (.lst (cs.map V.int))) H2 ∧ H2 E1 = some (.lst ((cs.map V.int).take i))) ⟨Same.put nE, upd_same⟩ (fun i H2 _ q => SqL.of (q.1 _ _ upd_same)) ?_ ?_
    · rintro i x H2 hi ⟨s2, hE⟩
      obtain ⟨z, rfl, hz⟩ := int_at hi
      have hil := (List.getElem?_eq_some_iff.mp hi).1
      rw [List.length_map] at hil
      refine ⟨rfl, _, rfl, .inl ⟨z, rfl, _, hE, by rw [List.length_take, List.length_map]; exact small1000 (by omega), fun b o e => ?_, by rw [upd_same, take_next hz]⟩⟩
      rw [upd_ne (fun z => by rw [z, nE] at e; cases e)]
      exact s2 b o e
    · rintro H2 ⟨s2, hE⟩
      rw [List.take_of_length_le (Nat.le_refl _)] at hE
      refine ⟨(by show 3 ≤ sizeLine; decide), fun r nr => ?_⟩
      have s12 := s1.trans s2
      exact k r E1 _ (s12.trans (Same.put nr)) (s12.free nr) ⟨0, 0, cs, upd_same, Same.put nr _ _ hE, Int.le_refl _, Nat.le_refl _, hcs⟩
theorem b_ribbon (F : FnP K "_law_ribbon" sLRibbon f fd) : Binds K fd ["_law_script"] [] := F.bindsN fun _ _ _ _ _ _ us hl => match us, hl with | [_], _ => rfl
/-! ### _law_snip -/
def spSnip : Sp := fun vs H Q _ => ∃ (r q : Addr) (t : Nat) (many : Int), vs = [.ref r, .int many] ∧ Rib H r q t ∧ t < 100000 ∧ 1 ≤ many ∧ many ≤ 1000 ∧ ∀ v H', But r H H' → Rib H' r q (t + 1) → 0 ≤ v → v < many → Q (.int v) H'
abbrev nSnip : List Str := ["_law_ribbon_here", "_law_many", "_law_left", "_law_turn", "_law_cell", "_law_mixed"]
theorem scSnip : FnScope nSnip ["_law_ribbon_here", "_law_many"] (defScope sLSnip) := ⟨rfl, rfl, rfl, by decide +kernel, rfl, by decide +kernel, by decide +kernel⟩
theorem ok_snip (F : FnP K "_law_snip" sLSnip f fd) (T : Tx K mg) : FnOk P w K mg base CX0 1 f fd ["_law_ribbon_here", "_law_many"] spSnip := by
  refine okD F scSnip (fun vs H Q E h => ?_) (fun cdv A outer s H vs Q E hr h => ?_)
  · obtain ⟨r, q, t, many, rfl, _⟩ := h
    rfl
  · obtain ⟨r, q, t, many, rfl, R, ht, hm1, hm2, k⟩ := h
    refine ⟨_, pss_cons (ps_if (pt_cmp (pc_gt (pe_ix ix_list (pv 0) pe_int (fun _ _ => rfl)) pe_int) rfl)
        (pss_cons (ps_set (i := 2) scSnip.nd rfl (Or.inl rfl) (pe_callTy call_int1 (by rfl) T.int (by decide +kernel) (pa_cons (pe_ix ix_list (pv 0) pe_int (fun _ _ => rfl)) pa_nil)))
        (pss_cons (ps_asg (pe_op op_fdiv (pv 2) (pv 1)) (pg_sub (pv 0) pe_int set_list))
        (pss_one (ps_ret (pe_op op_mod (pe_callTy call_int1 (by rfl) T.int (by decide +kernel) (pa_cons (pv 2) pa_nil)) (pv 1)))))) pss_nil)
      (pss_cons (ps_set (i := 3) scSnip.nd rfl (Or.inl rfl) (pe_ix ix_list (pv 0) pe_int (fun _ _ => rfl)))
      (pss_cons (ps_asg (pe_op op_add (pv 3) pe_int) (pg_sub (pv 0) pe_int set_list))
      (pss_cons (ps_set (i := 4) scSnip.nd rfl (Or.inl rfl) (pe_op op_add (pe_op op_mul pe_int (pv 3)) pe_int))
      (pss_cons (ps_if (pt_cmpR (op_neD (hu64 hr)) (pe_ix ix_list (pv 0) pe_int (fun _ _ => rfl)) (pe_lst pa_nil) (nomark _))
        (pss_one (ps_set (i := 4) scSnip.nd rfl (Or.inl rfl) (pe_ix ix_list (pe_ix ix_list (pv 0) pe_int (fun _ _ => rfl)) (pe_op op_mod (pe_callTy call_int1 (by rfl) T.int (by decide +kernel) (pa_cons (pv 3) pa_nil)) (pe_callB call_len (by rfl) T.len boot_len (pa_cons (pe_ix ix_list (pv 0) pe_int (fun _ _ => rfl)) pa_nil))) (fun _ _ => rfl)))) pss_nil)
      (pss_cons (ps_if (PW.pt (pw_and (pt_cmp (pc_lt (pv 3) (pe_callB call_len (by rfl) T.len boot_len (pa_cons (pe_ix ix_list (pv 0) pe_int (fun _ _ => rfl)) pa_nil))) rfl)
          (pw_and1 (pt_cmp (pc_ge (pe_callB call_abs (by rfl) T.abs (by decide +kernel) (pa_cons (pv 4) pa_nil)) (pe_op op_pow pe_int pe_int)) rfl))))
        (pss_cons (ps_set (i := 2) scSnip.nd rfl (Or.inl rfl) (pe_op op_add (pe_op op_mul pe_int (pe_op op_sub (pe_callB call_abs (by rfl) T.abs (by decide +kernel) (pa_cons (pe_callTy call_int1 (by rfl) T.int (by decide +kernel) (pa_cons (pv 4) pa_nil)) pa_nil)) (pe_op op_pow pe_int pe_int)))
          (pe_callTy call_int1 (by rfl) T.int (by decide +kernel) (pa_cons (pe_cmp (pc_lt (pv 4) pe_int) rfl) pa_nil))))
        (pss_cons (ps_asg (pe_op op_fdiv (pv 2) (pv 1)) (pg_sub (pv 0) pe_int set_list))
        (pss_one (ps_ret (pe_op op_mod (pe_callTy call_int1 (by rfl) T.int (by decide +kernel) (pa_cons (pv 2) pa_nil)) (pv 1)))))) pss_nil)
      (pss_cons (ps_set (i := 5) scSnip.nd rfl (Or.inl rfl) (pe_op op_mod (pe_callTy call_int1 (by rfl) T.int (by decide +kernel) (pa_cons (pe_op op_pow (pe_op op_add (pe_op op_add (pe_op op_mod (pe_callTy call_int1 (by rfl) T.int (by decide +kernel) (pa_cons (pv 4) pa_nil)) pe_int) (pe_op op_mul pe_int (pv 3))) pe_int) pe_int) pa_nil)) pe_int))
      (pss_cons (ps_set (i := 5) scSnip.nd rfl (Or.inl rfl) (pe_op op_mod (pe_callTy call_int1 (by rfl) T.int (by decide +kernel) (pa_cons (pe_op op_pow (pe_op op_add (pe_op op_add (pe_op op_mul (pv 5) (pe_op op_add (pe_op op_mul pe_int (pv 3)) pe_int)) (pe_op op_mul (pe_op op_mul pe_int (pv 3)) (pv 3))) pe_int) pe_int) pa_nil)) pe_int))
      (pss_one (ps_ret (pe_op op_mod (pe_callTy call_int1 (by rfl) T.int (by decide +kernel) (pa_cons (pe_op op_fdiv (pv 5) pe_int) pa_nil)) (pv 1))))))))))), ?_⟩
    obtain ⟨u, l, cs, hr0, hq, hl, hu, hc⟩ := R
    have hqr : q ≠ r := ne_of hq hr0 ints_ne
    -- what is kept back is spent first
    refine ⟨_, rfl, r, _, 2, .int l, rfl, rfl, SqL.of hr0, rfl, l, 0, rfl, rfl, _, rfl, ?_⟩
    by_cases hl0 : 0 < l
    · refine iteTb (decide_eq_true hl0) ?_
      refine ⟨_, rfl, r, _, 2, .int l, rfl, rfl, SqL.of hr0, rfl, .inl ⟨l, rfl, ?_⟩⟩
      refine ⟨_, rfl, _, rfl, l, many, rfl, rfl, ⟨by omega, by omega⟩, _, rfl, r, _, 2, 2, rfl, rfl, hr0, rfl, ?_⟩
      refine ⟨_, rfl, .inl ⟨l, rfl, _, rfl, l, many, rfl, rfl, (by show 0 < many; omega), ?_⟩⟩
      exact k _ _ (But.upd r H _) ⟨u, l / many, cs, upd_same, by rw [upd_ne hqr]; exact hq, Int.ediv_nonneg hl (by omega), by omega, hc⟩ (Int.emod_nonneg _ (by omega)) (Int.emod_lt_of_pos _ (by omega))
    · refine iteFb (decide_eq_false hl0) ?_
      -- the next cell's number
      refine ⟨_, rfl, r, _, 1, .int u, rfl, rfl, SqL.of hr0, rfl, ?_⟩
      refine ⟨_, rfl, _, _, rfl, rfl, _, rfl, r, _, 1, 1, rfl, rfl, hr0, rfl, ?_⟩
      refine ⟨_, rfl, _, _, rfl, rfl, .inl ⟨by omega, by omega⟩, _, _, rfl, rfl, ?_⟩
      have b1 : But r H (upd H r (.lst [.ref q, .int ((u : Int) + 1), .int l])) := But.upd r H _
      have r1 : upd H r (.lst [.ref q, .int ((u : Int) + 1), .int l]) r = some (.lst [.ref q, .int ((u + 1 : Nat) : Int), .int l]) := upd_same
      refine ⟨_, rfl, r, _, 0, .ref q, rfl, rfl, SqL.of upd_same, rfl, (by show 0 ≤ sizeLine; decide), fun p np => ?_⟩
      have np' : upd H r (.lst [.ref q, .int ((u : Int) + 1), .int l]) p = none := np
      have q1 : upd H r (.lst [.ref q, .int ((u : Int) + 1), .int l]) q = some (.lst (cs.map V.int)) := by rw [upd_ne hqr]; exact hq
      have s2 : Same (upd H r (.lst [.ref q, .int ((u : Int) + 1), .int l])) (upd (upd H r (.lst [.ref q, .int ((u : Int) + 1), .int l])) p (.lst [])) := Same.put np'
      have b2 := b1.trans (But.same s2)
      have p2 : upd (upd H r (.lst [.ref q, .int ((u : Int) + 1), .int l])) p (.lst []) p = some (.lst []) := upd_same
      refine ⟨.list (cs.map PyData.int), .list [], .lst (SqL.of (s2 _ _ q1)) (dp_ints cs), .lst (SqL.of p2) .nil, shaped_ints cs, shaped_ints [], _, rfl, ?_⟩
      rw [eqv_nil]
      have r2 := s2 _ _ r1
      have q2 := s2 _ _ q1
      have hqr2 : q ≠ r := hqr
      by_cases hcs : cs = []
      case' pos =>
        refine iteFb (by rw [decide_eq_true hcs]; rfl) ?_
        let c : Int := 93047 * (u : Int) + 8537
      case' neg =>
        refine iteTb (by rw [decide_eq_false hcs]; rfl) ?_
        have hcl : 0 < cs.length := List.length_pos_iff.mpr hcs
        have hml : u % cs.length < cs.length := Nat.mod_lt _ hcl
        refine ⟨_, rfl, r, _, 0, .ref q, rfl, rfl, SqL.of r2, rfl, _, rfl, .inl ⟨u, rfl, _, rfl, r, _, 0, .ref q, rfl, rfl, SqL.of r2, rfl, .ref q, _, rfl, .inl ⟨_, SqL.of q2, rfl⟩, u, _, rfl, rfl, (by show (0 : Int) < (((cs.map V.int).length : Nat) : Int); rw [List.length_map]; omega),
          q, cs.map V.int, _, .int (cs[u % cs.length]'hml), rfl, rfl, SqL.of q2, at_of (j := u % cs.length) (by show (u : Int) % (((cs.map V.int).length : Nat) : Int) = _; rw [List.length_map]; rfl) (by rw [List.getElem?_map, List.getElem?_eq_getElem hml]; rfl), ?_⟩⟩
        generalize cs[u % cs.length]'hml = c
      all_goals
        -- a big cell is spent bit by bit
        refine ⟨_, rfl, _, rfl, r, _, 0, .ref q, rfl, rfl, SqL.of r2, rfl, .ref q, _, rfl, .inl ⟨_, SqL.of q2, rfl⟩, _, _, rfl, rfl, _, rfl, ?_⟩
        have hub : (0 : Int) ≤ (u : Int) ∧ (u : Int) < 100000 := ⟨by omega, by omega⟩
        by_cases h1 : (u : Int) < (((cs.map V.int).length : Nat) : Int)
        case' pos =>
          refine iteTb (decide_eq_true h1) ?_
          refine ⟨_, rfl, c, rfl, 10, 18, rfl, rfl, ⟨by decide, by decide, by decide⟩, _, _, rfl, rfl, _, rfl, ?_⟩
          by_cases h2 : (10 : Int) ^ (18 : Int).toNat ≤ (if c < 0 then -c else c)
          case' pos =>
            refine iteTb (decide_eq_true h2) ?_
            refine ⟨_, rfl, .inl ⟨c, rfl, c, rfl, 10, 18, rfl, rfl, ⟨by decide, by decide, by decide⟩, _, _, rfl, rfl, 2, _, rfl, rfl, .inl ⟨by decide, by decide⟩, _, rfl, _, _, rfl, rfl, .inr ⟨_, rfl, _, _, rfl, rfl, ?_⟩⟩⟩
            obtain ⟨L, hL, eL⟩ : ∃ L : Int, 0 ≤ L ∧ (2 * ((if c < 0 then -c else c) - 10 ^ (18 : Int).toNat) + if decide (c < 0) = true then 1 else 0) = L := ⟨_, by split <;> omega, rfl⟩
            refine ⟨_, rfl, _, rfl, L, many, (by rw [← eL]), rfl, ⟨by omega, by omega⟩, _, rfl, r, _, 2, 2, rfl, rfl, r2, rfl, ?_⟩
            refine ⟨_, rfl, .inl ⟨L, (by rw [← eL]), _, rfl, L, many, rfl, rfl, (by show 0 < many; omega), ?_⟩⟩
            exact k _ _ (b2.trans (But.upd r _ _)) ⟨u + 1, L / many, cs, upd_same, by rw [upd_ne hqr]; exact q2, Int.ediv_nonneg hL (by omega), by omega, hc⟩ (Int.emod_nonneg _ (by omega)) (Int.emod_lt_of_pos _ (by omega))
          case' neg => refine iteFb (decide_eq_false h2) ?_
        case' neg => refine iteFb (decide_eq_false h1) (iteF ?_)
        all_goals
          -- any other is mixed
          refine ⟨_, rfl, .inl ⟨c, rfl, c, 2147483629, rfl, rfl, (show (0 : Int) < 2147483629 by decide), _, rfl, 45077, u, rfl, rfl, .inl ⟨by decide, by decide⟩, _, _, rfl, rfl, _, _, rfl, rfl, _, 5, rfl, rfl, ⟨by decide, by decide, pow5_ok (Int.emod_nonneg _ (by decide)) (Int.emod_lt_of_pos _ (by decide)) hub.1 hub.2⟩, .inl ⟨_, rfl, _, 2147483587, rfl, rfl, (show (0 : Int) < 2147483587 by decide), ?_⟩⟩⟩
          obtain ⟨b, eb, hb1, hb2⟩ : ∃ b : Int, b = (c % 2147483629 + 45077 * (u : Int) + 8537) ^ (5 : Int).toNat % 2147483587 ∧ 0 ≤ b ∧ b < 2147483587 := ⟨_, rfl, Int.emod_nonneg _ (by decide), Int.emod_lt_of_pos _ (by decide)⟩
          refine ⟨_, rfl, _, rfl, 2, u, rfl, rfl, .inl ⟨by decide, by decide⟩, _, _, rfl, rfl, b, _, (by rw [eb]), rfl, .inl ⟨by omega, by omega⟩, _, rfl, 93047, u, rfl, rfl, .inl ⟨by decide, by decide⟩, _, rfl, _, u, rfl, rfl, .inr ⟨by omega, by omega⟩, _, _, rfl, rfl, _, _, rfl, rfl, _, 3, rfl, rfl,
            ⟨by decide, by decide, pow3_ok hb1 hb2 hub.1 hub.2⟩, .inl ⟨_, rfl, _, 2147483563, rfl, rfl, (show (0 : Int) < 2147483563 by decide), ?_⟩⟩
          refine ⟨_, rfl, _, 64, rfl, rfl, ⟨by decide, by decide⟩, .inl ⟨_, rfl, _, rfl, _, many, rfl, rfl, (show 0 < many by omega), ?_⟩⟩
          exact k _ _ b2 ⟨u + 1, l, cs, r2, q2, hl, by omega, hc⟩ (Int.emod_nonneg _ (by omega)) (Int.emod_lt_of_pos _ (by omega))
theorem b_snip (F : FnP K "_law_snip" sLSnip f fd) : Binds K fd ["_law_ribbon_here", "_law_many"] [] := F.bindsN fun _ _ _ _ _ _ us hl => match us, hl with | [_, _], _ => rfl
end
end BW
namespace BW
open PySem PySem.Spec PyProof.Rows L2
theorem Rib.top {H : Hp} {r q : Addr} {t : Nat} (d : Rib H r q t) : ∃ (u : Nat) (l : Int), H r = some (.lst [.ref q, .int u, .int l]) := by
  obtain ⟨u, l, cs, h1, _⟩ := d
  exact ⟨u, l, h1⟩
theorem Rib.ne {H : Hp} {r q a : Addr} {t : Nat} {o : HO} (d : Rib H r q t) (h : H a = some o) (n : ∀ q u l, o ≠ .lst [.ref q, .int u, .int l]) : a ≠ r := fun z => by
  obtain ⟨u, l, h1⟩ := d.top
  rw [z, h1] at h
  exact n q u l (Option.some.inj h).symm
theorem ND.butR {P : Program} {w : World} {H H' : Hp} {d r q : Addr} {t : Nat} {es : List Ent} (n : ND P w H d es) (R : Rib H r q t) (s : But r H H') : ND P w H' d es :=
  ⟨s _ _ n.at_ (R.ne n.at_ fun _ _ _ z => nomatch z), fun e he => s _ _ (n.keys e he) (R.ne (n.keys e he) fun _ _ _ z => nomatch z)⟩
theorem putE_nodup {es : List Ent} (h : (es.map (·.1)).Nodup) (k : NK) (b : Addr) (v : Int) : ((putE es k b v).map (·.1)).Nodup := by
  unfold putE
  split
  · have e : (es.map fun e => if e.1 = k then ((e.1, e.2.1, v) : Ent) else e).map (·.1) = es.map (·.1) := by
      rw [List.map_map]
      refine List.map_congr_left fun e _ => ?_
      show (if e.1 = k then ((e.1, e.2.1, v) : Ent) else e).1 = e.1
      split <;> rfl
    rw [e]
    exact h
  · next hn =>
    rw [List.map_append, List.nodup_append]
    refine ⟨h, by simp, fun x hx y hy z => hn ?_⟩
    obtain ⟨e, he, rfl⟩ := List.mem_map.mp hx
    have hy : y = k := by simpa using hy
    have e1 : e.1 = k := z.trans hy
    rw [← e1, lookE_in h he]
    rfl
/-- keys and worths are fit -/
def FitE (m : Int) (es : List Ent) : Prop := (∀ e ∈ es, InR m e.1 ∧ 0 ≤ e.2.2 ∧ e.2.2 < m) ∧ (es.map (·.1)).Nodup
theorem FitE.put {m : Int} {es : List Ent} (h : FitE m es) {k : NK} (hk : InR m k) (b : Addr) {v : Int} (hv : 0 ≤ v ∧ v < m) : FitE m (putE es k b v) := by
  refine ⟨fun x hx => ?_, putE_nodup h.2 k b v⟩
  rcases putE_mem hx with ⟨e, he, e1, _, e3⟩ | rfl
  · rw [e1]
    refine ⟨(h.1 e he).1, ?_⟩
    rcases e3 with e3 | e3 <;> rw [e3]
    · exact (h.1 e he).2
    · exact hv
  · exact ⟨hk, hv⟩
theorem Rib.put {H : Hp} {r q d : Addr} {t : Nat} {o o' : HO} (R : Rib H r q t) (hd : H d = some o) (n : ∀ xs, HO.lst xs ≠ o) : Rib (upd H d o') r q t := by
  obtain ⟨u, l, cs, h1, h2, h3⟩ := R
  exact ⟨u, l, cs, by rw [upd_ne (ne_of h1 hd (n _))]; exact h1, by rw [upd_ne (ne_of h2 hd (n _))]; exact h2, h3⟩
theorem Rib.putL {H : Hp} {r q d : Addr} {t : Nat} {o' : HO} (R : Rib H r q t) (h1 : d ≠ r) (h2 : d ≠ q) : Rib (upd H d o') r q t := by
  obtain ⟨u, l, cs, h3, h4, h5⟩ := R
  exact ⟨u, l, cs, by rw [upd_ne h1.symm]; exact h3, by rw [upd_ne h2.symm]; exact h4, h5⟩
theorem But.put {r d : Addr} {H H' : Hp} {o : HO} (b : But r H H') (hd : H d = none) : But r H (L2.upd H' d o) := fun c u e n => by
  rw [upd_ne (fun z => by rw [z, hd] at e; cases e)]
  exact b c u e n
theorem rg_lefts (m : Nat) : [V.non] ++ rgV 0 m = (none :: (List.range m).map fun i => (some ((i : Nat) : Int))).map oV := by
  unfold rgV
  rw [Int.sub_zero, Int.toNat_natCast, List.map_cons, List.map_map]
  show V.non :: _ = V.non :: _
  congr 1
  refine List.map_congr_left fun i _ => ?_
  show V.int (0 + (i : Int)) = V.int i
  rw [Int.zero_add]
section
variable {P : Program} {w : World} {K : PySem.W.Frag} {mg : Str → Option Value} {base : Heap} {f g g2 g3 g4 : Addr} {fd gd gd2 gd3 gd4 : FuncData}
/-! ### _law_pick -/
def spPick : Sp := fun vs H Q _ => ∃ (r q a : Addr) (t : Nat) (xs : List Int), vs = [.ref r, .ref a] ∧ Rib H r q t ∧ t < 100000 ∧ H a = some (.lst (xs.map V.int)) ∧ 1 ≤ xs.length ∧ xs.length ≤ 1000 ∧ ∀ v H', v ∈ xs → But r H H' → Rib H' r q (t + 1) → Q (.int v) H'
theorem scPick : FnScope ["_law_ribbon_here", "_law_some"] ["_law_ribbon_here", "_law_some"] (defScope sLPick) := ⟨rfl, rfl, rfl, by decide +kernel, rfl, by decide +kernel, by decide +kernel⟩
theorem ok_pick (F : FnP K "_law_pick" sLPick f fd) (T : Tx K mg) (G : FnP K "_law_snip" sLSnip g gd) (mG : mg "_law_snip" = some (.ref g)) (OG : FnOk P w K mg base CX0 1 g gd ["_law_ribbon_here", "_law_many"] spSnip) :
    FnOk P w K mg base CX0 2 f fd ["_law_ribbon_here", "_law_some"] spPick := by
  refine okD F scPick (fun vs H Q E h => ?_) (fun cdv A outer s H vs Q E hr h => ?_)
  · obtain ⟨r, q, a, t, xs, rfl, _⟩ := h
    rfl
  · obtain ⟨r, q, a, t, xs, rfl, R, ht, ha, hx1, hx2, k⟩ := h
    have har : a ≠ r := R.ne ha fun _ _ _ => ints_ne (cs := xs)
    refine ⟨_, pss_one (ps_ret (pe_ix ix_list (pv 1) (pe_call OG hr rfl mG G.kp (b_snip G) .nil pass0 (pa_cons (pv 0) (pa_cons (pe_callB call_len (by rfl) T.len boot_len (pa_cons (pv 1) pa_nil)) pa_nil))) (fun _ _ => rfl))), ?_⟩
    refine ⟨_, rfl, _, rfl, _, rfl, .ref a, _, rfl, .inl ⟨_, SqL.of ha, rfl⟩, r, q, t, _, rfl, R, ht, (by rw [List.length_map]; omega), (by rw [List.length_map]; omega), fun v H2 b2 R2 hv1 hv2 => ?_⟩
    rw [List.length_map] at hv2
    have hlt : v.toNat < xs.length := by omega
    refine ⟨a, _, v, .int (xs[v.toNat]'hlt), rfl, rfl, SqL.of (b2 _ _ ha har), at_of (j := v.toNat) (by omega) (by rw [List.getElem?_map, List.getElem?_eq_getElem hlt]; rfl), ?_⟩
    exact k _ H2 (List.getElem_mem _) b2 R2
theorem b_pick (F : FnP K "_law_pick" sLPick f fd) : Binds K fd ["_law_ribbon_here", "_law_some"] [] := F.bindsN fun _ _ _ _ _ _ us hl => match us, hl with | [_, _], _ => rfl
/-! ### _law_rules -/
def spLRules (P : Program) (w : World) : Sp := fun vs H Q _ => ∃ (r q : Addr) (t m : Nat), vs = [.ref r, .int m] ∧ Rib H r q t ∧ t + 400 < 100000 ∧ 1 ≤ m ∧ m ≤ 12 ∧ ∀ d H' es, But r H H' → Rib H' r q (t + 400) → H d = none → RulesOk P w H' d es m → Q (.ref d) H'
abbrev nLRules : List Str := ["_law_ribbon_here", "_law_worths", "_law_found", "_law_left", "_law_own"]
theorem scLRules : FnScope nLRules ["_law_ribbon_here", "_law_worths"] (defScope sLRules) := ⟨rfl, rfl, rfl, by decide +kernel, rfl, by decide +kernel, by decide +kernel⟩
theorem ok_lRules (F : FnP K "_law_rules" sLRules f fd) (T : Tx K mg) (G : FnP K "_law_snip" sLSnip g gd) (mG : mg "_law_snip" = some (.ref g)) (OG : FnOk P w K mg base CX0 1 g gd ["_law_ribbon_here", "_law_many"] spSnip) :
    FnOk P w K mg base CX0 2 f fd ["_law_ribbon_here", "_law_worths"] (spLRules P w) := by
  refine okD F scLRules (fun vs H Q E h => ?_) (fun cdv A outer s H vs Q E hr h => ?_)
  · obtain ⟨r, q, t, m, rfl, _⟩ := h
    rfl
  · obtain ⟨r, q, t, m, rfl, R, ht, hm1, hm2, k⟩ := h
    refine ⟨_, pss_cons (ps_set (i := 2) scLRules.nd rfl (Or.inl rfl) pe_ndNew)
      (pss_cons (ps_for PassesOwn.never rfl (pi_list (pe_op op_cat (pe_lst (pa_cons pe_non pa_nil)) (pe_listRg rfl (by rfl) T.list (prg_1 (by rfl) T.range (pv 1))))) (pg_name (i := 3) scLRules.nd rfl (Or.inl rfl))
        (pss_one (ps_for PassesOwn.never rfl (pi_range1 (by rfl) T.range (pa_cons (pv 1) pa_nil)) (pg_name (i := 4) scLRules.nd rfl (Or.inl rfl))
          (pss_one (ps_if (pt_cmp (pc_gt (pe_call OG hr rfl mG G.kp (b_snip G) .nil pass0 (pa_cons (pv 0) (pa_cons pe_int pa_nil))) pe_int) rfl)
            (pss_one (ps_ndPut (hu1 hr) (pv 2) (pe_tup (pa_cons (pv 3) (pa_cons (pv 4) pa_nil))) (pe_call OG hr rfl mG G.kp (b_snip G) .nil pass0 (pa_cons (pv 0) (pa_cons (pv 1) pa_nil))))) pss_nil)))))
      (pss_one (ps_ret (pv 2)))), ?_⟩
    refine fun d hd => ?_
    have s0 : Same H (upd H d (nd P w d [])) := Same.put hd
    refine ⟨(by show 1 ≤ sizeLine; decide), fun a na => ⟨_, rfl, m, rfl, RgOk.of_le (by omega) (by omega) (by omega) (by omega), fun b nb => ⟨a, b, [.non], rgV 0 m, rfl, rfl, Same.put nb _ _ upd_same, upd_same, (by rw [rgV_length]; exact Nat.le_of_lt (small1000 (by show 1 + _ ≤ 1000; omega))), fun c nc => ?_⟩⟩⟩
    have s1 := ((s0.trans (Same.put (o := .lst [.non]) na)).trans (Same.put (o := .lst (rgV 0 m)) nb)).trans (Same.put (o := .lst ([.non] ++ rgV 0 m)) nc)
    have d1 : ND P w (upd H d (nd P w d [])) d [] := ⟨upd_same, fun e he => nomatch he⟩
    have d2 := d1.same (((Same.put (o := .lst [.non]) na).trans (Same.put (o := .lst (rgV 0 m)) nb)).trans (Same.put (o := .lst ([.non] ++ rgV 0 m)) nc))
    rw [rg_lefts] at s1 d2 ⊢
    obtain ⟨ls, els, hls, hin⟩ : ∃ ls : List (Option Int), ls = (none :: (List.range m).map fun i => (some ((i : Nat) : Int))) ∧ ls.length = m + 1 ∧ ∀ l ∈ ls, ∀ i, l = some i → 0 ≤ i ∧ i < m := by
      refine ⟨_, rfl, by simp, fun l hl i e => ?_⟩
      rcases List.mem_cons.mp hl with rfl | hl
      · cases e
      · obtain ⟨j, hj, rfl⟩ := List.mem_map.mp hl
        cases e
        have := List.mem_range.mp hj
        omega
    rw [← els] at s1 d2 ⊢
    refine ⟨c, rfl, ⟨_, SqL.of upd_same⟩, ?_⟩
    refine for_list (K := K) (a := c) (xs := ls.map oV) (fun i σ H2 => ∃ es z1 z2, But r H H2 ∧ Rib H2 r q (t + 24 * i) ∧ ND P w H2 d es ∧ FitE m es ∧ es.length ≤ 12 * i ∧ H2 c = some (.lst (ls.map oV)) ∧ σ = [some (.ref r), some (.int m), some (.ref d), z1, z2])
      ⟨[], none, none, But.same s1, R.same s1, d2, ⟨(fun e he => nomatch he), .nil⟩, Nat.le_refl _, upd_same, rfl⟩ (fun i σ H2 _ ⟨_, _, _, _, _, _, _, _, h, _⟩ => SqL.of h) ?_ ?_
    · rintro i x σ H2 hi ⟨es, z1, z2, b2, R2, D2, F2, l2, hc2, rfl⟩
      rw [List.getElem?_map] at hi
      obtain ⟨l, hl, rfl⟩ : ∃ l, ls[i]? = some l ∧ oV l = x := by
        cases e : ls[i]? with
        | none => rw [e] at hi; cases hi
        | some l => rw [e] at hi; exact ⟨l, rfl, Option.some.inj hi⟩
      have hil := (List.getElem?_eq_some_iff.mp hl).1
      have hl2 := hin l (List.mem_of_getElem? hl)
      refine ⟨_, rfl, m, rfl, by omega, by omega, ?_⟩
      rw [Int.toNat_natCast]
      refine for_range (lo := 0) (n := m) (fun j σ H3 => ∃ es z2, But r H H3 ∧ Rib H3 r q (t + 24 * i + 2 * j) ∧ ND P w H3 d es ∧ FitE m es ∧ es.length ≤ 12 * i + j ∧ H3 c = some (.lst (ls.map oV)) ∧ σ = [some (.ref r), some (.int m), some (.ref d), some (oV l), z2])
        ⟨es, z2, b2, R2, D2, F2, l2, hc2, rfl⟩ ?_ ?_
      · rintro j σ H3 hj ⟨es, z2, b3, R3, D3, F3, l3, hc3, rfl⟩
        refine ⟨_, rfl, r, q, _, 5, rfl, R3, by omega, by omega, by omega, fun v H4 b4 R4 hv1 hv2 => ⟨v, 0, rfl, rfl, _, rfl, ?_⟩⟩
        have D4 := D3.butR R3 b4
        have hc4 : H4 c = some (.lst (ls.map oV)) := b4 _ _ hc3 (R3.ne hc3 fun q u l z => by rw [els] at z; injection z with z; injection z with z; cases z)
        by_cases hv : v > 0
        · refine iteTb (decide_eq_true hv) ?_
          refine ⟨_, rfl, _, rfl, r, q, _, m, rfl, R4, by omega, by omega, by omega, fun v2 H5 b5 R5 hw1 hw2 => ?_⟩
          have D5 := D4.butR R4 b5
          have hc5 : H5 c = some (.lst (ls.map oV)) := b5 _ _ hc4 (R4.ne hc4 fun q u l z => by rw [els] at z; injection z with z; injection z with z; cases z)
          refine ⟨_, rfl, _, rfl, _, rfl, (by show 2 ≤ sizeLine; decide), fun p np => ?_⟩
          have s6 : Same H5 (upd H5 p (.tup [oV l, .int (0 + (j : Int))])) := Same.put np
          have D6 := D5.same s6
          have hk : upd H5 p (.tup [oV l, .int (0 + (j : Int))]) p = some (.tup (keyV (l, 0 + (j : Int)))) := upd_same
          have b6 : But r H (upd H5 p (.tup [oV l, .int (0 + (j : Int))])) := ((b3.trans b4).trans b5).trans (But.same s6)
          refine ⟨d, es, (l, 0 + (j : Int)), p, v2, rfl, rfl, rfl, D6, hk, small1000 (by omega), ?_⟩
          refine ⟨_, _, b6.put hd, ((R5.same s6).mono (by omega)).put D6.at_ (fun xs z => nomatch z), D6.put hk v2, F3.put ⟨fun i e => hl2 i e, by show 0 ≤ 0 + (j : Int) ∧ 0 + (j : Int) < m; omega⟩ p ⟨hw1, hw2⟩, Nat.le_trans (putE_len _ _ _ _) (by omega), ?_, rfl⟩
          rw [upd_ne (ne_of (s6 _ _ hc5) D6.at_ fun z => nomatch z)]
          exact s6 _ _ hc5
        · refine iteFb (decide_eq_false hv) ?_
          exact ⟨es, _, b3.trans b4, R4.mono (by omega), D4, F3, by omega, hc4, rfl⟩
      · rintro σ H3 ⟨es, z2, b3, R3, D3, F3, l3, hc3, rfl⟩
        exact ⟨es, _, _, b3, R3.mono (by omega), D3, F3, by omega, hc3, rfl⟩
    · rintro σ H2 ⟨es, z1, z2, b2, R2, D2, F2, l2, hc2, rfl⟩
      rw [List.length_map, hls] at l2 R2
      exact ⟨_, rfl, k d H2 es b2 (R2.mono (by omega)) hd ⟨D2, fun e he => (F2.1 e he).1, fun e he => (F2.1 e he).2, F2.2, by omega⟩⟩
theorem b_lRules (F : FnP K "_law_rules" sLRules f fd) : Binds K fd ["_law_ribbon_here", "_law_worths"] [] := F.bindsN fun _ _ _ _ _ _ us hl => match us, hl with | [_, _], _ => rfl
end
end BW
namespace BW
open PySem PySem.Spec PyProof.Rows L2
/-- a row as drawn: letters, worths, rules, what says yes -/
structure Drawn (P : Program) (w : World) (H : Hp) (p : Addr) (n m : Int) (es : List Ent) (ys : List Int) : Prop where
  ex : ∃ d y, H p = some (.tup [.int n, .int m, .ref d, .ref y]) ∧ RulesOk P w H d es m ∧ H y = some (.lst (ys.map V.int))
  bn : 1 ≤ n ∧ n ≤ 6
  bm : n ≤ m ∧ m ≤ 12
  yin : ∀ y ∈ ys, 0 ≤ y ∧ y < m
  yd : ys.Nodup
  yz : ys.length ≤ 60
theorem Drawn.same {P : Program} {w : World} {H H' : Hp} {p : Addr} {n m : Int} {es : List Ent} {ys : List Int} (d : Drawn P w H p n m es ys) (s : Same H H') : Drawn P w H' p n m es ys := by
  obtain ⟨⟨a, y, h1, h2, h3⟩, r1, r2, r3, r4, r5⟩ := d
  exact ⟨⟨a, y, s _ _ h1, h2.same s, s _ _ h3⟩, r1, r2, r3, r4, r5⟩
theorem Drawn.butR {P : Program} {w : World} {H H' : Hp} {p r q : Addr} {t : Nat} {n m : Int} {es : List Ent} {ys : List Int} (d : Drawn P w H p n m es ys) (R : Rib H r q t) (s : But r H H') : Drawn P w H' p n m es ys := by
  obtain ⟨⟨a, y, h1, h2, h3⟩, r1, r2, r3, r4, r5⟩ := d
  exact ⟨⟨a, y, s _ _ h1 (R.ne h1 fun _ _ _ z => nomatch z), ⟨h2.at_.butR R s, h2.key, h2.val, h2.dif, h2.few⟩, s _ _ h3 (R.ne h3 fun _ _ _ => ints_ne (cs := ys))⟩, r1, r2, r3, r4, r5⟩
theorem Rib.fresh {H : Hp} {r q a : Addr} {t : Nat} (R : Rib H r q t) (h : H a = none) : a ≠ r := fun z => by
  obtain ⟨u, l, h1⟩ := R.top
  rw [z, h1] at h
  cases h
theorem Rib.fresh2 {H : Hp} {r q a : Addr} {t : Nat} (R : Rib H r q t) (h : H a = none) : a ≠ q := fun z => by
  obtain ⟨u, l, cs, _, h1, _⟩ := R
  rw [z, h1] at h
  cases h
theorem But.free {r a : Addr} {H H' : Hp} (b : But r H H') (h : H' a = none) (n : a ≠ r) : H a = none := by
  cases e : H a with
  | none => rfl
  | some o => rw [b _ _ e n] at h; cases h
theorem snoc_map {α β : Type} (f : α → β) (xs : List α) (x : α) : xs.map f ++ [f x] = (xs ++ [x]).map f := by
  rw [List.map_append]
  rfl
section
variable {P : Program} {w : World} {K : PySem.W.Frag} {mg : Str → Option Value} {base : Heap} {f g g2 g3 g4 : Addr} {fd gd gd2 gd3 gd4 : FuncData}
/-! ### _law_row -/
def spRow (P : Program) (w : World) : Sp := fun vs H Q _ => ∃ (r q : Addr) (t : Nat), vs = [.ref r] ∧ Rib H r q t ∧ t + 500 < 100000 ∧ ∀ p H' n m es ys, But r H H' → Rib H' r q (t + 500) → H p = none → Drawn P w H' p n m es ys → Q (.ref p) H'
abbrev nRow : List Str := ["_law_ribbon_here", "_law_letters", "_law_worths", "_law_yes", "_law_worth"]
theorem scRow : FnScope nRow ["_law_ribbon_here"] (defScope sLRow) := ⟨rfl, rfl, rfl, by decide +kernel, rfl, by decide +kernel, by decide +kernel⟩
theorem ok_row (F : FnP K "_law_row" sLRow f fd) (T : Tx K mg) (G : FnP K "_law_snip" sLSnip g gd) (mG : mg "_law_snip" = some (.ref g)) (OG : FnOk P w K mg base CX0 1 g gd ["_law_ribbon_here", "_law_many"] spSnip)
    (G2 : FnP K "_law_pick" sLPick g2 gd2) (m2 : mg "_law_pick" = some (.ref g2)) (O2 : FnOk P w K mg base CX0 2 g2 gd2 ["_law_ribbon_here", "_law_some"] spPick)
    (G3 : FnP K "_law_rules" sLRules g3 gd3) (m3 : mg "_law_rules" = some (.ref g3)) (O3 : FnOk P w K mg base CX0 2 g3 gd3 ["_law_ribbon_here", "_law_worths"] (spLRules P w)) : FnOk P w K mg base CX0 3 f fd ["_law_ribbon_here"] (spRow P w) := by
  refine okD F scRow (fun vs H Q E h => ?_) (fun cdv A outer s H vs Q E hr h => ?_)
  · obtain ⟨r, q, t, rfl, _⟩ := h
    rfl
  · obtain ⟨r, q, t, rfl, R, ht, k⟩ := h
    refine ⟨_, pss_cons (ps_set (i := 1) scRow.nd rfl (Or.inl rfl) (pe_call O2 hr rfl m2 G2.kp (b_pick G2) .nil pass0 (pa_cons (pv 0) (pa_cons (pe_lst (pa_cons pe_int (pa_cons pe_int (pa_cons pe_int (pa_cons pe_int (pa_cons pe_int (pa_cons pe_int pa_nil))))))) pa_nil))))
      (pss_cons (ps_set (i := 2) scRow.nd rfl (Or.inl rfl) (pe_ifExp (pt_cmpR op_eq (pv 1) pe_int (nomark _)) pe_int (pe_op op_add (pv 1) (pe_call OG (hr.mono (by decide)) rfl mG G.kp (b_snip G) .nil pass0 (pa_cons (pv 0) (pa_cons pe_int pa_nil))))))
      (pss_cons (ps_setLc (i := 3) (own := [("_law_worth", 4)]) (g := gName 4) rfl scRow.nd rfl rfl (sw_true rfl rfl rfl rfl) (pi_range1 (by rfl) T.range (pa_cons (pv 2) pa_nil)) (blkOk_by (N := nRow) (sc := defScope sLRow) (by decide +kernel))
        (fun _ _ _ _ _ => pg_name (i := 4) scRow.nd rfl (Or.inl rfl)) (fun _ _ _ _ _ => pts_one (pt_cmpR op_eq (pe_call OG (hr.mono (by decide)) rfl mG G.kp (b_snip G) .nil pass0 (pa_cons (pv 0) (pa_cons pe_int pa_nil))) pe_int (nomark _))) (fun _ _ _ _ _ => pv 4))
      (pss_one (ps_ret (pe_tup (pa_cons (pv 1) (pa_cons (pv 2) (pa_cons (pe_call O3 hr rfl m3 G3.kp (b_lRules G3) .nil pass0 (pa_cons (pv 0) (pa_cons (pv 2) pa_nil))) (pa_cons (pv 3) pa_nil))))))))), ?_⟩
    refine ⟨_, rfl, (by show 6 ≤ sizeLine; decide), fun a na => ⟨r, q, a, t, [2, 2, 3, 1, 2, 6], rfl, R.same (Same.put na), by omega, upd_same, by decide, by decide, fun n H1 hn b1 R1 => ?_⟩⟩
    have b1 : But r H H1 := (But.same (Same.put na)).trans b1
    have hn1 : (1 ≤ n ∧ n ≤ 3) ∨ n = 6 := by
      simp only [List.mem_cons, List.not_mem_nil, or_false] at hn
      omega
    refine ⟨_, rfl, rfl, _, rfl, ?_⟩
    by_cases h6 : n = 6
    case' pos =>
      refine iteTb (decide_eq_true (congrArg V.int h6)) ?_
      let m : Int := 12
      have hm : n ≤ m ∧ m ≤ 12 := ⟨by show n ≤ 12; omega, Int.le_refl _⟩
      have b2 := b1
      have R2 : Rib H1 r q (t + 2) := R1.mono (by omega)
    case' neg =>
      refine iteFb (decide_eq_false fun z => h6 (V.int.inj z)) ?_
      refine ⟨_, rfl, _, rfl, r, q, _, 4, rfl, R1, by omega, by omega, by omega, fun v H2 b2 R2 hv1 hv2 => ⟨_, _, rfl, rfl, ?_⟩⟩
      let m : Int := n + v
      have hm : n ≤ m ∧ m ≤ 12 := ⟨by show n ≤ n + v; omega, by show n + v ≤ 12; omega⟩
      have b2 := b1.trans b2
      have R2 := R2
    all_goals
      have hm0 : 1 ≤ m := by omega
      refine ⟨_, rfl, m, rfl, by omega, by omega, fun D nD => ?_⟩
      have hDr : D ≠ r := R2.fresh nD
      have hDq : D ≠ q := R2.fresh2 nD
      have hD0 := b2.free nD hDr
      refine lc_range (lo := 0) (n := m.toNat) (fun i H3 => ∃ acc : List Int, But r H H3 ∧ Rib H3 r q (t + 2 + i) ∧ H3 D = some (.lst (acc.map V.int)) ∧ (∀ y ∈ acc, 0 ≤ y ∧ y < i) ∧ acc.Nodup ∧ acc.length ≤ i)
        ⟨[], b2.trans (But.same (Same.put nD)), R2.same (Same.put nD), upd_same, (fun y hy => nomatch hy), .nil, Nat.le_refl _⟩ ?_ ?_
      · rintro i H3 hi ⟨acc, b3, R3, D3, ain, ad, al⟩
        refine ⟨rfl, _, rfl, r, q, _, 2, rfl, R3, by omega, by omega, by omega, fun v H4 b4 R4 hv1 hv2 => ⟨rfl, _, rfl, ?_⟩⟩
        have D4 := b4 _ _ D3 hDr
        by_cases hv : v = 0
        · refine iteTb (decide_eq_true (congrArg V.int hv)) ?_
          refine ⟨_, rfl, _, D4, by rw [List.length_map]; exact small1000 (by omega), acc ++ [0 + (i : Int)], (b3.trans b4).put hD0, (R4.mono (by omega)).putL hDr hDq, by rw [upd_same, ← snoc_map], fun y hy => ?_, ?_, ?_⟩
          · rcases List.mem_append.mp hy with hy | hy
            · have := ain y hy
              omega
            · have : y = 0 + (i : Int) := List.mem_singleton.mp hy
              omega
          · rw [List.nodup_append]
            refine ⟨ad, by simp, fun x hx y hy z => ?_⟩
            have h1 := ain x hx
            have h2 : y = 0 + (i : Int) := List.mem_singleton.mp hy
            omega
          · rw [List.length_append, List.length_singleton]
            omega
        · refine iteFb (decide_eq_false fun z => hv (V.int.inj z)) ?_
          exact ⟨acc, b3.trans b4, R4.mono (by omega), D4, fun y hy => by have := ain y hy; omega, ad, by omega⟩
      · rintro H3 ⟨acc, b3, R3, D3, ain, ad, al⟩
        have eM : (m : Int) = ((m.toNat : Nat) : Int) := by omega
        refine ⟨_, rfl, _, rfl, _, rfl, _, rfl, r, q, _, m.toNat, congrArg (fun z : Int => [V.ref r, V.int z]) eM, R3, by omega, by omega, by omega, fun d H4 es b4 R4 hd RO => ?_⟩
        rw [← eM] at RO
        refine ⟨_, rfl, (by show 4 ≤ sizeLine; decide), fun p np => ?_⟩
        have b34 := b3.trans b4
        have hpr : p ≠ r := R4.fresh np
        exact k p _ n m es acc (b34.trans (But.same (Same.put np))) ((R4.same (Same.put np)).mono (by omega)) (b34.free np hpr)
          ⟨⟨d, D, upd_same, RO.same (Same.put np), Same.put np _ _ (b4 _ _ D3 hDr)⟩, by omega, hm, fun y hy => by have := ain y hy; omega, ad, by omega⟩
theorem b_row (F : FnP K "_law_row" sLRow f fd) : Binds K fd ["_law_ribbon_here"] [] := F.bindsN fun _ _ _ _ _ _ us hl => match us, hl with | [_], _ => rfl
/-! ### _law_word -/
def spLWord : Sp := fun vs H Q _ => ∃ (r q : Addr) (t c : Nat) (n : Int), vs = [.ref r, .int n, .int c] ∧ Rib H r q t ∧ t + 200 < 100000 ∧ 1 ≤ n ∧ n ≤ 6 ∧ c ≤ 100 ∧ ∀ a H' (ns : List Int), But r H H' → Rib H' r q (t + 100) → H a = none → H' a = some (.lst (ns.map V.int)) → ns.length = c → (∀ x ∈ ns, 0 ≤ x ∧ x < n) → Q (.ref a) H'
abbrev nLWord : List Str := ["_law_ribbon_here", "_law_letters", "_law_many", "_law_at"]
theorem scLWord : FnScope nLWord ["_law_ribbon_here", "_law_letters", "_law_many"] (defScope sLWord) := ⟨rfl, rfl, rfl, by decide +kernel, rfl, by decide +kernel, by decide +kernel⟩
theorem ok_lWord (F : FnP K "_law_word" sLWord f fd) (T : Tx K mg) (G : FnP K "_law_snip" sLSnip g gd) (mG : mg "_law_snip" = some (.ref g)) (OG : FnOk P w K mg base CX0 1 g gd ["_law_ribbon_here", "_law_many"] spSnip) :
    FnOk P w K mg base CX0 2 f fd ["_law_ribbon_here", "_law_letters", "_law_many"] spLWord := by
  refine okD F scLWord (fun vs H Q E h => ?_) (fun cdv A outer s H vs Q E hr h => ?_)
  · obtain ⟨r, q, t, c, n, rfl, _⟩ := h
    rfl
  · obtain ⟨r, q, t, c, n, rfl, R, ht, hn1, hn2, hc, k⟩ := h
    refine ⟨_, pss_one (ps_ret (pe_lc (own := [("_law_at", 3)]) (g := gName 3) (tt := tYes) rfl scLWord.nd (pi_range1 (by rfl) T.range (pa_cons (pv 2) pa_nil)) (blkOk_by (N := nLWord) (sc := defScope sLWord) (by decide +kernel))
      (fun _ _ _ _ _ => pg_name (i := 3) scLWord.nd rfl (Or.inl rfl)) (fun _ _ _ _ _ => pts_nil) (fun _ _ _ _ _ => pe_call OG hr rfl mG G.kp (b_snip G) .nil pass0 (pa_cons (pv 0) (pa_cons (pv 1) pa_nil))))), ?_⟩
    refine ⟨_, rfl, c, rfl, by omega, by omega, fun D nD => ?_⟩
    rw [Int.toNat_natCast]
    have hDr : D ≠ r := R.fresh nD
    have hDq : D ≠ q := R.fresh2 nD
    refine lc_range (lo := 0) (n := c) (fun i H3 => ∃ acc : List Int, But r H H3 ∧ Rib H3 r q (t + i) ∧ H3 D = some (.lst (acc.map V.int)) ∧ (∀ y ∈ acc, 0 ≤ y ∧ y < n) ∧ acc.length = i)
      ⟨[], But.same (Same.put nD), R.same (Same.put nD), upd_same, (fun y hy => nomatch hy), rfl⟩ ?_ ?_
    · rintro i H3 hi ⟨acc, b3, R3, D3, ain, al⟩
      refine ⟨rfl, _, rfl, _, rfl, r, q, _, n, rfl, R3, by omega, by omega, by omega, fun v H4 b4 R4 hv1 hv2 => ?_⟩
      refine ⟨_, b4 _ _ D3 hDr, by rw [List.length_map]; exact small1000 (by omega), acc ++ [v], (b3.trans b4).put nD, R4.putL hDr hDq, by rw [upd_same, ← snoc_map], fun y hy => ?_, by rw [List.length_append, al]; rfl⟩
      rcases List.mem_append.mp hy with hy | hy
      · exact ain y hy
      · rw [List.mem_singleton.mp hy]
        exact ⟨hv1, hv2⟩
    · rintro H3 ⟨acc, b3, R3, D3, ain, al⟩
      exact k D H3 acc b3 (R3.mono (by omega)) nD D3 al ain
theorem b_lWord (F : FnP K "_law_word" sLWord f fd) : Binds K fd ["_law_ribbon_here", "_law_letters", "_law_many"] [] := F.bindsN fun _ _ _ _ _ _ us hl => match us, hl with | [_, _, _], _ => rfl
/-! ### _law_table -/
def spLTable (P : Program) (w : World) (K : PySem.W.Frag) : Sp := fun vs H Q _ => ∃ (p : Addr) (n m : Int) (es : List Ent) (ys : List Int), vs = [.ref p] ∧ Drawn P w H p n m es ys ∧ ∀ x H' ys', Same H H' → H x = none → TabAt P w K H' x n (ruleF es) ys' → List.Perm ys' ys → Q (.ref x) H'
abbrev nLTable : List Str := ["_law_drawn", "_law_letters", "_law_worths", "_law_rules_here", "_law_yes"]
theorem scLTable : FnScope nLTable ["_law_drawn"] (defScope sLTable) := ⟨rfl, rfl, rfl, by decide +kernel, rfl, by decide +kernel, by decide +kernel⟩
theorem ok_lTable (F : FnP K "_law_table" sLTable f fd) (T : Tx K mg) (M : Mk K (cT K) g) (G : FnM K "__init__" "Table.__init__" sTInit g gd) (OG : FnOk P w K mg base CX0 5 g gd nTInit (spTInit P w K)) : FnOk P w K mg base CX0 7 f fd ["_law_drawn"] (spLTable P w K) := by
  refine okD F scLTable (fun vs H Q E h => ?_) (fun cdv A outer s H vs Q E hr h => ?_)
  · obtain ⟨p, n, m, es, ys, rfl, _⟩ := h
    rfl
  · obtain ⟨p, n, m, es, ys, rfl, D, k⟩ := h
    obtain ⟨⟨d, y, hp, RO, hy⟩, bn, bm, yin, yd, yz⟩ := D
    refine ⟨_, pss_cons (ps_asg (pv 0) (pg_tup rfl (pgs_cons (pg_name (i := 1) scLTable.nd rfl (Or.inl rfl)) (pgs_cons (pg_name (i := 2) scLTable.nd rfl (Or.inl rfl)) (pgs_cons (pg_name (i := 3) scLTable.nd rfl (Or.inl rfl)) (pgs_cons (pg_name (i := 4) scLTable.nd rfl (Or.inl rfl)) pgs_nil))))))
      (pss_one (ps_ret (pe_make M OG hr rfl T.gT (b_tInit G) .nil pass0 (pa_cons pe_int (pa_cons (pv 1) (pa_cons (pv 2) (pa_cons (pv 3) (pa_cons (pv 4) pa_nil)))))))), ?_⟩
    refine ⟨_, rfl, p, _, rfl, SqT.of hp, rfl, _, _, rfl, _, _, rfl, _, _, rfl, _, _, rfl, rfl, ?_⟩
    refine ⟨_, rfl, _, rfl, _, rfl, _, rfl, fun x dx nx ndx hne => ?_⟩
    have s1 : Same H (upd (upd H dx (.own x)) x (.ins (cT K) dx [])) := (Same.put ndx).trans (Same.put (by rw [upd_ne hne.symm]; exact nx))
    refine ⟨x, dx, d, y, n, m, es, ys, rfl, upd_same, bn, bm, RO.same s1, s1 _ _ hy, yin, yd, yz, fun H' ys' b2 hpm TA => ⟨rfl, ?_⟩⟩
    exact k x H' ys' (fun b o e => b2 b o (s1 b o e) (fun z => by rw [z, nx] at e; cases e)) nx TA hpm
theorem b_lTable (F : FnP K "_law_table" sLTable f fd) : Binds K fd ["_law_drawn"] [] := F.bindsN fun _ _ _ _ _ _ us hl => match us, hl with | [_], _ => rfl
/-! ### _law_next -/
def spLNext (P : Program) (w : World) : Sp := fun vs H Q _ => ∃ (p : Addr) (n m : Int) (es : List Ent) (ys : List Int) (l : Option Int) (o : Int), vs = [.ref p, oV l, .int o] ∧ Drawn P w H p n m es ys ∧ ∀ H', Same H H' → Q (.int (ruleF es l o)) H'
theorem scLNext : FnScope ["_law_drawn", "_law_left", "_law_own"] ["_law_drawn", "_law_left", "_law_own"] (defScope sLNext) := ⟨rfl, rfl, rfl, by decide +kernel, rfl, by decide +kernel, by decide +kernel⟩
theorem ok_lNext (F : FnP K "_law_next" sLNext f fd) : FnOk P w K mg base CX0 1 f fd ["_law_drawn", "_law_left", "_law_own"] (spLNext P w) := by
  refine okD F scLNext (fun vs H Q E h => ?_) (fun cdv A outer s H vs Q E hr h => ?_)
  · obtain ⟨p, n, m, es, ys, l, o, rfl, _⟩ := h
    rfl
  · obtain ⟨p, n, m, es, ys, l, o, rfl, D, k⟩ := h
    obtain ⟨⟨d, y, hp, RO, hy⟩, bn, bm, yin, yd, yz⟩ := D
    refine ⟨_, pss_one (ps_ret (pe_ndGet (hu1 hr) (pe_ix ix_tup (pv 0) pe_int (fun _ _ => rfl)) (pe_tup (pa_cons (pv 1) (pa_cons (pv 2) pa_nil))) (pv 2) ⟨rfl, rfl, rfl, rfl⟩)), ?_⟩
    refine ⟨_, rfl, p, _, 2, .ref d, rfl, rfl, SqT.of hp, rfl, d, es, rfl, RO.at_, _, rfl, _, rfl, (by show 2 ≤ sizeLine; decide), fun b nb => ⟨_, rfl, (l, o), b, rfl, RO.at_.same (Same.put nb), upd_same, ?_⟩⟩
    have e : ((lookE es (l, o)).map V.int).getD (.int o) = .int (ruleF es l o) := by
      unfold ruleF
      cases lookE es (l, o) <;> rfl
    rw [e]
    exact k _ (Same.put nb)
theorem b_lNext (F : FnP K "_law_next" sLNext f fd) : Binds K fd ["_law_drawn", "_law_left", "_law_own"] [] := F.bindsN fun _ _ _ _ _ _ us hl => match us, hl with | [_, _, _], _ => rfl
end
end BW
namespace BW
open PySem PySem.Spec PyProof.Rows L2
section
variable {P : Program} {w : World} {K : PySem.W.Frag} {mg : Str → Option Value} {base : Heap} {f g g2 g3 g4 : Addr} {fd gd gd2 gd3 gd4 : FuncData}
/-! ### _law_strip -/
abbrev lets (ns : List Int) : Nat → Int := fun i => ns.getD i 0
def spStrip (P : Program) (w : World) : Sp := fun vs H Q _ => ∃ (p a : Addr) (t : Nat) (n m : Int) (es : List Ent) (ys ns : List Int), vs = [.ref p, .ref a, .int t] ∧ Drawn P w H p n m es ys ∧ H a = some (.lst (ns.map V.int)) ∧ ns.length ≤ 100 ∧ t ≤ 100 ∧
  ∀ z H' (rows : List Addr) (last : Addr), Same H H' → H z = none → H' z = some (.lst (rows.map V.ref ++ [.ref last])) → H' last = some (.lst ((rowW (ruleF es) (lets ns) ns.length t).map V.int)) → Q (.ref z) H'
abbrev nStrip : List Str := ["_law_drawn", "_law_word_here", "_law_ticks", "_law_found", "_law_tick", "_law_row_here", "_law_at", "_law_own"]
theorem scStrip : FnScope nStrip ["_law_drawn", "_law_word_here", "_law_ticks"] (defScope sLStrip) := ⟨rfl, rfl, rfl, by decide +kernel, rfl, by decide +kernel, by decide +kernel⟩
theorem row_zero (f : Fn) (ns : List Int) : rowW f (lets ns) ns.length 0 = ns := by
  refine List.ext_getElem? fun i => ?_
  by_cases h : i < ns.length
  · rw [rowW_get h, List.getElem?_eq_getElem h]
    show some (ns.getD i 0) = _
    rw [List.getD_eq_getElem?_getD, List.getElem?_eq_getElem h]
    rfl
  · rw [List.getElem?_eq_none (by rw [rowW_length]; omega), List.getElem?_eq_none (by omega)]
theorem row_int {f : Fn} {l : Nat → Int} {m s i : Nat} (h : i < m) : ((rowW f l m s).map V.int)[i]? = some (.int (BW.w f l s i)) := by
  rw [List.getElem?_map, rowW_get h]
  rfl
theorem ok_strip (F : FnP K "_law_strip" sLStrip f fd) (T : Tx K mg) (G : FnP K "_law_next" sLNext g gd) (mG : mg "_law_next" = some (.ref g)) (OG : FnOk P w K mg base CX0 1 g gd ["_law_drawn", "_law_left", "_law_own"] (spLNext P w)) :
    FnOk P w K mg base CX0 2 f fd ["_law_drawn", "_law_word_here", "_law_ticks"] (spStrip P w) := by
  refine okD F scStrip (fun vs H Q E h => ?_) (fun cdv A outer s H vs Q E hr h => ?_)
  · obtain ⟨p, a, t, n, m, es, ys, ns, rfl, _⟩ := h
    rfl
  · obtain ⟨p, a, t, n, m, es, ys, ns, rfl, D, ha, hns, ht, k⟩ := h
    refine ⟨_, pss_cons (ps_set (i := 3) scStrip.nd rfl (Or.inl rfl) (pe_lst (pa_cons (pe_callTy call_list_of (by rfl) T.list (by decide +kernel) (pa_cons (pv 1) pa_nil)) pa_nil)))
      (pss_cons (ps_for PassesOwn.never rfl (pi_range1 (by rfl) T.range (pa_cons (pv 2) pa_nil)) (pg_name (i := 4) scStrip.nd rfl (Or.inl rfl))
        (pss_cons (ps_set (i := 5) scStrip.nd rfl (Or.inr rfl) (pe_ix ix_list (pv 3) (pe_un un_neg pe_int) (fun _ _ => rfl)))
        (pss_one (ps_expr (pe_bm PySem.F.plainAttrs_list PySem.F.slot_list_append PySem.F.type_list_append mt_append (pv 3) (pa_cons
          (pe_lc (own := [("_law_at", 6), ("_law_own", 7)]) (g := gTup K 2 (gCons (gName 6) (gCons (gName 7) gNil))) (tt := tYes) rfl scStrip.nd (pi_enum (by rfl) T.enum (pa_cons (pv 5) pa_nil)) (blkOk_by (N := nStrip) (sc := defScope sLStrip) (by decide +kernel))
            (fun _ _ _ _ _ => pg_tup rfl (pgs_cons (pg_name (i := 6) scStrip.nd rfl (Or.inl rfl)) (pgs_cons (pg_name (i := 7) scStrip.nd rfl (Or.inl rfl)) pgs_nil))) (fun _ _ _ _ _ => pts_nil)
            (fun _ _ _ _ _ => pe_call OG hr rfl mG G.kp (b_lNext G) .nil pass0 (pa_cons (pv 0) (pa_cons (pe_ifExp (pt_cmp (pc_gt (pv 6) pe_int) rfl) (pe_ix (r := rIxL K) ix_list (pv 5) (pe_op op_sub (pv 6) pe_int) (fun _ _ => rfl)) pe_non) (pa_cons (pv 7) pa_nil))))) pa_nil))))))
      (pss_one (ps_ret (pv 3)))), ?_⟩
    refine ⟨_, rfl, a, _, rfl, .inl (SqL.of ha), fun l0 n0 => ⟨(by show 1 ≤ sizeLine; decide), fun z nz => ?_⟩⟩
    have s0 : Same H (upd H l0 (.lst (ns.map V.int))) := Same.put n0
    have s1 := s0.trans (Same.put (o := .lst [.ref l0]) nz)
    have hz : H z = none := s0.free nz
    have l1 : upd (upd H l0 (.lst (ns.map V.int))) z (.lst [.ref l0]) l0 = some (.lst ((rowW (ruleF es) (lets ns) ns.length 0).map V.int)) := by
      rw [row_zero]
      exact Same.put nz _ _ upd_same
    refine ⟨_, rfl, t, rfl, by omega, by omega, ?_⟩
    rw [Int.toNat_natCast]
    refine for_range (lo := 0) (n := t) (fun i σ H2 => ∃ (rows : List Addr) (last : Addr) (v4 v5 : Option V), Same H H2 ∧ H2 z = some (.lst (rows.map V.ref ++ [.ref last])) ∧ H2 last = some (.lst ((rowW (ruleF es) (lets ns) ns.length i).map V.int)) ∧ rows.length = i ∧
        σ = [some (.ref p), some (.ref a), some (.int t), some (.ref z), v4, v5, none, none]) ⟨[], l0, none, none, s1, upd_same, l1, rfl, rfl⟩ ?_ ?_
    · rintro i σ H2 hi ⟨rows, last, v4, v5, s2, z2, L2, hrl, rfl⟩
      refine ⟨_, rfl, _, rfl, z, _, -1, .ref last, rfl, rfl, SqL.of z2, atI_last _ _, ?_⟩
      refine ⟨_, rfl, .inl ⟨rfl, _, SqL.of z2⟩, _, rfl, last, _, rfl, SqL.of L2, fun E1 nE => ?_⟩
      have hlen : ((rowW (ruleF es) (lets ns) ns.length i).map V.int).length = ns.length := by rw [List.length_map, rowW_length]
      have wk := walk_enum (K := K) (a := last) (xs := (rowW (ruleF es) (lets ns) ns.length i).map V.int)
      rw [hlen] at wk
      refine lc_it wk (fun j H3 => Same H2 H3 ∧ H3 E1 = some (.lst (((rowW (ruleF es) (lets ns) ns.length (i + 1)).map V.int).take j))) ⟨Same.put nE, upd_same⟩ (fun j H3 _ q => SqL.of (q.1 _ _ L2)) ?_ ?_
      · rintro j x H3 H4 hj ⟨s3, e3⟩ ⟨T, x1, x2, rfl, nT, rfl, ex1, ex2⟩
        cases Option.some.inj ex1
        have ex3 : ((rowW (ruleF es) (lets ns) ns.length i).map V.int)[j]? = some x2 := ex2
        rw [row_int hj] at ex3
        cases Option.some.inj ex3
        have s4 : Same H2 (upd H3 T (.tup [.int (j : Int), .int (BW.w (ruleF es) (lets ns) i j)])) := s3.trans (Same.put nT)
        have L4 := s4 _ _ L2
        have e4 : upd H3 T (.tup [.int (j : Int), .int (BW.w (ruleF es) (lets ns) i j)]) E1 = some (.lst (((rowW (ruleF es) (lets ns) ns.length (i + 1)).map V.int).take j)) := Same.put nT _ _ e3
        have fin : ∀ H5, Same (upd H3 T (.tup [.int (j : Int), .int (BW.w (ruleF es) (lets ns) i j)])) H5 → ∃ acc, H5 E1 = some (.lst acc) ∧ acc.length < sizeLine ∧ Same H2 (upd H5 E1 (.lst (acc ++ [.int (ruleF es (lf (ruleF es) (lets ns) i j) (BW.w (ruleF es) (lets ns) i j))]))) ∧
            upd H5 E1 (.lst (acc ++ [.int (ruleF es (lf (ruleF es) (lets ns) i j) (BW.w (ruleF es) (lets ns) i j))])) E1 = some (.lst (((rowW (ruleF es) (lets ns) ns.length (i + 1)).map V.int).take (j + 1))) := by
          intro H5 s5
          refine ⟨_, s5 _ _ e4, by rw [List.length_take, List.length_map, rowW_length]; exact small1000 (by omega), fun b o e => ?_, ?_⟩
          · rw [upd_ne (fun y => by rw [y, nE] at e; cases e)]
            exact s5 _ _ (s4 b o e)
          · rw [upd_same, ← w_succ (ruleF es) (lets ns) i j, take_next (rowW_get hj)]
        refine ⟨T, _, rfl, SqT.of upd_same, rfl, _, _, rfl, _, _, rfl, rfl, rfl, _, rfl, _, rfl, j, 0, rfl, rfl, _, rfl, ?_⟩
        have D4 := (D.same s2).same s4
        cases j with
        | zero =>
          refine iteFb rfl ?_
          exact ⟨_, rfl, p, n, m, es, ys, none, _, rfl, D4, fin⟩
        | succ j =>
          refine iteTb (decide_eq_true (show (((j + 1 : Nat) : Int)) > 0 by omega)) ?_
          refine ⟨_, rfl, _, rfl, _, _, rfl, rfl, last, _, _, .int (BW.w (ruleF es) (lets ns) i j), rfl, rfl, SqL.of L4, at_of (j := j) (by omega) (row_int (by omega)), ?_⟩
          exact ⟨_, rfl, p, n, m, es, ys, some (BW.w (ruleF es) (lets ns) i j), _, rfl, D4, fin⟩
      · rintro H3 ⟨s3, e3⟩
        rw [List.take_of_length_le (by rw [List.length_map, rowW_length]; exact Nat.le_refl _)] at e3
        have nEz : E1 ≠ z := fun y => by rw [y, z2] at nE; cases nE
        refine ⟨z, _, .ref E1, rfl, rfl, s3 _ _ z2, by rw [List.length_append, List.length_map]; exact small1000 (by show rows.length + 1 ≤ 1000; omega), ?_⟩
        refine ⟨rows ++ [last], E1, _, _, fun b o e => ?_, ?_, ?_, by rw [List.length_append, hrl]; rfl, rfl⟩
        · rw [upd_ne (fun y => by rw [y, hz] at e; cases e)]
          exact s3 _ _ (s2 b o e)
        · rw [upd_same, ← snoc_map]
        · rw [upd_ne nEz]
          exact e3
    · rintro σ H2 ⟨rows, last, v4, v5, s2, z2, L2, hrl, rfl⟩
      exact ⟨_, rfl, k z H2 rows last s2 hz z2 L2⟩
theorem b_strip (F : FnP K "_law_strip" sLStrip f fd) : Binds K fd ["_law_drawn", "_law_word_here", "_law_ticks"] [] := F.bindsN fun _ _ _ _ _ _ us hl => match us, hl with | [_, _, _], _ => rfl
end
end BW
namespace BW
open PySem PySem.Spec PyProof.Rows L2
theorem TabAt.butR {P : Program} {w : World} {K : PySem.W.Frag} {H H' : Hp} {a r q : Addr} {t : Nat} {n : Int} {f : Fn} {ys : List Int} (d : TabAt P w K H a n f ys) (R : Rib H r q t) (s : But r H H') : TabAt P w K H' a n f ys := by
  obtain ⟨dx, m, ru, ye, bk, es, h1, h2, h3, h4⟩ := d.ex
  exact ⟨dx, m, ru, ye, bk, es, s _ _ h1 (R.ne h1 fun _ _ _ z => nomatch z), s _ _ h2 (R.ne h2 fun _ _ _ z => nomatch z), h3.butR R s, h4⟩
theorem TwAt.butR {P : Program} {w : World} {K : PySem.W.Frag} {H H' : Hp} {a r q : Addr} {t : Nat} {n : Int} {f : Fn} {ys : List Int} (d : TwAt P w K H a n f ys) (R : Rib H r q t) (s : But r H H') : TwAt P w K H' a n f ys := by
  obtain ⟨dx, x, h1, h2⟩ := d.ex
  exact ⟨dx, x, s _ _ h1 (R.ne h1 fun _ _ _ z => nomatch z), h2.butR R s⟩
theorem ne_same {x y : V} (h : x = y) : (!decide (x = y)) = false := by
  rw [decide_eq_true h]
  rfl
theorem cut_to {ns : List Int} {t : Nat} (h : t < ns.length) : cutV (ns.map V.int) none (some ((t : Int) + 1)) = (ns.take (t + 1)).map V.int := by
  unfold cutV
  rw [HT.sIx_none, show ((t : Int) + 1) = ((t + 1 : Nat) : Int) by omega, HT.sIx_nat, List.drop_zero, Nat.sub_zero, List.length_map, Nat.min_eq_left (by omega), List.map_take]
theorem row_last (f : Fn) (l : Nat → Int) (t s : Nat) : (rowW f l (t + 1) s).map V.int = (rowW f l t s).map V.int ++ [.int (w f l s t)] := by
  unfold rowW
  rw [List.range_succ, List.map_append, List.map_append]
  rfl
theorem saidB_perm {f : Fn} {ys ys' ns : List Int} {t : Nat} (h : List.Perm ys' ys) : saidB f ys' ns t = saidB f ys ns t := by
  unfold saidB
  split
  · rw [Bool.eq_iff_iff, List.contains_iff_mem, List.contains_iff_mem]
    exact h.mem_iff
  · rfl
theorem lets_take {ns : List Int} {t y : Nat} (h : y ≤ t) : lets (ns.take (t + 1)) y = lets ns y := by
  show (ns.take (t + 1)).getD y 0 = ns.getD y 0
  rw [List.getD_eq_getElem?_getD, List.getD_eq_getElem?_getD, List.getElem?_take_of_lt (by omega)]
theorem saidB_on {f : Fn} {ys ns : List Int} {t : Nat} (h : t < ns.length) : ys.contains (w f (lets (ns.take (t + 1))) (2 * t + 1) t) = saidB f ys ns t := by
  unfold saidB
  rw [if_pos h, w_congr f (2 * t + 1) t fun y hy => lets_take hy]
theorem saidB_take {f : Fn} {ys ns : List Int} {t : Nat} (h : t < ns.length) : saidB f ys (ns.take (t + 1)) t = saidB f ys ns t := by
  rw [← saidB_on h]
  unfold saidB
  rw [if_pos (by rw [List.length_take]; omega)]
theorem saidB_off {f : Fn} {ys ns : List Int} {t : Nat} (h : ¬ t < ns.length) : saidB f ys ns t = false := if_neg h
theorem word_take {H : Hp} {p : Addr} {n : Int} {ns : List Int} {t : Nat} (h : H p = some (.lst ((ns.take (t + 1)).map V.int))) (h1 : 1 ≤ ns.length) (h2 : ns.length ≤ 200) (h3 : ∀ x ∈ ns, 0 ≤ x ∧ x < n) : WordAt H p n (ns.take (t + 1)) :=
  ⟨h, by rw [List.length_take]; omega, by rw [List.length_take]; omega, fun x hx => h3 x (List.mem_of_mem_take hx)⟩
section
variable {P : Program} {w : World} {K : PySem.W.Frag} {mg : Str → Option Value} {base : Heap} {f g g1 g2 g3 g4 g5 g6 g7 g8 g9 g10 gs : Addr} {fd gd gd1 gd2 gd3 gd4 gd5 gd6 gd7 gd8 gd9 gd10 gds : FuncData}
/-! ### the law -/
def spLaw (K : PySem.W.Frag) : Sp := fun vs H Q _ => ∃ (a : Addr) (ns : List Int), vs = [.ref a] ∧ SqL K H a (ns.map V.int) ∧ ∀ H', Q (.bl true) H'
abbrev nLaw : List Str := ["_law_script", "_law_ribbon_here", "_law_turn", "_law_drawn", "_law_row_here", "_law_word_here", "_law_tick", "_law_due"]
theorem scLaw : FnScope nLaw ["_law_script"] (defScope sLaw) := ⟨rfl, rfl, rfl, by decide +kernel, rfl, by decide +kernel, by decide +kernel⟩
theorem ok_law (F : FnP K "law" sLaw f fd) (T : Tx K mg) (G1 : FnP K "_law_ribbon" sLRibbon g1 gd1) (m1 : mg "_law_ribbon" = some (.ref g1)) (O1 : FnOk P w K mg base CX0 1 g1 gd1 ["_law_script"] (spRibbon K))
    (G2 : FnP K "_law_row" sLRow g2 gd2) (m2 : mg "_law_row" = some (.ref g2)) (O2 : FnOk P w K mg base CX0 3 g2 gd2 ["_law_ribbon_here"] (spRow P w))
    (M3 : Mk K (cW K) g3) (G3 : FnM K "__init__" "TwoWays.__init__" sWInit g3 gd3) (O3 : FnOk P w K mg base CX0 2 g3 gd3 ["self", "row"] (spWInit P w K))
    (G4 : FnP K "_law_table" sLTable g4 gd4) (m4 : mg "_law_table" = some (.ref g4)) (O4 : FnOk P w K mg base CX0 7 g4 gd4 ["_law_drawn"] (spLTable P w K))
    (G5 : FnP K "_law_word" sLWord g5 gd5) (m5 : mg "_law_word" = some (.ref g5)) (O5 : FnOk P w K mg base CX0 2 g5 gd5 ["_law_ribbon_here", "_law_letters", "_law_many"] spLWord)
    (G6 : FnP K "_law_pick" sLPick g6 gd6) (m6 : mg "_law_pick" = some (.ref g6)) (O6 : FnOk P w K mg base CX0 2 g6 gd6 ["_law_ribbon_here", "_law_some"] spPick)
    (G7 : FnP K "_law_strip" sLStrip g7 gd7) (m7 : mg "_law_strip" = some (.ref g7)) (O7 : FnOk P w K mg base CX0 2 g7 gd7 ["_law_drawn", "_law_word_here", "_law_ticks"] (spStrip P w))
    (G8 : FnP K "told" sTold g8 gd8) (m8 : mg "told" = some (.ref g8)) (O8 : FnOk P w K mg base CX0 8 g8 gd8 ["row", "word"] (spTold P w K))
    (G9 : FnP K "said" sSaid g9 gd9) (m9 : mg "said" = some (.ref g9)) (O9 : FnOk P w K mg base CX0 8 g9 gd9 ["row", "word", "tick"] (spSaid P w K))
    (G10 : FnP K "worth_at" sWorthAt g10 gd10) (m10 : mg "worth_at" = some (.ref g10)) (O10 : FnOk P w K mg base CX0 8 g10 gd10 ["row", "word", "cell", "tick"] (spWorthAt P w K))
    (GS : FnM K "says" "TwoWays.says" sWSays gs gds) (MS : Meth K (cW K) "says" gs) (OS : FnOk P w K mg base CX0 2 gs gds ["self", "worth"] (spWSays P w K)) :
    FnOk P w K mg base CX0 9 f fd ["_law_script"] (spLaw K) := by
  refine okD F scLaw (fun vs H Q E h => ?_) (fun cdv A outer s H vs Q E hr h => ?_)
  · obtain ⟨a, ns, rfl, _⟩ := h
    rfl
  · obtain ⟨sa, sns, rfl, hsa, k⟩ := h
    refine ⟨_, pss_cons (ps_set (i := 1) scLaw.nd rfl (Or.inl rfl) (pe_call O1 (hr.mono (by decide)) rfl m1 G1.kp (b_ribbon G1) .nil pass0 (pa_cons (pv 0) pa_nil)))
      (pss_cons (ps_for PassesOwn.never rfl (pi_range1 (by rfl) T.range (pa_cons pe_int pa_nil)) (pg_name (i := 2) scLaw.nd rfl (Or.inl rfl))
        (pss_cons (ps_set (i := 3) scLaw.nd rfl (Or.inl rfl) (pe_call O2 (hr.mono (by decide)) rfl m2 G2.kp (b_row G2) .nil pass0 (pa_cons (pv 1) pa_nil)))
        (pss_cons (ps_par (i := 4) (j := 5) rfl scLaw.nd rfl rfl (by decide) rfl rfl (pa_cons (pe_make M3 O3 (hr.mono (by decide)) rfl T.gW (b_wInit G3) .nil pass0 (pa_cons (pe_call O4 (hr.mono (by decide)) rfl m4 G4.kp (b_lTable G4) .nil pass0 (pa_cons (pv 3) pa_nil)) pa_nil))
          (pa_cons (pe_call O5 (hr.mono (by decide)) rfl m5 G5.kp (b_lWord G5) .nil pass0 (pa_cons (pv 1) (pa_cons (pe_ix ix_tup (pv 3) pe_int (fun _ _ => rfl)) (pa_cons
            (pe_call O6 (hr.mono (by decide)) rfl m6 G6.kp (b_pick G6) .nil pass0 (pa_cons (pv 1) (pa_cons (pe_lst (pa_cons pe_int (pa_cons pe_int (pa_cons pe_int (pa_cons pe_int (pa_cons pe_int pa_nil)))))) pa_nil))) pa_nil)))) pa_nil)) rfl)
        (pss_one (ps_for PassesOwn.never rfl (pi_range1 (by rfl) T.range (pa_cons (pe_op op_add (pe_callB call_len (by rfl) T.len boot_len (pa_cons (pv 5) pa_nil)) pe_int) pa_nil)) (pg_name (i := 6) scLaw.nd rfl (Or.inl rfl))
          (pss_cons (ps_set (i := 7) scLaw.nd rfl (Or.inl rfl) (pe_cmp (pc_lt (pv 6) (pe_callB call_len (by rfl) T.len boot_len (pa_cons (pv 5) pa_nil))) rfl))
          (pss_cons (ps_if (pt_val (pv 7))
            (pss_cons (ps_set (i := 7) scLaw.nd rfl (Or.inl rfl) (pe_cmpR op_in_seq
              (pe_ix ix_list (pe_ix ix_list (pe_call O7 (hr.mono (by decide)) rfl m7 G7.kp (b_strip G7) .nil pass0 (pa_cons (pv 3) (pa_cons (pe_slice sl_list (pv 5) po_none (po_some (pe_op op_add (pv 6) pe_int))) (pa_cons (pe_op op_add (pe_op op_mul pe_int (pv 6)) pe_int) pa_nil)))) (pe_un un_neg pe_int) (fun _ _ => rfl)) (pe_un un_neg pe_int) (fun _ _ => rfl))
              (pe_ix ix_tup (pv 3) pe_int (fun _ _ => rfl)) (by rfl)))
            (pss_one (ps_if (pt_cmpR op_ne (pe_call O8 hr rfl m8 G8.kp (b_told G8) .nil pass0 (pa_cons (pv 4) (pa_cons (pe_slice sl_list (pv 5) po_none (po_some (pe_op op_add (pv 6) pe_int))) pa_nil))) (pv 7) (nomark _)) pss_never pss_nil))) pss_nil)
          (pss_one (ps_if (PW.pt (pw_or (pt_cmpR op_ne (pe_callB call_reprB (by rfl) T.repr (by decide +kernel) (pa_cons (pe_call O9 hr rfl m9 G9.kp (b_said G9) .nil pass0 (pa_cons (pv 4) (pa_cons (pv 5) (pa_cons (pv 6) pa_nil)))) pa_nil)) (pe_callB call_reprB (by rfl) T.repr (by decide +kernel) (pa_cons (pv 7) pa_nil)) (nomark _))
            (pw_or1 (pt_cmpR op_ne (pe_meth (pv 4) T.clW MS OS (hr.mono (by decide)) (b_wSays GS) .nil pass0 (pa_cons (pe_call O10 hr rfl m10 G10.kp (b_worthAt G10) .nil pass0 (pa_cons (pv 4) (pa_cons (pv 5) (pa_cons pe_int (pa_cons (pv 6) pa_nil))))) pa_nil)) (pv 7) (nomark _))))) pss_never pss_nil)))))))))
      (pss_one (ps_ret pe_bl))), ?_⟩
    refine ⟨_, rfl, sa, sns, rfl, hsa, fun r q H0 s0 nr R0 => ?_⟩
    refine ⟨3, rfl, by omega, by omega, ?_⟩
    refine for_range (lo := 0) (n := 3) (fun i σ H2 => ∃ z2 z3 z4 z5 z6 z7, Rib H2 r q (1000 * i) ∧ σ = [some (.ref sa), some (.ref r), z2, z3, z4, z5, z6, z7]) ⟨_, _, _, _, _, _, R0, rfl⟩ ?_ ?_
    · rintro i σ H2 hi ⟨z2, z3, z4, z5, z6, z7, R2, rfl⟩
      -- a row, a word
      refine ⟨_, rfl, r, q, _, rfl, R2, by omega, fun p H3 n m es ys b3 R3 np D3 => ?_⟩
      refine ⟨_, rfl, p, n, m, es, ys, rfl, D3, fun x H4 ys' s4 nx TA hpm => fun xr rdx nxr nrdx hne => ?_⟩
      have s5 : Same H4 (upd (upd H4 rdx (.own xr)) xr (.ins (cW K) rdx [])) := (Same.put nrdx).trans (Same.put (by rw [upd_ne hne.symm]; exact nxr))
      refine ⟨xr, rdx, x, n, ruleF es, ys', rfl, upd_same, TA.same s5, fun H6 b6 TW6 => ⟨rfl, ?_⟩⟩
      have s46 : Same H4 H6 := fun b o e => b6 b o (s5 b o e) (fun z => by rw [z, nxr] at e; cases e)
      have s36 := s4.trans s46
      have D6 := D3.same s36
      have R6 := R3.same s36
      obtain ⟨⟨d6, y6, hp6, _, hy6⟩, bn, bm, _, _, _⟩ := id D6
      refine ⟨_, rfl, _, rfl, p, _, 0, .int n, rfl, rfl, SqT.of hp6, rfl, _, rfl, (by show 5 ≤ sizeLine; decide), fun la nla => ⟨r, q, la, _, [1, 2, 4, 7, 12], rfl, R6.same (Same.put nla), by omega, upd_same, by decide, by decide, fun c H7 hc b7 R7 => ?_⟩⟩
      have b67 : But r H6 H7 := (But.same (Same.put nla)).trans b7
      obtain ⟨C, hC, hC1, hC2⟩ : ∃ C : Nat, c = (C : Int) ∧ 1 ≤ C ∧ C ≤ 12 := by
        simp only [List.mem_cons, List.not_mem_nil, or_false] at hc
        exact ⟨c.toNat, by omega, by omega, by omega⟩
      refine ⟨r, q, _, C, n, (by rw [hC]; rfl), R7, by omega, bn.1, bn.2, by omega, fun wa H8 ns b8 R8 nwa hwa hlen hns => ?_⟩
      have b68 := b67.trans b8
      have TW8 := TW6.butR R6 b68
      have D8 := D6.butR R6 b68
      refine ⟨_, _, rfl, ?_⟩
      -- the ticks
      refine ⟨_, rfl, .ref wa, _, rfl, .inl ⟨_, SqL.of hwa, rfl⟩, _, _, rfl, rfl, (ns.length : Int) + 4, congrArg (fun z : Nat => [V.int ((z : Int) + 4)]) (List.length_map _), by omega, by omega, ?_⟩
      have en : ((ns.length : Int) + 4).toNat = ns.length + 4 := by omega
      rw [en]
      refine for_range (lo := 0) (n := ns.length + 4) (fun t σ H9 => ∃ z2 z6 z7, Same H8 H9 ∧ σ = [some (.ref sa), some (.ref r), z2, some (.ref p), some (.ref xr), some (.ref wa), z6, z7]) ⟨_, _, _, Same.refl H8, rfl⟩ ?_ ?_
      · rintro t σ H9 ht ⟨z2, z6, z7, s9, rfl⟩
        rw [show (0 : Int) + (t : Int) = t from Int.zero_add _]
        have W9 := s9 _ _ hwa
        refine ⟨_, rfl, _, rfl, .ref wa, _, rfl, .inl ⟨_, SqL.of W9, rfl⟩, _, _, rfl, rfl, ?_⟩
        refine ⟨_, rfl, _, rfl, ?_⟩
        have TW9 := TW8.same s9
        have D9 := D8.same s9
        obtain ⟨⟨d9, y9, hp9, _, hy9⟩, _⟩ := id D9
        by_cases hon : t < ns.length
        case' pos =>
          refine iteTb (decide_eq_true (show (t : Int) < (((ns.map V.int).length : Nat) : Int) by rw [List.length_map]; omega)) ?_
          -- what the strip says
          refine ⟨_, rfl, _, rfl, _, rfl, _, _, rfl, rfl, (t : Int) + 1, rfl, wa, _, rfl, SqL.of W9, ?_⟩
          rw [cut_to hon]
          intro p1 np1
          have s10 : Same H9 (upd H9 p1 (.lst ((ns.take (t + 1)).map V.int))) := Same.put np1
          have hl1 : (ns.take (t + 1)).length = t + 1 := by rw [List.length_take]; omega
          refine ⟨_, rfl, _, _, rfl, rfl, .inl ⟨by decide, by decide⟩, _, _, rfl, rfl, p, p1, 2 * t + 1, n, m, es, ys, ns.take (t + 1), rfl, D9.same s10, upd_same, by omega, by omega, fun z H11 rows last s11 nz hz hlast => ?_⟩
          rw [hl1, row_last] at hlast
          have s911 := s10.trans s11
          refine ⟨_, rfl, z, _, -1, .ref last, rfl, rfl, SqL.of hz, atI_last _ _, _, rfl, last, _, -1, _, rfl, rfl, SqL.of hlast, atI_last _ _, ?_⟩
          refine ⟨_, rfl, p, _, 3, .ref y9, rfl, rfl, SqT.of (s911 _ _ hp9), rfl, y9, _, rfl, .inl (SqL.of (s911 _ _ hy9)), rfl, flat_ints ys, ?_⟩
          have hb : inV (.int (BW.w (ruleF es) (lets (ns.take (t + 1))) (2 * t + 1) t)) (ys.map V.int) = saidB (ruleF es) ys ns t := by rw [inV_ints, saidB_on hon]
          -- what told says
          refine ⟨_, rfl, _, rfl, _, rfl, _, _, rfl, rfl, (t : Int) + 1, rfl, wa, _, rfl, SqL.of (s911 _ _ W9), ?_⟩
          rw [cut_to hon]
          intro p2 np2
          have s912 := s911.trans (Same.put (o := .lst ((ns.take (t + 1)).map V.int)) np2)
          have et : saidB (ruleF es) ys' (ns.take (t + 1)) ((ns.take (t + 1)).length - 1) = saidB (ruleF es) ys ns t := by rw [hl1, Nat.add_sub_cancel, saidB_take hon, saidB_perm hpm]
          refine ⟨xr, p2, n, ruleF es, ys', ns.take (t + 1), rfl, TW9.same s912, word_take upd_same (by omega) (by omega) hns, fun H13 s13 => ⟨_, rfl, rfl, _, rfl, ?_⟩⟩
          refine iteFb (ne_same (congrArg V.bl (et.trans hb.symm))) ?_
          have s9x := s912.trans s13
          have TWx := TW9.same s9x
          have Wx := s9x _ _ W9
        case' neg =>
          refine iteFb (decide_eq_false (show ¬ (t : Int) < (((ns.map V.int).length : Nat) : Int) by rw [List.length_map]; omega)) ?_
          have hb : decide ((t : Int) < (((ns.map V.int).length : Nat) : Int)) = saidB (ruleF es) ys ns t := by rw [saidB_off hon, decide_eq_false (by rw [List.length_map]; omega)]
          have s9x := Same.refl H9
          have TWx := TW9
          have Wx := W9
        all_goals
          refine ⟨_, rfl, _, rfl, _, rfl, xr, wa, t, n, ruleF es, ys', ns, rfl, TWx, ⟨Wx, by omega, by omega, hns⟩, by omega, fun H14 s14 => ⟨_, rfl, _, rfl, _, rfl, rfl, _, rfl, ?_⟩⟩
          refine iteFb (ne_same (congrArg (fun b : Bool => V.str (if b = true then "True" else "False")) ((saidB_perm hpm).trans hb.symm))) ?_
          obtain ⟨rdx2, tt, hx1, _⟩ := (TWx.same s14).ex
          refine ⟨_, rfl, xr, rdx2, _, rfl, hx1, fldW_no _ _ (by decide +kernel), _, rfl, _, rfl, _, rfl, xr, wa, t, n, ruleF es, ys', ns, rfl, TWx.same s14, ⟨s14 _ _ Wx, by omega, by omega, hns⟩, by omega, fun o H15 v s15 ho hv => ?_⟩
          refine ⟨xr, o, v, n, ruleF es, ys', rfl, (TWx.same s14).same s15, ho, good_fine hv, fun H16 s16 => ⟨_, rfl, rfl, _, rfl, ?_⟩⟩
          refine iteFb (ne_same (congrArg V.bl (((good_says ys' hv).trans (saidB_perm hpm)).trans hb.symm))) ?_
          exact ⟨_, _, _, s9.trans (s9x.trans (s14.trans (s15.trans s16))), rfl⟩
      · rintro σ H9 ⟨z2, z6, z7, s9, rfl⟩
        exact ⟨_, _, _, _, _, _, (R8.same s9).mono (by omega), rfl⟩
    · rintro σ H2 ⟨z2, z3, z4, z5, z6, z7, R2, rfl⟩
      exact k _
end
end BW
namespace BW
open PySem PySem.Spec PyProof.Rows L2
/-! ### the head's facts, turned into what the walk asks -/
theorem insB_ok {K : PySem.W.Frag} {x : Str} (h : insB K x = true) : IsRow K (He.ga K x) := by
  obtain ⟨h1, h⟩ := Bool.and_eq_true_iff.mp h
  obtain ⟨h2, h3⟩ := Bool.and_eq_true_iff.mp h
  exact ⟨He.eqO_ok h1, of_decide_eq_true h2, of_decide_eq_true h3⟩
theorem top_ok {K : PySem.W.Frag} {h : Heap} {mg : Str → Option Value} (X : K.In h) (G : h.Ns mainGlobals mg) (c : He.SaysD fa fn K) (ex : exB K = true) : Tx K mg := by
  obtain ⟨e1, ex⟩ := Bool.and_eq_true_iff.mp ex
  obtain ⟨e2, ex⟩ := Bool.and_eq_true_iff.mp ex
  obtain ⟨e3, ex⟩ := Bool.and_eq_true_iff.mp ex
  obtain ⟨e4, e5⟩ := Bool.and_eq_true_iff.mp ex
  exact {
    clW := He.cls_ok (c.fact 60 (f := .cls "TwoWays") rfl)
    clT := He.cls_ok (c.fact 61 (f := .cls "Table") rfl)
    gR := He.glo_ok X G (c.fact 34 (f := .glo "Row") rfl)
    gW := He.glo_ok X G (c.fact 35 (f := .glo "TwoWays") rfl)
    gT := He.glo_ok X G (c.fact 36 (f := .glo "Table") rfl)
    gB := He.glo_ok X G (c.fact 37 (f := .glo "BEYOND") rfl)
    bey := fun H => He.tupB_ok e1 H
    rowW := insB_ok e2
    rowT := insB_ok e3
    tk := of_decide_eq_true e4
    gs := He.eqO_ok e5
    wRow := He.noat_ok (c.fact 62 (f := .noat "TwoWays" "row") rfl)
    wLet := He.noat_ok (c.fact 63 (f := .noat "TwoWays" "letters") rfl)
    wWay := He.noat_ok (c.fact 64 (f := .noat "TwoWays" "ways") rfl)
    tWay := He.noat_ok (c.fact 65 (f := .noat "Table" "ways") rfl)
    tLet := He.noat_ok (c.fact 66 (f := .noat "Table" "letters") rfl)
    tWor := He.noat_ok (c.fact 67 (f := .noat "Table" "worths") rfl)
    tRul := He.noat_ok (c.fact 68 (f := .noat "Table" "rules") rfl)
    tYes := He.noat_ok (c.fact 69 (f := .noat "Table" "yes") rfl)
    tKey := He.noat_ok (c.fact 70 (f := .noat "Table" "by_key") rfl)
    len := He.free_ok X G (c.fact 38 (f := .free "len") rfl)
    int := He.free_ok X G (c.fact 39 (f := .free "int") rfl)
    abs := He.free_ok X G (c.fact 40 (f := .free "abs") rfl)
    list := He.free_ok X G (c.fact 41 (f := .free "list") rfl)
    tuple := He.free_ok X G (c.fact 42 (f := .free "tuple") rfl)
    isi := He.free_ok X G (c.fact 43 (f := .free "isinstance") rfl)
    bool := He.free_ok X G (c.fact 44 (f := .free "bool") rfl)
    dict := He.free_ok X G (c.fact 45 (f := .free "dict") rfl)
    all := He.free_ok X G (c.fact 46 (f := .free "all") rfl)
    range := He.free_ok X G (c.fact 47 (f := .free "range") rfl)
    max := He.free_ok X G (c.fact 48 (f := .free "max") rfl)
    min := He.free_ok X G (c.fact 49 (f := .free "min") rfl)
    sorted := He.free_ok X G (c.fact 50 (f := .free "sorted") rfl)
    set := He.free_ok X G (c.fact 51 (f := .free "set") rfl)
    enum := He.free_ok X G (c.fact 52 (f := .free "enumerate") rfl)
    repr := He.free_ok X G (c.fact 53 (f := .free "repr") rfl)
    longest := He.int_ok X G (c.fact 54 (f := .int "LONGEST" 200) rfl)
    mLetters := He.int_ok X G (c.fact 55 (f := .int "MOST_LETTERS" 6) rfl)
    one := He.int_ok X G (c.fact 56 (f := .int "ONE_WAY" 1) rfl)
    twoW := He.int_ok X G (c.fact 57 (f := .int "TWO_WAYS" 2) rfl)
    mTicks := He.int_ok X G (c.fact 58 (f := .int "MOST_TICKS" 1000) rfl)
    mWorths := He.int_ok X G (c.fact 59 (f := .int "MOST_WORTHS" 12) rfl) }
/-- the law keeps its promise over every base -/
theorem facts {P : Program} {w : World} {K : PySem.W.Frag} {h : Heap} {mg : Str → Option Value} {f : Addr} (X : K.In h) (G : h.Ns mainGlobals mg) (hfa : mg ("law" : Str) = some (.ref f)) (c : He.SaysD fa fn K) (ex : exB K = true) :
    ∃ fd : FuncData, (∀ (s : Shared) (v : Value), BindsTo s fd ⟨[v], []⟩ [("_law_script", v)]) ∧ ∀ base : Heap, K.In base → base.Ns mainGlobals mg → FnOk P w K mg base CX0 9 f fd ["_law_script"] (spLaw K) := by
  have T : Tx K mg := top_ok X G c ex
  obtain ⟨fdIsInteger, FIsInteger⟩ := c.def_ 0 (d := dIsInteger) rfl
  obtain ⟨fdIsWithin, FIsWithin⟩ := c.def_ 1 (d := dIsWithin) rfl
  obtain ⟨fdIsLetter, FIsLetter⟩ := c.def_ 2 (d := dIsLetter) rfl
  obtain ⟨fdIsWord, FIsWord⟩ := c.def_ 3 (d := dIsWord) rfl
  obtain ⟨fdNeedNumber, FNeedNumber⟩ := c.def_ 4 (d := dNeedNumber) rfl
  obtain ⟨fdNeedWord, FNeedWord⟩ := c.def_ 5 (d := dNeedWord) rfl
  obtain ⟨fdPairsIn, FPairsIn⟩ := c.def_ 6 (d := dPairsIn) rfl
  obtain ⟨fdNeedRow, FNeedRow⟩ := c.def_ 7 (d := dNeedRow) rfl
  obtain ⟨fdTwoTicks, FTwoTicks⟩ := c.def_ 8 (d := dTwoTicks) rfl
  obtain ⟨fdBegun, FBegun⟩ := c.def_ 9 (d := dBegun) rfl
  obtain ⟨fdTicked, FTicked⟩ := c.def_ 10 (d := dTicked) rfl
  obtain ⟨fdWorthIn, FWorthIn⟩ := c.def_ 11 (d := dWorthIn) rfl
  obtain ⟨fdSeatIn, FSeatIn⟩ := c.def_ 12 (d := dSeatIn) rfl
  obtain ⟨fdDueIn, FDueIn⟩ := c.def_ 13 (d := dDueIn) rfl
  obtain ⟨fdSaidIn, FSaidIn⟩ := c.def_ 14 (d := dSaidIn) rfl
  obtain ⟨fdToldIn, FToldIn⟩ := c.def_ 15 (d := dToldIn) rfl
  obtain ⟨fdNeedBoth, FNeedBoth⟩ := c.def_ 16 (d := dNeedBoth) rfl
  obtain ⟨fdWorthAt, FWorthAt⟩ := c.def_ 17 (d := dWorthAt) rfl
  obtain ⟨fdTold, FTold⟩ := c.def_ 18 (d := dTold) rfl
  obtain ⟨fdSaid, FSaid⟩ := c.def_ 19 (d := dSaid) rfl
  obtain ⟨fdKeyOrder, FKeyOrder⟩ := c.def_ 20 (d := dKeyOrder) rfl
  obtain ⟨fdIsKey, FIsKey⟩ := c.def_ 21 (d := dIsKey) rfl
  obtain ⟨fdRulesFrom, FRulesFrom⟩ := c.def_ 22 (d := dRulesFrom) rfl
  obtain ⟨fdWorthsFrom, FWorthsFrom⟩ := c.def_ 23 (d := dWorthsFrom) rfl
  obtain ⟨fdLRibbon, FLRibbon⟩ := c.def_ 24 (d := dLRibbon) rfl
  obtain ⟨fdLSnip, FLSnip⟩ := c.def_ 25 (d := dLSnip) rfl
  obtain ⟨fdLPick, FLPick⟩ := c.def_ 26 (d := dLPick) rfl
  obtain ⟨fdLRules, FLRules⟩ := c.def_ 27 (d := dLRules) rfl
  obtain ⟨fdLRow, FLRow⟩ := c.def_ 28 (d := dLRow) rfl
  obtain ⟨fdLTable, FLTable⟩ := c.def_ 29 (d := dLTable) rfl
  obtain ⟨fdLNext, FLNext⟩ := c.def_ 30 (d := dLNext) rfl
  obtain ⟨fdLStrip, FLStrip⟩ := c.def_ 31 (d := dLStrip) rfl
  obtain ⟨fdLWord, FLWord⟩ := c.def_ 32 (d := dLWord) rfl
  obtain ⟨fdLaw, FLaw⟩ := c.def_ 33 (d := dLaw) rfl
  obtain ⟨fdWInit, FWInit⟩ := c.def_ 34 (d := dWInit) rfl
  obtain ⟨fdWBegin, FWBegin⟩ := c.def_ 35 (d := dWBegin) rfl
  obtain ⟨fdWNext, FWNext⟩ := c.def_ 36 (d := dWNext) rfl
  obtain ⟨fdWSays, FWSays⟩ := c.def_ 37 (d := dWSays) rfl
  obtain ⟨fdTInit, FTInit⟩ := c.def_ 38 (d := dTInit) rfl
  obtain ⟨fdTBegin, FTBegin⟩ := c.def_ 39 (d := dTBegin) rfl
  obtain ⟨fdTNext, FTNext⟩ := c.def_ 40 (d := dTNext) rfl
  obtain ⟨fdTSays, FTSays⟩ := c.def_ 41 (d := dTSays) rfl
  have e := hfa.symm.trans (He.glo_ok X G (c.fact 33 (f := .glo "law") rfl))
  cases e
  have bnd := FunD.bindsA (ps := ["_law_script"]) FLaw fun _ _ _ _ _ _ us hl => match us, hl with | [_], _ => rfl
  refine ⟨fdLaw, fun s v => bnd s [v] rfl, fun base _ _ => ?_⟩
  have mIsInteger := He.glo_ok X G (c.fact 0 (f := .glo "is_integer") rfl)
  have mIsWithin := He.glo_ok X G (c.fact 1 (f := .glo "is_within") rfl)
  have mIsLetter := He.glo_ok X G (c.fact 2 (f := .glo "is_letter") rfl)
  have mIsWord := He.glo_ok X G (c.fact 3 (f := .glo "is_word") rfl)
  have mNeedNumber := He.glo_ok X G (c.fact 4 (f := .glo "need_number") rfl)
  have mNeedWord := He.glo_ok X G (c.fact 5 (f := .glo "need_word") rfl)
  have mPairsIn := He.glo_ok X G (c.fact 6 (f := .glo "pairs_in") rfl)
  have mNeedRow := He.glo_ok X G (c.fact 7 (f := .glo "need_row") rfl)
  have mTwoTicks := He.glo_ok X G (c.fact 8 (f := .glo "two_ticks") rfl)
  have mBegun := He.glo_ok X G (c.fact 9 (f := .glo "begun") rfl)
  have mTicked := He.glo_ok X G (c.fact 10 (f := .glo "ticked") rfl)
  have mWorthIn := He.glo_ok X G (c.fact 11 (f := .glo "worth_in") rfl)
  have mSeatIn := He.glo_ok X G (c.fact 12 (f := .glo "seat_in") rfl)
  have mDueIn := He.glo_ok X G (c.fact 13 (f := .glo "due_in") rfl)
  have mSaidIn := He.glo_ok X G (c.fact 14 (f := .glo "said_in") rfl)
  have mToldIn := He.glo_ok X G (c.fact 15 (f := .glo "told_in") rfl)
  have mNeedBoth := He.glo_ok X G (c.fact 16 (f := .glo "need_both") rfl)
  have mWorthAt := He.glo_ok X G (c.fact 17 (f := .glo "worth_at") rfl)
  have mTold := He.glo_ok X G (c.fact 18 (f := .glo "told") rfl)
  have mSaid := He.glo_ok X G (c.fact 19 (f := .glo "said") rfl)
  have mKeyOrder := He.glo_ok X G (c.fact 20 (f := .glo "key_order") rfl)
  have mIsKey := He.glo_ok X G (c.fact 21 (f := .glo "is_key") rfl)
  have mRulesFrom := He.glo_ok X G (c.fact 22 (f := .glo "rules_from") rfl)
  have mWorthsFrom := He.glo_ok X G (c.fact 23 (f := .glo "worths_from") rfl)
  have mLRibbon := He.glo_ok X G (c.fact 24 (f := .glo "_law_ribbon") rfl)
  have mLSnip := He.glo_ok X G (c.fact 25 (f := .glo "_law_snip") rfl)
  have mLPick := He.glo_ok X G (c.fact 26 (f := .glo "_law_pick") rfl)
  have mLRules := He.glo_ok X G (c.fact 27 (f := .glo "_law_rules") rfl)
  have mLRow := He.glo_ok X G (c.fact 28 (f := .glo "_law_row") rfl)
  have mLTable := He.glo_ok X G (c.fact 29 (f := .glo "_law_table") rfl)
  have mLNext := He.glo_ok X G (c.fact 30 (f := .glo "_law_next") rfl)
  have mLStrip := He.glo_ok X G (c.fact 31 (f := .glo "_law_strip") rfl)
  have mLWord := He.glo_ok X G (c.fact 32 (f := .glo "_law_word") rfl)
  have mLaw := He.glo_ok X G (c.fact 33 (f := .glo "law") rfl)
  have mWInit := He.mkr_ok (c.fact 77 (f := .mkr "TwoWays") rfl)
  have mWBegin := He.meth_ok (c.fact 71 (f := .meth "TwoWays" "begin") rfl)
  have mWNext := He.meth_ok (c.fact 72 (f := .meth "TwoWays" "next") rfl)
  have mWSays := He.meth_ok (c.fact 73 (f := .meth "TwoWays" "says") rfl)
  have mTInit := He.mkr_ok (c.fact 78 (f := .mkr "Table") rfl)
  have mTBegin := He.meth_ok (c.fact 74 (f := .meth "Table" "begin") rfl)
  have mTNext := He.meth_ok (c.fact 75 (f := .meth "Table" "next") rfl)
  have mTSays := He.meth_ok (c.fact 76 (f := .meth "Table" "says") rfl)
  have OIsWithin := ok_within (P := P) (w := w) (mg := mg) (base := base) FIsWithin T FIsInteger mIsInteger
  have OIsLetter := ok_letter (P := P) (w := w) (mg := mg) (base := base) FIsLetter FIsWithin mIsWithin OIsWithin
  have OIsWord := ok_word (P := P) (w := w) (mg := mg) (base := base) FIsWord T FIsLetter mIsLetter OIsLetter
  have ONeedNumber := ok_needNum (P := P) (w := w) (mg := mg) (base := base) FNeedNumber FIsWithin mIsWithin OIsWithin
  have ONeedWord := ok_needWord (P := P) (w := w) (mg := mg) (base := base) FNeedWord T FIsWord mIsWord OIsWord
  have ONeedRow := ok_needRow (P := P) (w := w) (mg := mg) (base := base) FNeedRow T
  have OIsKey := ok_isKey (P := P) (w := w) (mg := mg) (base := base) FIsKey T FIsWithin mIsWithin OIsWithin
  have OTNext := ok_tNext (P := P) (w := w) (mg := mg) (base := base) FTNext T
  have OTwoTicks := ok_two (P := P) (w := w) (mg := mg) (base := base) FTwoTicks T FTNext mTNext OTNext
  have OWInit := ok_wInit (P := P) (w := w) (mg := mg) (base := base) FWInit T FNeedRow mNeedRow ONeedRow
  have OWBegin := ok_wBegin (P := P) (w := w) (mg := mg) (base := base) FWBegin T FTBegin mTBegin
  have OWNext := ok_wNext (P := P) (w := w) (mg := mg) (base := base) FWNext T FTwoTicks mTwoTicks OTwoTicks
  have OWSays := ok_wSays (P := P) (w := w) (mg := mg) (base := base) FWSays T FTNext mTNext OTNext FTSays mTSays
  have OBegun := ok_begun (P := P) (w := w) (mg := mg) (base := base) FBegun T FWBegin mWBegin OWBegin
  have OTicked := ok_ticked (P := P) (w := w) (mg := mg) (base := base) FTicked T FWNext mWNext OWNext
  have OWorthIn := ok_worthIn (P := P) (w := w) (mg := mg) (base := base) FWorthIn T FBegun mBegun OBegun FTicked mTicked OTicked
  have OSaidIn := ok_saidIn (P := P) (w := w) (mg := mg) (base := base) FSaidIn T FSeatIn mSeatIn FWorthIn mWorthIn OWorthIn FWSays mWSays OWSays
  have OToldIn := ok_toldIn (P := P) (w := w) (mg := mg) (base := base) FToldIn T FDueIn mDueIn FSaidIn mSaidIn OSaidIn
  have ONeedBoth := ok_needBoth (P := P) (w := w) (mg := mg) (base := base) FNeedBoth T FNeedRow mNeedRow ONeedRow FNeedWord mNeedWord ONeedWord
  have OTold := ok_told (P := P) (w := w) (mg := mg) (base := base) FTold FNeedBoth mNeedBoth ONeedBoth FToldIn mToldIn OToldIn
  have OSaid := ok_said (P := P) (w := w) (mg := mg) (base := base) FSaid T FNeedBoth mNeedBoth ONeedBoth FSaidIn mSaidIn OSaidIn FNeedNumber mNeedNumber ONeedNumber
  have OWorthAt := ok_worthAt (P := P) (w := w) (mg := mg) (base := base) FWorthAt T FNeedBoth mNeedBoth ONeedBoth FWorthIn mWorthIn OWorthIn FNeedNumber mNeedNumber ONeedNumber
  have OWorthsFrom := ok_worthsFrom (P := P) (w := w) (mg := mg) (base := base) FWorthsFrom T FIsWithin mIsWithin OIsWithin
  have ORulesFrom := ok_rulesFrom (P := P) (w := w) (mg := mg) (base := base) FRulesFrom T FPairsIn mPairsIn FIsKey mIsKey OIsKey FIsWithin mIsWithin OIsWithin FKeyOrder mKeyOrder
  have OTInit := ok_tInit (P := P) (w := w) (mg := mg) (base := base) FTInit T FIsWithin mIsWithin OIsWithin FRulesFrom mRulesFrom ORulesFrom FWorthsFrom mWorthsFrom OWorthsFrom
  have OLRibbon := ok_ribbon (P := P) (w := w) (mg := mg) (base := base) FLRibbon T
  have OLSnip := ok_snip (P := P) (w := w) (mg := mg) (base := base) FLSnip T
  have OLPick := ok_pick (P := P) (w := w) (mg := mg) (base := base) FLPick T FLSnip mLSnip OLSnip
  have OLRules := ok_lRules (P := P) (w := w) (mg := mg) (base := base) FLRules T FLSnip mLSnip OLSnip
  have OLRow := ok_row (P := P) (w := w) (mg := mg) (base := base) FLRow T FLSnip mLSnip OLSnip FLPick mLPick OLPick FLRules mLRules OLRules
  have OLTable := ok_lTable (P := P) (w := w) (mg := mg) (base := base) FLTable T mTInit FTInit OTInit
  have OLNext := ok_lNext (P := P) (w := w) (mg := mg) (base := base) FLNext
  have OLStrip := ok_strip (P := P) (w := w) (mg := mg) (base := base) FLStrip T FLNext mLNext OLNext
  have OLWord := ok_lWord (P := P) (w := w) (mg := mg) (base := base) FLWord T FLSnip mLSnip OLSnip
  exact ok_law FLaw T FLRibbon mLRibbon OLRibbon FLRow mLRow OLRow mWInit FWInit OWInit FLTable mLTable OLTable FLWord mLWord OLWord FLPick mLPick OLPick FLStrip mLStrip OLStrip FTold mTold OTold FSaid mSaid OSaid FWorthAt mWorthAt OWorthAt FWSays mWSays OWSays
end BW
set_option maxHeartbeats 0
open PySem PySem.W PySem.Calls PyProof.Rows
theorem PySem.Challenge.cw_backwardrow_k24_whole_every_beginning_is_holds : PySem.Challenge.rw_backwardrow_k24_whole_every_beginning_is.Holds := by
  w_on; o_law
  refine HandSHeadRun.head_any (r := BW.R) (q := view BW.R.prog [75]) (H := BW.hk) (ob := BW.ob) (M := 20000) (loose := BW.nms) (d := HandSHeadRun.topDef BW.R.prog 75) (kwd := []) BW.ob_eq
    (by kernel_rfl) (fun s => by kernel_rfl) BW.run (by kernel_rfl) (by kernel_rfl) (by kernel_rfl) (by rfl) (by first | assumption | decide +kernel) (by decide +kernel) ⟨rfl, rfl, rfl, rfl, rfl, by decide +kernel⟩ ?hw ?hc
  case hw => w_witness2
  case hc =>
    refine L2.walk_ofE (l := PySem.Challenge.rw_backwardrow_k24_whole_every_beginning_is) (n := 63) (k := 9) (x := "_law_script") (CX := L2.CX0) rfl (by decide) (by kernel_rfl) ⟨rfl, by decide, by decide⟩ ?F (fun _ _ _ _ z => z)
    intro w mg fa h Y G hmg0
    obtain ⟨K, KX, c, ex⟩ := Y
    have hmg : mg ("law" : PySem.Str) = some (.ref fa) := by
      have e : (HandSHeadRun.topDef BW.R.prog 75).name = ("law" : PySem.Str) := by kernel_rfl
      rw [← e]
      exact hmg0
    obtain ⟨fd, hb, hF⟩ := BW.facts (P := (PySem.Challenge.rw_backwardrow_k24_whole_every_beginning_is).prog) (w := w) KX G hmg c ex
    exact ⟨K, fd, BW.spLaw K, KX, hb, fun H a ns hl _ hS => ⟨a, ns, rfl, hS, fun _ => rfl⟩, hF⟩
