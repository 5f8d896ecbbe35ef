import PyProof.Rows.All
import Wide.All
import OpenK.AllK
import Wide.FinOn
import HandS.ForMost
import HandS.IsInst
import HandS.Star
import HandS.Conv
import HandS.SortKw
import HandS.TupAny
import HandS.DictComp
import KE.KDictKeyed
import KE.SortKeyHeap
import HandS.MakeKwOnly
import HandS.Defaults
import HandS.Zip
import PySem.Challenge.RW_backwardrow_k15_whole_slants_of_all_cell
set_option Elab.async false
set_option linter.all false
section
set_option autoImplicit false
/-! The plain law: no program in sight. A row of two ways told by its rule f; the row of one way along the slant. -/
namespace K15

/-- the worth of a cell of the one-way row -/
inductive OW where
  | wait (w : Int)
  | work (now bef bes : Option Int)


abbrev F3 := Option Int → Int → Option Int → Int

/-- what the cell has a tick later -/
def owNext (f : F3) : Option OW → OW → OW
  | none, .wait w => .work (some w) none none
  | some (.wait _), .wait w => .wait w
  | some (.work _ b _), .wait w => .work (some w) none b
  | some (.work _ (some b) s), .work now _ _ => .work (some (f s b now)) now (some b)
  | _, .work now _ _ => .work none now none

/-- the left one, the right one -/
def lf {α : Type} (r : List α) (i : Nat) : Option α := if i = 0 then none else r[i - 1]?
def rt {α : Type} (r : List α) (i : Nat) : Option α := r[i + 1]?

/-- a tick of the two-way row, of the one-way row -/
def tick2 (f : F3) (r : List Int) : List Int := (List.range r.length).map fun i => f (lf r i) (r.getD i 0) (rt r i)
def tick1 (f : F3) (r : List OW) : List OW := (List.range r.length).map fun i => owNext f (lf r i) (r.getD i (.wait 0))

def due (f : F3) (w : List Int) : Nat → List Int
  | 0 => w
  | t + 1 => tick2 f (due f w t)
def made (f : F3) (w : List Int) : Nat → List OW
  | 0 => w.map .wait
  | t + 1 => tick1 f (made f w t)

theorem due_len (f : F3) (w : List Int) : ∀ t, (due f w t).length = w.length
  | 0 => rfl
  | t + 1 => by
    show ((List.range (due f w t).length).map _).length = _
    rw [List.length_map, List.length_range, due_len f w t]
theorem made_len (f : F3) (w : List Int) : ∀ t, (made f w t).length = w.length
  | 0 => by show (w.map OW.wait).length = _; rw [List.length_map]
  | t + 1 => by
    show ((List.range (made f w t).length).map _).length = _
    rw [List.length_map, List.length_range, made_len f w t]

/-- the worths by place -/
def du (f : F3) (w : List Int) (t c : Nat) : Int := (due f w t).getD c 0
theorem due_get (f : F3) (w : List Int) (t c : Nat) (h : c < w.length) : (due f w t)[c]? = some (du f w t c) := by
  have hl : c < (due f w t).length := by rw [due_len]; exact h
  unfold du
  rw [List.getD_eq_getElem?_getD, List.getElem?_eq_getElem hl]
  rfl

def nw (f : F3) (w : List Int) (p j : Nat) : Option Int := if j ≤ p then some (du f w j (p - j)) else none
def bf (f : F3) (w : List Int) (p : Nat) : Nat → Option Int
  | 0 => none
  | j + 1 => nw f w p j
def bs (f : F3) (w : List Int) : Nat → Nat → Option Int
  | 0, _ => none
  | p + 1, j => bf f w p j
/-- what the cell p of the one-way row has at tick t -/
def told (f : F3) (w : List Int) (p t : Nat) : OW := if t ≤ p then .wait (w.getD p 0) else .work (nw f w p (t - p - 1)) (bf f w p (t - p - 1)) (bs f w p (t - p - 1))

theorem lf_get {α : Type} (r : List α) (i : Nat) : lf r (i + 1) = r[i]? := by
  unfold lf
  rw [if_neg (Nat.succ_ne_zero i), Nat.add_sub_cancel]
theorem lf_zero {α : Type} (r : List α) : lf r 0 = none := by
  unfold lf
  rw [if_pos rfl]

theorem du_succ (f : F3) (w : List Int) (t c : Nat) (h : c < w.length) : du f w (t + 1) c = f (lf (due f w t) c) (du f w t c) (rt (due f w t) c) := by
  have hl : c < (due f w t).length := by rw [due_len]; exact h
  show (tick2 f (due f w t)).getD c 0 = _
  unfold tick2
  rw [List.getD_eq_getElem?_getD, List.getElem?_map, List.getElem?_range hl]
  rfl

theorem step_told (f : F3) (w : List Int) (p t : Nat) (h : p < w.length) :
    owNext f (if p = 0 then none else some (told f w (p - 1) t)) (told f w p t) = told f w p (t + 1) := by
  cases p with
  | zero =>
    rw [if_pos rfl]
    cases t with
    | zero =>
      show OW.work (some (w.getD 0 0)) none none = told f w 0 1
      unfold told
      rw [if_neg (by omega)]
      show _ = OW.work (nw f w 0 0) (bf f w 0 0) (bs f w 0 0)
      rfl
    | succ t =>
      unfold told
      rw [if_neg (by omega), if_neg (by omega)]
      show OW.work none (nw f w 0 (t + 1 - 0 - 1)) none = OW.work (nw f w 0 (t + 1 + 1 - 0 - 1)) (bf f w 0 (t + 1 + 1 - 0 - 1)) (bs f w 0 (t + 1 + 1 - 0 - 1))
      have e1 : t + 1 - 0 - 1 = t := by omega
      have e2 : t + 1 + 1 - 0 - 1 = t + 1 := by omega
      rw [e1, e2]
      have e3 : nw f w 0 (t + 1) = none := by unfold nw; rw [if_neg (by omega)]
      rw [e3]
      rfl
  | succ p =>
    rw [if_neg (Nat.succ_ne_zero p), Nat.add_sub_cancel]
    rcases Nat.lt_trichotomy t (p + 1) with hlt | heq | hgt
    · unfold told
      rw [if_pos (by omega), if_pos (by omega), if_pos (by omega)]
      rfl
    · subst heq
      unfold told
      rw [if_neg (by omega), if_pos (by omega), if_neg (by omega)]
      have e1 : p + 1 - p - 1 = 0 := by omega
      have e2 : p + 1 + 1 - (p + 1) - 1 = 0 := by omega
      rw [e1, e2]
      show OW.work (some (w.getD (p + 1) 0)) none (bf f w p 0) = OW.work (nw f w (p + 1) 0) (bf f w (p + 1) 0) (bs f w (p + 1) 0)
      rfl
    · obtain ⟨j, rfl⟩ : ∃ j, t = p + 1 + 1 + j := ⟨t - (p + 1 + 1), by omega⟩
      unfold told
      rw [if_neg (by omega), if_neg (by omega), if_neg (by omega)]
      have e1 : p + 1 + 1 + j - p - 1 = j + 1 := by omega
      have e2 : p + 1 + 1 + j - (p + 1) - 1 = j := by omega
      have e3 : p + 1 + 1 + j + 1 - (p + 1) - 1 = j + 1 := by omega
      rw [e1, e2, e3]
      show owNext f (some (.work (nw f w p (j + 1)) (nw f w p j) (bs f w p (j + 1)))) (.work (nw f w (p + 1) j) (bf f w (p + 1) j) (bs f w (p + 1) j)) = .work (nw f w (p + 1) (j + 1)) (nw f w (p + 1) j) (nw f w p j)
      by_cases hj : j ≤ p
      · have eb : nw f w p j = some (du f w j (p - j)) := by unfold nw; rw [if_pos hj]
        rw [eb]
        show OW.work (some (f (bs f w p (j + 1)) (du f w j (p - j)) (nw f w (p + 1) j))) (nw f w (p + 1) j) (some (du f w j (p - j))) = _
        have ea : nw f w (p + 1) (j + 1) = some (du f w (j + 1) (p - j)) := by
          unfold nw
          rw [if_pos (by omega), Nat.add_sub_add_right]
        have er : nw f w (p + 1) j = rt (due f w j) (p - j) := by
          unfold nw rt
          have e4 : p - j + 1 = p + 1 - j := by omega
          rw [if_pos (by omega), e4, due_get f w j (p + 1 - j) (by omega)]
        have el : bs f w p (j + 1) = lf (due f w j) (p - j) := by
          cases p with
          | zero =>
            have e5 : 0 - j = 0 := Nat.zero_sub j
            rw [e5, lf_zero]
            rfl
          | succ q =>
            show nw f w q j = _
            by_cases hq : j ≤ q
            · have e6 : q + 1 - j = (q - j) + 1 := by omega
              unfold nw
              rw [if_pos hq, e6, lf_get, due_get f w j (q - j) (by omega)]
            · have e7 : q + 1 - j = 0 := by omega
              unfold nw
              rw [if_neg hq, e7, lf_zero]
        rw [ea, du_succ f w j (p - j) (by omega), ← el, ← er]
      · have eb : nw f w p j = none := by unfold nw; rw [if_neg hj]
        have ea : nw f w (p + 1) (j + 1) = none := by unfold nw; rw [if_neg (by omega)]
        rw [eb, ea]
        rfl

theorem made_get (f : F3) (w : List Int) : ∀ (t p : Nat), p < w.length → (made f w t)[p]? = some (told f w p t)
  | 0, p, h => by
    show (w.map OW.wait)[p]? = _
    rw [List.getElem?_map, List.getElem?_eq_getElem h]
    unfold told
    rw [if_pos (Nat.zero_le _), List.getD_eq_getElem?_getD, List.getElem?_eq_getElem h]
    rfl
  | t + 1, p, h => by
    have hl : p < (made f w t).length := by rw [made_len]; exact h
    show (tick1 f (made f w t))[p]? = _
    unfold tick1
    rw [List.getElem?_map, List.getElem?_range hl]
    have ih := made_get f w t p h
    have e1 : (made f w t).getD p (.wait 0) = told f w p t := by rw [List.getD_eq_getElem?_getD, ih]; rfl
    have e2 : lf (made f w t) p = if p = 0 then none else some (told f w (p - 1) t) := by
      unfold lf
      by_cases h0 : p = 0
      · rw [if_pos h0, if_pos h0]
      · rw [if_neg h0, if_neg h0, made_get f w t (p - 1) (by omega)]
    show some (owNext f (lf (made f w t) p) ((made f w t).getD p (.wait 0))) = _
    rw [e1, e2, step_told f w p t h]

/-- along the slant -/
theorem told_slant (f : F3) (w : List Int) (c t : Nat) : ∃ x y, told f w (c + t) (2 * t + c + 1) = .work (some (du f w t c)) x y := by
  unfold told
  rw [if_neg (by omega)]
  have e : 2 * t + c + 1 - (c + t) - 1 = t := by omega
  rw [e]
  refine ⟨bf f w (c + t) t, bs f w (c + t) t, ?_⟩
  unfold nw
  rw [if_pos (by omega), Nat.add_sub_cancel]
theorem told_wait (f : F3) (w : List Int) (c t : Nat) (h : t ≤ c) : told f w c t = .wait (w.getD c 0) := by
  unfold told
  rw [if_pos h]
theorem told_late (f : F3) (w : List Int) (c t : Nat) (h : 2 * c + 2 ≤ t) : ∃ x y, told f w c t = .work none x y := by
  unfold told
  rw [if_neg (by omega)]
  refine ⟨bf f w c (t - c - 1), bs f w c (t - c - 1), ?_⟩
  unfold nw
  rw [if_neg (by omega)]
end K15
end

section
set_option Elab.async false
set_option linter.all false
set_option maxRecDepth 100000
set_option maxHeartbeats 2000000
/-! Dicts whose keys are flat tuples of whole numbers and None, over the hand layer: an own kind of tracked thing (Dn). -/
namespace K15
open PySem PySem.Spec PyProof.Rows L2

abbrev LK := List Leaf
def lfV : Leaf → V
  | .none => .non
  | .num i => .int i
  | .text x => .str x
/-- an entry: its key, where the key's tuple stands, its value -/
abbrev Ent := LK × Addr × V
def RelE (p : Ent) (q : LK × Addr × Value) : Prop := p.1 = q.1 ∧ p.2.1 = q.2.1 ∧ RelV p.2.2 q.2.2
def look (xs : List Ent) (k : LK) : Option V := (xs.find? fun x => decide (x.1 = k)).map (·.2.2)
def DnObj (P : Program) (w : World) (a : Addr) (xs : List Ent) (h : Heap) : Prop :=
  (a == sysModules) = false ∧ xs.length ≤ sizeLine ∧ ∃ vs, Paired RelE xs vs ∧ ∃ o es ep, h.get? a = some o ∧ o.ExactDict ∧ o.data = .dict es ep ∧
    es.toList = vs.map (entryOfKey (tupleKind (leafKind P w))) ∧ (vs.map (·.1)).Nodup
/-- the dict at a with these entries, in this order -/
def Dn (P : Program) (w : World) (a : Addr) (xs : List Ent) : HO := .ext (DnObj P w a xs)
/-- the tuples of its keys stand -/
def KeysIn (H : Hp) (xs : List Ent) : Prop := ∀ x ∈ xs, H x.2.1 = some (.tup (x.1.map lfV))
theorem KeysIn.same {H H' : Hp} {xs : List Ent} (k : KeysIn H xs) (s : Same H H') : KeysIn H' xs := fun x hx => s _ _ (k x hx)

section
variable {P : Program} {w : World} {H : Hp} {h : Heap} {a : Addr} {xs : List Ent}
theorem dn_mk (x : DnObj P w a xs h) : ObjOk P w H h a (Dn P w a xs) := by
  obtain ⟨hs, hl, vs, hp, o, es, ep, e, r⟩ := id x
  refine ⟨x, ⟨o, e⟩, fun h1 h2 y k => ?_⟩
  obtain ⟨ys, yl, us, yp, p, fs, fp, f, q⟩ := y
  exact ⟨ys, yl, us, yp, p, fs, fp, k p f, q⟩
theorem dn_of (ok : HOk P w H h) (e : H a = some (Dn P w a xs)) : DnObj P w a xs h := (ok a _ e).1
theorem leaf_is {P : Program} {w : World} : ∀ {k : Leaf} {v : Value}, RelV (lfV k) v → (leafKind P w).is k v = true
  | .none, v, r => by
    cases (show v = Value.none from r)
    rfl
  | .num i, v, r => by
    obtain ⟨t, rfl⟩ := (show ∃ t, v = Value.int i t from r)
    exact decide_eq_true rfl
  | .text x, v, r => by
    obtain ⟨t, rfl⟩ := (show ∃ t, v = Value.str x t from r)
    show (x == x) = true
    simp
theorem leaves_are {P : Program} {w : World} : ∀ {ks : LK} {us : List Value}, Vals (ks.map lfV) us → ItemsAre (leafKind P w) ks us
  | [], _, r => by
    cases r
    exact .nil
  | k :: ks, _, r => by
    rw [List.map_cons] at r
    cases r with
    | cons q t => exact .cons (leaf_is q) (leaves_are t)
theorem key_at (ok : HOk P w H h) {b : Addr} {ks : LK} (e : H b = some (.tup (ks.map lfV))) : (tupleKind (leafKind P w)).is h ks b := by
  obtain ⟨_, its, r, o, h1, h2, n, h3⟩ := (show ObjOk P w H h b (.tup (ks.map lfV)) from ok b _ e)
  exact ⟨o, its.toArray, n, h1, h2, h3, by simpa using leaves_are r⟩
theorem ents_are (ok : HOk P w H h) : ∀ {xs : List Ent} {vs : List (LK × Addr × Value)}, Paired RelE xs vs → KeysIn H xs → ∀ y ∈ vs, (tupleKind (leafKind P w)).is h y.1 y.2.1
  | _, _, .nil, _, _, hy => nomatch hy
  | _, _, .cons r t, k, y, hy => by
    rcases List.mem_cons.mp hy with e | hy
    · subst e
      obtain ⟨e1, e2, _⟩ := r
      rw [← e1, ← e2]
      exact key_at ok (k _ (List.mem_cons_self ..))
    · exact ents_are ok t (fun x hx => k x (List.mem_cons_of_mem _ hx)) y hy
theorem dn_dict (ok : HOk P w H h) (e : H a = some (Dn P w a xs)) (k : KeysIn H xs) : (a == sysModules) = false ∧ xs.length ≤ sizeLine ∧ ∃ vs, Paired RelE xs vs ∧ h.DictOfH (tupleKind (leafKind P w)) a vs := by
  obtain ⟨hs, hl, vs, hp, o, es, ep, e1, e2, e3, e4, e5⟩ := dn_of ok e
  exact ⟨hs, hl, vs, hp, o, es, ep, e1, e2, e3, e4, ents_are ok hp k, e5⟩
theorem dn_obj {vs : List (LK × Addr × Value)} (hs : (a == sysModules) = false) (hl : xs.length ≤ sizeLine) (hp : Paired RelE xs vs) (d : h.DictOfH (tupleKind (leafKind P w)) a vs) : DnObj P w a xs h := by
  obtain ⟨o, es, ep, e1, e2, e3, e4, _, e5⟩ := d
  exact ⟨hs, hl, vs, hp, o, es, ep, e1, e2, e3, e4, e5⟩
end
theorem look_rel {k : LK} : ∀ {xs : List Ent} {vs : List (LK × Addr × Value)}, Paired RelE xs vs → RelO (look xs k) ((atKey vs k).map (·.2))
  | _, _, .nil => True.intro
  | x :: xs, v :: vs, .cons r t => by
    obtain ⟨e1, e2, e3⟩ := r
    have ih := look_rel (k := k) t
    unfold look atKey at ih ⊢
    by_cases hk : x.1 = k
    · have hv : v.1 = k := e1.symm.trans hk
      rw [List.find?_cons, List.find?_cons, decide_eq_true hk, decide_eq_true hv]
      exact e3
    · have hv : ¬ v.1 = k := fun q => hk (e1.trans q)
      rw [List.find?_cons, List.find?_cons, decide_eq_false hk, decide_eq_false hv]
      exact ih
theorem rel_len : ∀ {xs : List Ent} {vs : List (LK × Addr × Value)}, Paired RelE xs vs → xs.length = vs.length := fun r => Paired.length r
theorem rel_keys : ∀ {xs : List Ent} {vs : List (LK × Addr × Value)}, Paired RelE xs vs → xs.map (·.1) = vs.map (·.1)
  | _, _, .nil => rfl
  | _, _, .cons r t => by rw [List.map_cons, List.map_cons, r.1, rel_keys t]
theorem RelO.orD {o : Option V} {p : Option Value} {d : V} {u : Value} (r : RelO o p) (rd : RelV d u) : RelV (o.getD d) (p.getD u) := by
  cases o with
  | none =>
    cases p with
    | none => exact rd
    | some y => exact r.elim
  | some x =>
    cases p with
    | none => exact r.elim
    | some y => exact r

/-! ### by values: get, [], len, dict(..) -/
section
variable {X : Cx} {pins : List (Addr × Obj)} {σ : L2.St} {H : Hp} {s : Shared} {a q : Addr} {xs : List Ent}
/-- d.get(k, x) -/
def tNGet (P : Program) (w : World) (td ty tx : TE) : TE := fun σ H Q => td σ H fun x H1 => ∃ a xs, x = .ref a ∧ H1 a = some (Dn P w a xs) ∧ ty σ H1 fun y H2 => tx σ H2 fun z H3 =>
  ∃ ys b ks, H3 a = some (Dn P w a ys) ∧ KeysIn H3 ys ∧ y = .ref b ∧ H3 b = some (.tup (ks.map lfV)) ∧ Q ((look ys ks).getD z) H3
theorem pe_nget {o e f : Expr} {apos cpos : Pos} {td ty tx : TE} (hu : X.A.units + 1 < cLine) (ho : PE X o td) (he : PE X e ty) (hf : PE X f tx) (m : M2 X o "get" apos e f cpos) :
    PE X (.Call (.Attribute o "get" apos) [e, f] [] cpos) (tNGet X.prog X.w td ty tx) := by
  refine ⟨fun pins s σ H Q I h => ?_⟩
  refine wpAny_Call_method m.base m.few m.line PySem.F.plainAttrs_dict PySem.F.slot_dict_get PySem.F.type_dict_get (thn (ho.run pins s σ H _ I h) fun u s1 ⟨x, H1, I1, rx, a, xs, ex, hd, q1⟩ => ?_)
  subst ex
  obtain rfl : u = Value.ref a := rx
  obtain ⟨_, _, vs, _, o, es, ep, e1, e2, _⟩ := dn_of I1.hok hd
  refine ⟨⟨o, e1, e2.1⟩, fun b eb => ?_, ?_⟩
  · cases eb
    exact ⟨o, e1, e2.2.1⟩
  rw [m.trees]
  refine Calls.callWith_builtin rfl (Calls.evalArgs_plain (Calls.spliced_cons (thn (he.run pins s1 σ H1 _ I1 q1) fun iv s2 ⟨y, H2, I2, ry, q2⟩ =>
    Calls.spliced_cons (thn (hf.run pins s2 σ H2 _ I2 q2) fun fv s3 ⟨z, H3, I3, rz, ys, b, ks, hd3, hk3, ey, hb, q3⟩ => Calls.spliced_nil ?_))))
  subst ey
  cases (show iv = Value.ref b from ry)
  obtain ⟨hs, _, us, rel, dd⟩ := dn_dict I3.hok hd3 hk3
  exact call_meetsIn PySem.F.slot_dict_get dd.typeIs PySem.F.entry_dict_get (PySem.F.args_dict_get_3 _ _ _) (meetsH_dict_get_default (tupleKind (leafKind X.prog X.w)) a b hs fv)
    ⟨tupleKind_room_in1 hu, ks, us, key_at I3.hok hb, dd, ⟨_, H3, I3.tok _, RelO.orD (look_rel rel) rz, q3⟩⟩
/-- d[k], there -/
def rIxN (P : Program) (w : World) : R2 := fun x y H Q => ∃ a xs b ks v, x = .ref a ∧ y = .ref b ∧ H a = some (Dn P w a xs) ∧ KeysIn H xs ∧ H b = some (.tup (ks.map lfV)) ∧ look xs ks = some v ∧ Q v H
theorem ix_dn (hu : X.A.units + 1 < cLine) : IxR X (rIxN X.prog X.w) := by
  intro value slice pins s σ H x y v u Q I rx ry h hs
  obtain ⟨a, xs, b, ks, z, rfl, rfl, hd, hk, hb, hl, q⟩ := h
  cases (show v = Value.ref a from rx)
  cases (show u = Value.ref b from ry)
  obtain ⟨_, _, us, rel, dd⟩ := dn_dict I.hok hd hk
  have rr := look_rel (k := ks) rel
  rw [hl] at rr
  obtain ⟨r, hr, rv⟩ := RelO.some_of rr
  obtain ⟨p, hp, rfl⟩ := Option.map_eq_some_iff.mp hr
  exact subscriptTail_builtinR (x := p.2) dd.typeIs PySem.F.slot_dict_getitem.lookup
    (wpAny_getItem_heap (tupleKind_room_in1 hu) (key_at I.hok hb) dd hp ⟨rfl, ⟨z, H, I.tok _, rv, q⟩⟩) hs
/-- len(d) -/
theorem call_lenN : CallR X (.builtin "len") (fun xs H Q => ∃ a es, xs = [.ref a] ∧ H a = some (Dn X.prog X.w a es) ∧ KeysIn H es ∧ Q (.int es.length) H) := by
  intro pins s σ H xs us Q I r h
  obtain ⟨a, es, rfl, hd, hk, q⟩ := h
  obtain ⟨u, rfl, rx⟩ := vals1 r
  cases rx
  obtain ⟨hs, hz, vs, rel, dd⟩ := dn_dict I.hok hd hk
  have hl := rel_len rel
  have hm : s.heap.DictKeyed (tupleKind (leafKind X.prog X.w)) a (pairsH vs) := ⟨vs, dd, rfl⟩
  have e : ((pairsH vs).length : Int) = (es.length : Int) := by rw [pairsH_length, hl]
  rw [sizeLine_eq] at hz
  refine call_len_slot (n := ((pairsH vs).length : Int)) hm.typeIs PySem.F.slot_dict_len (fun Q' hq => len_keyed hs hm hq) (by omega) (by rw [e]; omega) ?_
  exact ⟨.int es.length, H, I.tok _, ⟨s.toks + 1, by rw [e]⟩, q⟩

/-! ### dict(..) of pairs -/
theorem stored_all {K : Type} [DecidableEq K] : ∀ (ps acc : List (K × Addr × Value)), ((acc ++ ps).map (·.1)).Nodup → storedAllH acc ps = acc ++ ps
  | [], acc, _ => by rw [List.append_nil]; rfl
  | p :: ps, acc, hn => by
    have e1 : atKey acc p.1 = none := atKey_none_of_get fun j q hj => by
      rw [List.map_append, List.map_cons] at hn
      have hm : p.1 ∈ acc.map (·.1) := List.mem_map.mpr ⟨(p.1, q), List.mem_of_getElem? hj, rfl⟩
      exact (List.nodup_append.mp hn).2.2 _ hm _ (List.mem_cons_self ..) rfl
    show storedAllH (storedH acc p.1 p.2.1 p.2.2) ps = _
    rw [storedH_new e1]
    have e2 : acc ++ [(p.1, p.2.1, p.2.2)] ++ ps = acc ++ p :: ps := by rw [List.append_assoc]; rfl
    rw [stored_all ps _ (by rw [e2]; exact hn), e2]
/-- the pairs' tuples, by their addresses -/
abbrev PrT := Addr × Ent
def PrsIn (H : Hp) (ts : List PrT) : Prop := ∀ t ∈ ts, H t.1 = some (.tup [.ref t.2.2.1, t.2.2.2]) ∧ H t.2.2.1 = some (.tup (t.2.1.map lfV))
theorem PrsIn.same {H H' : Hp} {ts : List PrT} (k : PrsIn H ts) (s : Same H H') : PrsIn H' ts := fun t ht => ⟨s _ _ (k t ht).1, s _ _ (k t ht).2⟩
theorem PrsIn.keys {H : Hp} {ts : List PrT} (k : PrsIn H ts) : KeysIn H (ts.map (·.2)) := fun x hx => by
  obtain ⟨t, ht, rfl⟩ := List.mem_map.mp hx
  exact (k t ht).2
theorem prs_ex {P : Program} {w : World} {h : Heap} (ok : HOk P w H h) : ∀ {ts : List PrT}, PrsIn H ts → ∃ vs : List (LK × Addr × Value), Paired RelE (ts.map (·.2)) vs ∧
    ∀ (j : Nat) (y : LK × Addr × Value), vs[j]? = some y → ∃ t, ts[j]? = some t ∧ h.IsTuple t.1 #[.ref y.2.1, y.2.2]
  | [], _ => ⟨[], .nil, fun j y e => by simp at e⟩
  | t :: ts, k => by
    obtain ⟨vs, hp, hv⟩ := prs_ex ok (ts := ts) fun x hx => k x (List.mem_cons_of_mem _ hx)
    obtain ⟨_, its, r, ht⟩ := (show ObjOk P w H h t.1 (.tup [.ref t.2.2.1, t.2.2.2]) from ok t.1 _ (k t (List.mem_cons_self ..)).1)
    obtain ⟨u1, u2, rfl, r1, r2⟩ := vals2 r
    cases (show u1 = Value.ref t.2.2.1 from r1)
    refine ⟨(t.2.1, t.2.2.1, u2) :: vs, .cons ⟨rfl, rfl, r2⟩ hp, fun j y e => ?_⟩
    cases j with
    | zero =>
      cases (Option.some.inj e)
      exact ⟨t, rfl, ht⟩
    | succ j => exact hv j y e
theorem dict_run {T : String} {items : Array Value} (hc : X.calm = true) (hu : X.A.units + 3 < cLine) {ts : List PrT} (I : Inv X pins σ H s) (hp : PrsIn H ts) (hn : (ts.map (·.2.1)).Nodup) (hz : ts.length ≤ sizeLine)
    (hi : items = (ts.map fun t => Value.ref t.1).toArray) (arg : ∀ (Ts : Nat → Addr) (ps : List (Value × Value)), PairArg X.prog X.w T a (a :: (List.range ps.length).map Ts) [] ps.length (PairRel ps) (fun h => PlainSeq T h a items ∧ PairItems h items Ts ps))
    (ho : PlainSeq T s.heap a items) {Q : VK} (q : ∀ p, H p = none → Q (.ref p) (upd H p (Dn X.prog X.w p (ts.map (·.2))))) :
    wpAny (model X.prog X.w) X.A (call (.type "dict") [.ref a]) (EP X pins σ Q) X.xe s := by
  obtain ⟨vs, rel, hv⟩ := prs_ex I.hok hp
  have hl : ts.length = vs.length := by
    have e := rel_len rel
    rw [List.length_map] at e
    exact e
  have hkn : ((([] : List (LK × Addr × Value)) ++ vs).map (·.1)).Nodup := by
    rw [List.nil_append, ← rel_keys rel, List.map_map]
    exact hn
  have keys : ∀ y ∈ vs, (tupleKind (leafKind X.prog X.w)).is s.heap y.1 y.2.1 := ents_are I.hok rel hp.keys
  let Ts : Nat → Addr := fun j => ((ts[j]?).map (·.1)).getD 0
  have pi : PairItems s.heap items Ts (vs.map fun y => (Value.ref y.2.1, y.2.2)) := by
    refine ⟨by rw [hi]; simp [hl], fun j k v e => ?_⟩
    rw [List.getElem?_map] at e
    cases hj : vs[j]? with
    | none => rw [hj] at e; cases e
    | some y =>
      rw [hj] at e
      cases e
      obtain ⟨t, et, ht⟩ := hv j y hj
      have eT : Ts j = t.1 := by show ((ts[j]?).map (·.1)).getD 0 = t.1; rw [et]; rfl
      rw [eT, hi]
      exact ⟨by simp [et], .inl ht⟩
  refine call_dict_pairsH (knd := tupleKind (leafKind X.prog X.w)) (ps := vs) (arg Ts (vs.map fun y => (Value.ref y.2.1, y.2.2))) (I.ok.hd hc) (by show X.A.units + 1 + 1 < cLine; omega) ⟨ho, pi⟩ ⟨by rw [List.length_map], fun j k v e => ?_⟩ ?_ (by rw [List.length_map, ← hl]; exact hz) fun h' tk hd' hk => ?_
  · have e' : (vs.map fun y => (Value.ref y.2.1, y.2.2))[j]? = some (k, v) := e
    rw [List.getElem?_map] at e'
    cases hj : vs[j]? with
    | none => rw [hj] at e'; cases e'
    | some y =>
      rw [hj] at e'
      cases e'
      exact ⟨y.1, y.2.1, rfl, rfl⟩
  · intro h' hk x hx
    exact tupleKind_stays.stays (fun b o _ _ e _ => hk b o (Nat.ne_of_lt (Heap.lt_size e)) (fun z => nomatch z) e) (keys x hx)
  · rw [stored_all vs [] hkn, List.nil_append] at hd'
    have hm : (s.heap.objs.size == sysModules) = false := beq_eq_false_iff_ne.mpr (Nat.ne_of_gt I.big)
    exact ⟨.ref s.heap.objs.size, _, I.laid (t' := tk) (fun b o e => hk b o (fun z => nomatch z) e) (Nat.le_refl _) (dn_mk (dn_obj hm (by rw [List.length_map]; exact hz) rel hd')), rfl, q _ (I.hok.fresh (Nat.le_refl _))⟩
/-- dict(xs), xs a list of pairs with unlike keys -/
def rDictL (P : Program) (w : World) (K : PySem.W.Frag) : List V → Hp → VK → Prop := fun xs H Q => ∃ a ts, xs = [.ref a] ∧ SqL K H a (ts.map fun t => V.ref t.1) ∧ PrsIn H ts ∧ (ts.map (·.2.1)).Nodup ∧
  ∀ p, H p = none → Q (.ref p) (upd H p (Dn P w p (ts.map (·.2))))
theorem refs_of : ∀ {as : List Addr} {us : List Value}, Vals (as.map V.ref) us → us = as.map Value.ref := fun r => L2.refs_at r
theorem call_dictL (hc : X.calm = true) (hu : X.A.units + 3 < cLine) : CallR X (.type "dict") (rDictL X.prog X.w X.K) := by
  intro pins s σ H xs us Q I r h
  obtain ⟨a, ts, rfl, hq, hp, hn, q⟩ := h
  obtain ⟨u, rfl, rx⟩ := vals1 r
  cases rx
  obtain ⟨its, rv, ⟨o, n, e1, e2, e3, e4⟩, hz⟩ := I.list hq
  have ei : its = ts.map fun t => Value.ref t.1 := by
    have e : (ts.map fun t => V.ref t.1) = (ts.map (·.1)).map V.ref := by rw [List.map_map]; rfl
    rw [e] at rv
    rw [refs_of rv, List.map_map]
    rfl
  rw [List.length_map] at hz
  exact dict_run hc hu I hp hn hz (by rw [ei]) (fun Ts ps => PairArg.list a _ Ts ps) ⟨o, n, e1, e2, e3, e4⟩ q
/-- a tuple that has no dict of its own -/
def PtObj (a : Addr) (xs : List V) (h : Heap) : Prop := xs.length ≤ sizeLine ∧ ∃ its n, Vals xs its ∧ h.get? a = some { cls := .type "tuple", data := .seq its.toArray n }
def Pt (a : Addr) (xs : List V) : HO := .ext (PtObj a xs)
theorem pt_mk {P : Program} {w : World} {h : Heap} {xs : List V} (x : PtObj a xs h) : ObjOk P w H h a (Pt a xs) := by
  obtain ⟨hl, its, n, r, e⟩ := id x
  refine ⟨x, ⟨_, e⟩, fun h1 h2 y k => ?_⟩
  obtain ⟨yl, jts, m, yr, ye⟩ := y
  exact ⟨yl, jts, m, yr, k _ ye⟩
/-- tuple(list), where it is to be walked by dict -/
theorem call_tuplePt : CallR X (.type "tuple") (fun xs H Q => ∃ p ys, xs = [.ref p] ∧ SqL X.K H p ys ∧ ∀ l, H l = none → Q (.ref l) (upd H l (Pt l ys))) := by
  intro pins s σ H xs us Q I r h
  obtain ⟨p, ys, rfl, hq, q⟩ := h
  obtain ⟨u, rfl, rx⟩ := vals1 r
  cases rx
  obtain ⟨its, r', pl, hz⟩ := I.list hq
  have hlen := r'.length
  refine call_tuple_list pl.isList (fun h' kp => ?_) (by simp only [List.size_toArray] <;> omega)
  have I1 : Inv X pins σ H { s with heap := h' } := I.kept (t' := s.toks) kp
  exact ⟨.ref h'.objs.size, _, I1.laid (t' := s.toks) (h' := h'.push { cls := .type "tuple", data := .seq its.toArray }) (fun b o e => Heap.get?_push_of_some _ e) (Nat.le_refl _) (pt_mk ⟨hz, its, _, r', Heap.get?_push_size _ rfl⟩), rfl, q _ (I1.hok.fresh (Nat.le_refl _))⟩
/-- dict(t), t such a tuple of pairs with unlike keys -/
theorem call_dictT (hc : X.calm = true) (hu : X.A.units + 3 < cLine) : CallR X (.type "dict") (fun xs H Q => ∃ a ts, xs = [.ref a] ∧ H a = some (Pt a (ts.map fun t => V.ref t.1)) ∧ PrsIn H ts ∧ (ts.map (·.2.1)).Nodup ∧
    ∀ p, H p = none → Q (.ref p) (upd H p (Dn X.prog X.w p (ts.map (·.2))))) := by
  intro pins s σ H xs us Q I r h
  obtain ⟨a, ts, rfl, hq, hp, hn, q⟩ := h
  obtain ⟨u, rfl, rx⟩ := vals1 r
  cases rx
  obtain ⟨hz, its, n, rv, e1⟩ := (I.hok a _ hq).1
  have ei : its = ts.map fun t => Value.ref t.1 := by
    have e : (ts.map fun t => V.ref t.1) = (ts.map (·.1)).map V.ref := by rw [List.map_map]; rfl
    rw [e] at rv
    rw [refs_of rv, List.map_map]
    rfl
  rw [List.length_map] at hz
  exact dict_run hc hu I hp hn hz (by rw [ei]) (fun Ts ps => PairArg.tuple a _ Ts ps) ⟨_, n, e1, rfl, rfl, rfl⟩ q
end
end K15
end

section
set_option Elab.async false
set_option linter.all false
set_option maxRecDepth 100000
set_option maxHeartbeats 2000000
/-! {k: v for target in iter}, the keys tuples as in K15Dict, no key twice. -/
namespace K15
open PySem PySem.Spec PyProof.Rows L2

/-- a new key stored into the dict at D -/
theorem dn_store {X : Cx} {pins : List (Addr × Obj)} {σ : L2.St} {H : Hp} {s : Shared} {E : Value → Shared → Prop} {D b : Addr} {xs : List Ent} {ks : LK} {v : V} {r : Value} {Q : Unit → Shared → Prop} (hu : X.A.units + 1 < cLine)
    (I : Inv X pins σ H s) (hD : H D = some (Dn X.prog X.w D xs)) (hk : KeysIn H xs) (hb : H b = some (.tup (ks.map lfV))) (hn : ks ∉ xs.map (·.1)) (hz : xs.length < sizeLine) (rv : RelV v r)
    (h : ∀ s', Inv X pins σ (upd H D (Dn X.prog X.w D (xs ++ [(ks, b, v)]))) s' → Q () s') : wpAny (model X.prog X.w) X.A (dictSet D (.ref b) r) Q E s := by
  obtain ⟨hs, hl, us, rel, dd⟩ := dn_dict I.hok hD hk
  have ru := rel_len rel
  have e0 : atKey us ks = none := atKey_none_of_get fun j p hj => hn (by
    rw [rel_keys rel]
    exact List.mem_map.mpr ⟨(ks, p), List.mem_of_getElem? hj, rfl⟩)
  refine wpAny_dictSet_heap (hsz := by rw [← ru]; exact hl) (show (tupleKind (leafKind X.prog X.w)).room X.A from by show X.A.units < cLine; omega) (key_at I.hok hb) dd fun h' dd' sb => h _ ?_
  rw [storedH_new e0] at dd'
  have there : ∃ q, h'.get? D = some q := let ⟨q, _, _, hq, _⟩ := dd'; ⟨q, hq⟩
  have rel2 : Paired RelE (xs ++ [(ks, b, v)]) (us ++ [(ks, b, r)]) := by
    clear h dd dd' e0 ru hz hn hk hD hl
    induction rel with
    | nil => exact .cons ⟨rfl, rfl, rv⟩ .nil
    | cons q _ ih => exact .cons q ih
  exact d_write I (by rw [hD]; exact True.intro) sb there (dn_mk (dn_obj hs (by rw [List.length_append]; exact hz) rel2 dd'))

section
variable {X : Cx}
/-- the reading: D the new dict, W by turn and measure -/
def tNdc (P : Program) (w : World) (wi : TI) (g : TG) (tk tv : TE) (vs : List Nat) : TE := fun σ H Q => wi σ H fun J H1 => ∀ D, H1 D = none →
  ∃ W : Nat → Nat → Hp → Prop, (∃ m, W 0 m (upd H1 D (Dn P w D []))) ∧ ∀ i m H, W i m H → (J.stop i H ∧ Q (.ref D) H) ∨
    (J.go i H ∧ ∃ Nx : Hp → Prop, (∀ H', Nx H' → ∃ m', m' < m ∧ W (i + 1) m' H') ∧ ∀ x H', J.yld i H x H' → g x (wipe σ vs) H' fun σ2 H2 => wipe σ2 vs = wipe σ vs ∧
      tk σ2 H2 fun y H4 => tv σ2 H4 fun z H5 => ∃ xs b ks, y = .ref b ∧ H5 D = some (Dn P w D xs) ∧ KeysIn H5 xs ∧ H5 b = some (.tup (ks.map lfV)) ∧ ks ∉ xs.map (·.1) ∧ xs.length < sizeLine ∧
        Nx (upd H5 D (Dn P w D (xs ++ [(ks, b, z)]))))
theorem dn_new {P : Program} {w : World} {H : Hp} {h : Heap} (hb : sysModules < h.objs.size) : ObjOk P w H (h.push { cls := .type "dict", data := .dict #[] }) h.objs.size (Dn P w h.objs.size []) :=
  dn_mk ⟨beq_eq_false_iff_ne.mpr (Ne.symm (Nat.ne_of_lt hb)), Nat.zero_le _, [], .nil, _, #[], 0, Heap.get?_push_size _ rfl, ⟨rfl, rfl, rfl⟩, rfl, rfl, List.nodup_nil⟩
theorem pe_ndc {kx vx tg iter : Expr} {scope : Scope} {own : List (Str × Nat)} {pos : Pos} {wi : TI} {g : TG} {tk tv : TE} (hu : X.A.units + 1 < cLine) (calm : X.calm = true) (nd : X.N.Nodup) (hi : PI X tg iter wi) (ok : BlkOk X.N X.env.scope scope own)
    (hg : ∀ (s : Shared) (H : Hp) (C : Addr) (cl : List (Str × Addr)) (fp : List Addr), PG (X.blk s H scope (compEnvC scope cl C X.env) fp) tg g)
    (hk : ∀ (s : Shared) (H : Hp) (C : Addr) (cl : List (Str × Addr)) (fp : List Addr), PE (X.blk s H scope (compEnvC scope cl C X.env) fp) kx tk)
    (hv : ∀ (s : Shared) (H : Hp) (C : Addr) (cl : List (Str × Addr)) (fp : List Addr), PE (X.blk s H scope (compEnvC scope cl C X.env) fp) vx tv)
    (fold : ∀ x, foldedSetIterable iter X.env x = pure x := by intro _; rfl) :
    PE X (.DictComp kx vx [⟨tg, iter, [], 0⟩] scope pos) (tNdc X.prog X.w wi g tk tv (own.map (·.2))) := by
  refine ⟨fun pins s σ H Q I h => ?_⟩
  rw [arm_eval_DictComp]
  have caught : ∀ y ∈ scope.names, y.2 = .free → ∃ c, X.env.cells.lookup y.1 = some c := fun y hy e => (ok.free y hy e).elim (fun k => I.ok.has _ (.inl k)) fun k => I.ok.has _ (.inr k)
  refine wpAny_comprehension_free (use := none) rfl fold (closure_ok caught) ok.kind (fun y hy e => by rw [ok.uniq y hy, e]) (thn (hi.run pins s σ H _ I h) fun _ s1 hx => thn hx fun itv s2 hit => ?_)
  obtain ⟨it, fp, tn, J, H2, rfl, I2, T, st2, f2, rest⟩ := hit
  refine wpAny_newObj_type (newEnv_comp ?_)
  obtain ⟨D, hD⟩ : ∃ D, D = s2.heap.objs.size := ⟨_, rfl⟩
  obtain ⟨W, ⟨m0, w0⟩, turn⟩ := rest D (hD ▸ I2.hok.fresh (Nat.le_refl _))
  rw [← hD]
  -- the state with the new dict
  obtain ⟨sD, eD⟩ : ∃ sD : Shared, sD = { s2 with heap := s2.heap.push { cls := .type "dict", data := .dict #[] } } := ⟨_, rfl⟩
  obtain ⟨HD, eH⟩ : ∃ HD, HD = upd H2 D (Dn X.prog X.w D []) := ⟨_, rfl⟩
  have hheap : sD.heap = s2.heap.push { cls := .type "dict", data := .dict #[] } := by rw [eD]
  have ID : Inv X pins σ HD sD := by
    rw [eD, eH, hD]
    exact I2.laid (t' := s2.toks) (fun b o e => Heap.get?_push_of_some _ e) (Nat.le_refl _) (dn_new I2.big)
  rw [← eH] at w0
  have old : ∀ b ∈ fp, b < s2.heap.objs.size := fun b hb => let ⟨_, e, _⟩ := T.obj _ _ st2 b hb; Heap.lt_size e
  have fD : ∀ b ∈ fp, FpOk X pins HD b ∧ b < sD.heap.objs.size := fun b hb => by
    have hlt := old b hb
    refine ⟨⟨?_, (f2 b hb).2⟩, by rw [hheap, Heap.size_push]; exact Nat.lt_succ_of_lt hlt⟩
    rw [eH, upd_ne (by rw [hD]; exact Nat.ne_of_lt hlt)]
    exact (f2 b hb).1
  have stD : tn 0 sD.heap := T.keep _ _ _ st2 fun b _ o e => by rw [hheap]; exact Heap.get?_push_of_some _ e
  have IB := block_start ID ok nd fD
  have gB := hg sD HD sD.heap.objs.size (cellsFrom (sD.heap.objs.size + 1) scope.names (cloFrom X.env.cells scope.names [])) fp
  have kB := hk sD HD sD.heap.objs.size (cellsFrom (sD.heap.objs.size + 1) scope.names (cloFrom X.env.cells scope.names [])) fp
  have vB := hv sD HD sD.heap.objs.size (cellsFrom (sD.heap.objs.size + 1) scope.names (cloFrom X.env.cells scope.names [])) fp
  have goal : codeAny (model X.prog X.w) X.A (.compStart (.DictComp kx vx [⟨tg, iter, [], 0⟩] scope pos) 0 (.ref it) (.ref D) (compEnvC scope (cellsFrom (sD.heap.objs.size + 1) scope.names (cloFrom X.env.cells scope.names [])) sD.heap.objs.size X.env))
      (compPost (model X.prog X.w) X.A X.xe none (EP X pins σ Q) (.ref D) sD.heap.objs.size) { sD with heap := pushCells (sD.heap.push { cls := .type "dict", data := .dict #[] }) scope.names } := by
    obtain ⟨ce, hce⟩ : ∃ ce, ce = compEnvC scope (cellsFrom (sD.heap.objs.size + 1) scope.names (cloFrom X.env.cells scope.names [])) sD.heap.objs.size X.env := ⟨_, rfl⟩
    rw [← hce] at IB gB kB vB ⊢
    have loc : ce.locals = sD.heap.objs.size := by rw [hce]; rfl
    obtain ⟨sB, eB⟩ : ∃ sB : Shared, sB = { sD with heap := pushCells (sD.heap.push { cls := .type "dict", data := .dict #[] }) scope.names } := ⟨_, rfl⟩
    rw [← eB] at IB ⊢
    have stB : tn 0 sB.heap := T.keep _ _ _ stD fun b _ o e => by rw [eB]; exact pushCells_keeps _ _ _ _ (Heap.get?_push_of_some _ e)
    have own_fp : ∀ {σ' : L2.St} {H' : Hp} {s' : Shared}, Inv (X.blk sD HD scope ce fp) [] σ' H' s' → (∀ b ∈ fp, H' b = none) → ∀ b ∈ fp, FpOk (X.blk sD HD scope ce fp) [] H' b := fun I' hn b hb =>
      ⟨hn b hb, (I'.ok.exf b hb).1, I'.ok.exfs b hb, .inl hb, fun x c e => (I'.ok.exf b hb).2 x c e, fun p hp => by cases hp⟩
    have loop : codeAny (model X.prog X.w) X.A (.compLoop (.DictComp kx vx [⟨tg, iter, [], 0⟩] scope pos) 0 (.ref it) (.ref D) ce) (compPost (model X.prog X.w) X.A X.xe none (EP X pins σ Q) (.ref D) sD.heap.objs.size) sB := by
      refine compLoop_anyD (fun n s' => ∃ i H', Inv (X.blk sD HD scope ce fp) [] (wipe σ (own.map (·.2))) H' s' ∧ tn i s'.heap ∧ (∀ b ∈ fp, H' b = none) ∧ W i n H') ?_ m0 ⟨0, HD, IB, stB, fun b hb => (fD b hb).1.1, w0⟩
      rintro n s5 ⟨i, H5, I5, st5, n5, w5⟩
      rcases turn i n H5 w5 with ⟨stop, fin⟩ | ⟨go, Nx, hNx, step⟩
      · refine thnF (T.done (X.blk sD HD scope ce fp) rfl rfl rfl calm i [] s5 _ H5 (fun _ _ => False) I5 (own_fp I5 n5) st5 stop) fun r s6 ⟨hr, I6⟩ => ?_
        subst hr
        have back : Inv X pins σ H5 s6 := ID.call' (ch := fp) I6.os I6.base I6.hok I6.bare fun b hb => by
          obtain ⟨_, c1, _, c3, c4, c5⟩ := (fD b hb).1
          exact ⟨c3, c1, c4, c5⟩
        have nL : H5 sD.heap.objs.size = none := loc ▸ I6.free
        obtain ⟨m, hn, _⟩ := I6.loc
        have hn : s6.heap.Ns ce.locals m := hn
        rw [loc] at hn
        obtain ⟨c0, c1, c2, c3, c4, c5⟩ := ID.fpOk (Nat.le_refl _) nL
        exact ⟨m, hn, fun h'' sb => ⟨.ref D, H5, back.turned (t' := s6.toks) (fun b o hb e => (sb.2 b hb).trans e) c0 c1 c3 c4 c5, rfl, fin⟩⟩
      · refine thnF (T.item (X.blk sD HD scope ce fp) rfl rfl rfl calm i [] s5 _ H5 (fun _ _ => False) I5 (own_fp I5 n5) st5 go) fun r s6 ⟨u, hr, h6⟩ => ?_
        subst hr
        refine thnF h6 fun _ s7 ⟨x, H7, I7, r7, y7, st7, n7⟩ => ?_
        refine thnF (gB.run _ s7 _ H7 x u _ (I7.pinned (own_fp I7 n7) (T.obj _ _ st7)) r7 (step x H7 y7)) fun _ s8 ⟨σ8, H8, I8, hw8, q8⟩ => ?_
        refine wpAny_tests_nil ?_
        rw [if_pos rfl]
        refine thnF (kB.run _ s8 σ8 H8 _ I8 q8) fun z s10 ⟨yk, H10, I10, r10, q10⟩ => ?_
        refine thnF (vB.run _ s10 σ8 H10 _ I10 q10) fun z2 s11 ⟨yv, H11, I11, r11, xs, b, ks, ek, hD11, hk11, hb11, hn11, hz11, nx⟩ => ?_
        subst ek
        cases (show z = Value.ref b from r10)
        refine dn_store (X := X.blk sD HD scope ce fp) hu I11 hD11 hk11 hb11 hn11 hz11 r11 fun s12 I12 => ?_
        obtain ⟨m', hm, w'⟩ := hNx _ nx
        refine ⟨m', hm, i + 1, _, (I12.unpinned (pins := [])).weak (by rw [← hw8, wipe_length]) (fun j v e => ?_), T.keep _ _ _ st7 fun b hb o e => (I12.pin (b, o) (List.mem_append_right _ (List.mem_append_right _ (mem_pinsAt hb e)))).1, fun b hb => ?_, w'⟩
        · rw [← hw8] at e
          exact (wipe_some e).1
        · obtain ⟨o, e, _⟩ := T.obj _ _ st7 b hb
          exact (I12.pin (b, o) (List.mem_append_right _ (List.mem_append_right _ (mem_pinsAt hb e)))).2.1
    exact codeAny_compStart_dict loop (T.self X.A 0 _ _ _ stB loop)
  subst eD hD
  exact goal
end
end K15
end

section
set_option Elab.async false
set_option linter.all false
set_option maxRecDepth 100000
set_option maxHeartbeats 4000000
/-! sorted(d, key=f), d a dict as in K15Dict, f a def that makes a new list of whole numbers of a key: some arrangement of the keys. -/
namespace K15
open PySem PySem.W PySem.Spec PyProof.Rows L2

/-- one builtin deeper twice, and no exception is wanted -/
abbrev deep (X : Cx) : Cx := { X with A := X.A.in1.in1, xe := fun _ _ => False }
section
variable {X : Cx} {pins : List (Addr × Obj)} {σ : L2.St} {H : Hp} {s : Shared}
theorem deep_inv (I : Inv X pins σ H s) : Inv (deep X) pins σ H s :=
  ⟨⟨I.ok.mod, I.ok.kind, I.ok.glob, I.ok.blt, I.ok.above, I.ok.inj, I.ok.has, I.ok.cab, I.ok.hd, I.ok.frames, I.ok.stk, I.ok.exf, I.ok.bs, I.ok.bsz, I.ok.noex, I.ok.exfs, I.ok.funs, I.ok.frf⟩,
    I.os, I.bare, I.base, I.loc, I.cell, I.free, I.freeC, I.pin, I.hok, I.len⟩
theorem up_inv (ok : X.Ok) (I : Inv (deep X) pins σ H s) : Inv X pins σ H s := ⟨ok, I.os, I.bare, I.base, I.loc, I.cell, I.free, I.freeC, I.pin, I.hok, I.len⟩
end

theorem nil_get {α : Type} {j : Nat} {q : α} (e : ([] : List α)[j]? = some q) : False := by simp at e
/-- by what a key is put in order -/
def ordL : Leaf → Int
  | .num i => i
  | _ => -1
def ordV (x : Ent) : List V := (x.1.map ordL).map V.int
def ordD (x : Ent) : PyData := .list ((x.1.map ordL).map PyData.int)
/-- what the key's def promises -/
def spOrd : Sp := fun vs H Q _ => ∃ (b : Addr) (ks : LK), vs = [.ref b] ∧ H b = some (.tup (ks.map lfV)) ∧ (∀ k ∈ ks, k = Leaf.none ∨ ∃ i, k = Leaf.num i) ∧ ks.length ≤ 3 ∧
  ∀ (p : Addr) (H' : Hp), Same H H' → H p = none → H' p = some (.lst ((ks.map ordL).map V.int)) → Q (.ref p) H'
theorem ints_read {h : Heap} : ∀ {ns : List Int} {us : List Value}, Vals (ns.map V.int) us → ReadsAll h us (ns.map PyData.int) []
  | [], _, r => by
    cases r
    exact .nil
  | n :: ns, _, r => by
    rw [List.map_cons] at r
    cases r with
    | cons q t =>
      obtain ⟨k, rfl⟩ := (show ∃ k, _ = Value.int n k from q)
      exact .cons (as := []) (bs := []) (.int n k) (ints_read t)
theorem ord_read {P : Program} {w : World} {H : Hp} {h : Heap} (ok : HOk P w H h) {p : Addr} {x : Ent} (e : H p = some (.lst (ordV x))) : ∃ as, Reads h (.ref p) (ordD x) as := by
  obtain ⟨_, its, n, r, ho⟩ := (show ObjOk P w H h p (.lst (ordV x)) from ok p _ e)
  exact ⟨[p], .list ho rfl rfl (by rw [List.toList_toArray]; exact ints_read r)⟩
theorem ints_alike : ∀ ns ms : List Int, alikeAll (ns.map PyData.int) (ms.map PyData.int) = true
  | [], ms => by unfold alikeAll; rfl
  | n :: ns, [] => by unfold alikeAll; rfl
  | n :: ns, m :: ms => by
    rw [List.map_cons, List.map_cons]
    unfold alikeAll
    rw [ints_alike ns ms]
    rfl
theorem ord_alike (x y : Ent) : alike (ordD x) (ordD y) = true := by
  unfold ordD alike
  exact ints_alike _ _
theorem ord_depth (x : Ent) : (ordD x).depth ≤ 2 := by
  unfold ordD
  simp only [PyData.depth]
  have e : ∀ ns : List Int, PyData.depthAll (ns.map PyData.int) ≤ 1 := by
    intro ns
    induction ns with
    | nil => simp [PyData.depthAll]
    | cons n ns ih =>
      rw [List.map_cons]
      simp only [PyData.depthAll, PyData.depth]
      omega
  have := e (x.1.map ordL)
  omega

section
variable {X : Cx} {pins : List (Addr × Obj)} {σ : L2.St} {H : Hp} {s : Shared}
theorem fp_pin {b : Addr} {o : Obj} {H' : Hp} (f : FpOk X pins H' b) (e : s.heap.get? b = some o) (hd : ∀ v, o.data ≠ .cell v) :
    s.heap.get? b = some o ∧ H' b = none ∧ b ≠ X.env.locals ∧ b ∉ X.fs ∧ ∀ v, o.data ≠ .cell v := ⟨e, f.1, f.2.1, f.2.2.1, hd⟩
/-- an untracked record of ours is written -/
theorem fp_turn {b : Addr} {h' : Heap} {t' : Nat} (I : Inv X pins σ H s) (f : FpOk X pins H b) (k : ∀ c o, c ≠ b → s.heap.get? c = some o → h'.get? c = some o) : Inv X pins σ H { s with heap := h', toks := t' } :=
  I.turned k f.1 f.2.1 f.2.2.2.1 f.2.2.2.2.1 f.2.2.2.2.2
/-- two untracked records of ours are written, the one at a is tracked from now on -/
theorem fp_track {a c : Addr} {h' : Heap} {t' : Nat} {xs : List V} (I : Inv X pins σ H s) (fa : FpOk X pins H a) (fc : FpOk X pins H c) (k : ∀ b o, b ≠ a → b ≠ c → s.heap.get? b = some o → h'.get? b = some o)
    (new : ObjOk X.prog X.w (upd H a (.lst xs)) h' a (.lst xs)) : Inv X pins σ (upd H a (.lst xs)) { s with heap := h', toks := t' } := by
  have na : ∀ b u, H b = some u → b ≠ a := fun b u e z => by rw [z, fa.1] at e; cases e
  have nc : ∀ b u, H b = some u → b ≠ c := fun b u e z => by rw [z, fc.1] at e; cases e
  refine I.step (g' := s.gens) (d' := s.drawn) (ch := [a, c]) (fun b hb => ?_) (fun b o _ _ hx e _ => k b o (fun z => hx (by simp [z])) (fun z => hx (by simp [z])) e) (fun b o _ _ hx e _ => ⟨o.slots, k b o (fun z => hx (by simp [z])) (fun z => hx (by simp [z])) e⟩)
    (fun b o hx _ n => by rw [upd_ne (fun z => hx (by simp [z]))]; exact n) (fun b o hx e => ⟨o, k b o (fun z => hx (by simp [z])) (fun z => hx (by simp [z])) e⟩)
    (fun b xs e => by rw [upd_ne (na b _ e)]; exact e) (fun b o u e => by rw [upd_ne (na b _ e)]; exact e) (fun b ps e => ⟨#[], by rw [upd_ne (na b _ e), e]; simp⟩) (fun m hm => ?_) (fun b u e => ?_) I.bare
  · rcases List.mem_cons.mp hb with z | z
    · subst z
      exact ⟨fa.2.2.2.1, fa.2.1, fa.2.2.2.2.1, fa.2.2.2.2.2⟩
    · have z : b = c := by simpa using z
      subst z
      exact ⟨fc.2.2.2.1, fc.2.1, fc.2.2.2.2.1, fc.2.2.2.2.2⟩
  · obtain ⟨o, es, ep, ho, r⟩ := hm
    exact ⟨o, es, ep, k _ o (Ne.symm fa.2.1) (Ne.symm fc.2.1) ho, r⟩
  · by_cases hb : b = a
    · subst hb
      rw [upd_same] at e
      cases e
      exact new
    · rw [upd_ne hb] at e
      refine (I.hok b u e).stay (fun d v hd q => k d v ?_ ?_ q) (fun d q => by rw [upd_ne (na d _ q)]; exact q) fun d ys q => by rw [upd_ne (na d _ q)]; exact q
      · rcases hd with z | z
        · rw [z]; exact hb
        · exact na d _ z
      · rcases hd with z | z
        · rw [z]; exact nc b u e
        · exact nc d _ z

variable {k : Nat} {f : Addr} {fd : FuncData} {ps : List Str}
/-- the keys are made, one after another; then the sort -/
theorem sort_rest {a kS : Addr} {e1 : Nat} {xs : List Ent} {P : PySem.Fin → Shared → Prop} {E : Value → Shared → Prop} (F : FnOk X.prog X.w X.K X.mg X.base CX0 k f fd ps spOrd) (hr : Room k X.A.in1.in1) (hb : Binds X.K fd ps [])
    (I : Inv X pins σ H s) (fa : FpOk X pins H a) (fk : FpOk X pins H kS) (hka : kS ≠ a) (na : s.heap.get? a = some (seqObj "list" #[] e1)) (nk : s.heap.get? kS = some (seqObj "list" #[] 0))
    (hk : KeysIn H xs) (hz : xs.length ≤ sizeLine) (hs : ∀ x ∈ xs, x.1.length ≤ 3 ∧ ∀ l ∈ x.1, l = Leaf.none ∨ ∃ i, l = Leaf.num i)
    (h : ∀ (ys : List Addr) (Hc : Hp) (h' : Heap) (tk : Nat) (s' : Shared), ys.Perm (xs.map (·.2.1)) → Same H Hc → Hc a = none → Inv X pins σ (upd Hc a (.lst (ys.map V.ref))) s' → P (.done (.ret .none)) s') :
    wpAny (model X.prog X.w) X.A.in1.in1 (ksk_rest a (.ref f) false (xs.map fun x => Value.ref x.2.1).toArray e1 (.ref kS)) P E s := by
  unfold ksk_rest
  refine wpAny_bind (wpAny_rule ?_)
  rw [List.forIn_toArray]
  refine wpAny_bind (ksk_fold (fun i s' => ∃ (Hc : Hp) (kA : Array Value) (e : Nat) (qs : List Addr), Inv X pins σ Hc s' ∧ Same H Hc ∧ s'.heap.get? kS = some (seqObj "list" kA e) ∧ s'.heap.get? a = some (seqObj "list" #[] e1) ∧ Hc kS = none ∧ Hc a = none ∧
      kA.toList = qs.map Value.ref ∧ qs.length = i ∧ ∀ j q x, qs[j]? = some q → xs[j]? = some x → Hc q = some (.lst (ordV x))) _ 0 s
    ⟨H, #[], 0, [], I, Same.refl H, nk, na, fk.1, fa.1, rfl, rfl, fun j q x e => (nil_get e).elim⟩ ?step ?done)
  case step =>
    rintro j v s' hx ⟨Hc, kA, e, qs, I1, sm, nk1, na1, hk1, ha1, hq, hl, hqs⟩
    simp only [Nat.zero_add] at hl ⊢
    rw [List.getElem?_map] at hx
    cases hj : xs[j]? with
    | none => rw [hj] at hx; cases hx
    | some x =>
      rw [hj] at hx
      cases hx
      have hm : x ∈ xs := List.mem_of_getElem? hj
      have hjl : j < xs.length := (List.getElem?_eq_some_iff.mp hj).1
      have fk1 : FpOk X pins Hc kS := ⟨hk1, fk.2⟩
      have fa1 : FpOk X pins Hc a := ⟨ha1, fa.2⟩
      have I2 : Inv X (pins ++ [(kS, seqObj "list" kA e), (a, seqObj "list" #[] e1)]) σ Hc s' := I1.pins_of fun p hp => by
        rcases List.mem_append.mp hp with z | z
        · exact I1.pin p (List.mem_append_right _ z)
        · rcases List.mem_cons.mp z with z | z
          · subst z
            exact fp_pin fk1 nk1 fun v z => by cases z
          · have z : p = (a, seqObj "list" #[] e1) := by simpa using z
            subst z
            exact fp_pin fa1 na1 fun v z => by cases z
      refine wpAny_bind (wpAny_attempt (wpAny_mono (run_fn (X := deep X) (E := E0) (dvs := []) (us := [Value.ref x.2.1]) (vs := [V.ref x.2.1]) (Q := fun v H' => ∃ q, v = V.ref q ∧ Hc q = none ∧ Same Hc H' ∧ H' q = some (.lst (ordV x))) F hr hb .nil pass0 (deep_inv I2) (.cons rfl .nil)
        ⟨x.2.1, x.1, rfl, sm _ _ (hk x hm), (hs x hm).2, (hs x hm).1, fun p H' s1 n1 e2 => ⟨p, rfl, n1, s1, e2⟩⟩) (fun u s2 he => ?_) fun _ _ z => z.elim))
      obtain ⟨v2, H2, I3, rv, q, rfl, nq, sm2, hq2⟩ := he
      cases (show u = Value.ref q from rv)
      have I4 := up_inv I2.ok I3
      have pk := I4.pin (kS, seqObj "list" kA e) (List.mem_append_right _ (List.mem_append_right _ (List.mem_cons_self ..)))
      have pa := I4.pin (a, seqObj "list" #[] e1) (List.mem_append_right _ (List.mem_append_right _ (List.mem_cons_of_mem _ (List.mem_cons_self ..))))
      have I5 : Inv X pins σ H2 s2 := I4.unpinned
      have hkz : kA.size = j := by
        have := congrArg List.length hq
        rw [Array.length_toList, List.length_map, hl] at this
        exact this
      have s1 := Heap.SameBut.update s2.heap kS (Obj.mapSeq (·.push (Value.ref q)))
      obtain ⟨c2, hc2⟩ : ∃ c2, (s2.heap.update kS (Obj.mapSeq (·.push (Value.ref q)))).get? kS = some (seqObj "list" (kA.push (Value.ref q)) c2) := ⟨_, get?_update_seq pk.1 (·.push (Value.ref q))⟩
      refine wpAny_bind (listUpdate_at pk.1 rfl ?_ (by omega) (by show (kA.push (Value.ref q)).size ≤ _; rw [Array.size_push]; omega))
      have fk5 : FpOk X pins H2 kS := ⟨pk.2.1, fk.2⟩
      refine wpAny_pure ⟨rfl, H2, kA.push (Value.ref q), c2, qs ++ [q], fp_turn (t' := s2.toks) I5 fk5 (fun b o hb e => (s1.2 b hb).trans e), sm.trans sm2, hc2, (s1.2 a hka.symm).trans pa.1, pk.2.1, pa.2.1, by rw [Array.toList_push, hq, List.map_append]; rfl, by rw [List.length_append, hl]; rfl, fun i r y er ey => ?_⟩
      by_cases hi : i < qs.length
      · rw [List.getElem?_append_left hi] at er
        exact sm2 _ _ (hqs i r y er ey)
      · rw [List.getElem?_append_right (by omega)] at er
        have hi0 : i - qs.length = 0 := by
          rcases Nat.eq_zero_or_pos (i - qs.length) with z | z
          · exact z
          · rw [List.getElem?_eq_none (by simp; omega)] at er; cases er
        rw [hi0] at er
        have er : q = r := Option.some.inj er
        have hij : i = j := by omega
        subst er hij
        rw [hj] at ey
        cases ey
        exact hq2
  case done =>
    rintro s' ⟨Hc, kA, e, qs, I1, sm, nk1, na1, hk1, ha1, hq, hl, hqs⟩
    simp only [Nat.zero_add, List.length_map] at hl
    have fk1 : FpOk X pins Hc kS := ⟨hk1, fk.2⟩
    have fa1 : FpOk X pins Hc a := ⟨ha1, fa.2⟩
    refine wpAny_bind (listItems_at nk1 rfl ?_)
    have each : EachIs (fun v d => ∃ as, Reads s'.heap v d as) kA.toList (xs.map ordD) := by
      rw [hq]
      clear hq hz hk hs h na nk
      have go : ∀ (l : List Addr) (m : List Ent), l.length = m.length → (∀ (j : Nat) (q : Addr) (x : Ent), l[j]? = some q → m[j]? = some x → Hc q = some (.lst (ordV x))) → EachIs (fun v d => ∃ as, Reads s'.heap v d as) (l.map Value.ref) (m.map ordD) := by
        intro l
        induction l with
        | nil =>
          intro m hlm _
          cases m with
          | nil => exact .nil
          | cons y m => cases hlm
        | cons q l ih =>
          intro m hlm hh
          cases m with
          | nil => cases hlm
          | cons y m => exact .cons (ord_read I1.hok (hh 0 q y rfl rfl)) (ih m (by simpa using hlm) fun j r x e1 e2 => hh (j + 1) r x e1 e2)
      exact go qs xs hl hqs
    have hal : AllAlike (xs.map ordD) := fun d hd d' hd' => by
      obtain ⟨x, _, rfl⟩ := List.mem_map.mp hd
      obtain ⟨y, _, rfl⟩ := List.mem_map.mp hd'
      exact ord_alike x y
    have hsk : Sortable (xs.map ordD) := .inr fun d hd => by
      obtain ⟨x, _, rfl⟩ := List.mem_map.mp hd
      have e : ordD x = PyData.list ((x.1.map ordL).map PyData.int) := rfl
      rw [e]
      exact ⟨fun z => PyData.noConfusion z, fun ys z => PyData.noConfusion z⟩
    have hun := hr.units
    have S := SortsAt.data (prog := X.prog) (w := X.w) (A := X.A.in1.in1) (s := s') each hal hsk fun d hd => by
      obtain ⟨x, _, rfl⟩ := List.mem_map.mp hd
      have := ord_depth x
      omega
    have hvl : (xs.map fun x => Value.ref x.2.1).length = xs.length := List.length_map ..
    have hkz : kA.size = xs.length := by
      have := congrArg List.length hq
      rw [Array.length_toList, List.length_map, hl] at this
      exact this
    refine keyH_end (b := false) (vs := xs.map fun x => Value.ref x.2.1) (κ := dataKind s'.heap (xs.map ordD)) (h₁ := PySem.W.hideAll s'.heap [kS]) (fun b o _ e => PySem.W.of_hideAll [kS] e) (PySem.W.hideAll_none [kS] (List.mem_cons_self ..)) nk1 na1 hka S (by rw [hkz, hvl]) (by rw [hvl]; exact hz) fun h' tk c kp ho => ?_
    have ko : KeyedOut false (xs.map ordD) (xs.map fun x => Value.ref x.2.1) (sortVals (dataKind s'.heap (xs.map ordD)) false kA.toList (xs.map fun x => Value.ref x.2.1)) := ⟨s'.heap, kA.toList, hal, rfl, each⟩
    have eR : EachIs (fun (v : Value) (x : Ent) => v = Value.ref x.2.1) (xs.map fun x => Value.ref x.2.1) xs := by
      clear hq hz hk hs h na nk each hal hsk S hvl hkz ko hqs hl kp ho
      induction xs with
      | nil => exact .nil
      | cons x xs ih => exact .cons rfl ih
    have eo := keyedOut_each (R := fun (v : Value) (x : Ent) => v = Value.ref x.2.1) (bs := xs) ordD ko eR
    generalize sortVals (dataKind s'.heap (xs.map ordD)) false kA.toList (xs.map fun x => Value.ref x.2.1) = out at ho eo
    have pm := List.mergeSort_perm xs (dataLe false ordD)
    have eout : out = (xs.mergeSort (dataLe false ordD)).map fun x => Value.ref x.2.1 := by
      generalize xs.mergeSort (dataLe false ordD) = zs at eo
      clear ho pm
      induction eo with
      | nil => rfl
      | cons q _ ih => rw [List.map_cons, q, ih]
    refine h ((xs.mergeSort (dataLe false ordD)).map (·.2.1)) Hc h' tk _ (pm.map _) sm ha1 (fp_track (t' := tk) I1 fa1 fk1 (fun b o b1 b2 e => kp b o b1 (PySem.W.hideAll_get [kS] e (by simp [b2]))) ?_)
    · refine ⟨by rw [List.length_map, List.length_map, pm.length_eq]; exact hz, out, c, ?_, ho⟩
      rw [eout]
      generalize xs.mergeSort (dataLe false ordD) = zs
      clear eo eout pm ho
      induction zs with
      | nil => exact .nil
      | cons z zs ih => exact .cons rfl ih

/-- sorted(d, key=f) -/
def rSortN (P : Program) (w : World) (f : Addr) : List V → List V → Hp → VK → Prop := fun vs zs H Q => ∃ (a : Addr) (xs : List Ent), vs = [V.ref a] ∧ zs = [V.ref f] ∧ H a = some (Dn P w a xs) ∧ KeysIn H xs ∧
  (∀ x ∈ xs, x.1.length ≤ 3 ∧ ∀ l ∈ x.1, l = Leaf.none ∨ ∃ i, l = Leaf.num i) ∧
  ∀ (ys : List Addr) (Hc : Hp) (p : Addr), ys.Perm (xs.map (·.2.1)) → Same H Hc → Hc p = none → Q (.ref p) (upd Hc p (.lst (ys.map V.ref)))
theorem cr_sortN (calm : X.calm = true) (F : FnOk X.prog X.w X.K X.mg X.base CX0 k f fd ps spOrd) (hr : Room (k + 2) X.A) (hb : Binds X.K fd ps []) :
    CallRK X (.builtin "sorted") [Str.ofString "key"] (rSortN X.prog X.w f) := by
  intro pins s σ H vs zs us ws Q I r rz h
  obtain ⟨a, xs, rfl, rfl, hd, hk, hs, q⟩ := h
  obtain rfl := Vals.ref1 r
  obtain ⟨w1, rfl, e1⟩ := vals1 rz
  obtain rfl : w1 = Value.ref f := e1
  obtain ⟨lo, hz, vs0, rel, o, es, ep, g1, g2, g3, g4, g5⟩ := dn_of I.hok hd
  have hkeys : es.toList.map (·.key) = xs.map fun x => Value.ref x.2.1 := by
    rw [g4, List.map_map]
    clear g5 g4 g3 hz hk hs hd q
    induction rel with
    | nil => rfl
    | cons h t ih =>
      rw [List.map_cons, List.map_cons, ih]
      show Value.ref _ :: _ = _
      rw [h.2.1]
  have hel : es.size = xs.length := by
    have := congrArg List.length hkeys
    rw [List.length_map, List.length_map, Array.length_toList] at this
    exact this
  refine call_function_entry_kw kind_sorted plain_sorted entry_sorted (ksk_s1 _ _) ?_
  unfold Builtin.«sorted»
  refine wpAny_bind (m := checkCount "sorted" 1 1 _) (wpAny_pure ?_)
  refine wpAny_bind (PySem.W.kdu_collect (A := X.A.in1) (KdlSrc.rawDict (d := a) (es := es) (ep := ep) lo) (I.ok.hd calm) ⟨o, g1, g2, g3⟩ (by rw [hel]; exact hz) fun h' tk acc kp hacc => ?_)
  have ea : acc.toList = xs.map fun x => Value.ref x.2.1 := by
    rw [← hkeys]
    refine List.ext_getElem? fun j => ?_
    by_cases hj : j < es.size
    · have hja : j < acc.size := by rw [hacc.1]; exact hj
      obtain ⟨hi, e⟩ := hacc.2 j acc[j] (by rw [Array.getElem?_eq_getElem hja])
      rw [Array.getElem?_toList, Array.getElem?_eq_getElem hja, e, List.getElem?_map, Array.getElem?_toList, Array.getElem?_eq_getElem hi]
      rfl
    · rw [List.getElem?_eq_none (by rw [Array.length_toList, hacc.1]; omega), List.getElem?_eq_none (by rw [List.length_map, Array.length_toList]; omega)]
  rw [ea]
  have hvl : (xs.map fun x => Value.ref x.2.1).length = xs.length := List.length_map ..
  have I1 : Inv X pins σ H { s with heap := h', toks := tk } := I.kept kp
  refine wpAny_bind (wpAny_newList ?_ (by rw [hvl]; exact hz))
  obtain ⟨L, eL⟩ : ∃ L, L = h'.objs.size := ⟨_, rfl⟩
  have nL : H L = none := by rw [eL]; exact I1.hok.fresh (Nat.le_refl _)
  have hoL : (h'.push (seqObj "list" (xs.map fun x => Value.ref x.2.1).toArray 0)).get? L = some (seqObj "list" (xs.map fun x => Value.ref x.2.1).toArray 0) := by rw [eL]; exact Heap.get?_push_size _ rfl
  have I2 : Inv X pins σ H { s with heap := h'.push (seqObj "list" (xs.map fun x => Value.ref x.2.1).toArray 0), toks := tk } := I1.kept (t' := tk) fun b o e => Heap.get?_push_of_some _ e
  have fL : FpOk X pins H L := by rw [eL]; exact I1.fpOk (Nat.le_refl _) (I1.hok.fresh (Nat.le_refl _))
  show wpAny _ _ _ _ _ { s with heap := h'.push (seqObj "list" (xs.map fun x => Value.ref x.2.1).toArray 0), toks := tk }
  rw [← eL]
  refine wpAny_bind (wpAny_holding (wpAny_call_entry_kw slot_list_sort ⟨_, hoL, rfl⟩ entry_list_sort ?body (ksk_l1 _ _)))
  show wpAny (model X.prog X.w) X.A.in1.in1 (Builtin.«list.sort» ⟨[.ref L], [(Str.ofString "key", .ref f)]⟩) _ _ _
  rw [ksk_t1]
  unfold ksk_tree
  refine wpAny_bind (listItems_at hoL rfl ?_)
  refine wpAny_bind (listUpdate_at hoL rfl ?_ (by rw [List.size_toArray, hvl]; exact hz) (Nat.zero_le _))
  obtain ⟨e1, ho1⟩ : ∃ e1, ((h'.push (seqObj "list" (xs.map fun x => Value.ref x.2.1).toArray 0)).update L (Obj.mapSeq fun _ => (#[] : Array Value))).get? L = some (seqObj "list" #[] e1) := ⟨_, get?_update_seq hoL fun _ => #[]⟩
  have sb := Heap.SameBut.update (h'.push (seqObj "list" (xs.map fun x => Value.ref x.2.1).toArray 0)) L (Obj.mapSeq fun _ => (#[] : Array Value))
  have I3 : Inv X pins σ H { s with heap := (h'.push (seqObj "list" (xs.map fun x => Value.ref x.2.1).toArray 0)).update L (Obj.mapSeq fun _ => (#[] : Array Value)), toks := tk } :=
    fp_turn (s := { s with heap := h'.push (seqObj "list" (xs.map fun x => Value.ref x.2.1).toArray 0), toks := tk }) (t' := tk) I2 fL fun b o hb e => (sb.2 b hb).trans e
  refine wpAny_bind (seqEpoch_at ho1 rfl ?_)
  refine wpAny_bind (wpAny_newTuple ?_ (by show (xs.map fun x => Value.ref x.2.1).length ≤ _; rw [hvl]; exact hz))
  refine wpAny_bind (wpAny_newList ?_ (Nat.zero_le _))
  refine wpAny_holding ?_
  obtain ⟨hT, eT⟩ : ∃ hT : Heap, hT = ((h'.push (seqObj "list" (xs.map fun x => Value.ref x.2.1).toArray 0)).update L (Obj.mapSeq fun _ => (#[] : Array Value))).push (seqObj "tuple" (xs.map fun x => Value.ref x.2.1).toArray 0) := ⟨_, rfl⟩
  have I4 : Inv X pins σ H { s with heap := hT, toks := tk } := by
    rw [eT]
    exact I3.kept (t' := tk) fun b o e => Heap.get?_push_of_some _ e
  have I5 : Inv X pins σ H { s with heap := hT.push (seqObj "list" #[] 0), toks := tk } := I4.kept (t' := tk) fun b o e => Heap.get?_push_of_some _ e
  have fK : FpOk X pins H hT.objs.size := I4.fpOk (Nat.le_refl _) (I4.hok.fresh (Nat.le_refl _))
  have hLT : hT.get? L = some (seqObj "list" #[] e1) := by rw [eT]; exact Heap.get?_push_of_some _ ho1
  have hKL : hT.objs.size ≠ L := Nat.ne_of_gt (Heap.lt_size hLT)
  subst eT
  refine sort_rest F ((Room.in1 (Room.in1 hr)).mono (by omega)) hb I5 fL fK hKL (Heap.get?_push_of_some _ hLT) (Heap.get?_push_size _ rfl) hk hz hs fun ys Hc h3 tk3 s3 pm sm hL3 I6 => ⟨_, rfl, ?_⟩
  exact wpAny_pure ⟨_, rfl, .ref L, _, I6, rfl, q ys Hc L pm sm hL3⟩
end
end K15
end

section
set_option Elab.async false
set_option linter.all false
set_option maxRecDepth 100000
set_option maxHeartbeats 2000000
/-! Further rules: an attribute as one target among several; a def called by keywords alone; repr of nested data where no repr runs around; defs whose promise wants that. -/
namespace K15
open PySem PySem.W PySem.Spec PyProof.Rows L2

/-! ### self.f as a target -/
def gFld (K : PySem.W.Frag) (ta : TE) (f : Str) : TG := fun v σ H Q => ta σ H fun x H1 => ∃ a C dx fs, x = .ref a ∧ H1 a = some (.ins C dx fs) ∧ Cls K C ∧ NoAttr K C f ∧ fs.length < 1000 ∧ Q σ (upd H1 a (.ins C dx (putF f v fs)))
theorem pg_fld {X : Cx} {o : Expr} {f : Str} {pos : Pos} {ta : TE} (ho : PE X o ta) : PG X (.Attribute o f pos) (gFld X.K ta f) := by
  refine ⟨fun pins s σ H v u Q I r h => ?_⟩
  rw [assign_Attribute]
  refine wpAny_bind (wpAny_holding (thn (ho.run pins s σ H _ I h) fun ov s1 ⟨x, H1, I1, rx, a, C, dx, fs, ex, ea, c, n, l, q⟩ => ?_))
  subst ex
  obtain rfl : ov = Value.ref a := rx
  refine wpAny_bind (wpAny_standAt (wpAny_bind (wpAny_holding (setattr_ok I1 ea c n l r fun s2 I2 => ?_))))
  exact wpAny_release ⟨σ, _, I2, q⟩

/-! ### f(k = v, ..) -/
def tCallZ (n : Nat) (sp : Sp) (gV : List V → List V) (E : XK) (tk : TA) : TE := fun σ H Q => tk σ H fun zs H1 => zs.length = n ∧ sp (gV zs) H1 Q E
theorem pe_callZ {X : Cx} {k : Nat} {f : Addr} {fd : FuncData} {ps ks : List Str} {sp : Sp} {E : XK} {x : Str} {p pos : Pos} {kws : List Keyword} {tk : TA} {g : List Value → List Value} {gV : List V → List V}
    (F : FnOk X.prog X.w X.K X.mg X.base CX0 k f fd ps sp) (hr : Room k X.A) (hg : Gl X x) (hm : X.mg x = some (.ref f)) (hk : PySem.W.keepIn X.K (.ref f) = true)
    (hb : ∀ (s : Shared) (ws : List Value), ws.length = ks.length → BindsTo s fd ⟨[], ks.zip ws⟩ (ps.zip (g ws))) (hrel : ∀ {zs : List V} {ws : List Value}, Vals zs ws → Vals (gV zs) (g ws)) (hkw : PK X kws tk)
    (hall : (backToKw pos (keywordEach kws X.env)).all (·.1.isSome) = true := by rfl) (hks : (backToKw pos (keywordEach kws X.env)).filterMap (·.1) = ks := by rfl) (hdb : (x == ("__debug__" : Str)) = false := by decide)
    (hpl : ((backTo pos (starEach [] X.env)).any (·.1) || (backToKw pos (keywordEach kws X.env)).any (·.1.isNone)) = false := by rfl) :
    PE X (.Call (.Name x p) [] kws pos) (tCallZ ks.length sp gV E0 tk) := by
  refine ⟨fun pins s σ H Q I h => ?_⟩
  refine wpAny_Call_Name_kw (ld_glob I hg hm ?_ hdb)
  refine PySem.W.callWith_KW0 (h₀ := X.base) I.ok.mod.kin hk hall ?_ hpl
  refine thn (hkw.run pos pins s σ H _ I h) fun ws s2 ⟨zs, H2, I2, rz, hl, q2⟩ => ⟨I2.kIn, ?_⟩
  rw [hks]
  have hw : ws.length = ks.length := by rw [← rz.length]; exact hl
  refine wpAny_call (codeAny_mono (F.run X.A X.stack s2 H2 ⟨[], ks.zip ws⟩ (g ws) (gV zs) Q E0 hr I2.env0 (hb s2 ws hw) (hrel rz) q2) fun r s' hq => ?_)
  cases r with
  | error e => exact hq.elim
  | ok fl =>
    cases fl with
    | ret u => exact I2.after hq
    | next => exact False.elim hq
    | brk => exact False.elim hq
    | cont => exact False.elim hq

/-! ### repr of nested data -/
theorem cr_repr {X : Cx} (hgd : X.A.guards = some []) : CallR X (.builtin "repr") (fun xs H Q => ∃ (a : Addr) (d : PyData), xs = [.ref a] ∧ Dp X.K H (.ref a) d ∧ d.showable = true ∧ d.hasDict = false ∧ d.shown.length ≤ sizeLine ∧ X.A.units + (d.depth + 1) < cLine ∧ Q (.str d.shown) H) := by
  intro pins s σ H xs us Q I r h
  obtain ⟨a, d, rfl, hd, h1, h2, h3, h4, q⟩ := h
  obtain ⟨u, rfl, rx⟩ := vals1 r
  cases rx
  obtain ⟨as, rd⟩ := Dp.reads I d _ _ hd rfl
  exact repr_of_reads' (h₀ := s.heap) rd h1 (PyData.noDict_hsm h2) hgd h4 (fun _ _ e => e) (fun h' u tk kp => ⟨.str d.shown, H, I.kept kp, ⟨_, rfl⟩, q⟩) h3

/-! ### defs that want no repr around -/
structure FnG (P : Program) (w : World) (K : PySem.W.Frag) (mg : Str → Option Value) (base : Heap) (k : Nat) (f : Addr) (fd : FuncData) (ps : List Str) (sp : Sp) : Prop where
  len : ∀ vs H Q E, sp vs H Q E → vs.length = ps.length
  run : ∀ (A : Around) (outer : List Env) (s : Shared) (H : Hp) (args : Args) (us : List Value) (vs : List V) (Q : VK) (E : XK), A.guards = some [] → Room k A → Env0 P w K mg base A outer s H → BindsTo s fd args (ps.zip us) → Vals vs us → sp vs H Q E →
    codeAny (model P w) A (.call (.ref f) args) (CR CX0 outer P w H s Q E) s
section
variable {P : Program} {w : World} {K : PySem.W.Frag} {mg : Str → Option Value} {base : Heap}
theorem okG {x qual : Str} {st : Stmt} {f : Addr} {fd : FuncData} {N ps : List Str} {k : Nat} {sp : Sp} (F : Fun K x qual st f fd) (S : FnScope N ps (defScope st)) (len : ∀ vs H Q E, sp vs H Q E → vs.length = ps.length)
    (body : ∀ (cdv : Value) (A : Around) (outer : List Env) (s : Shared) (H : Hp) (vs : List V) (Q : VK) (E : XK), A.guards = some [] → Room k (A.deeper (envOfC qual (defScope st) s.heap.objs.size f cdv)) → sp vs H Q E →
      ∃ t, PSs (cxOf CX0 P w K mg base N qual (defScope st) f cdv A outer s H E).nox (defBody st) t ∧ t { nx := fun _ H' => Q .non H', rt := Q } (start N vs) H) : FnG P w K mg base (k + 1) f fd ps sp := by
  obtain ⟨oc, od, kV, doc, pm, an, cdv, ct, osl, rfl, lk, hcd⟩ := F.ex
  refine ⟨len, fun A outer s H args us vs Q E hgd hr e0 hb r hsp => ?_⟩
  have old : ∀ b o, base.get? b = some o → s.heap.get? b = some o := fun b o e => (e0.bs b o e).1
  have KX : K.In s.heap := e0.mod.kin.keeps old
  refine codeAny_call_function hr.depth (KX _ _ lk) rfl S.co S.gen rfl (PySem.W.codeRec_of KX hcd) (hb _ _ _ _ ?_)
  refine wpAny_newFunctionEnv_cells S.kind (fun y hy => (S.par y.1 (List.of_mem_zip hy).1).elim .inl fun q => .inr ⟨q, PySem.W.cellsFrom_some _ _ _ (.inl q)⟩) fun env he s1 x => ?_
  subst he
  refine ⟨(e0.mod.nolimit.keeps old).keeps x.toInCall.keep, codeAny_func ?_⟩
  obtain ⟨t, ht, hq⟩ := body cdv A outer s H vs Q E hgd (hr.deeper _) hsp
  have I : Inv (cxOf CX0 P w K mg base N qual (defScope st) f cdv A outer s H E) [] (start N vs) H s1 := inv_start S hr.hd e0 (len _ _ _ _ hsp) r x
  refine wpAny_mono (ht.nox.run [] s1 (start N vs) H _ I hq) (fun fl s' hs => ?_) fun e s' hs => hs
  cases fl with
  | ret u =>
    obtain ⟨v, σ', H', J, rv, q⟩ := hs
    exact ⟨v, H', J.os, J.bare, J.base, J.hok, rv, q⟩
  | next =>
    obtain ⟨σ', H', J, q⟩ := hs
    exact ⟨V.non, H', J.os, J.bare, J.base, J.hok, rfl, q⟩
  | brk =>
    obtain ⟨_, _, _, q⟩ := hs
    exact q.elim
  | cont =>
    obtain ⟨_, _, _, q⟩ := hs
    exact q.elim
end
theorem pe_callG1 {X : Cx} {k : Nat} {f : Addr} {fd : FuncData} {ps : List Str} {sp : Sp} {x : Str} {p pos : Pos} {e : Expr} {es : List Expr} {t : TA} (hgd : X.A.guards = some []) (F : FnG X.prog X.w X.K X.mg X.base k f fd ps sp) (hr : Room k X.A) (hg : Gl X x) (hm : X.mg x = some (.ref f))
    (hk : PySem.W.keepIn X.K (.ref f) = true) (hb : Binds X.K fd ps []) (ha : PA X (e :: es) t) (hdb : (x == ("__debug__" : Str)) = false := by decide) (he : starEach (e :: es) X.env = (false, eval e X.env) :: starEach es X.env := by rfl)
    (hpl : (backTo pos (starEach es X.env)).any (·.1) = false := by rfl) : PE X (.Call (.Name x p) (e :: es) [] pos) (tCall sp [] E0 t) := by
  refine ⟨fun pins s σ H Q I h => ?_⟩
  refine wpAny_Call_Name_kw (ld_glob I hg hm ?_ hdb)
  refine PySem.W.callWith_K (h₀ := X.base) I.ok.mod.kin hk (thn (ha.run pos pins s σ H _ I h) fun us s1 ⟨vs, H1, I1, r, q⟩ => ⟨I1.kIn, ?_⟩) he hpl
  have q : sp (vs ++ []) H1 Q E0 := q
  rw [List.append_nil] at q
  have hl : us.length = ps.length := by rw [← r.length]; exact F.len _ _ _ _ q
  have bb := hb s1 us I1.kIn (by rw [List.append_nil]; exact hl)
  rw [List.append_nil] at bb
  refine wpAny_call (codeAny_mono (F.run X.A X.stack s1 H1 ⟨us, []⟩ us vs Q E0 hgd hr I1.env0 bb r q) fun rr s' hq => ?_)
  cases rr with
  | error e => exact hq.elim
  | ok fl =>
    cases fl with
    | ret u => exact I1.after hq
    | next => exact False.elim hq
    | brk => exact False.elim hq
    | cont => exact False.elim hq

/-! ### the end of a law whose def is such a one -/
section
variable {P : Program} {w : World} {K : PySem.W.Frag} {mg mb : Str → Option Value} {k : Nat} {fa a : Addr} {fd : FuncData} {x : Str} {sp : Sp} {s₁ : Shared} {vs : List Value} {ns : List Int}
/-- from an abstract heap that tracks the script alone, or nothing -/
theorem end_core {H : Hp} (KX : K.In s₁.heap) (hns : s₁.heap.Ns mainGlobals mg) (hb : s₁.heap.Ns builtinsNs mb) (hbb : ∀ x : Str, x ≠ "__name__" → mb x = bootBuiltins x) (hlim : s₁.heap.NoLimit) (hg : s₁.gens = #[])
    (ha : s₁.heap.get? a = some { cls := .type "list", data := .seq vs.toArray }) (hr : Room k callerA) (F : ∀ base : Heap, K.In base → base.Ns mainGlobals mg → FnG P w K mg base k fa fd [x] sp) (hbind : ∀ (s : Shared) (u : Value), BindsTo s fd ⟨[u], []⟩ [(x, u)])
    (hsp : sp [.ref a] H (fun v _ => v = .bl true) E0) (hok : HOk P w H s₁.heap) (hA : ∀ b, b ≠ a → H b = none) (hO : H a = none ∨ (K.lookup a = none ∧ ∃ o ys, H a = some (.frz o (.lst ys)))) :
    codeAny (model P w) callerA (.call (.ref fa) ⟨[.ref a], []⟩) (fun r s' => r = .ok (.ret (.bool true)) ∧ OldK s₁.heap s'.heap ∧ s'.os = s₁.os ∧ AllBare s'.gens) s₁ := by
  -- what isn't the script's list is untracked
  have free : ∀ {b : Addr} {o : Obj}, s₁.heap.get? b = some o → (∀ n, o.data ≠ .seq vs.toArray n) → H b = none := fun {b o} e hd => by
    by_cases hb : b = a
    · subst hb
      rw [ha] at e
      cases e
      exact absurd rfl (hd _)
    · exact hA b hb
  have ns_ : ∀ {b : Addr} {m : Str → Option Value}, s₁.heap.Ns b m → (hidT s₁.heap H).Ns b m := fun ⟨o, es, ep, e, d, r⟩ => ⟨o, es, ep, hidT_get e (free e fun n z => by rw [d] at z; cases z), d, r⟩
  have kin : K.In (hidT s₁.heap H) := fun b o e => hidT_get (KX b o e) (by
    by_cases hb : b = a
    · subst hb
      rcases hO with z | ⟨z, _⟩
      · exact z
      · rw [z] at e
        cases e
    · exact hA b hb)
  have e0 : Env0 P w K mg (hidT s₁.heap H) callerA [] s₁ H := ⟨rfl, ⟨kin, ns_ hns, ⟨mb, ns_ hb, hbb⟩, let ⟨mc, h1, h2⟩ := hlim; ⟨mc, ns_ h1, h2⟩⟩, fun b o e => of_hidT e, Nat.le_of_eq (hidT_size _ _), trivial, fun b hb => (by cases hb), hok, .of_eq hg⟩
  refine codeAny_mono ((F _ kin (ns_ hns)).run callerA [] s₁ H ⟨[.ref a], []⟩ [.ref a] [.ref a] _ E0 rfl hr e0 (hbind s₁ (.ref a)) (.cons rfl .nil) hsp) fun r s' h => ?_
  cases r with
  | error e => exact h.elim
  | ok fl =>
    cases fl with
    | next => exact False.elim h
    | brk => exact False.elim h
    | cont => exact False.elim h
    | ret u =>
      obtain ⟨v, H', os, bare, un, hok', r', q⟩ := h
      subst q
      obtain rfl : u = Value.bool true := r'
      refine ⟨rfl, OldK.of_keep fun b o e => ?_, os, bare⟩
      by_cases hb : H b = none
      · exact un.keep b o e hb (fun z => by cases z) (fun z => by cases z)
      · have hba : b = a := Classical.byContradiction fun z => hb (hA b z)
        subst hba
        rcases hO with z | ⟨_, ob, ys, z⟩
        · exact absurd z hb
        · obtain ⟨e1, _⟩ := hok b _ z
          obtain ⟨e2, _⟩ := hok' b _ (un.frzs b ob _ z)
          rw [e] at e1
          cases e1
          exact e2
end
theorem end_walk {l : PySem.W.OpenLaw} {n k : Nat} {q : Program} {loose : List Str} {XP : (Str → Option Value) → Heap → Prop} {YP : World → Heap → Prop} {d : DefRec} {K : Params → PySem.W.Frag} {sp : PySem.W.Frag → Sp} {x : Str}
    (hn : l.most = some n) (hn2 : n ≤ sizeLine) (hdf : d.params.defaults = []) (hr : Room k callerA) (hY : ∀ (w : World) (h : Heap), YP w h → (K w.params).In h)
    (F : ∀ (w : World) (mg : Str → Option Value) (fa : Addr) (h : Heap), (K w.params).In h → h.Ns mainGlobals mg → mg d.name = some (.ref fa) →
      ∃ fd : FuncData, (∀ (s : Shared) (u : Value), BindsTo s fd ⟨[u], []⟩ [(x, u)]) ∧ ∀ base : Heap, (K w.params).In base → base.Ns mainGlobals mg → FnG l.prog w (K w.params) mg base k fa fd [x] (sp (K w.params)))
    (hsp : ∀ (K : PySem.W.Frag) (H : Hp) (a : Addr) (ns : List Int), ns.length ≤ n → SqL K H a (ns.map V.int) → sp K [.ref a] H (fun v _ => v = .bl true) E0) :
    PySem.W.WalkO q loose XP YP l.row.toRowW d [] (fun f vs => PySem.call f vs) := by
  refine Att.attach_call hn hdf fun w s₀ s₁ mg mb fa o pm cd doc a vs ns G Y ho hd hcd hmg hobj hints hlen hg => ?_
  have KX := hY w _ Y
  obtain ⟨fd, hb, hF⟩ := F w mg fa _ KX G.T.g hmg
  have rv := vals_ints hints
  have hz : (ns.map V.int).length ≤ sizeLine := by rw [List.length_map]; exact Nat.le_trans hlen hn2
  cases hk : (K w.params).lookup a with
  | some o =>
    have e := KX a o hk
    rw [hobj] at e
    cases e
    have S : SqL (K w.params) (fun _ => none) a (ns.map V.int) := .inr ⟨_, vs.toArray, _, hk, rfl, rfl, rfl, by rw [List.size_toArray, ← rv.length]; exact hz, by simpa using rv⟩
    exact end_core (H := fun _ => none) KX G.T.g G.T.b G.T.builtins G.T.nolimit hg hobj hr hF hb (hsp _ _ a ns hlen S) (fun b u z => by cases z) (fun _ _ => rfl) (.inl rfl)
  | none =>
    obtain ⟨H, eH⟩ : ∃ H : Hp, H = fun b => if b = a then some (.frz { cls := .type "list", data := .seq vs.toArray } (.lst (ns.map V.int))) else none := ⟨_, rfl⟩
    have h1 : H a = some (.frz { cls := .type "list", data := .seq vs.toArray } (.lst (ns.map V.int))) := by rw [eH]; exact if_pos rfl
    have h2 : ∀ b, b ≠ a → H b = none := fun b z => by rw [eH]; exact if_neg z
    refine end_core (H := H) KX G.T.g G.T.b G.T.builtins G.T.nolimit hg hobj hr hF hb (hsp _ _ a ns hlen (.inl (.inr ⟨_, h1⟩))) (fun b u z => ?_) h2 (.inr ⟨hk, _, _, h1⟩)
    by_cases hb : b = a
    · subst hb
      rw [h1] at z
      cases z
      exact ⟨hobj, hz, vs, _, rv, hobj⟩
    · rw [h2 b hb] at z
      cases z
end K15
end

section
set_option Elab.async false
set_option linter.all false
set_option maxRecDepth 100000
set_option maxHeartbeats 2000000
/-! The program's defs by their places; what stands where. -/
namespace K15
open PySem PySem.W PySem.Spec PyProof.Rows L2

def top (i : Nat) : Stmt := PySem.Challenge.pw_backwardrow_k15_whole_slants_of_all_cell.main.body.getD i (.Pass ⟨0, 0, 0, 0⟩)
abbrev sIsInteger : Stmt := top 11
abbrev sIsWithin : Stmt := top 12
abbrev sIsLetter : Stmt := top 13
abbrev sIsWord : Stmt := top 14
abbrev sNeedNumber : Stmt := top 15
abbrev sNeedWord : Stmt := top 16
abbrev sPairsIn : Stmt := top 17
abbrev sNeedRow : Stmt := top 23
abbrev sNeedTwo : Stmt := top 27
abbrev sOneInit : Stmt := inClass (top 28) 0
abbrev sOneBegin : Stmt := inClass (top 28) 1
abbrev sOneNext : Stmt := inClass (top 28) 2
abbrev sSlanted : Stmt := top 29
abbrev sOneTick : Stmt := top 30
abbrev sSlant : Stmt := top 31
abbrev sTriangle : Stmt := top 32
abbrev sKeyOrder : Stmt := top 52
abbrev sIsKey : Stmt := top 53
abbrev sRulesFrom : Stmt := top 54
abbrev sWorthsFrom : Stmt := top 55
abbrev sTabInit : Stmt := inClass (top 56) 0
abbrev sTabBegin : Stmt := inClass (top 56) 2
abbrev sTabNext : Stmt := inClass (top 56) 3
abbrev sRamp : Stmt := top 58
abbrev sRoll : Stmt := top 59
abbrev sOf : Stmt := top 60
abbrev sTable : Stmt := top 61
abbrev sNext : Stmt := top 62
abbrev sStrip : Stmt := top 63
abbrev sRun : Stmt := top 64
abbrev sWord : Stmt := top 65
abbrev sRight : Stmt := top 66
abbrev sLaw : Stmt := top 67

/-! ### defs and methods that may be called -/
section
variable (P : Program) (w : World) (K : PySem.W.Frag) (mg : Str → Option Value) (base : Heap)
/-- a def of the module as the top has left it -/
structure Dd (x : Str) (st : Stmt) (ps : List Str) : Prop where
  ex : ∃ (f : Addr) (fd : FuncData), Fun K x x st f fd ∧ mg x = some (.ref f) ∧ Binds K fd ps []
/-- a method of the class at C, called m -/
structure Dm (C : Addr) (m qual : Str) (st : Stmt) (ps : List Str) : Prop where
  ex : ∃ (f : Addr) (fd : FuncData), Fun K m qual st f fd ∧ Meth K C m f ∧ Binds K fd ps []
/-- it keeps its promise -/
structure Cl (k : Nat) (x : Str) (sp : Sp) : Prop where
  ex : ∃ (f : Addr) (fd : FuncData) (ps : List Str), FnOk P w K mg base CX0 k f fd ps sp ∧ mg x = some (.ref f) ∧ PySem.W.keepIn K (.ref f) = true ∧ Binds K fd ps []
structure Mt (k : Nat) (C : Addr) (m : Str) (sp : Sp) : Prop where
  ex : ∃ (f : Addr) (fd : FuncData) (ps : List Str), Cls K C ∧ Meth K C m f ∧ FnOk P w K mg base CX0 k f fd ps sp ∧ Binds K fd ps []
/-- a class that is made by its name -/
structure Mm (k : Nat) (x : Str) (C : Addr) (sp : Sp) : Prop where
  ex : ∃ (f : Addr) (fd : FuncData) (ps : List Str), Mk K C f ∧ FnOk P w K mg base CX0 k f fd ps sp ∧ mg x = some (.ref C) ∧ Binds K fd ps []
end
section
variable {P : Program} {w : World} {K : PySem.W.Frag} {mg : Str → Option Value} {base : Heap}
theorem cl_of {x : Str} {st : Stmt} {N ps : List Str} {k : Nat} {sp : Sp} (D : Dd K mg x st ps) (S : FnScope N ps (defScope st)) (len : ∀ vs H Q E, sp vs H Q E → vs.length = ps.length)
    (body : ∀ (f : Addr) (cdv : Value) (A : Around) (outer : List Env) (s : Shared) (H : Hp) (vs : List V) (Q : VK) (E : XK), Room k (A.deeper (envOfC x (defScope st) s.heap.objs.size f cdv)) → sp vs H Q E →
      ∃ t, PSs (cxOf CX0 P w K mg base N x (defScope st) f cdv A outer s H E).nox (defBody st) t ∧ t { nx := fun _ H' => Q .non H', rt := Q } (start N vs) H) : Cl P w K mg base (k + 1) x sp := by
  obtain ⟨f, fd, F, m, b⟩ := D.ex
  exact ⟨f, fd, ps, F.ok S len (fun cdv A outer s H vs Q E hr h => body f cdv A outer s H vs Q E hr h), m, F.kp, b⟩
theorem mt_of {C : Addr} {m qual : Str} {st : Stmt} {N ps : List Str} {k : Nat} {sp : Sp} (D : Dm K C m qual st ps) (c : Cls K C) (S : FnScope N ps (defScope st)) (len : ∀ vs H Q E, sp vs H Q E → vs.length = ps.length)
    (body : ∀ (f : Addr) (cdv : Value) (A : Around) (outer : List Env) (s : Shared) (H : Hp) (vs : List V) (Q : VK) (E : XK), Room k (A.deeper (envOfC qual (defScope st) s.heap.objs.size f cdv)) → sp vs H Q E →
      ∃ t, PSs (cxOf CX0 P w K mg base N qual (defScope st) f cdv A outer s H E).nox (defBody st) t ∧ t { nx := fun _ H' => Q .non H', rt := Q } (start N vs) H) : Mt P w K mg base (k + 1) C m sp := by
  obtain ⟨f, fd, F, me, b⟩ := D.ex
  exact ⟨f, fd, ps, c, me, F.ok S len (fun cdv A outer s H vs Q E hr h => body f cdv A outer s H vs Q E hr h), b⟩
theorem mm_of {x : Str} {C : Addr} {k : Nat} {sp : Sp} (M : PySem.W.makesIn K C = true) (kp : PySem.W.keepIn K (.ref C) = true) (hm : mg x = some (.ref C)) (m : Mt P w K mg base k C "__init__" sp) : Mm P w K mg base k x C sp := by
  obtain ⟨f, fd, ps, c, me, F, b⟩ := m.ex
  exact ⟨f, fd, ps, ⟨M, me.at_, me.fn, kp⟩, F, hm, b⟩
end
section
variable {X : Cx} {k j : Nat} {C : Addr} {x m : Str} {sp : Sp} {p pos apos : Pos} {e o : Expr} {es : List Expr} {ta : TE} {t : TA}
theorem pe_cl (c : Cl X.prog X.w X.K X.mg X.base k x sp) (hr : Room k X.A) (hg : Gl X x) (ha : PA X (e :: es) t) (hdb : (x == ("__debug__" : Str)) = false := by decide) (he : starEach (e :: es) X.env = (false, eval e X.env) :: starEach es X.env := by rfl)
    (hpl : (backTo pos (starEach es X.env)).any (·.1) = false := by rfl) : PE X (.Call (.Name x p) (e :: es) [] pos) (tCall sp [] E0 t) := by
  obtain ⟨f, fd, ps, F, hm, kp, b⟩ := c.ex
  exact pe_call F hr hg hm kp b .nil pass0 ha hdb he hpl
theorem pe_mm (c : Mm X.prog X.w X.K X.mg X.base k x C sp) (hr : Room (k + 1) X.A) (hg : Gl X x) (ha : PA X (e :: es) t) (hdb : (x == ("__debug__" : Str)) = false := by decide) (he : starEach (e :: es) X.env = (false, eval e X.env) :: starEach es X.env := by rfl)
    (hpl : (backTo pos (starEach es X.env)).any (·.1) = false := by rfl) : PE X (.Call (.Name x p) (e :: es) [] pos) (tMake C sp [] E0 t) := by
  obtain ⟨f, fd, ps, M, F, hm, b⟩ := c.ex
  exact pe_make M F hr hg hm b .nil pass0 ha hdb he hpl
/-- o.m(..), where o's class is known -/
theorem pe_me {pl : Sem Bool} (c : Mt X.prog X.w X.K X.mg X.base k C m sp) (hr : Room k X.A) (ho : PE X o ta) (ha : PA X (e :: es) t)
    (hst : starEach (e :: es) X.env = (false, eval e X.env) :: starEach es X.env := by rfl) (hpl : (backTo pos (starEach es X.env)).any (·.1) = false := by rfl)
    (ht : eval (.Call (.Attribute o m apos) (e :: es) [] pos) X.env = (do
      let ov ← eval o X.env
      standAt apos.atName
      let (f, first) ← holding [ov] (getMethod ov m pl)
      callWith pos f first (backTo pos (starEach (e :: es) X.env)) (backToKw pos (keywordEach [] X.env))) := by rfl) :
    PE X (.Call (.Attribute o m apos) (e :: es) [] pos) (tMeth C m sp [] E0 ta t) := by
  obtain ⟨f, fd, ps, hc, hm, F, b⟩ := c.ex
  exact pe_meth (pl := pl) ho hc hm F hr b .nil pass0 ha hst hpl ht
end

/-! ### data -/
def oV : Option Int → V
  | none => .non
  | some i => .int i
def oL : Option Int → Leaf
  | none => .none
  | some i => .num i
theorem oL_v : ∀ o, lfV (oL o) = oV o
  | none => rfl
  | some _ => rfl
def owV : OW → List V
  | .wait w => [.int 0, .int w]
  | .work a b c => [.int 1, oV a, oV b, oV c]
/-- the key (l, o, r) -/
def kL (l : Option Int) (o : Int) (r : Option Int) : LK := [oL l, .num o, oL r]
theorem kL_v (l : Option Int) (o : Int) (r : Option Int) : (kL l o r).map lfV = [oV l, .int o, oV r] := by
  show [lfV (oL l), V.int o, lfV (oL r)] = _
  rw [oL_v, oL_v]
/-- all values are whole numbers -/
def IntVals (xs : List Ent) : Prop := ∀ x ∈ xs, ∃ i, x.2.2 = V.int i
def fnOf (xs : List Ent) : F3 := fun l o r => match look xs (kL l o r) with
  | some (.int i) => i
  | _ => o
theorem fnOf_get {xs : List Ent} (h : IntVals xs) (l : Option Int) (o : Int) (r : Option Int) : (look xs (kL l o r)).getD (.int o) = .int (fnOf xs l o r) := by
  unfold fnOf
  cases e : look xs (kL l o r) with
  | none => rfl
  | some v =>
    unfold look at e
    obtain ⟨x, hx, rfl⟩ := Option.map_eq_some_iff.mp e
    obtain ⟨i, hi⟩ := h x (List.mem_of_find?_eq_some hx)
    rw [hi]
    rfl
/-- two dicts with the same entries, in any order, tell the same -/
theorem look_mem {xs : List Ent} {k : LK} : (xs.map (·.1)).Nodup → ∀ {q : Addr} {v : V}, (k, q, v) ∈ xs → look xs k = some v := by
  induction xs with
  | nil => intro _ q v h; cases h
  | cons x xs ih =>
    intro hn q v h
    rw [List.map_cons, List.nodup_cons] at hn
    unfold look
    rw [List.find?_cons]
    rcases List.mem_cons.mp h with e | h
    · subst e
      rw [decide_eq_true rfl]
      rfl
    · have hne : ¬ x.1 = k := fun z => hn.1 (z ▸ List.mem_map.mpr ⟨_, h, rfl⟩)
      rw [decide_eq_false hne]
      exact ih hn.2 h
theorem look_none {xs : List Ent} {k : LK} (h : k ∉ xs.map (·.1)) : look xs k = none := by
  unfold look
  rw [List.find?_eq_none.mpr fun x hx => by
    have : ¬ x.1 = k := fun z => h (z ▸ List.mem_map.mpr ⟨x, hx, rfl⟩)
    simpa using this]
  rfl

abbrev kWays : Str := "ways"
/-- a table's attributes -/
def tabF (n w : Int) (rl yl d : Addr) : List (Str × V) := putF "by_key" (.ref d) (putF "yes" (.ref yl) (putF "rules" (.ref rl) (putF "worths" (.int w) (putF "letters" (.int n) (putF "ways" (.int 2) [])))))
theorem tabF_by (n w : Int) (rl yl d : Addr) : (tabF n w rl yl d).lookup ("by_key" : Str) = some (.ref d) := by
  unfold tabF
  rw [lookup_putF, if_pos rfl]
theorem tabF_letters (n w : Int) (rl yl d : Addr) : (tabF n w rl yl d).lookup ("letters" : Str) = some (.int n) := by
  unfold tabF
  rw [lookup_putF, if_neg (by decide +kernel), lookup_putF, if_neg (by decide +kernel), lookup_putF, if_neg (by decide +kernel), lookup_putF, if_neg (by decide +kernel), lookup_putF, if_pos rfl]
theorem tabF_ways (n w : Int) (rl yl d : Addr) : (tabF n w rl yl d).lookup ("ways" : Str) = some (.int 2) := by
  unfold tabF
  rw [lookup_putF, if_neg (by decide +kernel), lookup_putF, if_neg (by decide +kernel), lookup_putF, if_neg (by decide +kernel), lookup_putF, if_neg (by decide +kernel), lookup_putF, if_neg (by decide +kernel), lookup_putF, if_pos rfl]
theorem tabF_no (n w : Int) (rl yl d : Addr) {m : Str} (h : (["by_key", "yes", "rules", "worths", "letters", "ways"] : List Str).contains m = false) : (tabF n w rl yl d).lookup m = none := by
  have hm : m ∉ (["by_key", "yes", "rules", "worths", "letters", "ways"] : List Str) := fun z => by
    rw [List.contains_iff_mem.mpr z] at h
    cases h
  simp only [List.mem_cons, not_or] at hm
  obtain ⟨h1, h2, h3, h4, h5, h6, _⟩ := hm
  unfold tabF
  rw [lookup_putF, if_neg h1, lookup_putF, if_neg h2, lookup_putF, if_neg h3, lookup_putF, if_neg h4, lookup_putF, if_neg h5, lookup_putF, if_neg h6]
  rfl
/-- a table of two ways stands at p: its rule f, its letters n -/
def TabAt (P : Program) (w : World) (C : Addr) (H : Hp) (p : Addr) (f : F3) (n : Int) : Prop :=
  ∃ dx wo rl yl d xs, H p = some (.ins C dx (tabF n wo rl yl d)) ∧ H d = some (Dn P w d xs) ∧ KeysIn H xs ∧ IntVals xs ∧ f = fnOf xs
theorem TabAt.same {P : Program} {w : World} {C : Addr} {H H' : Hp} {p : Addr} {f : F3} {n : Int} (t : TabAt P w C H p f n) (s : Same H H') : TabAt P w C H' p f n := by
  obtain ⟨dx, wo, rl, yl, d, xs, h1, h2, h3, h4⟩ := t
  exact ⟨dx, wo, rl, yl, d, xs, s _ _ h1, s _ _ h2, h3.same s, h4⟩
def oneF (q : Addr) (n : Int) : List (Str × V) := putF "ways" (.int 1) (putF "letters" (.int n) (putF "row" (.ref q) []))
theorem oneF_row (q : Addr) (n : Int) : (oneF q n).lookup ("row" : Str) = some (.ref q) := by
  unfold oneF
  rw [lookup_putF, if_neg (by decide +kernel), lookup_putF, if_neg (by decide +kernel), lookup_putF, if_pos rfl]
theorem oneF_no (q : Addr) (n : Int) {m : Str} (h : (["ways", "letters", "row"] : List Str).contains m = false) : (oneF q n).lookup m = none := by
  have hm : m ∉ (["ways", "letters", "row"] : List Str) := fun z => by
    rw [List.contains_iff_mem.mpr z] at h
    cases h
  simp only [List.mem_cons, not_or] at hm
  obtain ⟨h1, h2, h3, _⟩ := hm
  unfold oneF
  rw [lookup_putF, if_neg h1, lookup_putF, if_neg h2, lookup_putF, if_neg h3]
  rfl
/-- the one-way row over such a table stands at p -/
def OneAt (P : Program) (w : World) (C CO : Addr) (H : Hp) (p : Addr) (f : F3) : Prop := ∃ dx q n, H p = some (.ins CO dx (oneF q n)) ∧ TabAt P w C H q f n
theorem OneAt.same {P : Program} {w : World} {C CO : Addr} {H H' : Hp} {p : Addr} {f : F3} (t : OneAt P w C CO H p f) (s : Same H H') : OneAt P w C CO H' p f := by
  obtain ⟨dx, q, n, h1, h2⟩ := t
  exact ⟨dx, q, n, s _ _ h1, h2.same s⟩
/-- a word: a list or a tuple of whole numbers -/
def WordAt (H : Hp) (v : V) (ws : List Int) : Prop := ∃ a, v = .ref a ∧ (H a = some (.lst (ws.map V.int)) ∨ H a = some (.tup (ws.map V.int)))
def RowI (H : Hp) (v : V) (xs : List Int) : Prop := ∃ l, v = .ref l ∧ H l = some (.lst (xs.map V.int))
theorem RowI.same {H H' : Hp} {v : V} {xs : List Int} (r : RowI H v xs) (s : Same H H') : RowI H' v xs := let ⟨l, e, h⟩ := r; ⟨l, e, s _ _ h⟩
/-- a list of the one-way row's worths -/
def RowO (H : Hp) (v : V) (os : List OW) : Prop := ∃ (l : Addr) (ts : List (Addr × OW)), v = .ref l ∧ H l = some (.lst (ts.map fun t => V.ref t.1)) ∧ (∀ t ∈ ts, H t.1 = some (.tup (owV t.2))) ∧ ts.map (·.2) = os
theorem RowO.same {H H' : Hp} {v : V} {os : List OW} (r : RowO H v os) (s : Same H H') : RowO H' v os := let ⟨l, ts, e, h, k, z⟩ := r; ⟨l, ts, e, s _ _ h, fun t ht => s _ _ (k t ht), z⟩
/-- a list of rows -/
def StripI (H : Hp) (v : V) (rs : List (List Int)) : Prop := ∃ (l : Addr) (ts : List (V × List Int)), v = .ref l ∧ H l = some (.lst (ts.map (·.1))) ∧ (∀ t ∈ ts, RowI H t.1 t.2) ∧ ts.map (·.2) = rs
def StripO (H : Hp) (v : V) (rs : List (List OW)) : Prop := ∃ (l : Addr) (ts : List (V × List OW)), v = .ref l ∧ H l = some (.lst (ts.map (·.1))) ∧ (∀ t ∈ ts, RowO H t.1 t.2) ∧ ts.map (·.2) = rs
theorem StripI.same {H H' : Hp} {v : V} {rs : List (List Int)} (r : StripI H v rs) (s : Same H H') : StripI H' v rs := let ⟨l, ts, e, h, k, z⟩ := r; ⟨l, ts, e, s _ _ h, fun t ht => (k t ht).same s, z⟩
theorem StripO.same {H H' : Hp} {v : V} {rs : List (List OW)} (r : StripO H v rs) (s : Same H H') : StripO H' v rs := let ⟨l, ts, e, h, k, z⟩ := r; ⟨l, ts, e, s _ _ h, fun t ht => (k t ht).same s, z⟩

/-! ### heaps that grow -/
theorem _root_.L2.Same.upd15 {H H' : Hp} {p : Addr} {o : HO} (s : Same H H') (h : H' p = none) : Same H (upd H' p o) := fun b u e => by
  rw [upd_ne (ne_of_none (s b u e) h)]
  exact s b u e
theorem _root_.L2.Same.new15 {H : Hp} {p : Addr} {o : HO} (h : H p = none) : Same H (L2.upd H p o) := (Same.refl H).upd15 h
/-- all but the list at D, which is new since H, is as it was -/
theorem _root_.L2.Same.upd_of15 {H H' : Hp} {p : Addr} {o : HO} (s : Same H H') (h : H p = none) : Same H (L2.upd H' p o) := fun b u e => by
  rw [upd_ne (ne_of_none e h)]
  exact s b u e

/-- the heap without D -/
def hide (D : Addr) (H : Hp) : Hp := fun b => if b = D then none else H b
theorem hide_ne {D b : Addr} {H : Hp} (h : b ≠ D) : hide D H b = H b := if_neg h
theorem hide_at {D b : Addr} {H : Hp} {o : HO} (h : b ≠ D) (e : H b = some o) : hide D H b = some o := (hide_ne h).trans e
theorem hide_get {D b : Addr} {H : Hp} {o : HO} (e : hide D H b = some o) : H b = some o ∧ b ≠ D := by
  by_cases h : b = D
  · rw [show hide D H b = none from if_pos h] at e
    cases e
  · exact ⟨(hide_ne h).symm.trans e, h⟩
theorem hide_same {D : Addr} {H : Hp} : Same (hide D H) H := fun _ _ e => (hide_get e).1
theorem hide_upd {D : Addr} {H : Hp} {o : HO} : hide D (L2.upd H D o) = hide D H := by
  funext b
  by_cases h : b = D
  · rw [show hide D (L2.upd H D o) b = none from if_pos h, show hide D H b = none from if_pos h]
  · rw [hide_ne h, hide_ne h, upd_ne h]
theorem _root_.L2.Same.hid15 {D : Addr} {H H' : Hp} (s : Same H H') : Same (hide D H) (hide D H') := fun b o e => by
  obtain ⟨e, h⟩ := hide_get e
  exact hide_at h (s b o e)
theorem _root_.L2.Same.to_hide15 {D : Addr} {H H' : Hp} (s : Same H H') (h : H D = none) : Same H (hide D H') := fun b o e => hide_at (ne_of_none e h) (s b o e)
theorem _root_.L2.Same.of_hide15 {D : Addr} {H H' : Hp} (s : Same H (hide D H')) : Same H H' := fun b o e => (hide_get (s b o e)).1
theorem hide_hide_upd {D : Addr} {H H' : Hp} {o : HO} (s : Same H (hide D H')) : Same H (hide D (L2.upd H' D o)) := by rw [hide_upd]; exact s

/-! ### a comprehension without tests, item by item -/
section
variable {K : PySem.W.Frag} {a : Addr} {xs : List V} {g : TG} {te : TE} {vs : List Nat} {σ : L2.St} {H1 : Hp} {D : Addr} {Qd : Hp → Prop} {lo : Int} {n : Nat}
/-- what holds after i items: R of each, told in the heap without the new list -/
def LcI (H1 : Hp) (D : Addr) (R : Nat → V → Hp → Prop) (i : Nat) (H : Hp) : Prop := ∃ ys : List V, ys.length = i ∧ H D = some (.lst ys) ∧ Same H1 (hide D H) ∧ ∀ j y, ys[j]? = some y → R j y (hide D H)
theorem lci_start {R : Nat → V → Hp → Prop} (hD : H1 D = none) : LcI H1 D R 0 (L2.upd H1 D (.lst [])) :=
  ⟨[], rfl, upd_same, hide_hide_upd ((Same.refl H1).to_hide15 hD), fun j y e => (nil_get e).elim⟩
theorem lci_next {R : Nat → V → Hp → Prop} {i : Nat} {H H4 : Hp} {y : V} (mono : ∀ j y H H', R j y H → Same H H' → R j y H') (hz : i < sizeLine) (p : LcI H1 D R i H) (s : Same H H4) (r : R i y (hide D H4)) :
    ∃ acc, H4 D = some (.lst acc) ∧ acc.length < sizeLine ∧ LcI H1 D R (i + 1) (L2.upd H4 D (.lst (acc ++ [y]))) := by
  obtain ⟨ys, hl, hD, sm, hr⟩ := p
  refine ⟨ys, s _ _ hD, by rw [hl]; exact hz, ys ++ [y], by rw [List.length_append, hl]; rfl, upd_same, hide_hide_upd (sm.trans s.hid15), fun j z e => ?_⟩
  rw [hide_upd]
  by_cases hj : j < ys.length
  · rw [List.getElem?_append_left hj] at e
    exact mono _ _ _ _ (hr j z e) s.hid15
  · rw [List.getElem?_append_right (by omega)] at e
    have h0 : j - ys.length = 0 := by
      rcases Nat.eq_zero_or_pos (j - ys.length) with q | q
      · exact q
      · rw [List.getElem?_eq_none (by simp; omega)] at e
        cases e
    rw [h0] at e
    cases (Option.some.inj e)
    have : j = i := by omega
    subst this
    exact r
theorem lcL (R : Nat → V → Hp → Prop) (mono : ∀ j y H H', R j y H → Same H H' → R j y H') (hq : SqL K H1 a xs) (hD : H1 D = none) (hz : xs.length ≤ sizeLine)
    (el : ∀ i x H (k : V → Hp → Prop), xs[i]? = some x → Same H1 (hide D H) → (∃ ys, H D = some (.lst ys)) → (∀ y H4, Same H H4 → R i y (hide D H4) → k y H4) → g x (wipe σ vs) H fun σ2 H2 => wipe σ2 vs = wipe σ vs ∧ te σ2 H2 k)
    (hd : ∀ H ys, Same H1 (hide D H) → H D = some (.lst ys) → ys.length = xs.length → (∀ j y, ys[j]? = some y → R j y (hide D H)) → Qd H) :
    ∃ W : Nat → Nat → Hp → Prop, (∃ m, W 0 m (L2.upd H1 D (.lst []))) ∧ ∀ i m H, W i m H →
      ((Itl K a).stop i H ∧ Qd H) ∨ ((Itl K a).go i H ∧ ∃ Nx : Hp → Prop, (∀ H', Nx H' → ∃ m', m' < m ∧ W (i + 1) m' H') ∧ ∀ x H', (Itl K a).yld i H x H' → g x (wipe σ vs) H' fun σ2 H2 => wipe σ2 vs = wipe σ vs ∧ tYes σ2 H2 fun b H3 =>
        if b = true then te σ2 H3 fun y H4 => ∃ acc, H4 D = some (.lst acc) ∧ acc.length < sizeLine ∧ Nx (L2.upd H4 D (.lst (acc ++ [y]))) else Nx H3) := by
  refine lc_list (xs := xs) (fun i H => LcI H1 D R i H) (lci_start hD) (fun i H _ ⟨_, _, _, s, _⟩ => s.of_hide15.seq hq) (fun i x H hx p => ?_) (fun H ⟨ys, hl, e, s, r⟩ => hd H ys s e hl r)
  have hi : i < xs.length := (List.getElem?_eq_some_iff.mp hx).1
  exact el i x H _ hx (let ⟨_, _, _, s, _⟩ := p; s) (let ⟨ys, _, e, _⟩ := p; ⟨ys, e⟩) fun y H4 s r => lci_next mono (by omega) p s r
theorem lcT (R : Nat → V → Hp → Prop) (mono : ∀ j y H H', R j y H → Same H H' → R j y H') (hq : SqT K H1 a xs) (hD : H1 D = none) (hz : xs.length ≤ sizeLine) (sq : ∀ H, Same H1 H → SqT K H a xs)
    (el : ∀ i x H (k : V → Hp → Prop), xs[i]? = some x → Same H1 (hide D H) → (∃ ys, H D = some (.lst ys)) → (∀ y H4, Same H H4 → R i y (hide D H4) → k y H4) → g x (wipe σ vs) H fun σ2 H2 => wipe σ2 vs = wipe σ vs ∧ te σ2 H2 k)
    (hd : ∀ H ys, Same H1 (hide D H) → H D = some (.lst ys) → ys.length = xs.length → (∀ j y, ys[j]? = some y → R j y (hide D H)) → Qd H) :
    ∃ W : Nat → Nat → Hp → Prop, (∃ m, W 0 m (L2.upd H1 D (.lst []))) ∧ ∀ i m H, W i m H →
      ((Itt K a).stop i H ∧ Qd H) ∨ ((Itt K a).go i H ∧ ∃ Nx : Hp → Prop, (∀ H', Nx H' → ∃ m', m' < m ∧ W (i + 1) m' H') ∧ ∀ x H', (Itt K a).yld i H x H' → g x (wipe σ vs) H' fun σ2 H2 => wipe σ2 vs = wipe σ vs ∧ tYes σ2 H2 fun b H3 =>
        if b = true then te σ2 H3 fun y H4 => ∃ acc, H4 D = some (.lst acc) ∧ acc.length < sizeLine ∧ Nx (L2.upd H4 D (.lst (acc ++ [y]))) else Nx H3) := by
  refine lc_tup (xs := xs) (fun i H => LcI H1 D R i H) (lci_start hD) (fun i H _ ⟨_, _, _, s, _⟩ => sq _ s.of_hide15) (fun i x H hx p => ?_) (fun H ⟨ys, hl, e, s, r⟩ => hd H ys s e hl r)
  have hi : i < xs.length := (List.getElem?_eq_some_iff.mp hx).1
  exact el i x H _ hx (let ⟨_, _, _, s, _⟩ := p; s) (let ⟨ys, _, e, _⟩ := p; ⟨ys, e⟩) fun y H4 s r => lci_next mono (by omega) p s r
theorem lcR (R : Nat → V → Hp → Prop) (mono : ∀ j y H H', R j y H → Same H H' → R j y H') (hD : H1 D = none) (hz : n ≤ sizeLine)
    (el : ∀ i H (k : V → Hp → Prop), i < n → Same H1 (hide D H) → (∃ ys, H D = some (.lst ys)) → (∀ y H4, Same H H4 → R i y (hide D H4) → k y H4) → g (.int (lo + i)) (wipe σ vs) H fun σ2 H2 => wipe σ2 vs = wipe σ vs ∧ te σ2 H2 k)
    (hd : ∀ H ys, Same H1 (hide D H) → H D = some (.lst ys) → ys.length = n → (∀ j y, ys[j]? = some y → R j y (hide D H)) → Qd H) :
    ∃ W : Nat → Nat → Hp → Prop, (∃ m, W 0 m (L2.upd H1 D (.lst []))) ∧ ∀ i m H, W i m H →
      ((Itr lo n).stop i H ∧ Qd H) ∨ ((Itr lo n).go i H ∧ ∃ Nx : Hp → Prop, (∀ H', Nx H' → ∃ m', m' < m ∧ W (i + 1) m' H') ∧ ∀ x H', (Itr lo n).yld i H x H' → g x (wipe σ vs) H' fun σ2 H2 => wipe σ2 vs = wipe σ vs ∧ tYes σ2 H2 fun b H3 =>
        if b = true then te σ2 H3 fun y H4 => ∃ acc, H4 D = some (.lst acc) ∧ acc.length < sizeLine ∧ Nx (L2.upd H4 D (.lst (acc ++ [y]))) else Nx H3) := by
  refine lc_range (fun i H => LcI H1 D R i H) (lci_start hD) (fun i H hi p => ?_) (fun H ⟨ys, hl, e, s, r⟩ => hd H ys s e hl r)
  exact el i H _ hi (let ⟨_, _, _, s, _⟩ := p; s) (let ⟨ys, _, e, _⟩ := p; ⟨ys, e⟩) fun y H4 s r => lci_next mono (by omega) p s r
end
/-- a list all of whose items are True -/
theorem all_true {ys : List V} (h : ∀ (j : Nat) (y : V), ys[j]? = some y → y = V.bl true) : ys = (List.replicate ys.length true).map V.bl := by
  rw [List.map_replicate]
  refine List.eq_replicate_iff.mpr ⟨rfl, fun y hy => ?_⟩
  obtain ⟨j, hj⟩ := List.mem_iff_getElem?.mp hy
  exact h j y hj
theorem all_id (n : Nat) : (List.replicate n true).all id = true := by simp
end K15
end

section
set_option Elab.async false
set_option linter.all false
set_option maxRecDepth 100000
set_option maxHeartbeats 2000000
/-! The checks. -/
namespace K15
open PySem PySem.W PySem.Spec PyProof.Rows L2

theorem bt_isinstance : bootBuiltins "isinstance" = some (.builtin "isinstance") := by decide +kernel
theorem bt_int : bootBuiltins "int" = some (.type "int") := by decide +kernel
theorem bt_bool : bootBuiltins "bool" = some (.type "bool") := by decide +kernel
theorem bt_list : bootBuiltins "list" = some (.type "list") := by decide +kernel
theorem bt_tuple : bootBuiltins "tuple" = some (.type "tuple") := by decide +kernel
theorem bt_dict : bootBuiltins "dict" = some (.type "dict") := by decide +kernel
theorem bt_set : bootBuiltins "set" = some (.type "set") := by decide +kernel
theorem bt_len : bootBuiltins "len" = some (.builtin "len") := by decide +kernel
theorem bt_all : bootBuiltins "all" = some (.builtin "all") := by decide +kernel
theorem bt_sorted : bootBuiltins "sorted" = some (.builtin "sorted") := by decide +kernel
theorem bt_abs : bootBuiltins "abs" = some (.builtin "abs") := by decide +kernel
theorem bt_min : bootBuiltins "min" = some (.builtin "min") := by decide +kernel
theorem bt_repr : bootBuiltins "repr" = some (.builtin "repr") := by decide +kernel

/-- what the walk asks of the module's names and classes -/
structure Tx (K : PySem.W.Frag) (mg : Str → Option Value) (CT CO CR : Addr) : Prop where
  isinstance : mg "isinstance" = none
  int : mg "int" = none
  bool : mg "bool" = none
  list : mg "list" = none
  tuple : mg "tuple" = none
  dict : mg "dict" = none
  set : mg "set" = none
  len : mg "len" = none
  all : mg "all" = none
  range : mg "range" = none
  enumerate : mg "enumerate" = none
  sorted : mg "sorted" = none
  abs : mg "abs" = none
  min : mg "min" = none
  repr : mg "repr" = none
  longest : ∃ t, mg "LONGEST" = some (.int 200 t)
  oneWay : ∃ t, mg "ONE_WAY" = some (.int 1 t)
  twoWays : ∃ t, mg "TWO_WAYS" = some (.int 2 t)
  mostLetters : ∃ t, mg "MOST_LETTERS" = some (.int 6 t)
  mostWorths : ∃ t, mg "MOST_WORTHS" = some (.int 12 t)
  waits : ∃ t, mg "WAITS" = some (.int 0 t)
  works : ∃ t, mg "WORKS" = some (.int 1 t)
  row : mg "Row" = some (.ref CR)
  clT : Cls K CT
  clO : Cls K CO
  tHa : PySem.W.findIn K (.ref CT) "__class__" = some (some (.builtin "object.__class__"))
  tHn : PySem.W.specialIn K (.builtin "object.__class__") "__get__" = some (some (.builtin "getset_descriptor.__get__"))
  tHtk : PySem.W.takesIn K (.builtin "object.__class__") = some true
  tHm : PySem.W.mroIn K CT (.type "object") = some true
  tRow : PySem.W.kitOne K (.ref CT) (.ref CR) = some true
  tWays : NoAttr K CT "ways"
  tLetters : NoAttr K CT "letters"
  tWorths : NoAttr K CT "worths"
  tRules : NoAttr K CT "rules"
  tYes : NoAttr K CT "yes"
  tBy : NoAttr K CT "by_key"
  oRow : NoAttr K CO "row"
  oLetters : NoAttr K CO "letters"
  oWays : NoAttr K CO "ways"
theorem pe_gi {X : Cx} {x : Str} {i : Int} {pos : Pos} (hg : Gl X x) (h : ∃ t, X.mg x = some (.int i t)) (hd : (x == ("__debug__" : Str)) = false := by decide) : PE X (.Name x pos) (tC (.int i)) := by
  obtain ⟨t, hm⟩ := h
  exact pe_glob hg hm ⟨t, rfl⟩ hd

/-! ### promises -/
def spIsInteger : Sp := fun vs H Q _ => ∃ i : Int, vs = [.int i] ∧ Q (.bl true) H
def inB (lo hi : Option Int) (i : Int) : Prop := (∀ l, lo = some l → l ≤ i) ∧ ∀ h, hi = some h → i ≤ h
def spIsWithin : Sp := fun vs H Q _ => ∃ (i : Int) (lo hi : Option Int), vs = [.int i, oV lo, oV hi] ∧ inB lo hi i ∧ Q (.bl true) H
def spIsLetter : Sp := fun vs H Q _ => ∃ i n : Int, vs = [.int i, .int n] ∧ 0 ≤ i ∧ i < n ∧ Q (.bl true) H
def spNeedNumber : Sp := fun vs H Q _ => ∃ (i : Int) (x : Str) (lo hi : Option Int), vs = [.int i, .str x, oV lo, oV hi] ∧ inB lo hi i ∧ Q .non H
section
variable {P : Program} {w : World} {K : PySem.W.Frag} {mg : Str → Option Value} {base : Heap} {CT CO CR : Addr}
theorem scIsInteger : FnScope ["value"] ["value"] (defScope sIsInteger) := ⟨rfl, rfl, rfl, by decide +kernel, rfl, by decide +kernel, by decide +kernel⟩
theorem cl_isInteger (D : Dd K mg "is_integer" sIsInteger ["value"]) (T : Tx K mg CT CO CR) : Cl P w K mg base 1 "is_integer" spIsInteger := by
  refine cl_of D scIsInteger (fun vs H Q E h => ?_) (fun f cdv A outer s H vs Q E hr h => ?_)
  · obtain ⟨i, rfl, _⟩ := h
    rfl
  · obtain ⟨i, rfl, q⟩ := h
    refine ⟨_, pss_one (ps_ret (pe_and (pe_callB call_isi (by rfl) T.isinstance bt_isinstance (pa_cons (pv 0) (pa_cons (pe_bltn (by rfl) T.int bt_int (v := .ty "int") rfl) pa_nil)))
      (pe_one (pe_not (pe_callB call_isi (by rfl) T.isinstance bt_isinstance (pa_cons (pv 0) (pa_cons (pe_bltn (by rfl) T.bool bt_bool (v := .ty "bool") rfl) pa_nil))))))), ?_⟩
    refine ⟨_, rfl, _, _, _, _, true, rfl, .ty "int", .base (.int i), kit_ty (by decide +kernel), true, rfl, iteT ?_⟩
    exact ⟨_, rfl, _, _, _, _, false, rfl, .ty "bool", .base (.int i), kit_ty (by decide +kernel), false, rfl, q⟩
theorem scIsWithin : FnScope ["value", "least", "most"] ["value", "least", "most"] (defScope sIsWithin) := ⟨rfl, rfl, rfl, by decide +kernel, rfl, by decide +kernel, by decide +kernel⟩
theorem cl_isWithin (D : Dd K mg "is_within" sIsWithin ["value", "least", "most"]) (C1 : Cl P w K mg base 1 "is_integer" spIsInteger) : Cl P w K mg base 2 "is_within" spIsWithin := by
  refine cl_of D scIsWithin (fun vs H Q E h => ?_) (fun f cdv A outer s H vs Q E hr h => ?_)
  · obtain ⟨i, lo, hi, rfl, _⟩ := h
    rfl
  · obtain ⟨i, lo, hi, rfl, hb, q⟩ := h
    refine ⟨_, pss_cons (ps_if (pt_not (pt_val (pe_cl C1 hr (by rfl) (pa_cons (pv 0) pa_nil)))) pss_never pss_nil)
      (pss_one (ps_ret (pe_and (pe_or (pe_cmp (pc_isN (pv 1))) (pe_one (pe_cmp (pc_le (pv 1) (pv 0))))) (pe_one (pe_or (pe_cmp (pc_isN (pv 2))) (pe_one (pe_cmp (pc_le (pv 0) (pv 2))))))))), ?_⟩
    refine ⟨_, rfl, i, rfl, true, rfl, iteF ?_⟩
    have last : ∀ hi' : Option Int, hi = hi' → (tOrV (tIsN (tVar 2)) (tLe (tVar 0) (tVar 2))) (start ["value", "least", "most"] [.int i, oV lo, oV hi]) H (fun v H' => Q v H') := fun hi' e => by
      subst e
      cases hi with
      | none => exact ⟨_, rfl, true, rfl, q⟩
      | some h =>
        refine ⟨_, rfl, false, rfl, ?_⟩
        refine ⟨_, rfl, _, rfl, _, _, rfl, rfl, ?_⟩
        show Q (V.bl (decide (i ≤ h))) H
        rw [decide_eq_true (hb.2 h rfl)]
        exact q
    cases lo with
    | none => exact ⟨_, rfl, true, rfl, true, rfl, iteT (last hi rfl)⟩
    | some l =>
      refine ⟨_, rfl, false, rfl, ?_⟩
      refine ⟨_, rfl, _, rfl, _, _, rfl, rfl, ?_⟩
      refine ⟨decide (l ≤ i), rfl, ?_⟩
      rw [decide_eq_true (hb.1 l rfl)]
      exact iteT (last hi rfl)
theorem scIsLetter : FnScope ["value", "letters"] ["value", "letters"] (defScope sIsLetter) := ⟨rfl, rfl, rfl, by decide +kernel, rfl, by decide +kernel, by decide +kernel⟩
theorem cl_isLetter (D : Dd K mg "is_letter" sIsLetter ["value", "letters"]) (C1 : Cl P w K mg base 2 "is_within" spIsWithin) : Cl P w K mg base 3 "is_letter" spIsLetter := by
  refine cl_of D scIsLetter (fun vs H Q E h => ?_) (fun f cdv A outer s H vs Q E hr h => ?_)
  · obtain ⟨i, n, rfl, _⟩ := h
    rfl
  · obtain ⟨i, n, rfl, h0, h1, q⟩ := h
    refine ⟨_, pss_one (ps_ret (pe_cl C1 hr (by rfl) (pa_cons (pv 0) (pa_cons pe_int (pa_cons (pe_op op_sub (pv 1) pe_int) pa_nil))))), ?_⟩
    exact ⟨_, rfl, _, rfl, _, _, rfl, rfl, i, some 0, some (n - 1), rfl, ⟨fun l e => by cases e; exact h0, fun h e => by cases e; omega⟩, q⟩
theorem scNeedNumber : FnScope ["value", "part", "least", "most"] ["value", "part", "least", "most"] (defScope sNeedNumber) := ⟨rfl, rfl, rfl, by decide +kernel, rfl, by decide +kernel, by decide +kernel⟩
theorem cl_needNumber (D : Dd K mg "need_number" sNeedNumber ["value", "part", "least", "most"]) (C1 : Cl P w K mg base 2 "is_within" spIsWithin) : Cl P w K mg base 3 "need_number" spNeedNumber := by
  refine cl_of D scNeedNumber (fun vs H Q E h => ?_) (fun f cdv A outer s H vs Q E hr h => ?_)
  · obtain ⟨i, x, lo, hi, rfl, _⟩ := h
    rfl
  · obtain ⟨i, x, lo, hi, rfl, hb, q⟩ := h
    refine ⟨_, pss_one (ps_if (pt_not (pt_val (pe_cl C1 hr (by rfl) (pa_cons (pv 0) (pa_cons (pv 2) (pa_cons (pv 3) pa_nil)))))) pss_never pss_nil), ?_⟩
    exact ⟨_, rfl, _, rfl, _, rfl, i, lo, hi, rfl, hb, true, rfl, iteF q⟩
end
end K15
end

section
set_option Elab.async false
set_option linter.all false
set_option maxRecDepth 100000
set_option maxHeartbeats 2000000
/-! Words, pairs, rows: the checks of values that hold others. -/
namespace K15
open PySem PySem.W PySem.Spec PyProof.Rows L2

/-- list or tuple, of these -/
def SeqAt2 (H : Hp) (a : Addr) (xs : List V) : Prop := H a = some (.lst xs) ∨ H a = some (.tup xs)
theorem SeqAt2.same {H H' : Hp} {a : Addr} {xs : List V} (h : SeqAt2 H a xs) (s : Same H H') : SeqAt2 H' a xs := h.elim (fun e => .inl (s _ _ e)) fun e => .inr (s _ _ e)
theorem SeqAt2.seq {K : PySem.W.Frag} {H : Hp} {a : Addr} {xs : List V} (h : SeqAt2 H a xs) : SqL K H a xs ∨ SqT K H a xs := h.elim (fun e => .inl (SqL.of e)) fun e => .inr (SqT.of e)
/-- isinstance(v, (list, tuple)), for a list or a tuple -/
theorem isi_lt {K : PySem.W.Frag} {H : Hp} {a p : Addr} {xs : List V} {o : HO} (h : SeqAt2 H a xs) (hp : H p = none) : ∃ t, TyX K (upd H p o) (.ref a) t ∧ PySem.W.kitAny K t [.type "list", .type "tuple"] = some true := by
  have k1 : PySem.W.kitOne K (.type "list") (.type "list") = some true := kit_ty (by decide +kernel)
  have k2 : PySem.W.kitOne K (.type "tuple") (.type "list") = some false := kit_ty (by decide +kernel)
  have k3 : PySem.W.kitOne K (.type "tuple") (.type "tuple") = some true := kit_ty (by decide +kernel)
  rcases h with h | h
  · exact ⟨_, .base (.lst ((upd_ne (ne_of_none h hp)).trans h)), kitAny_cons k1 (fun z => by cases z) fun _ => rfl⟩
  · exact ⟨_, .base (.tup ((upd_ne (ne_of_none h hp)).trans h)), kitAny_cons k2 (fun _ => kitAny_cons k3 (fun z => by cases z) fun _ => rfl) (fun z => by cases z)⟩
theorem clsLT : Paired ClsV [.ty "list", .ty "tuple"] [.type "list", .type "tuple"] := .cons (.ty _) (.cons (.ty _) .nil)

/-- tuple(a list or a tuple), wherever the call stands -/
def rTup (K : PySem.W.Frag) : List V → Hp → VK → Prop := fun xs H Q => ∃ p ys, xs = [V.ref p] ∧ ((SqL K H p ys ∧ ∀ l, H l = none → Q (.ref l) (upd H l (.tup ys))) ∨ (SqT K H p ys ∧ Q (.ref p) H))
theorem call_tupK {X : Cx} {K : PySem.W.Frag} (h : X.K = K) : CallR X (.type "tuple") (rTup K) := by
  subst h
  exact call_tuple_of
def rLen (K : PySem.W.Frag) : List V → Hp → VK → Prop := fun xs H Q => ∃ p ys, xs = [V.ref p] ∧ (SqL K H p ys ∨ SqT K H p ys) ∧ Q (.int ys.length) H
theorem call_lenK {X : Cx} {K : PySem.W.Frag} (h : X.K = K) : CallR X (.builtin "len") (rLen K) := by
  subst h
  exact call_len_seq
theorem call_isiTK {X : Cx} {K : PySem.W.Frag} (h : X.K = K) : CallR X (.builtin "isinstance") (rIsiT K) := by
  subst h
  exact call_isiT
/-! ### promises -/
def spIsWord : Sp := fun vs H Q _ => ∃ (a : Addr) (ws : List Int) (n : Int), vs = [.ref a, .int n] ∧ SeqAt2 H a (ws.map V.int) ∧ 1 ≤ ws.length ∧ ws.length ≤ 200 ∧ (∀ z ∈ ws, 0 ≤ z ∧ z < n) ∧ ∀ H', Same H H' → Q (.bl true) H'
def spNeedWord : Sp := fun vs H Q _ => ∃ (a : Addr) (ws : List Int) (n : Int) (x : Str), vs = [.ref a, .int n, .str x] ∧ SeqAt2 H a (ws.map V.int) ∧ 1 ≤ ws.length ∧ ws.length ≤ 200 ∧ (∀ z ∈ ws, 0 ≤ z ∧ z < n) ∧
  ∀ p H', Same H H' → H' p = some (.tup (ws.map V.int)) → Q (.ref p) H'
def spPairsIn : Sp := fun vs H Q _ => ∃ (a : Addr) (ts : List PrT), vs = [.ref a] ∧ H a = some (.lst (ts.map fun t => V.ref t.1)) ∧ PrsIn H ts ∧ ts.length ≤ sizeLine ∧
  ∀ p H', Same H H' → H p = none → H' p = some (.lst (ts.map fun t => V.ref t.1)) → Q (.ref p) H'
/-- a table stands at p (as an instance) -/
def TabObj (CT : Addr) (H : Hp) (p : Addr) : Prop := ∃ dx n wo rl yl d, H p = some (.ins CT dx (tabF n wo rl yl d))
theorem TabAt.obj {P : Program} {w : World} {C : Addr} {H : Hp} {p : Addr} {f : F3} {n : Int} (t : TabAt P w C H p f n) : TabObj C H p := by
  obtain ⟨dx, wo, rl, yl, d, xs, h1, _⟩ := t
  exact ⟨dx, n, wo, rl, yl, d, h1⟩
def spNeedRow (CT : Addr) : Sp := fun vs H Q _ => ∃ (p : Addr) (x : Str), vs = [.ref p, .str x] ∧ TabObj CT H p ∧ Q .non H
def spNeedTwo (CT : Addr) : Sp := fun vs H Q _ => ∃ p : Addr, vs = [.ref p] ∧ TabObj CT H p ∧ Q .non H
section
variable {P : Program} {w : World} {K : PySem.W.Frag} {mg : Str → Option Value} {base : Heap} {CT CO CR : Addr}
theorem scIsWord : FnScope ["value", "letters", "each"] ["value", "letters"] (defScope sIsWord) := ⟨rfl, rfl, rfl, by decide +kernel, rfl, by decide +kernel, by decide +kernel⟩
theorem cl_isWord (D : Dd K mg "is_word" sIsWord ["value", "letters"]) (T : Tx K mg CT CO CR) (C1 : Cl P w K mg base 3 "is_letter" spIsLetter) : Cl P w K mg base 4 "is_word" spIsWord := by
  refine cl_of D scIsWord (fun vs H Q E h => ?_) (fun f cdv A outer s H vs Q E hr h => ?_)
  · obtain ⟨a, ws, n, rfl, _⟩ := h
    rfl
  · obtain ⟨a, ws, n, rfl, hs, h1, h2, hw, q⟩ := h
    have big : ws.length ≤ sizeLine := Nat.le_trans h2 (by decide)
    have el : ∀ (D : Addr) (i : Nat) (x : V) (H2 : Hp) (k : V → Hp → Prop), (ws.map V.int)[i]? = some x → (∀ y H4, Same H2 H4 → y = V.bl true → k y H4) →
        gName 2 x (wipe (start ["value", "letters", "each"] [V.ref a, V.int n]) [2]) H2 fun σ2 H3 => wipe σ2 [2] = wipe (start ["value", "letters", "each"] [V.ref a, V.int n]) [2] ∧ tCall spIsLetter [] E0 (tCons (tVar 2) (tCons (tVar 1) tNil)) σ2 H3 k := by
      intro D i x H2 k hx kk
      rw [List.getElem?_map] at hx
      obtain ⟨z, hz, rfl⟩ := Option.map_eq_some_iff.mp hx
      obtain ⟨z1, z2⟩ := hw z (List.mem_of_getElem? hz)
      exact ⟨rfl, _, rfl, _, rfl, z, n, rfl, z1, z2, kk _ _ (Same.refl _) rfl⟩
    have len : (ws.map V.int).length = ws.length := List.length_map ..
    have chain : ∀ {R : Prop}, R → if (decide (((ws.map V.int).length : Int) ≤ 200)) = true then R else False := fun r => by
      rw [decide_eq_true (by rw [len]; omega)]
      exact iteT r
    rcases hs with hl | ht
    · refine ⟨_, pss_cons (ps_if (PW.pt (pw_or (pt_not (pt_val (pe_callB call_isiT (by rfl) T.isinstance bt_isinstance (pa_cons (pv 0) (pa_cons (pe_tup (pa_cons (pe_bltn (by rfl) T.list bt_list (v := .ty "list") rfl) (pa_cons (pe_bltn (by rfl) T.tuple bt_tuple (v := .ty "tuple") rfl) pa_nil))) pa_nil)))))
        (pw_or1 (pt_not (pt_chain op_le op_le pe_int (pe_callB call_len_seq (by rfl) T.len bt_len (pa_cons (pv 0) pa_nil)) (pe_gi (by rfl) T.longest)))))) pss_never pss_nil)
        (pss_one (ps_ret (pe_callB (cr_all rfl) (by rfl) T.all bt_all (pa_cons (pe_lc (own := [("each", 2)]) (g := gName 2) (tt := tYes) rfl scIsWord.nd (pi_list (pv 0)) (blkOk_by (N := ["value", "letters", "each"]) (sc := defScope sIsWord) (by decide +kernel))
          (fun _ _ _ _ _ => pg_name (i := 2) scIsWord.nd rfl (Or.inl rfl)) (fun _ _ _ _ _ => pts_nil) (fun _ _ _ _ _ => pe_cl C1 hr (by rfl) (pa_cons (pv 2) (pa_cons (pv 1) pa_nil)))) pa_nil)))), ?_⟩
      refine ⟨_, rfl, (by show 2 ≤ sizeLine; decide), fun p np => ?_⟩
      obtain ⟨t, i1, i2⟩ := isi_lt (K := K) (o := .tup [.ty "list", .ty "tuple"]) (.inl hl : SeqAt2 H a _) np
      refine ⟨_, p, _, t, _, true, rfl, upd_same, clsLT, i1, i2, true, rfl, iteF ?_⟩
      have s1 : Same H (upd H p (.tup [.ty "list", .ty "tuple"])) := Same.new15 np
      refine ⟨_, rfl, a, _, rfl, .inl (SqL.of (s1 _ _ hl)), _, _, rfl, rfl, decide (1 ≤ ((ws.map V.int).length : Int)), rfl, ?_⟩
      rw [decide_eq_true (by rw [len]; omega)]
      refine iteT ⟨_, _, rfl, rfl, decide (((ws.map V.int).length : Int) ≤ 200), rfl, ?_⟩
      rw [decide_eq_true (by rw [len]; omega)]
      refine iteF ?_
      refine ⟨_, rfl, a, rfl, ⟨_, SqL.of (s1 _ _ hl)⟩, fun D nD => ?_⟩
      refine lcL (K := K) (xs := ws.map V.int) (fun _ y _ => y = V.bl true) (fun _ _ _ _ e _ => e) (SqL.of (s1 _ _ hl)) nD (by rw [len]; exact big) (fun i x H2 k hx _ _ kk => el D i x H2 k hx kk) fun H2 ys s2 e2 ly hy => ?_
      refine ⟨D, List.replicate ys.length true, rfl, SqL.of (e2.trans (congrArg (fun z => some (HO.lst z)) (all_true hy))), ?_⟩
      rw [all_id]
      exact q _ (s1.trans s2.of_hide15)
    · refine ⟨_, pss_cons (ps_if (PW.pt (pw_or (pt_not (pt_val (pe_callB call_isiT (by rfl) T.isinstance bt_isinstance (pa_cons (pv 0) (pa_cons (pe_tup (pa_cons (pe_bltn (by rfl) T.list bt_list (v := .ty "list") rfl) (pa_cons (pe_bltn (by rfl) T.tuple bt_tuple (v := .ty "tuple") rfl) pa_nil))) pa_nil)))))
        (pw_or1 (pt_not (pt_chain op_le op_le pe_int (pe_callB call_len_seq (by rfl) T.len bt_len (pa_cons (pv 0) pa_nil)) (pe_gi (by rfl) T.longest)))))) pss_never pss_nil)
        (pss_one (ps_ret (pe_callB (cr_all rfl) (by rfl) T.all bt_all (pa_cons (pe_lc (own := [("each", 2)]) (g := gName 2) (tt := tYes) rfl scIsWord.nd (pi_tup (pv 0)) (blkOk_by (N := ["value", "letters", "each"]) (sc := defScope sIsWord) (by decide +kernel))
          (fun _ _ _ _ _ => pg_name (i := 2) scIsWord.nd rfl (Or.inl rfl)) (fun _ _ _ _ _ => pts_nil) (fun _ _ _ _ _ => pe_cl C1 hr (by rfl) (pa_cons (pv 2) (pa_cons (pv 1) pa_nil)))) pa_nil)))), ?_⟩
      refine ⟨_, rfl, (by show 2 ≤ sizeLine; decide), fun p np => ?_⟩
      obtain ⟨t, i1, i2⟩ := isi_lt (K := K) (o := .tup [.ty "list", .ty "tuple"]) (.inr ht : SeqAt2 H a _) np
      refine ⟨_, p, _, t, _, true, rfl, upd_same, clsLT, i1, i2, true, rfl, iteF ?_⟩
      have s1 : Same H (upd H p (.tup [.ty "list", .ty "tuple"])) := Same.new15 np
      refine ⟨_, rfl, a, _, rfl, .inr (SqT.of (s1 _ _ ht)), _, _, rfl, rfl, decide (1 ≤ ((ws.map V.int).length : Int)), rfl, ?_⟩
      rw [decide_eq_true (by rw [len]; omega)]
      refine iteT ⟨_, _, rfl, rfl, decide (((ws.map V.int).length : Int) ≤ 200), rfl, ?_⟩
      rw [decide_eq_true (by rw [len]; omega)]
      refine iteF ?_
      refine ⟨_, rfl, a, rfl, ⟨_, SqT.of (s1 _ _ ht)⟩, fun D nD => ?_⟩
      refine lcT (K := K) (xs := ws.map V.int) (fun _ y _ => y = V.bl true) (fun _ _ _ _ e _ => e) (SqT.of (s1 _ _ ht)) nD (by rw [len]; exact big) (fun H2 s2 => SqT.of (s2 _ _ (s1 _ _ ht))) (fun i x H2 k hx _ _ kk => el D i x H2 k hx kk) fun H2 ys s2 e2 ly hy => ?_
      refine ⟨D, List.replicate ys.length true, rfl, SqL.of (e2.trans (congrArg (fun z => some (HO.lst z)) (all_true hy))), ?_⟩
      rw [all_id]
      exact q _ (s1.trans s2.of_hide15)

theorem scNeedWord : FnScope ["value", "letters", "part"] ["value", "letters", "part"] (defScope sNeedWord) := ⟨rfl, rfl, rfl, by decide +kernel, rfl, by decide +kernel, by decide +kernel⟩
theorem cl_needWord (D : Dd K mg "need_word" sNeedWord ["value", "letters", "part"]) (T : Tx K mg CT CO CR) (C1 : Cl P w K mg base 4 "is_word" spIsWord) : Cl P w K mg base 5 "need_word" spNeedWord := by
  refine cl_of D scNeedWord (fun vs H Q E h => ?_) (fun f cdv A outer s H vs Q E hr h => ?_)
  · obtain ⟨a, ws, n, x, rfl, _⟩ := h
    rfl
  · obtain ⟨a, ws, n, x, rfl, hs, h1, h2, hw, q⟩ := h
    refine ⟨_, pss_cons (ps_if (pt_not (pt_val (pe_cl C1 hr (by rfl) (pa_cons (pv 0) (pa_cons (pv 1) pa_nil))))) pss_never pss_nil)
      (pss_one (ps_ret (pe_callTy call_tuple_of (by rfl) T.tuple bt_tuple (pa_cons (pv 0) pa_nil)))), ?_⟩
    refine ⟨_, rfl, _, rfl, a, ws, n, rfl, hs, h1, h2, hw, fun H1 s1 => ⟨true, rfl, iteF ?_⟩⟩
    refine ⟨_, rfl, a, ws.map V.int, rfl, ?_⟩
    rcases hs with e | e
    · exact .inl ⟨SqL.of (s1 _ _ e), fun l nl => q l _ (s1.upd15 nl) upd_same⟩
    · exact .inr ⟨SqT.of (s1 _ _ e), q a _ s1 (s1 _ _ e)⟩
theorem scPairsIn : FnScope ["value", "each"] ["value"] (defScope sPairsIn) := ⟨rfl, rfl, rfl, by decide +kernel, rfl, by decide +kernel, by decide +kernel⟩
theorem cl_pairsIn (D : Dd K mg "pairs_in" sPairsIn ["value"]) (T : Tx K mg CT CO CR) : Cl P w K mg base 1 "pairs_in" spPairsIn := by
  refine cl_of D scPairsIn (fun vs H Q E h => ?_) (fun f cdv A outer s H vs Q E hr h => ?_)
  · obtain ⟨a, ts, rfl, _⟩ := h
    rfl
  · obtain ⟨a, ts, rfl, ha, hp, hz, q⟩ := h
    refine ⟨_, pss_cons (ps_if (pt_val (pe_callB call_isi (by rfl) T.isinstance bt_isinstance (pa_cons (pv 0) (pa_cons (pe_bltn (by rfl) T.dict bt_dict (v := .ty "dict") rfl) pa_nil)))) pss_never pss_nil)
      (pss_cons (ps_if (pt_not (pt_val (pe_callB call_isiT (by rfl) T.isinstance bt_isinstance (pa_cons (pv 0) (pa_cons (pe_tup (pa_cons (pe_bltn (by rfl) T.list bt_list (v := .ty "list") rfl) (pa_cons (pe_bltn (by rfl) T.tuple bt_tuple (v := .ty "tuple") rfl) pa_nil))) pa_nil))))) pss_never pss_nil)
      (pss_cons (ps_if (pt_not (pt_val (pe_callB (cr_all rfl) (by rfl) T.all bt_all (pa_cons (pe_lc (own := [("each", 1)]) (g := gName 1) (tt := tYes) rfl scPairsIn.nd (pi_list (pv 0)) (blkOk_by (N := ["value", "each"]) (sc := defScope sPairsIn) (by decide +kernel))
          (fun _ _ _ _ _ => pg_name (i := 1) scPairsIn.nd rfl (Or.inl rfl)) (fun _ _ _ _ _ => pts_nil)
          (fun _ _ _ _ _ => pe_and (pe_callB (call_isiTK (K := K) rfl) (by rfl) T.isinstance bt_isinstance (pa_cons (pv 1) (pa_cons (pe_tup (pa_cons (pe_bltn (by rfl) T.list bt_list (v := .ty "list") rfl) (pa_cons (pe_bltn (by rfl) T.tuple bt_tuple (v := .ty "tuple") rfl) pa_nil))) pa_nil)))
            (pe_one (pe_cmpR op_eq (pe_callB (call_lenK (K := K) rfl) (by rfl) T.len bt_len (pa_cons (pv 1) pa_nil)) pe_int (nomark _))))) pa_nil)))) pss_never pss_nil)
      (pss_one (ps_ret (pe_lc (own := [("each", 1)]) (g := gName 1) (tt := tYes) rfl scPairsIn.nd (pi_list (pv 0)) (blkOk_by (N := ["value", "each"]) (sc := defScope sPairsIn) (by decide +kernel))
          (fun _ _ _ _ _ => pg_name (i := 1) scPairsIn.nd rfl (Or.inl rfl)) (fun _ _ _ _ _ => pts_nil) (fun _ _ _ _ _ => pe_callTy (call_tupK (K := K) rfl) (by rfl) T.tuple bt_tuple (pa_cons (pv 1) pa_nil))))))), ?_⟩
    have len : (ts.map fun t => V.ref t.1).length = ts.length := List.length_map ..
    have item : ∀ {i : Nat} {x : V}, (ts.map fun t => V.ref t.1)[i]? = some x → ∃ t, t ∈ ts ∧ ts[i]? = some t ∧ x = V.ref t.1 := fun {i x} hx => by
      rw [List.getElem?_map] at hx
      obtain ⟨t, ht, rfl⟩ := Option.map_eq_some_iff.mp hx
      exact ⟨t, List.mem_of_getElem? ht, ht, rfl⟩
    -- isinstance(value, dict): no
    refine ⟨_, rfl, _, _, _, _, false, rfl, .ty "dict", .base (.lst ha), kit_ty (by decide +kernel), false, rfl, iteF ?_⟩
    -- isinstance(value, (list, tuple))
    refine ⟨_, rfl, (by show 2 ≤ sizeLine; decide), fun p np => ?_⟩
    obtain ⟨t, i1, i2⟩ := isi_lt (K := K) (o := .tup [.ty "list", .ty "tuple"]) (.inl ha : SeqAt2 H a _) np
    refine ⟨_, p, _, t, _, true, rfl, upd_same, clsLT, i1, i2, true, rfl, iteF ?_⟩
    have s1 : Same H (upd H p (.tup [.ty "list", .ty "tuple"])) := Same.new15 np
    -- all([..])
    refine ⟨_, rfl, a, rfl, ⟨_, SqL.of (s1 _ _ ha)⟩, fun D1 nD1 => ?_⟩
    refine lcL (K := K) (xs := ts.map fun t => V.ref t.1) (fun _ y _ => y = V.bl true) (fun _ _ _ _ e _ => e) (SqL.of (s1 _ _ ha)) nD1 (by rw [len]; exact hz) (fun i x H2 k hx s2 _ kk => ?_) fun H2 ys s2 e2 ly hy => ?_
    · obtain ⟨t, htm, _, rfl⟩ := item hx
      have ht := s2.of_hide15 _ _ (s1 _ _ (hp t htm).1)
      refine ⟨rfl, _, rfl, (by show 2 ≤ sizeLine; decide), fun p2 np2 => ?_⟩
      obtain ⟨t', j1, j2⟩ := isi_lt (K := K) (o := .tup [.ty "list", .ty "tuple"]) (.inr ht : SeqAt2 H2 t.1 _) np2
      refine ⟨_, p2, _, t', _, true, rfl, upd_same, clsLT, j1, j2, true, rfl, iteT ?_⟩
      have s3 : Same H2 (upd H2 p2 (.tup [.ty "list", .ty "tuple"])) := Same.new15 np2
      exact ⟨_, rfl, t.1, _, rfl, .inr (SqT.of (s3 _ _ ht)), rfl, kk _ _ s3 rfl⟩
    refine ⟨D1, List.replicate ys.length true, rfl, SqL.of (e2.trans (congrArg (fun z => some (HO.lst z)) (all_true hy))), ?_⟩
    rw [all_id]
    refine ⟨true, rfl, iteF ?_⟩
    -- [tuple(each) ..]
    have s3 : Same H H2 := s1.trans s2.of_hide15
    refine ⟨_, rfl, a, rfl, ⟨_, SqL.of (s3 _ _ ha)⟩, fun D2 nD2 => ?_⟩
    refine lcL (K := K) (xs := ts.map fun t => V.ref t.1) (fun i y _ => (ts.map fun t => V.ref t.1)[i]? = some y) (fun _ _ _ _ e _ => e) (SqL.of (s3 _ _ ha)) nD2 (by rw [len]; exact hz) (fun i x H3 k hx s4 _ kk => ?_) fun H3 zs s4 e4 lz hz4 => ?_
    · obtain ⟨t, htm, ht, rfl⟩ := item hx
      exact ⟨rfl, _, rfl, t.1, _, rfl, .inr ⟨SqT.of (s4.of_hide15 _ _ (s3 _ _ (hp t htm).1)), kk _ _ (Same.refl _) hx⟩⟩
    have e5 : zs = ts.map fun t => V.ref t.1 := List.ext_getElem? fun j => by
      by_cases hj : j < zs.length
      · have e := hz4 j zs[j] (List.getElem?_eq_getElem hj)
        rw [e, List.getElem?_eq_getElem hj]
      · rw [List.getElem?_eq_none (by omega), List.getElem?_eq_none (by rw [← lz]; omega)]
    rw [e5] at e4
    exact q D2 _ (s3.trans s4.of_hide15) (s3.free nD2) e4
theorem scNeedRow : FnScope ["value", "part"] ["value", "part"] (defScope sNeedRow) := ⟨rfl, rfl, rfl, by decide +kernel, rfl, by decide +kernel, by decide +kernel⟩
/-- need_row as the top has left it: its second parameter has a default -/
structure DRow (K : PySem.W.Frag) (mg : Str → Option Value) : Prop where
  ex : ∃ (f : Addr) (fd : FuncData), FunD K "need_row" "need_row" (defArgs sNeedRow) (defBody sNeedRow) (defScope sNeedRow) [.str "row"] [] f fd ∧ mg "need_row" = some (.ref f) ∧ PySem.W.keepIn K (.ref f) = true
theorem cl_needRow (D : DRow K mg) (T : Tx K mg CT CO CR) : Cl P w K mg base 1 "need_row" (spNeedRow CT) := by
  obtain ⟨f, fd, F, hm, kp⟩ := D.ex
  obtain ⟨ds, r, b⟩ := FunD.binds1 (ps := ["value", "part"]) F 2 1 (by decide) rfl (fun T kV doc pm an cdv ct us its hl h2 => by
    match us, its, hl, h2 with
    | [u1, u2], [i1], _, _ => exact ⟨_, rfl, rfl⟩)
  cases r
  refine ⟨f, fd, _, FunD.ok F scNeedRow (fun vs H Q E h => ?_) (fun cdv A outer s H vs Q E hr h => ?_), hm, kp, b⟩
  · obtain ⟨p, x, rfl, _⟩ := h
    rfl
  · obtain ⟨p, x, rfl, ⟨dx, n, wo, rl, yl, d, e⟩, q⟩ := h
    refine ⟨_, pss_one (ps_if (pt_not (pt_val (pe_callB call_isi (by rfl) T.isinstance bt_isinstance (pa_cons (pv 0) (pa_cons (pe_glob (x := "Row") (v := .ref CR) (by rfl) T.row rfl) pa_nil))))) pss_never pss_nil), ?_⟩
    exact ⟨_, rfl, _, _, _, _, true, rfl, .own CR, .base (.ins e T.clT T.tHa T.tHn T.tHtk T.tHm), T.tRow, true, rfl, iteF q⟩
theorem scNeedTwo : FnScope ["row"] ["row"] (defScope sNeedTwo) := ⟨rfl, rfl, rfl, by decide +kernel, rfl, by decide +kernel, by decide +kernel⟩
theorem cl_needTwo (D : Dd K mg "need_two_ways" sNeedTwo ["row"]) (T : Tx K mg CT CO CR) (C1 : Cl P w K mg base 1 "need_row" (spNeedRow CT)) : Cl P w K mg base 2 "need_two_ways" (spNeedTwo CT) := by
  refine cl_of D scNeedTwo (fun vs H Q E h => ?_) (fun f cdv A outer s H vs Q E hr h => ?_)
  · obtain ⟨p, rfl, _⟩ := h
    rfl
  · obtain ⟨p, rfl, ⟨dx, n, wo, rl, yl, d, e⟩, q⟩ := h
    refine ⟨_, pss_cons (ps_expr (pe_cl C1 hr (by rfl) (pa_cons (pv 0) (pa_cons pe_str pa_nil))))
      (pss_one (ps_if (pt_cmp (pc_neI (pe_fld (pv 0) rfl) (pe_gi (by rfl) T.twoWays))) pss_never pss_nil)), ?_⟩
    refine ⟨_, rfl, p, _, rfl, ⟨dx, n, wo, rl, yl, d, e⟩, ?_⟩
    exact ⟨_, rfl, p, CT, dx, _, _, rfl, e, T.clT, T.tWays, tabF_ways .., 2, 2, rfl, rfl, false, rfl, iteF q⟩
end
end K15
end

section
set_option Elab.async false
set_option linter.all false
set_option maxRecDepth 100000
set_option maxHeartbeats 2000000
/-! The table: its rules, its worths, itself. -/
namespace K15
open PySem PySem.W PySem.Spec PyProof.Rows L2

section
variable {P : Program} {w : World} {K : PySem.W.Frag} {a : Addr} {xs : List V} {g : TG} {tk tv : TE} {vs : List Nat} {σ : L2.St} {H1 : Hp} {D : Addr} {Qd : Hp → Prop}
/-- a dict comprehension over a list, entry by entry -/
theorem lcD (E : List Ent) (hq : SqL K H1 a xs) (hD : H1 D = none) (hl : E.length = xs.length) (hz : xs.length ≤ sizeLine) (hn : (E.map (·.1)).Nodup) (hk : KeysIn H1 E)
    (el : ∀ (i : Nat) (x : V) (e : Ent) (H : Hp) (k : V → V → Hp → Prop), xs[i]? = some x → E[i]? = some e → Same H1 (hide D H) → (∀ H5, Same H H5 → k (.ref e.2.1) e.2.2 H5) → g x (wipe σ vs) H fun σ2 H2 => wipe σ2 vs = wipe σ vs ∧ tk σ2 H2 fun y H4 => tv σ2 H4 fun z H5 => k y z H5)
    (hd : ∀ H, Same H1 (hide D H) → H D = some (Dn P w D E) → Qd H) :
    ∃ W : Nat → Nat → Hp → Prop, (∃ m, W 0 m (upd H1 D (Dn P w D []))) ∧ ∀ i m H, W i m H → ((Itl K a).stop i H ∧ Qd H) ∨
    ((Itl K a).go i H ∧ ∃ Nx : Hp → Prop, (∀ H', Nx H' → ∃ m', m' < m ∧ W (i + 1) m' H') ∧ ∀ x H', (Itl K a).yld i H x H' → g x (wipe σ vs) H' fun σ2 H2 => wipe σ2 vs = wipe σ vs ∧
      tk σ2 H2 fun y H4 => tv σ2 H4 fun z H5 => ∃ xs b ks, y = .ref b ∧ H5 D = some (Dn P w D xs) ∧ KeysIn H5 xs ∧ H5 b = some (.tup (ks.map lfV)) ∧ ks ∉ xs.map (·.1) ∧ xs.length < sizeLine ∧
        Nx (upd H5 D (Dn P w D (xs ++ [(ks, b, z)])))) := by
  refine ⟨fun i m H => i + m = xs.length ∧ H D = some (Dn P w D (E.take i)) ∧ Same H1 (hide D H), ⟨xs.length, by omega, upd_same, hide_hide_upd ((Same.refl H1).to_hide15 hD)⟩, fun i m H ⟨hm, hd1, hs⟩ => ?_⟩
  have hq' : SqL K H a xs := hs.of_hide15.seq hq
  cases m with
  | zero =>
    have hi : i = xs.length := by omega
    refine .inl ⟨⟨xs, hq', by omega⟩, hd H hs ?_⟩
    rw [List.take_of_length_le (by omega)] at hd1
    exact hd1
  | succ m =>
    have hi : i < xs.length := by omega
    have hie : i < E.length := by omega
    refine .inr ⟨⟨xs, xs[i], hq', List.getElem?_eq_getElem hi⟩, fun H' => H' D = some (Dn P w D (E.take (i + 1))) ∧ Same H1 (hide D H'), fun H' h => ⟨m, by omega, by omega, h.1, h.2⟩, fun x H' hy => ?_⟩
    obtain ⟨rfl, hx⟩ := hy
    refine el i x E[i] H' _ (hx _ hq') (List.getElem?_eq_getElem hie) hs fun H5 s5 => ?_
    have s15 : Same H1 (hide D H5) := hs.trans s5.hid15
    refine ⟨E.take i, E[i].2.1, E[i].1, rfl, s5 _ _ hd1, fun e he => s15.of_hide15 _ _ (hk e (List.mem_of_mem_take he)), s15.of_hide15 _ _ (hk _ (List.getElem_mem hie)), fun hmem => ?_, by rw [List.length_take]; omega, ?_, hide_hide_upd s15⟩
    · rw [List.map_take] at hmem
      obtain ⟨j, hj, e⟩ := List.mem_iff_getElem.mp hmem
      rw [List.length_take, List.length_map] at hj
      rw [List.getElem_take] at e
      have p := List.pairwise_iff_getElem.mp hn j i (by rw [List.length_map]; omega) (by rw [List.length_map]; omega) (by omega)
      exact p (by rw [e, List.getElem_map])
    · show upd H5 D _ D = _
      rw [upd_same, List.take_add_one, List.getElem?_eq_getElem hie]
      rfl
end

/-! ### promises -/
/-- a key in its bounds -/
def KeyOk (n : Int) (k : LK) : Prop := ∃ (l r : Option Int) (o : Int), k = kL l o r ∧ (∀ i, l = some i → 0 ≤ i ∧ i < n) ∧ (0 ≤ o ∧ o < n) ∧ ∀ i, r = some i → 0 ≤ i ∧ i < n
def spIsKey : Sp := fun vs H Q _ => ∃ (b : Addr) (k : LK) (n : Int), vs = [.ref b, .int 2, .int n] ∧ H b = some (.tup (k.map lfV)) ∧ KeyOk n k ∧ ∀ H', Same H H' → Q (.bl true) H'
/-- rules, as the law has drawn them -/
def RulesOk (n : Int) (ts : List PrT) : Prop := ts.length ≤ 1000 ∧ (ts.map (·.2.1)).Nodup ∧ ∀ t ∈ ts, KeyOk n t.2.1 ∧ ∃ i, t.2.2.2 = V.int i ∧ 0 ≤ i ∧ i < n
/-- two lists of rules that tell the same -/
def Alike (ts us : List PrT) : Prop := us.length = ts.length ∧ (us.map (·.2.1)).Nodup ∧ (∀ k, look (us.map (·.2)) k = look (ts.map (·.2)) k)
def spRules (P : Program) (w : World) : Sp := fun vs H Q _ => ∃ (a : Addr) (ts : List PrT) (n : Int), vs = [.ref a, .int 2, .int n] ∧ H a = some (.lst (ts.map fun t => V.ref t.1)) ∧ PrsIn H ts ∧ RulesOk n ts ∧
  ∀ p us H', Same H H' → H p = none → H' p = some (Pt p (us.map fun t => V.ref t.1)) → PrsIn H' us → Alike ts us → Q (.ref p) H'
def spWorths : Sp := fun vs H Q _ => ∃ (a : Addr) (ys : List Int) (n : Int), vs = [.ref a, .int n] ∧ H a = some (.lst (ys.map V.int)) ∧ ys.Nodup ∧ ys.length < 64 ∧ (∀ y ∈ ys, 0 ≤ y ∧ y < n) ∧ ∀ p H', Same H H' → H p = none → Q (.ref p) H'
section
variable {P : Program} {w : World} {K : PySem.W.Frag} {mg : Str → Option Value} {base : Heap} {CT CO CR : Addr}
theorem scKeyOrder : FnScope ["key", "each"] ["key"] (defScope sKeyOrder) := ⟨rfl, rfl, rfl, by decide +kernel, rfl, by decide +kernel, by decide +kernel⟩
theorem cl_keyOrder (D : Dd K mg "key_order" sKeyOrder ["key"]) : Cl P w K mg base 1 "key_order" spOrd := by
  refine cl_of D scKeyOrder (fun vs H Q E h => ?_) (fun f cdv A outer s H vs Q E hr h => ?_)
  · obtain ⟨b, ks, rfl, _⟩ := h
    rfl
  · obtain ⟨b, ks, rfl, hb, hks, hl, q⟩ := h
    refine ⟨_, pss_one (ps_ret (pe_lc (own := [("each", 1)]) (g := gName 1) (tt := tYes) rfl scKeyOrder.nd (pi_tup (pv 0)) (blkOk_by (N := ["key", "each"]) (sc := defScope sKeyOrder) (by decide +kernel))
      (fun _ _ _ _ _ => pg_name (i := 1) scKeyOrder.nd rfl (Or.inl rfl)) (fun _ _ _ _ _ => pts_nil) (fun _ _ _ _ _ => pe_ifExp (pt_cmp (pc_isN (pv 1))) (pe_un un_neg pe_int) (pv 1)))), ?_⟩
    refine ⟨_, rfl, b, rfl, ⟨_, SqT.of hb⟩, fun D nD => ?_⟩
    have len : (ks.map lfV).length = ks.length := List.length_map ..
    refine lcT (K := K) (xs := ks.map lfV) (fun i y _ => ((ks.map ordL).map V.int)[i]? = some y) (fun _ _ _ _ e _ => e) (SqT.of hb) nD (by rw [len]; exact Nat.le_trans hl (by decide)) (fun H2 s2 => SqT.of (s2 _ _ hb)) (fun i x H2 k hx s2 _ kk => ?_) fun H2 ys s2 e2 ly hy => ?_
    · rw [List.getElem?_map] at hx
      obtain ⟨z, hz, rfl⟩ := Option.map_eq_some_iff.mp hx
      refine ⟨rfl, _, rfl, ?_⟩
      rcases hks z (List.mem_of_getElem? hz) with rfl | ⟨i, rfl⟩
      · exact ⟨true, rfl, iteT ⟨_, rfl, kk _ _ (Same.refl _) (by rw [List.getElem?_map, List.getElem?_map, hz]; rfl)⟩⟩
      · exact ⟨false, rfl, iteF ⟨_, rfl, kk _ _ (Same.refl _) (by rw [List.getElem?_map, List.getElem?_map, hz]; rfl)⟩⟩
    · have e5 : ys = (ks.map ordL).map V.int := List.ext_getElem? fun j => by
        by_cases hj : j < ys.length
        · rw [hy j ys[j] (List.getElem?_eq_getElem hj), List.getElem?_eq_getElem hj]
        · rw [List.getElem?_eq_none (by omega), List.getElem?_eq_none (by rw [List.length_map, List.length_map]; omega)]
      exact q D _ s2.of_hide15 nD (by rw [e2, e5])
theorem scIsKey : FnScope ["value", "ways", "worths", "each"] ["value", "ways", "worths"] (defScope sIsKey) := ⟨rfl, rfl, rfl, by decide +kernel, rfl, by decide +kernel, by decide +kernel⟩
theorem inB_o {n : Int} {o : Option Int} (h : ∀ i, o = some i → 0 ≤ i ∧ i < n) {i : Int} (e : o = some i) : inB (some 0) (some (n - 1)) i := by
  obtain ⟨h0, h1⟩ := h i e
  exact ⟨fun l e => by cases e; exact h0, fun h e => by cases e; omega⟩
theorem inB_i {n i : Int} (h0 : 0 ≤ i) (h1 : i < n) : inB (some 0) (some (n - 1)) i := ⟨fun l e => by cases e; exact h0, fun h e => by cases e; omega⟩
theorem cl_isKey (D : Dd K mg "is_key" sIsKey ["value", "ways", "worths"]) (T : Tx K mg CT CO CR) (C1 : Cl P w K mg base 2 "is_within" spIsWithin) : Cl P w K mg base 3 "is_key" spIsKey := by
  refine cl_of D scIsKey (fun vs H Q E h => ?_) (fun f cdv A outer s H vs Q E hr h => ?_)
  · obtain ⟨b, k, n, rfl, _⟩ := h
    rfl
  · obtain ⟨b, k, n, rfl, hb, ⟨l, r, o, rfl, hl, ⟨h0, h1⟩, hr2⟩, q⟩ := h
    rw [kL_v] at hb
    refine ⟨_, pss_cons (ps_if (PW.pt (pw_or (pt_not (pt_val (pe_callB call_isiT (by rfl) T.isinstance bt_isinstance (pa_cons (pv 0) (pa_cons (pe_tup (pa_cons (pe_bltn (by rfl) T.list bt_list (v := .ty "list") rfl) (pa_cons (pe_bltn (by rfl) T.tuple bt_tuple (v := .ty "tuple") rfl) pa_nil))) pa_nil)))))
        (pw_or (pt_cmp (pc_neI (pe_callB call_len_seq (by rfl) T.len bt_len (pa_cons (pv 0) pa_nil)) (pe_op op_add (pv 1) pe_int)))
          (pw_or1 (pt_not (pt_val (pe_cl C1 hr (by rfl) (pa_cons (pe_ix ix_tup (pv 0) pe_int (by intro _ _; rfl)) (pa_cons pe_int (pa_cons (pe_op op_sub (pv 2) pe_int) pa_nil)))))))))) pss_never pss_nil)
      (pss_one (ps_ret (pe_callB (cr_all rfl) (by rfl) T.all bt_all (pa_cons (pe_lc (own := [("each", 3)]) (g := gName 3) (tt := tYes) rfl scIsKey.nd
        (pi_tup (pe_tup (pa_cons (pe_ix ix_tup (pv 0) pe_int (by intro _ _; rfl)) (pa_cons (pe_ix ix_tup (pv 0) (pe_un un_neg pe_int) (by intro _ _; rfl)) pa_nil)))) (blkOk_by (N := ["value", "ways", "worths", "each"]) (sc := defScope sIsKey) (by decide +kernel))
        (fun _ _ _ _ _ => pg_name (i := 3) scIsKey.nd rfl (Or.inl rfl)) (fun _ _ _ _ _ => pts_nil) (fun _ _ _ _ _ => pe_or (pe_cmp (pc_isN (pv 3))) (pe_one (pe_cl C1 hr (by rfl) (pa_cons (pv 3) (pa_cons pe_int (pa_cons (pe_op op_sub (pv 2) pe_int) pa_nil))))))) pa_nil)))), ?_⟩
    refine ⟨_, rfl, (by show 2 ≤ sizeLine; decide), fun p np => ?_⟩
    obtain ⟨t, i1, i2⟩ := isi_lt (K := K) (o := .tup [.ty "list", .ty "tuple"]) (.inr hb : SeqAt2 H b _) np
    refine ⟨_, p, _, t, _, true, rfl, upd_same, clsLT, i1, i2, true, rfl, iteF ?_⟩
    have s1 : Same H (upd H p (.tup [.ty "list", .ty "tuple"])) := Same.new15 np
    have hb1 := s1 _ _ hb
    refine ⟨_, rfl, b, _, rfl, .inr (SqT.of hb1), _, rfl, _, _, rfl, rfl, _, _, rfl, rfl, false, rfl, iteF ?_⟩
    refine ⟨_, rfl, b, _, 1, _, rfl, rfl, SqT.of hb1, (rfl : atI [oV l, V.int o, oV r] 1 = some (V.int o)), _, rfl, _, _, rfl, rfl, o, some 0, some (n - 1), rfl, inB_i h0 h1, true, rfl, iteF ?_⟩
    refine ⟨_, rfl, b, _, 0, _, rfl, rfl, SqT.of hb1, (rfl : atI [oV l, V.int o, oV r] 0 = some (oV l)), _, rfl, _, rfl, b, _, _, _, rfl, rfl, SqT.of hb1, (rfl : atI [oV l, V.int o, oV r] (-1) = some (oV r)), (by show 2 ≤ sizeLine; decide), fun p2 np2 => ?_⟩
    have s2 : Same H (upd (upd H p (.tup [.ty "list", .ty "tuple"])) p2 (.tup [oV l, oV r])) := s1.upd15 np2
    have e2 : upd (upd H p (.tup [.ty "list", .ty "tuple"])) p2 (.tup [oV l, oV r]) p2 = some (.tup [oV l, oV r]) := upd_same
    generalize upd (upd H p (.tup [.ty "list", .ty "tuple"])) p2 (.tup [oV l, oV r]) = Hb at s2 e2
    refine ⟨p2, rfl, ⟨_, SqT.of e2⟩, fun D nD => ?_⟩
    refine lcT (K := K) (xs := [oV l, oV r]) (fun _ y _ => y = V.bl true) (fun _ _ _ _ e _ => e) (SqT.of e2) nD (by show 2 ≤ sizeLine; decide) (fun H2 s3 => SqT.of (s3 _ _ e2)) (fun i x H2 k hx s3 _ kk => ?_) fun H2 ys s3 e3 ly hy => ?_
    · have both : ∃ o' : Option Int, x = oV o' ∧ ∀ i, o' = some i → 0 ≤ i ∧ i < n := by
        match i, hx with
        | 0, hx => exact ⟨l, (Option.some.inj hx).symm, hl⟩
        | 1, hx => exact ⟨r, (Option.some.inj hx).symm, hr2⟩
        | i + 2, hx => exact (nil_get (j := i) hx).elim
      obtain ⟨o', rfl, ho'⟩ := both
      refine ⟨rfl, _, rfl, ?_⟩
      cases o' with
      | none => exact ⟨true, rfl, kk _ _ (Same.refl _) rfl⟩
      | some z =>
        obtain ⟨z0, z1⟩ := ho' z rfl
        exact ⟨false, rfl, _, rfl, _, rfl, _, _, rfl, rfl, z, some 0, some (n - 1), rfl, inB_i z0 z1, kk _ _ (Same.refl _) rfl⟩
    refine ⟨D, List.replicate ys.length true, rfl, SqL.of (e3.trans (congrArg (fun z => some (HO.lst z)) (all_true hy))), ?_⟩
    rw [all_id]
    exact q _ (s2.trans s3.of_hide15)
/-- an arrangement of images is the images of an arrangement -/
theorem perm_map {α β : Type} {f : α → β} : ∀ {ys zs : List β}, ys.Perm zs → ∀ {E : List α}, zs = E.map f → ∃ E' : List α, E'.Perm E ∧ E'.map f = ys := by
  intro ys zs h
  induction h with
  | nil =>
    intro E e
    cases E with
    | nil => exact ⟨[], .refl _, rfl⟩
    | cons e E => cases e
  | cons y _ ih =>
    intro E e
    cases E with
    | nil => cases e
    | cons x E =>
      rw [List.map_cons] at e
      injection e with e1 e2
      obtain ⟨E', h1, h2⟩ := ih e2
      exact ⟨x :: E', h1.cons x, by rw [List.map_cons, h2, e1]⟩
  | swap a b l =>
    intro E e
    match E, e with
    | x :: y :: E, e =>
      simp only [List.map_cons] at e
      injection e with e1 e2
      injection e2 with e2 e3
      exact ⟨y :: x :: E, .swap .., by simp only [List.map_cons]; rw [e1, e2, e3]⟩
  | trans _ _ i1 i2 =>
    intro E e
    obtain ⟨E1, h1, h2⟩ := i2 e
    obtain ⟨E2, h3, h4⟩ := i1 h2.symm
    exact ⟨E2, h3.trans h1, h4⟩
/-- each item with what belongs to it -/
theorem choose_items {α : Type} {R : Nat → α → V → Prop} : ∀ {ys : List V}, (∀ j y, ys[j]? = some y → ∃ t, R j t y) → ∃ us : List α, us.length = ys.length ∧ ∀ j t y, us[j]? = some t → ys[j]? = some y → R j t y := by
  intro ys
  induction ys generalizing R with
  | nil => exact fun _ => ⟨[], rfl, fun j t y e => (nil_get e).elim⟩
  | cons y ys ih =>
    intro h
    obtain ⟨t, ht⟩ := h 0 y rfl
    obtain ⟨us, hl, hu⟩ := ih (R := fun j => R (j + 1)) fun j y e => h (j + 1) y e
    refine ⟨t :: us, by rw [List.length_cons, List.length_cons, hl], fun j u z e1 e2 => ?_⟩
    cases j with
    | zero =>
      cases (Option.some.inj e1)
      cases (Option.some.inj e2)
      exact ht
    | succ j => exact hu j u z e1 e2
theorem look_perm {E E' : List Ent} (p : E'.Perm E) (hn : (E.map (·.1)).Nodup) (k : LK) : look E' k = look E k := by
  have hn' : (E'.map (·.1)).Nodup := (p.map _).nodup_iff.mpr hn
  by_cases hk : k ∈ E.map (·.1)
  · obtain ⟨⟨k', q, v⟩, hx, rfl⟩ := List.mem_map.mp hk
    rw [look_mem hn hx, look_mem hn' (p.mem_iff.mpr hx)]
  · rw [look_none hk, look_none fun z => hk ((p.map _).mem_iff.mp z)]
theorem ix_dnK {X : Cx} {P : Program} {w : World} (hp : X.prog = P) (hw : X.w = w) (hu : X.A.units + 1 < cLine) : IxR X (rIxN P w) := by
  subst hp hw
  exact ix_dn hu
theorem keyOk_leaf {n : Int} {k : LK} (h : KeyOk n k) : k.length ≤ 3 ∧ ∀ l ∈ k, l = Leaf.none ∨ ∃ i, l = Leaf.num i := by
  obtain ⟨l, r, o, rfl, _⟩ := h
  have z : ∀ o : Option Int, oL o = Leaf.none ∨ ∃ i, oL o = Leaf.num i := fun o => by
    cases o with
    | none => exact .inl rfl
    | some i => exact .inr ⟨i, rfl⟩
  refine ⟨Nat.le_refl _, fun x hx => ?_⟩
  unfold kL at hx
  rcases List.mem_cons.mp hx with rfl | hx
  · exact z l
  rcases List.mem_cons.mp hx with rfl | hx
  · exact .inr ⟨o, rfl⟩
  rcases List.mem_cons.mp hx with rfl | hx
  · exact z r
  · cases hx
theorem scRulesFrom : FnScope ["value", "ways", "worths", "pairs", "found", "key", "own"] ["value", "ways", "worths"] (defScope sRulesFrom) := ⟨rfl, rfl, rfl, by decide +kernel, rfl, by decide +kernel, by decide +kernel⟩
theorem cl_rulesFrom (D : Dd K mg "rules_from" sRulesFrom ["value", "ways", "worths"]) (T : Tx K mg CT CO CR) (C1 : Cl P w K mg base 1 "pairs_in" spPairsIn) (C2 : Cl P w K mg base 3 "is_key" spIsKey) (C3 : Cl P w K mg base 2 "is_within" spIsWithin)
    (C4 : Cl P w K mg base 1 "key_order" spOrd) : Cl P w K mg base 4 "rules_from" (spRules P w) := by
  obtain ⟨fk, fdk, psk, Fk, mk, kpk, bk⟩ := C4.ex
  refine cl_of D scRulesFrom (fun vs H Q E h => ?_) (fun f cdv A outer s H vs Q E hr h => ?_)
  · obtain ⟨a, ts, n, rfl, _⟩ := h
    rfl
  · obtain ⟨a, ts, n, rfl, ha, hp, ⟨hz, hn, hok⟩, q⟩ := h
    have hu := hr.units
    refine ⟨_, pss_cons (ps_set (i := 3) scRulesFrom.nd rfl (Or.inl rfl) (pe_cl C1 (hr.mono (by omega)) (by rfl) (pa_cons (pv 0) pa_nil)))
      (pss_cons (ps_if (PW.pt (pw_or (pt_cmp (pc_isN (pv 3))) (pw_or1 (pt_not (pt_val (pe_callB (cr_all rfl) (by rfl) T.all bt_all (pa_cons (pe_lc (own := [("key", 5), ("own", 6)]) (g := gTup K 2 (gCons (gName 5) (gCons (gName 6) gNil))) (tt := tYes) rfl scRulesFrom.nd
          (pi_list (pv 3)) (blkOk_by (N := ["value", "ways", "worths", "pairs", "found", "key", "own"]) (sc := defScope sRulesFrom) (by decide +kernel))
          (fun _ _ _ _ _ => pg_tup rfl (pgs_cons (pg_name (i := 5) scRulesFrom.nd rfl (Or.inl rfl)) (pgs_cons (pg_name (i := 6) scRulesFrom.nd rfl (Or.inl rfl)) pgs_nil))) (fun _ _ _ _ _ => pts_nil)
          (fun _ _ _ _ _ => pe_and (pe_cl C2 hr (by rfl) (pa_cons (pv 5) (pa_cons (pv 1) (pa_cons (pv 2) pa_nil)))) (pe_one (pe_cl C3 (hr.mono (by omega)) (by rfl) (pa_cons (pv 6) (pa_cons pe_int (pa_cons (pe_op op_sub (pv 2) pe_int) pa_nil))))))) pa_nil))))))) pss_never pss_nil)
      (pss_cons (ps_set (i := 4) scRulesFrom.nd rfl (Or.inr rfl) (pe_ndc (own := [("key", 5), ("own", 6)]) (g := gTup K 2 (gCons (gName 5) (gCons (gName 6) gNil))) (by show A.units + 3 + 1 < _; have : A.units + 3 + 64 < _ := hu; omega) rfl scRulesFrom.nd
          (pi_list (pv 3)) (blkOk_by (N := ["value", "ways", "worths", "pairs", "found", "key", "own"]) (sc := defScope sRulesFrom) (by decide +kernel))
          (fun _ _ _ _ _ => pg_tup rfl (pgs_cons (pg_name (i := 5) scRulesFrom.nd rfl (Or.inl rfl)) (pgs_cons (pg_name (i := 6) scRulesFrom.nd rfl (Or.inl rfl)) pgs_nil)))
          (fun _ _ _ _ _ => pe_callTy (call_tupK (K := K) rfl) (by rfl) T.tuple bt_tuple (pa_cons (pv 5) pa_nil)) (fun _ _ _ _ _ => pv 6)))
      (pss_cons (ps_if (pt_cmp (pc_lt (pe_callB call_lenN (by rfl) T.len bt_len (pa_cons (pv 4) pa_nil)) (pe_callB call_len_seq (by rfl) T.len bt_len (pa_cons (pv 3) pa_nil)))) pss_never pss_nil)
      (pss_one (ps_ret (pe_callTy call_tuplePt (by rfl) T.tuple bt_tuple (pa_cons (pe_lc (own := [("key", 5)]) (g := gName 5) (tt := tYes) rfl scRulesFrom.nd
          (pi_list (pe_callBK (cr_sortN rfl Fk (hr.mono (by omega)) bk) (by rfl) T.sorted bt_sorted (pa_cons (pv 4) pa_nil) (pk_cons (pe_glob (v := .ref fk) (by rfl) mk rfl) pk_nil)))
          (blkOk_by (N := ["value", "ways", "worths", "pairs", "found", "key", "own"]) (sc := defScope sRulesFrom) (by decide +kernel))
          (fun _ _ _ _ _ => pg_name (i := 5) scRulesFrom.nd rfl (Or.inl rfl)) (fun _ _ _ _ _ => pts_nil)
          (fun _ _ _ _ _ => pe_tup (pa_cons (pv 5) (pa_cons (pe_ix (ix_dnK (P := P) (w := w) rfl rfl (by show A.units + 3 + 1 < _; have : A.units + 3 + 64 < _ := hu; omega)) (pv 4) (pv 5) (by intro _ _; rfl)) pa_nil)))) pa_nil))))))), ?_⟩
    have len : (ts.map fun t => V.ref t.1).length = ts.length := List.length_map ..
    have big : ts.length ≤ sizeLine := Nat.le_trans hz (by decide)
    have item : ∀ {i : Nat} {x : V}, (ts.map fun t => V.ref t.1)[i]? = some x → ∃ t, t ∈ ts ∧ ts[i]? = some t ∧ x = V.ref t.1 := fun {i x} hx => by
      rw [List.getElem?_map] at hx
      obtain ⟨t, ht, rfl⟩ := Option.map_eq_some_iff.mp hx
      exact ⟨t, List.mem_of_getElem? ht, ht, rfl⟩
    refine ⟨_, rfl, a, ts, rfl, ha, hp, big, fun Pp H1 s1 nP hP => ?_⟩
    refine ⟨_, rfl, false, rfl, iteF ?_⟩
    -- all([..])
    refine ⟨_, rfl, Pp, rfl, ⟨_, SqL.of hP⟩, fun D1 nD1 => ?_⟩
    refine lcL (K := K) (xs := ts.map fun t => V.ref t.1) (fun _ y _ => y = V.bl true) (fun _ _ _ _ e _ => e) (SqL.of hP) nD1 (by rw [len]; exact big) (fun i x H2 k hx s2 _ kk => ?_) fun H2 ys s2 e2 ly hy => ?_
    · obtain ⟨t, htm, _, rfl⟩ := item hx
      obtain ⟨hkt, z, ez, z0, z1⟩ := hok t htm
      have s12 := s1.trans s2.of_hide15
      refine ⟨t.1, _, rfl, SqT.of (s12 _ _ (hp t htm).1), rfl, _, _, rfl, _, _, rfl, rfl, rfl, ?_⟩
      refine ⟨_, rfl, _, rfl, _, rfl, t.2.2.1, t.2.1, n, rfl, s12 _ _ (hp t htm).2, hkt, fun H4 s4 => ⟨true, rfl, iteT ?_⟩⟩
      exact ⟨_, rfl, _, rfl, _, _, rfl, rfl, z, some 0, some (n - 1), by rw [ez]; rfl, inB_i z0 z1, kk _ _ s4 rfl⟩
    refine ⟨D1, List.replicate ys.length true, rfl, SqL.of (e2.trans (congrArg (fun z => some (HO.lst z)) (all_true hy))), ?_⟩
    rw [all_id]
    refine ⟨true, rfl, iteF ?_⟩
    have s12 : Same H1 H2 := s2.of_hide15
    -- the dict
    refine ⟨_, rfl, Pp, rfl, ⟨_, SqL.of (s12 _ _ hP)⟩, fun D2 nD2 => ?_⟩
    have kE : KeysIn H2 (ts.map (·.2)) := (hp.same (s1.trans s12)).keys
    have nE : ((ts.map (·.2)).map (·.1)).Nodup := by rw [List.map_map]; exact hn
    refine lcD (K := K) (xs := ts.map fun t => V.ref t.1) (ts.map (·.2)) (SqL.of (s12 _ _ hP)) nD2 (by rw [List.length_map, len]) (by rw [len]; exact big) nE kE (fun i x e H3 k hx he s3 kk => ?_) fun H3 s3 e3 => ?_
    · obtain ⟨t, htm, ht, rfl⟩ := item hx
      rw [List.getElem?_map, ht] at he
      cases (Option.some.inj he)
      have s13 := (s1.trans s12).trans s3.of_hide15
      refine ⟨t.1, _, rfl, SqT.of (s13 _ _ (hp t htm).1), rfl, _, _, rfl, _, _, rfl, rfl, rfl, ?_⟩
      exact ⟨_, rfl, t.2.2.1, _, rfl, .inr ⟨SqT.of (s13 _ _ (hp t htm).2), _, rfl, kk _ (Same.refl _)⟩⟩
    have s23 : Same H2 H3 := s3.of_hide15
    have kE3 := kE.same s23
    -- len(found) < len(pairs)
    refine ⟨_, rfl, D2, _, rfl, e3, kE3, _, rfl, Pp, _, rfl, .inl (SqL.of (s23 _ _ (s12 _ _ hP))), _, _, rfl, rfl, false, congrArg V.bl (decide_eq_false (by rw [List.length_map, len]; omega)), iteF ?_⟩
    -- tuple([.. sorted(..)])
    have leaf : ∀ x ∈ ts.map (·.2), x.1.length ≤ 3 ∧ ∀ l ∈ x.1, l = Leaf.none ∨ ∃ i, l = Leaf.num i := fun x hx => by
      obtain ⟨t, ht, rfl⟩ := List.mem_map.mp hx
      exact keyOk_leaf (hok t ht).1
    refine ⟨_, rfl, D2, _, rfl, rfl, e3, kE3, leaf, fun as Hc Sp perm sc nc => ⟨Sp, rfl, ⟨_, SqL.of upd_same⟩, fun D3 nD3 => ?_⟩⟩
    obtain ⟨E', pE, rfl⟩ := perm_map perm rfl
    have s3c : Same H3 (upd Hc Sp (.lst ((E'.map (·.2.1)).map V.ref))) := sc.upd15 nc
    have eS : upd Hc Sp (.lst ((E'.map (·.2.1)).map V.ref)) Sp = some (.lst ((E'.map (·.2.1)).map V.ref)) := upd_same
    generalize upd Hc Sp (.lst ((E'.map (·.2.1)).map V.ref)) = H4 at s3c eS nD3
    have lE : E'.length = ts.length := by rw [pE.length_eq, List.length_map]
    have len2 : ((E'.map (·.2.1)).map V.ref).length = ts.length := by rw [List.length_map, List.length_map, lE]
    refine lcL (K := K) (xs := (E'.map (·.2.1)).map V.ref) (fun i y H => ∃ t : PrT, y = V.ref t.1 ∧ E'[i]? = some t.2 ∧ H t.1 = some (.tup [.ref t.2.2.1, t.2.2.2])) (fun j y H H' ⟨t, h1, h2, h3⟩ sm => ⟨t, h1, h2, sm _ _ h3⟩)
      (SqL.of eS) nD3 (by rw [len2]; exact big) (fun i x H5 k hx s5 hD kk => ?_) fun H5 zs s5 e5 lz hz5 => ?_
    · rw [List.getElem?_map, List.getElem?_map] at hx
      cases he : E'[i]? with
      | none => rw [he] at hx; cases hx
      | some e =>
        rw [he] at hx
        cases (Option.some.inj hx)
        have hm : e ∈ ts.map (·.2) := pE.mem_iff.mp (List.mem_of_getElem? he)
        have s35 : Same H3 H5 := s3c.trans s5.of_hide15
        have hlk : look (ts.map (·.2)) e.1 = some e.2.2 := look_mem nE (q := e.2.1) hm
        refine ⟨rfl, _, rfl, _, rfl, _, rfl, D2, _, e.2.1, e.1, e.2.2, rfl, rfl, s35 _ _ e3, kE3.same s35, s35 _ _ (kE3 e hm), hlk, (by show 2 ≤ sizeLine; decide), fun p np => ?_⟩
        obtain ⟨ysD, hD⟩ := hD
        exact kk _ _ (Same.new15 np) ⟨(p, e), rfl, he, hide_at (ne_of_none hD np).symm upd_same⟩
    · obtain ⟨us, lu, hus⟩ := choose_items hz5
      have lus : us.length = ts.length := by rw [lu, lz, len2]
      have e2' : us.map (·.2) = E' := List.ext_getElem? fun j => by
        by_cases hj : j < us.length
        · have hj2 : j < zs.length := by rw [← lu]; exact hj
          rw [List.getElem?_map, List.getElem?_eq_getElem hj, (hus j _ _ (List.getElem?_eq_getElem hj) (List.getElem?_eq_getElem hj2)).2.1]
          rfl
        · rw [List.getElem?_eq_none (by rw [List.length_map]; omega), List.getElem?_eq_none (by omega)]
      have ez : zs = us.map fun t => V.ref t.1 := List.ext_getElem? fun j => by
        by_cases hj : j < us.length
        · have hj2 : j < zs.length := by rw [← lu]; exact hj
          rw [List.getElem?_map, List.getElem?_eq_getElem hj, List.getElem?_eq_getElem hj2, (hus j _ _ (List.getElem?_eq_getElem hj) (List.getElem?_eq_getElem hj2)).1]
          rfl
        · rw [List.getElem?_eq_none (by omega), List.getElem?_eq_none (by rw [List.length_map]; omega)]
      refine ⟨D3, zs, rfl, SqL.of e5, fun l nl => ?_⟩
      have s15 : Same H H5 := (((s1.trans s12).trans s23).trans s3c).trans s5.of_hide15
      rw [ez]
      refine q l us _ (s15.upd15 nl) (s15.free nl) upd_same (fun t ht => ?_) ⟨lus, ?_, fun k => by rw [e2']; exact look_perm pE nE k⟩
      · obtain ⟨j, hj⟩ := List.mem_iff_getElem?.mp ht
        have hj1 := (List.getElem?_eq_some_iff.mp hj).1
        have hj2 : j < zs.length := by rw [← lu]; exact hj1
        have h3 := (hus j _ _ hj (List.getElem?_eq_getElem hj2)).2.2
        have hm : t.2 ∈ ts.map (·.2) := pE.mem_iff.mp (e2' ▸ List.mem_map.mpr ⟨t, ht, rfl⟩)
        have s5l : Same H5 (upd H5 l (Pt l (us.map fun t => V.ref t.1))) := Same.new15 nl
        exact ⟨s5l _ _ (hide_get h3).1, s5l _ _ (s5.of_hide15 _ _ (s3c _ _ (kE3 _ hm)))⟩
      · have e : us.map (·.2.1) = E'.map (·.1) := by rw [← e2', List.map_map]; rfl
        rw [e]
        exact (pE.map _).nodup_iff.mpr nE
end
end K15
end

section
set_option Elab.async false
set_option linter.all false
set_option maxRecDepth 100000
set_option maxHeartbeats 2000000
/-! The table itself. -/
namespace K15
open PySem PySem.W PySem.Spec PyProof.Rows L2

/-- what is new but for x stays hidden -/
theorem hid_new {H H' : Hp} {x : Addr} {o : HO} (s : Same (hide x H) (hide x H')) : Same (hide x H) (hide x (upd H' x o)) := by rw [hide_upd]; exact s
theorem hid_at {H H' : Hp} {x b : Addr} {o : HO} (s : Same (hide x H) (hide x H')) (hb : b ≠ x) (e : H b = some o) : H' b = some o := (hide_get (s _ _ (hide_at hb e))).1
theorem ne_obj {H : Hp} {b x : Addr} {o u : HO} (e : H b = some o) (f : H x = some u) (h : o ≠ u) : b ≠ x := fun z => h (by subst z; rw [e] at f; exact Option.some.inj f)
theorem PrsIn.hid {H : Hp} {x C dx : Addr} {fs : List (Str × V)} {ts : List PrT} (h : PrsIn H ts) (e : H x = some (.ins C dx fs)) : PrsIn (hide x H) ts := fun t ht =>
  ⟨hide_at (ne_obj (h t ht).1 e (fun z => by cases z)) (h t ht).1, hide_at (ne_obj (h t ht).2 e (fun z => by cases z)) (h t ht).2⟩
theorem len_put {f : Str} {v : V} {fs : List (Str × V)} {n : Nat} (h : fs.length ≤ n) : (putF f v fs).length ≤ n + 1 := Nat.le_trans (length_putF ..) (by omega)
theorem fnOf_alike {ts us : List PrT} (h : Alike ts us) : fnOf (ts.map (·.2)) = fnOf (us.map (·.2)) := by
  funext l o r
  unfold fnOf
  rw [h.2.2]
theorem ints_alike2 {n : Int} {ts us : List PrT} (h : Alike ts us) (hok : RulesOk n ts) : IntVals (us.map (·.2)) := fun x hx => by
  have hn : ((us.map (·.2)).map (·.1)).Nodup := by rw [List.map_map]; exact h.2.1
  have e := look_mem hn (k := x.1) (q := x.2.1) (v := x.2.2) hx
  rw [h.2.2] at e
  unfold look at e
  obtain ⟨y, hy, ey⟩ := Option.map_eq_some_iff.mp e
  obtain ⟨t, ht, rfl⟩ := List.mem_map.mp (List.mem_of_find?_eq_some hy)
  obtain ⟨i, hi, _⟩ := (hok.2.2 t ht).2
  exact ⟨i, by rw [← ey, hi]⟩
def spTab (P : Program) (w : World) (CT : Addr) : Sp := fun vs H Q _ => ∃ (x dx rl yl : Addr) (n wo : Int) (ts : List PrT) (ys : List Int), vs = [.ref x, .int 2, .int n, .int wo, .ref rl, .ref yl] ∧ H x = some (.ins CT dx []) ∧
  (1 ≤ n ∧ n ≤ 6 ∧ n ≤ wo ∧ wo ≤ 12) ∧ H rl = some (.lst (ts.map fun t => V.ref t.1)) ∧ PrsIn H ts ∧ RulesOk wo ts ∧ H yl = some (.lst (ys.map V.int)) ∧ (ys.Nodup ∧ ys.length < 64 ∧ ∀ y ∈ ys, 0 ≤ y ∧ y < wo) ∧
  ∀ H', Same (hide x H) (hide x H') → TabAt P w CT H' x (fnOf (ts.map (·.2))) n → Q .non H'
section
variable {P : Program} {w : World} {K : PySem.W.Frag} {mg : Str → Option Value} {base : Heap} {CT CO CR : Addr}
theorem scWorthsFrom : FnScope ["value", "worths", "each"] ["value", "worths"] (defScope sWorthsFrom) := ⟨rfl, rfl, rfl, by decide +kernel, rfl, by decide +kernel, by decide +kernel⟩
theorem cl_worthsFrom (D : Dd K mg "worths_from" sWorthsFrom ["value", "worths"]) (T : Tx K mg CT CO CR) (C1 : Cl P w K mg base 2 "is_within" spIsWithin) : Cl P w K mg base 3 "worths_from" spWorths := by
  refine cl_of D scWorthsFrom (fun vs H Q E h => ?_) (fun f cdv A outer s H vs Q E hr h => ?_)
  · obtain ⟨a, ys, n, rfl, _⟩ := h
    rfl
  · obtain ⟨a, ys, n, rfl, ha, hn, hl, hy, q⟩ := h
    refine ⟨_, pss_cons (ps_if (PW.pt (pw_or (pt_not (pt_val (pe_callB call_isiT (by rfl) T.isinstance bt_isinstance (pa_cons (pv 0) (pa_cons (pe_tup (pa_cons (pe_bltn (by rfl) T.list bt_list (v := .ty "list") rfl) (pa_cons (pe_bltn (by rfl) T.tuple bt_tuple (v := .ty "tuple") rfl) pa_nil))) pa_nil)))))
        (pw_or1 (pt_not (pt_val (pe_callB (cr_all rfl) (by rfl) T.all bt_all (pa_cons (pe_lc (own := [("each", 2)]) (g := gName 2) (tt := tYes) rfl scWorthsFrom.nd (pi_list (pv 0)) (blkOk_by (N := ["value", "worths", "each"]) (sc := defScope sWorthsFrom) (by decide +kernel))
          (fun _ _ _ _ _ => pg_name (i := 2) scWorthsFrom.nd rfl (Or.inl rfl)) (fun _ _ _ _ _ => pts_nil) (fun _ _ _ _ _ => pe_cl C1 hr (by rfl) (pa_cons (pv 2) (pa_cons pe_int (pa_cons (pe_op op_sub (pv 1) pe_int) pa_nil))))) pa_nil))))))) pss_never pss_nil)
      (pss_cons (ps_if (pt_cmp (pc_lt (RZ.pe_lenSetI (by rfl) T.len (by rfl) T.set (pv 0)) (pe_callB call_len_seq (by rfl) T.len bt_len (pa_cons (pv 0) pa_nil)))) pss_never pss_nil)
      (pss_one (ps_ret (pe_callTy call_tuple_of (by rfl) T.tuple bt_tuple (pa_cons (pe_callB cr_sorted (by rfl) T.sorted bt_sorted (pa_cons (pv 0) pa_nil)) pa_nil))))), ?_⟩
    have len : (ys.map V.int).length = ys.length := List.length_map ..
    have big : ys.length ≤ sizeLine := by have : (64 : Nat) ≤ sizeLine := by decide
                                          omega
    refine ⟨_, rfl, (by show 2 ≤ sizeLine; decide), fun p np => ?_⟩
    obtain ⟨t, i1, i2⟩ := isi_lt (K := K) (o := .tup [.ty "list", .ty "tuple"]) (.inl ha : SeqAt2 H a _) np
    refine ⟨_, p, _, t, _, true, rfl, upd_same, clsLT, i1, i2, true, rfl, iteF ?_⟩
    have s1 : Same H (upd H p (.tup [.ty "list", .ty "tuple"])) := Same.new15 np
    refine ⟨_, rfl, a, rfl, ⟨_, SqL.of (s1 _ _ ha)⟩, fun D nD => ?_⟩
    refine lcL (K := K) (xs := ys.map V.int) (fun _ y _ => y = V.bl true) (fun _ _ _ _ e _ => e) (SqL.of (s1 _ _ ha)) nD (by rw [len]; exact big) (fun i x H2 k hx _ _ kk => ?_) fun H2 zs s2 e2 ly hz => ?_
    · rw [List.getElem?_map] at hx
      obtain ⟨z, hz, rfl⟩ := Option.map_eq_some_iff.mp hx
      obtain ⟨z0, z1⟩ := hy z (List.mem_of_getElem? hz)
      exact ⟨rfl, _, rfl, _, rfl, _, _, rfl, rfl, z, some 0, some (n - 1), rfl, inB_i z0 z1, kk _ _ (Same.refl _) rfl⟩
    refine ⟨D, List.replicate zs.length true, rfl, SqL.of (e2.trans (congrArg (fun z => some (HO.lst z)) (all_true hz))), ?_⟩
    rw [all_id]
    refine ⟨true, rfl, iteF ?_⟩
    have s2 : Same H H2 := s1.trans s2.of_hide15
    refine ⟨_, rfl, a, ys, rfl, SqL.of (s2 _ _ ha), hn, by omega, _, rfl, a, _, rfl, .inl (SqL.of (s2 _ _ ha)), _, _, rfl, rfl, false, congrArg V.bl (decide_eq_false (by rw [len]; omega)), iteF ?_⟩
    refine ⟨_, rfl, a, ys, rfl, SqL.of (s2 _ _ ha), hl, fun zs p2 _ _ np2 => ?_⟩
    refine ⟨p2, _, rfl, .inl ⟨SqL.of upd_same, fun l nl => ?_⟩⟩
    have s3 := s2.upd15 (o := .lst (zs.map V.int)) np2
    exact q l _ (s3.upd15 nl) (s3.free nl)
theorem scTabInit : FnScope ["self", "ways", "letters", "worths", "rules", "yes"] ["self", "ways", "letters", "worths", "rules", "yes"] (defScope sTabInit) := ⟨rfl, rfl, rfl, by decide +kernel, rfl, by decide +kernel, by decide +kernel⟩
theorem mt_tabInit (D : Dm K CT "__init__" "Table.__init__" sTabInit ["self", "ways", "letters", "worths", "rules", "yes"]) (T : Tx K mg CT CO CR) (C1 : Cl P w K mg base 2 "is_within" spIsWithin) (C2 : Cl P w K mg base 4 "rules_from" (spRules P w))
    (C3 : Cl P w K mg base 3 "worths_from" spWorths) : Mt P w K mg base 5 CT "__init__" (spTab P w CT) := by
  refine mt_of D T.clT scTabInit (fun vs H Q E h => ?_) (fun f cdv A outer s H vs Q E hr h => ?_)
  · obtain ⟨x, dx, rl, yl, n, wo, ts, ys, rfl, _⟩ := h
    rfl
  · obtain ⟨x, dx, rl, yl, n, wo, ts, ys, rfl, hx, ⟨n0, n1, n2, n3⟩, hrl, hp, hok, hyl, ⟨y1, y2, y3⟩, q⟩ := h
    have hu := hr.units
    refine ⟨_, pss_cons (ps_if (pt_not (pt_val (pe_cl C1 (hr.mono (by omega)) (by rfl) (pa_cons (pv 1) (pa_cons (pe_gi (by rfl) T.oneWay) (pa_cons (pe_gi (by rfl) T.twoWays) pa_nil)))))) pss_never pss_nil)
      (pss_cons (ps_if (pt_not (pt_val (pe_cl C1 (hr.mono (by omega)) (by rfl) (pa_cons (pv 2) (pa_cons pe_int (pa_cons (pe_gi (by rfl) T.mostLetters) pa_nil)))))) pss_never pss_nil)
      (pss_cons (ps_if (pt_not (pt_val (pe_cl C1 (hr.mono (by omega)) (by rfl) (pa_cons (pv 3) (pa_cons (pv 2) (pa_cons (pe_gi (by rfl) T.mostWorths) pa_nil)))))) pss_never pss_nil)
      (pss_cons (ps_asg (pe_tup (pa_cons (pv 1) (pa_cons (pv 2) (pa_cons (pv 3) pa_nil)))) (pg_tup rfl (pgs_cons (pg_fld (pv 0)) (pgs_cons (pg_fld (pv 0)) (pgs_cons (pg_fld (pv 0)) pgs_nil)))))
      (pss_cons (ps_fld (pv 0) (pe_cl C2 hr (by rfl) (pa_cons (pv 4) (pa_cons (pv 1) (pa_cons (pv 3) pa_nil)))) (by rfl))
      (pss_cons (ps_fld (pv 0) (pe_cl C3 (hr.mono (by omega)) (by rfl) (pa_cons (pv 5) (pa_cons (pv 3) pa_nil))) (by rfl))
      (pss_one (ps_fld (pv 0) (pe_callTy (call_dictT rfl (by show A.units + 3 + 3 < _; have : A.units + 3 + 64 < _ := hu; omega)) (by rfl) T.dict bt_dict (pa_cons (pe_fld (pv 0) (by rfl)) pa_nil)) (by rfl)))))))), ?_⟩
    refine ⟨_, rfl, 2, some 1, some 2, rfl, ⟨fun l e => by cases e; decide, fun h e => by cases e; decide⟩, true, rfl, iteF ?_⟩
    refine ⟨_, rfl, n, some 1, some 6, rfl, ⟨fun l e => by cases e; exact n0, fun h e => by cases e; exact n1⟩, true, rfl, iteF ?_⟩
    refine ⟨_, rfl, _, rfl, wo, some n, some 12, rfl, ⟨fun l e => by cases e; exact n2, fun h e => by cases e; exact n3⟩, true, rfl, iteF ?_⟩
    -- three attributes
    refine ⟨_, rfl, _, rfl, _, rfl, (by show 3 ≤ sizeLine; decide), fun tp np => ?_⟩
    have x1 := (ne_of_none hx np)
    have hx1 : upd H tp (.tup [.int 2, .int n, .int wo]) x = some (.ins CT dx []) := (upd_ne x1).trans hx
    have se1 : Same (hide x H) (hide x (upd H tp (.tup [.int 2, .int n, .int wo]))) := (Same.new15 np).hid15
    have et : upd H tp (.tup [.int 2, .int n, .int wo]) tp = some (.tup [.int 2, .int n, .int wo]) := upd_same
    generalize upd H tp (.tup [.int 2, .int n, .int wo]) = H1 at hx1 se1 et
    have l0 : ([] : List (Str × V)).length ≤ 0 := Nat.le_refl _
    have l1 : (putF "ways" (V.int 2) []).length ≤ 1 := len_put l0
    have l2 : (putF "letters" (V.int n) (putF "ways" (V.int 2) [])).length ≤ 2 := len_put l1
    have l3 : (putF "worths" (V.int wo) (putF "letters" (V.int n) (putF "ways" (V.int 2) []))).length ≤ 3 := len_put l2
    refine ⟨tp, _, rfl, SqT.of et, rfl, _, _, rfl, _, rfl, x, CT, dx, _, rfl, hx1, T.clT, T.tWays, (by omega), _, _, rfl, _, rfl, x, CT, dx, _, rfl, upd_same, T.clT, T.tLetters, (by omega),
      _, _, rfl, _, rfl, x, CT, dx, _, rfl, upd_same, T.clT, T.tWorths, (by omega), rfl, ?_⟩
    have se2 := hid_new (o := .ins CT dx (putF "worths" (V.int wo) (putF "letters" (V.int n) (putF "ways" (V.int 2) [])))) (hid_new (o := .ins CT dx (putF "letters" (V.int n) (putF "ways" (V.int 2) []))) (hid_new (o := .ins CT dx (putF "ways" (V.int 2) [])) se1))
    have hx2 : upd (upd (upd H1 x (.ins CT dx (putF "ways" (V.int 2) []))) x (.ins CT dx (putF "letters" (V.int n) (putF "ways" (V.int 2) [])))) x (.ins CT dx (putF "worths" (V.int wo) (putF "letters" (V.int n) (putF "ways" (V.int 2) [])))) x = some (.ins CT dx (putF "worths" (V.int wo) (putF "letters" (V.int n) (putF "ways" (V.int 2) [])))) := upd_same
    generalize upd (upd (upd H1 x (.ins CT dx (putF "ways" (V.int 2) []))) x (.ins CT dx (putF "letters" (V.int n) (putF "ways" (V.int 2) [])))) x (.ins CT dx (putF "worths" (V.int wo) (putF "letters" (V.int n) (putF "ways" (V.int 2) [])))) = H2 at se2 hx2
    generalize eF : putF "worths" (V.int wo) (putF "letters" (V.int n) (putF "ways" (V.int 2) [])) = F3 at hx2 l3
    -- rules
    have hrl2 := hid_at se2 (ne_obj hrl hx (fun z => by cases z)) hrl
    have hp2 : PrsIn H2 ts := ((hp.hid hx).same se2).same hide_same
    refine ⟨_, rfl, _, rfl, _, rfl, rl, ts, wo, rfl, hrl2, hp2, hok, fun p us H3 s3 np3 ep3 pr3 al => ?_⟩
    have hx3 := s3 _ _ hx2
    refine ⟨_, rfl, x, CT, dx, _, rfl, hx3, T.clT, T.tRules, (by omega), ?_⟩
    have se3 := hid_new (o := .ins CT dx (putF "rules" (V.ref p) F3)) (se2.trans s3.hid15)
    have hx4 : upd H3 x (.ins CT dx (putF "rules" (V.ref p) F3)) x = some (.ins CT dx (putF "rules" (V.ref p) F3)) := upd_same
    have ep4 : upd H3 x (.ins CT dx (putF "rules" (V.ref p) F3)) p = some (Pt p (us.map fun t => V.ref t.1)) := (upd_ne (ne_obj ep3 hx3 (fun z => by cases z))).trans ep3
    have pr4 : PrsIn (upd H3 x (.ins CT dx (putF "rules" (V.ref p) F3))) us := ((pr3.hid hx3).same (hid_new (Same.refl _))).same hide_same
    generalize upd H3 x (.ins CT dx (putF "rules" (V.ref p) F3)) = H4 at se3 hx4 ep4 pr4
    have l4 : (putF "rules" (V.ref p) F3).length ≤ 4 := len_put l3
    -- yes
    refine ⟨_, rfl, _, rfl, yl, ys, wo, rfl, hid_at se3 (ne_obj hyl hx (fun z => by cases z)) hyl, y1, y2, y3, fun yp H5 s5 ny5 => ?_⟩
    have hx5 := s5 _ _ hx4
    refine ⟨_, rfl, x, CT, dx, _, rfl, hx5, T.clT, T.tYes, (by omega), ?_⟩
    have l5 : (putF "yes" (V.ref yp) (putF "rules" (V.ref p) F3)).length ≤ 5 := len_put l4
    have se5 := hid_new (o := .ins CT dx (putF "yes" (V.ref yp) (putF "rules" (V.ref p) F3))) (se3.trans s5.hid15)
    have hx6 : upd H5 x (.ins CT dx (putF "yes" (V.ref yp) (putF "rules" (V.ref p) F3))) x = some (.ins CT dx (putF "yes" (V.ref yp) (putF "rules" (V.ref p) F3))) := upd_same
    have ep5 := s5 _ _ ep4
    have ep6 : upd H5 x (.ins CT dx (putF "yes" (V.ref yp) (putF "rules" (V.ref p) F3))) p = some (Pt p (us.map fun t => V.ref t.1)) := (upd_ne (ne_obj ep5 hx5 (fun z => by cases z))).trans ep5
    have pr6 : PrsIn (upd H5 x (.ins CT dx (putF "yes" (V.ref yp) (putF "rules" (V.ref p) F3)))) us := (((pr4.same s5).hid hx5).same (hid_new (Same.refl _))).same hide_same
    generalize upd H5 x (.ins CT dx (putF "yes" (V.ref yp) (putF "rules" (V.ref p) F3))) = H6 at se5 hx6 ep6 pr6
    -- by_key
    have lk : (putF "yes" (V.ref yp) (putF "rules" (V.ref p) F3)).lookup ("rules" : Str) = some (.ref p) := by
      rw [lookup_putF, if_neg (by decide +kernel), lookup_putF, if_pos rfl]
    refine ⟨_, rfl, x, CT, dx, _, _, rfl, hx6, T.clT, T.tRules, lk, p, us, rfl, ep6, pr6, al.2.1, fun d nd => ?_⟩
    have hx7 : upd H6 d (Dn P w d (us.map (·.2))) x = some (.ins CT dx (putF "yes" (V.ref yp) (putF "rules" (V.ref p) F3))) := (upd_ne (ne_of_none hx6 nd)).trans hx6
    have ed : upd H6 d (Dn P w d (us.map (·.2))) d = some (Dn P w d (us.map (·.2))) := upd_same
    have pr7 : PrsIn (upd H6 d (Dn P w d (us.map (·.2)))) us := pr6.same (Same.new15 nd)
    have se7 := se5.trans (Same.new15 (o := Dn P w d (us.map (·.2))) nd).hid15
    refine ⟨_, rfl, x, CT, dx, _, rfl, hx7, T.clT, T.tBy, (by omega), q _ (hid_new se7) ⟨dx, wo, p, yp, d, us.map (·.2), ?_, ?_, ?_, ints_alike2 al hok, fnOf_alike al⟩⟩
    · rw [upd_same, ← eF]
      rfl
    · exact (upd_ne (ne_obj ed hx7 (fun z => by cases z))).trans ed
    · exact (((pr7.hid hx7).same (hid_new (Same.refl _))).same hide_same).keys
def spTabBegin (CT : Addr) : Sp := fun vs H Q _ => ∃ (p : Addr) (v : V), vs = [.ref p, v] ∧ TabObj CT H p ∧ Q v H
def spTabNext (P : Program) (w : World) (CT : Addr) : Sp := fun vs H Q _ => ∃ (p : Addr) (l r : Option Int) (o n : Int) (f : F3), vs = [.ref p, oV l, .int o, oV r] ∧ TabAt P w CT H p f n ∧ ∀ H', Same H H' → Q (.int (f l o r)) H'
theorem scTabBegin : FnScope ["self", "letter"] ["self", "letter"] (defScope sTabBegin) := ⟨rfl, rfl, rfl, by decide +kernel, rfl, by decide +kernel, by decide +kernel⟩
theorem mt_tabBegin (D : Dm K CT "begin" "Table.begin" sTabBegin ["self", "letter"]) (T : Tx K mg CT CO CR) : Mt P w K mg base 1 CT "begin" (spTabBegin CT) := by
  refine mt_of D T.clT scTabBegin (fun vs H Q E h => ?_) (fun f cdv A outer s H vs Q E hr h => ?_)
  · obtain ⟨p, v, rfl, _⟩ := h
    rfl
  · obtain ⟨p, v, rfl, _, q⟩ := h
    exact ⟨_, pss_one (ps_ret (pv 1)), _, rfl, q⟩
theorem scTabNext : FnScope ["self", "left", "own", "right", "key"] ["self", "left", "own", "right"] (defScope sTabNext) := ⟨rfl, rfl, rfl, by decide +kernel, rfl, by decide +kernel, by decide +kernel⟩
theorem mt_tabNext (D : Dm K CT "next" "Table.next" sTabNext ["self", "left", "own", "right"]) (T : Tx K mg CT CO CR) : Mt P w K mg base 1 CT "next" (spTabNext P w CT) := by
  refine mt_of D T.clT scTabNext (fun vs H Q E h => ?_) (fun fa cdv A outer s H vs Q E hr h => ?_)
  · obtain ⟨p, l, r, o, n, f, rfl, _⟩ := h
    rfl
  · obtain ⟨p, l, r, o, n, f, rfl, ht, q⟩ := h
    obtain ⟨dx, wo, rl, yl, d, xs, h1, h2, h3, h4, rfl⟩ := ht
    have hu := hr.units
    refine ⟨_, pss_cons (ps_set (i := 4) scTabNext.nd rfl (Or.inl rfl) (pe_ifExp (pt_cmp (pc_eqI (pe_fld (pv 0) (by rfl)) (pe_gi (by rfl) T.oneWay))) (pe_tup (pa_cons (pv 1) (pa_cons (pv 2) pa_nil))) (pe_tup (pa_cons (pv 1) (pa_cons (pv 2) (pa_cons (pv 3) pa_nil))))))
      (pss_one (ps_ret (pe_nget (by show A.units + 3 + 1 < _; have : A.units + 3 + 64 < _ := hu; omega) (pe_fld (pv 0) (by rfl)) (pv 4) (pv 2) ⟨rfl, rfl, rfl, rfl⟩))), ?_⟩
    refine ⟨_, rfl, p, CT, dx, _, _, rfl, h1, T.clT, T.tWays, tabF_ways .., 2, 1, rfl, rfl, false, rfl, iteF ?_⟩
    refine ⟨_, rfl, _, rfl, _, rfl, (by show 3 ≤ sizeLine; decide), fun kp np => ?_⟩
    have s1 : Same H (upd H kp (.tup [oV l, .int o, oV r])) := Same.new15 np
    have ek : upd H kp (.tup [oV l, .int o, oV r]) kp = some (.tup ((kL l o r).map lfV)) := by rw [kL_v]; exact upd_same
    refine ⟨_, rfl, p, CT, dx, _, _, rfl, s1 _ _ h1, T.clT, T.tBy, tabF_by .., d, xs, rfl, s1 _ _ h2, _, rfl, _, rfl, xs, kp, kL l o r, s1 _ _ h2, h3.same s1, rfl, ek, ?_⟩
    show Q ((look xs (kL l o r)).getD (.int o)) _
    rw [fnOf_get h4]
    exact q _ s1
end
end K15
end

section
set_option Elab.async false
set_option linter.all false
set_option maxRecDepth 100000
set_option maxHeartbeats 2000000
/-! The row of one way. -/
namespace K15
open PySem PySem.W PySem.Spec PyProof.Rows L2

theorem KeysIn.hid {H : Hp} {x C dx : Addr} {fs : List (Str × V)} {xs : List Ent} (h : KeysIn H xs) (e : H x = some (.ins C dx fs)) : KeysIn (hide x H) xs := fun y hy => hide_at (ne_obj (h y hy) e (fun z => by cases z)) (h y hy)
theorem TabAt.hid {P : Program} {w : World} {C C2 dx2 : Addr} {fs : List (Str × V)} {H : Hp} {p x : Addr} {f : F3} {n : Int} (t : TabAt P w C H p f n) (hne : p ≠ x) (e : H x = some (.ins C2 dx2 fs)) : TabAt P w C (hide x H) p f n := by
  obtain ⟨dx, wo, rl, yl, d, xs, h1, h2, h3, h4⟩ := t
  exact ⟨dx, wo, rl, yl, d, xs, hide_at hne h1, hide_at (ne_obj h2 e (fun z => by cases z)) h2, h3.hid e, h4⟩
/-- a worth of the row of one way, or None -/
def OWat (H : Hp) (v : V) : Option OW → Prop
  | none => v = .non
  | some o => ∃ a, v = .ref a ∧ H a = some (.tup (owV o))
theorem OWat.same {H H' : Hp} {v : V} : ∀ {o : Option OW}, OWat H v o → Same H H' → OWat H' v o
  | none, h, _ => h
  | some _, ⟨a, e, h⟩, s => ⟨a, e, s _ _ h⟩
def spOne (P : Program) (w : World) (CT CO : Addr) : Sp := fun vs H Q _ => ∃ (x p dx : Addr) (f : F3) (n : Int), vs = [.ref x, .ref p] ∧ H x = some (.ins CO dx []) ∧ TabAt P w CT H p f n ∧
  ∀ H', Same (hide x H) (hide x H') → OneAt P w CT CO H' x f → Q .non H'
def spOneBegin (P : Program) (w : World) (CT CO : Addr) : Sp := fun vs H Q _ => ∃ (x : Addr) (f : F3) (z : Int), vs = [.ref x, .int z] ∧ OneAt P w CT CO H x f ∧
  ∀ p H', Same H H' → H p = none → H' p = some (.tup (owV (.wait z))) → Q (.ref p) H'
def spOneNext (P : Program) (w : World) (CT CO : Addr) : Sp := fun vs H Q _ => ∃ (x oa : Addr) (f : F3) (lv rv : V) (l : Option OW) (own : OW), vs = [.ref x, lv, .ref oa, rv] ∧ OneAt P w CT CO H x f ∧ OWat H lv l ∧ H oa = some (.tup (owV own)) ∧
  ∀ p H', Same H H' → H' p = some (.tup (owV (owNext f l own))) → Q (.ref p) H'
section
variable {P : Program} {w : World} {K : PySem.W.Frag} {mg : Str → Option Value} {base : Heap} {CT CO CR : Addr}
theorem scOneInit : FnScope ["self", "row"] ["self", "row"] (defScope sOneInit) := ⟨rfl, rfl, rfl, by decide +kernel, rfl, by decide +kernel, by decide +kernel⟩
theorem mt_oneInit (D : Dm K CO "__init__" "OneWay.__init__" sOneInit ["self", "row"]) (T : Tx K mg CT CO CR) (C1 : Cl P w K mg base 2 "need_two_ways" (spNeedTwo CT)) : Mt P w K mg base 3 CO "__init__" (spOne P w CT CO) := by
  refine mt_of D T.clO scOneInit (fun vs H Q E h => ?_) (fun fa cdv A outer s H vs Q E hr h => ?_)
  · obtain ⟨x, p, dx, f, n, rfl, _⟩ := h
    rfl
  · obtain ⟨x, p, dx, f, n, rfl, hx, ht, q⟩ := h
    refine ⟨_, pss_cons (ps_expr (pe_cl C1 hr (by rfl) (pa_cons (pv 1) pa_nil)))
      (pss_cons (ps_fld (pv 0) (pv 1) (by rfl)) (pss_cons (ps_fld (pv 0) (pe_fld (pv 1) (by rfl)) (by rfl)) (pss_one (ps_fld (pv 0) (pe_gi (by rfl) T.oneWay) (by rfl))))), ?_⟩
    have hne : p ≠ x := by
      obtain ⟨dx2, wo, rl, yl, d, xs, h1, _⟩ := ht
      refine ne_obj h1 hx fun z => ?_
      injection z with _ _ z3
      have e := tabF_by n wo rl yl d
      rw [z3] at e
      cases e
    refine ⟨_, rfl, p, rfl, ht.obj, ?_⟩
    have l0 : ([] : List (Str × V)).length ≤ 0 := Nat.le_refl _
    have l1 : (putF "row" (V.ref p) []).length ≤ 1 := len_put l0
    have l2 : (putF "letters" (V.int n) (putF "row" (V.ref p) [])).length ≤ 2 := len_put l1
    refine ⟨_, rfl, _, rfl, x, CO, dx, _, rfl, hx, T.clO, T.oRow, (by omega), ?_⟩
    have ht1 : TabAt P w CT (upd H x (.ins CO dx (putF "row" (V.ref p) []))) p f n := ((ht.hid hne hx).same (hid_new (Same.refl _))).same hide_same
    obtain ⟨dx2, wo, rl, yl, d, xs, h1, h2, h3, h4⟩ := id ht1
    refine ⟨_, rfl, p, CT, dx2, _, _, rfl, h1, T.clT, T.tLetters, tabF_letters .., _, rfl, x, CO, dx, _, rfl, upd_same, T.clO, T.oLetters, (by omega), ?_⟩
    refine ⟨_, rfl, x, CO, dx, _, rfl, upd_same, T.clO, T.oWays, (by omega), q _ (hid_new (hid_new (hid_new (Same.refl _)))) ⟨dx, p, n, upd_same, ?_⟩⟩
    exact ((ht.hid hne hx).same (hid_new (hid_new (hid_new (Same.refl _))))).same hide_same
theorem scOneBegin : FnScope ["self", "letter"] ["self", "letter"] (defScope sOneBegin) := ⟨rfl, rfl, rfl, by decide +kernel, rfl, by decide +kernel, by decide +kernel⟩
theorem mt_oneBegin (D : Dm K CO "begin" "OneWay.begin" sOneBegin ["self", "letter"]) (T : Tx K mg CT CO CR) (C1 : Mt P w K mg base 1 CT "begin" (spTabBegin CT)) : Mt P w K mg base 2 CO "begin" (spOneBegin P w CT CO) := by
  refine mt_of D T.clO scOneBegin (fun vs H Q E h => ?_) (fun fa cdv A outer s H vs Q E hr h => ?_)
  · obtain ⟨x, f, z, rfl, _⟩ := h
    rfl
  · obtain ⟨x, f, z, rfl, ⟨dx, p, n, h1, ht⟩, q⟩ := h
    refine ⟨_, pss_one (ps_ret (pe_tup (pa_cons (pe_gi (by rfl) T.waits) (pa_cons (pe_me C1 hr (pe_fld (pv 0) (by rfl)) (pa_cons (pv 1) pa_nil)) pa_nil)))), ?_⟩
    obtain ⟨dx2, n2, wo, rl, yl, d, h2⟩ := id ht.obj
    exact ⟨_, rfl, x, CO, dx, _, _, rfl, h1, T.clO, T.oRow, oneF_row .., p, dx2, _, rfl, h2, tabF_no _ _ _ _ _ (by decide +kernel), _, rfl, p, _, rfl, ht.obj, (by show 2 ≤ sizeLine; decide), fun tp np => q tp _ (Same.new15 np) np upd_same⟩
theorem scOneNext : FnScope ["self", "left", "own", "right"] ["self", "left", "own", "right"] (defScope sOneNext) := ⟨rfl, rfl, rfl, by decide +kernel, rfl, by decide +kernel, by decide +kernel⟩
theorem mt_oneNext (D : Dm K CO "next" "OneWay.next" sOneNext ["self", "left", "own", "right"]) (T : Tx K mg CT CO CR) (C1 : Mt P w K mg base 1 CT "next" (spTabNext P w CT)) : Mt P w K mg base 2 CO "next" (spOneNext P w CT CO) := by
  refine mt_of D T.clO scOneNext (fun vs H Q E h => ?_) (fun fa cdv A outer s H vs Q E hr h => ?_)
  · obtain ⟨x, oa, f, lv, rv, l, own, rfl, _⟩ := h
    rfl
  · obtain ⟨x, oa, f, lv, rv, l, own, rfl, ⟨dx, p, n, h1, ht⟩, hl, ho, q⟩ := h
    refine ⟨_, pss_cons (ps_if (pt_cmp (pc_eqI (pe_ix ix_tup (pv 2) pe_int (by intro _ _; rfl)) (pe_gi (by rfl) T.waits)))
        (pss_cons (ps_if (pt_cmp (pc_isN (pv 1))) (pss_one (ps_ret (pe_tup (pa_cons (pe_gi (by rfl) T.works) (pa_cons (pe_ix ix_tup (pv 2) pe_int (by intro _ _; rfl)) (pa_cons pe_non (pa_cons pe_non pa_nil))))))) pss_nil)
          (pss_one (ps_ret (pe_ifExp (pt_cmp (pc_eqI (pe_ix ix_tup (pv 1) pe_int (by intro _ _; rfl)) (pe_gi (by rfl) T.works)))
            (pe_tup (pa_cons (pe_gi (by rfl) T.works) (pa_cons (pe_ix ix_tup (pv 2) pe_int (by intro _ _; rfl)) (pa_cons pe_non (pa_cons (pe_ix ix_tup (pv 1) pe_int (by intro _ _; rfl)) pa_nil))))) (pv 2))))) pss_nil)
      (pss_cons (ps_if (PW.pt (pw_or (pt_cmp (pc_isN (pv 1))) (pw_or (pt_cmp (pc_eqI (pe_ix ix_tup (pv 1) pe_int (by intro _ _; rfl)) (pe_gi (by rfl) T.waits))) (pw_or1 (pt_cmp (pc_isN (pe_ix ix_tup (pv 1) pe_int (by intro _ _; rfl))))))))
        (pss_one (ps_ret (pe_tup (pa_cons (pe_gi (by rfl) T.works) (pa_cons pe_non (pa_cons (pe_ix ix_tup (pv 2) pe_int (by intro _ _; rfl)) (pa_cons pe_non pa_nil))))))) pss_nil)
      (pss_one (ps_ret (pe_tup (pa_cons (pe_gi (by rfl) T.works) (pa_cons (pe_me C1 hr (pe_fld (pv 0) (by rfl)) (pa_cons (pe_ix ix_tup (pv 1) pe_int (by intro _ _; rfl)) (pa_cons (pe_ix ix_tup (pv 1) pe_int (by intro _ _; rfl)) (pa_cons (pe_ix ix_tup (pv 2) pe_int (by intro _ _; rfl)) pa_nil))))
        (pa_cons (pe_ix ix_tup (pv 2) pe_int (by intro _ _; rfl)) (pa_cons (pe_ix ix_tup (pv 1) pe_int (by intro _ _; rfl)) pa_nil)))))))), ?_⟩
    have four : 4 ≤ sizeLine := by decide
    cases own with
    | wait wv =>
      refine ⟨_, rfl, oa, _, 0, _, rfl, rfl, SqT.of ho, (rfl : atI (owV (.wait wv)) 0 = some (V.int 0)), 0, 0, rfl, rfl, true, rfl, iteT ?_⟩
      cases l with
      | none =>
        cases (show lv = V.non from hl)
        exact ⟨_, rfl, true, rfl, iteT ⟨_, rfl, oa, _, 1, _, rfl, rfl, SqT.of ho, (rfl : atI (owV (.wait wv)) 1 = some (V.int wv)), four, fun tp np => q tp _ (Same.new15 np) upd_same⟩⟩
      | some lo =>
        obtain ⟨la, rfl, hla⟩ := hl
        refine ⟨_, rfl, false, rfl, iteF ?_⟩
        cases lo with
        | wait lw => exact ⟨_, rfl, la, _, 0, _, rfl, rfl, SqT.of hla, (rfl : atI (owV (.wait lw)) 0 = some (V.int 0)), 0, 1, rfl, rfl, false, rfl, iteF ⟨_, rfl, q oa H (Same.refl _) ho⟩⟩
        | work a b c => exact ⟨_, rfl, la, _, 0, _, rfl, rfl, SqT.of hla, (rfl : atI (owV (.work a b c)) 0 = some (V.int 1)), 1, 1, rfl, rfl, true, rfl, iteT ⟨_, rfl, oa, _, 1, _, rfl, rfl, SqT.of ho, (rfl : atI (owV (.wait wv)) 1 = some (V.int wv)),
            _, rfl, la, _, 2, _, rfl, rfl, SqT.of hla, (rfl : atI (owV (.work a b c)) 2 = some (oV b)), four, fun tp np => q tp _ (Same.new15 np) upd_same⟩⟩
    | work now bef bes =>
      refine ⟨_, rfl, oa, _, 0, _, rfl, rfl, SqT.of ho, (rfl : atI (owV (.work now bef bes)) 0 = some (V.int 1)), 1, 0, rfl, rfl, false, rfl, iteF ?_⟩
      cases l with
      | none =>
        cases (show lv = V.non from hl)
        exact ⟨_, rfl, true, rfl, iteT (iteT ⟨_, rfl, oa, _, 1, _, rfl, rfl, SqT.of ho, (rfl : atI (owV (.work now bef bes)) 1 = some (oV now)), four, fun tp np => q tp _ (Same.new15 np) upd_same⟩)⟩
      | some lo =>
        obtain ⟨la, rfl, hla⟩ := hl
        refine ⟨_, rfl, false, rfl, iteF ?_⟩
        cases lo with
        | wait lw => exact ⟨_, rfl, la, _, 0, _, rfl, rfl, SqT.of hla, (rfl : atI (owV (.wait lw)) 0 = some (V.int 0)), 0, 0, rfl, rfl, true, rfl, iteT (iteT ⟨_, rfl, oa, _, 1, _, rfl, rfl, SqT.of ho, (rfl : atI (owV (.work now bef bes)) 1 = some (oV now)), four, fun tp np => q tp _ (Same.new15 np) upd_same⟩)⟩
        | work a b c =>
          refine ⟨_, rfl, la, _, 0, _, rfl, rfl, SqT.of hla, (rfl : atI (owV (.work a b c)) 0 = some (V.int 1)), 1, 0, rfl, rfl, false, rfl, iteF ?_⟩
          refine ⟨_, rfl, la, _, 2, _, rfl, rfl, SqT.of hla, (rfl : atI (owV (.work a b c)) 2 = some (oV b)), ?_⟩
          cases b with
          | none => exact ⟨true, rfl, iteT ⟨_, rfl, oa, _, 1, _, rfl, rfl, SqT.of ho, (rfl : atI (owV (.work now bef bes)) 1 = some (oV now)), four, fun tp np => q tp _ (Same.new15 np) upd_same⟩⟩
          | some bb =>
            obtain ⟨dx2, n2, wo, rl, yl, d, h2⟩ := id ht.obj
            refine ⟨false, rfl, iteF ⟨_, rfl, x, CO, dx, _, _, rfl, h1, T.clO, T.oRow, oneF_row .., p, dx2, _, rfl, h2, tabF_no _ _ _ _ _ (by decide +kernel),
              _, rfl, la, _, 3, _, rfl, rfl, SqT.of hla, (rfl : atI (owV (.work a (some bb) c)) 3 = some (oV c)), _, rfl, la, _, 2, _, rfl, rfl, SqT.of hla, (rfl : atI (owV (.work a (some bb) c)) 2 = some (V.int bb)),
              _, rfl, oa, _, 1, _, rfl, rfl, SqT.of ho, (rfl : atI (owV (.work now bef bes)) 1 = some (oV now)), p, c, now, bb, n, f, rfl, ht, fun H4 s4 => ?_⟩⟩
            exact ⟨_, rfl, oa, _, 1, _, rfl, rfl, SqT.of (s4 _ _ ho), (rfl : atI (owV (.work now bef bes)) 1 = some (oV now)), _, rfl, la, _, 2, _, rfl, rfl, SqT.of (s4 _ _ hla), (rfl : atI (owV (.work a (some bb) c)) 2 = some (V.int bb)),
              four, fun tp np => q tp _ (s4.upd15 np) upd_same⟩
end
end K15
end

section
set_option Elab.async false
set_option linter.all false
set_option maxRecDepth 100000
set_option maxHeartbeats 2000000
/-! One tick of the row of one way; places; the triangle. -/
namespace K15
open PySem PySem.W PySem.Spec PyProof.Rows L2

theorem atI_nat {α : Type} {xs : List α} {i : Nat} {x : α} (h : xs[i]? = some x) : atI xs (i : Int) = some x := by
  have hi : i < xs.length := (List.getElem?_eq_some_iff.mp h).1
  unfold atI ixN
  rw [if_pos (by omega), if_pos (by omega)]
  show xs[(i : Int).toNat]? = some x
  rw [Int.toNat_natCast]
  exact h
theorem ix_listK {X : Cx} {K : PySem.W.Frag} (h : X.K = K) : IxR X (rIxL K) := by
  subst h
  exact ix_list
theorem ix_tupK {X : Cx} {K : PySem.W.Frag} (h : X.K = K) : IxR X (rIxT K) := by
  subst h
  exact ix_tup
section
variable {K : PySem.W.Frag} {a : Addr} {xs : List V} {g : TG} {te : TE} {vs : List Nat} {σ : L2.St} {H1 : Hp} {D : Addr} {Qd : Hp → Prop}
/-- a comprehension over enumerate(list) -/
theorem lcE (R : Nat → V → Hp → Prop) (mono : ∀ j y H H', R j y H → Same H H' → R j y H') (hq : SqL K H1 a xs) (hD : H1 D = none) (hz : xs.length ≤ sizeLine)
    (el : ∀ (i : Nat) (x : V) (T : Addr) (H : Hp) (k : V → Hp → Prop), xs[i]? = some x → Same H1 (hide D H) → (∃ ys, H D = some (.lst ys)) → H T = some (.tup [.int (i : Nat), x]) → (∀ y H4, Same H H4 → R i y (hide D H4) → k y H4) → g (.ref T) (wipe σ vs) H fun σ2 H2 => wipe σ2 vs = wipe σ vs ∧ te σ2 H2 k)
    (hd : ∀ H ys, Same H1 (hide D H) → H D = some (.lst ys) → ys.length = xs.length → (∀ j y, ys[j]? = some y → R j y (hide D H)) → Qd H) :
    ∃ W : Nat → Nat → Hp → Prop, (∃ m, W 0 m (L2.upd H1 D (.lst []))) ∧ ∀ i m H, W i m H →
      ((Ite K a).stop i H ∧ Qd H) ∨ ((Ite K a).go i H ∧ ∃ Nx : Hp → Prop, (∀ H', Nx H' → ∃ m', m' < m ∧ W (i + 1) m' H') ∧ ∀ x H', (Ite K a).yld i H x H' → g x (wipe σ vs) H' fun σ2 H2 => wipe σ2 vs = wipe σ vs ∧ tYes σ2 H2 fun b H3 =>
        if b = true then te σ2 H3 fun y H4 => ∃ acc, H4 D = some (.lst acc) ∧ acc.length < sizeLine ∧ Nx (L2.upd H4 D (.lst (acc ++ [y]))) else Nx H3) := by
  refine ⟨fun i m H => i + m = xs.length ∧ LcI H1 D R i H, ⟨xs.length, by omega, lci_start hD⟩, fun i m H ⟨hm, hp⟩ => ?_⟩
  obtain ⟨ys, ly, eD, sm, hr⟩ := id hp
  have hq' : SqL K H a xs := sm.of_hide15.seq hq
  cases m with
  | zero =>
    have hi : i = xs.length := by omega
    exact .inl ⟨⟨xs, hq', by omega⟩, hd H ys sm eD (by omega) hr⟩
  | succ m =>
    have hi : i < xs.length := by omega
    refine .inr ⟨⟨xs, xs[i], hq', List.getElem?_eq_getElem hi⟩, fun H' => LcI H1 D R (i + 1) H', fun H' h => ⟨m, by omega, by omega, h⟩, fun x H' hy => ?_⟩
    obtain ⟨T, x', rfl, nT, rfl, hx⟩ := hy
    have sT : Same H (upd H T (.tup [.int (i : Nat), x'])) := Same.new15 nT
    have eT : upd H T (.tup [.int (i : Nat), x']) T = some (.tup [.int (i : Nat), x']) := upd_same
    have hp2 : LcI H1 D R i (upd H T (.tup [.int (i : Nat), x'])) := ⟨ys, ly, sT _ _ eD, sm.trans sT.hid15, fun j y e => mono _ _ _ _ (hr j y e) sT.hid15⟩
    refine el i x' T _ _ (hx _ hq') (sm.trans sT.hid15) ⟨ys, sT _ _ eD⟩ eT fun y H4 s r => lci_next mono (by omega) hp2 s r
end

def spSlanted : Sp := fun vs H Q _ => ∃ c t : Nat, vs = [.int (c : Int), .int (t : Int)] ∧ ∀ p H', Same H H' → H p = none → H' p = some (.tup [.int ((c + t : Nat) : Int), .int ((2 * t + c + 1 : Nat) : Int)]) → Q (.ref p) H'
def spOneTick (P : Program) (w : World) (CT CO : Addr) : Sp := fun vs H Q _ => ∃ (x l : Addr) (f : F3) (os : List OW), vs = [.ref x, .ref l] ∧ OneAt P w CT CO H x f ∧ RowO H (.ref l) os ∧ os.length ≤ 1000 ∧
  ∀ p H', Same H H' → H p = none → RowO H' (.ref p) (tick1 f os) → Q (.ref p) H'
section
variable {P : Program} {w : World} {K : PySem.W.Frag} {mg : Str → Option Value} {base : Heap} {CT CO CR : Addr}
theorem scSlanted : FnScope ["cell", "tick"] ["cell", "tick"] (defScope sSlanted) := ⟨rfl, rfl, rfl, by decide +kernel, rfl, by decide +kernel, by decide +kernel⟩
theorem cl_slanted (D : Dd K mg "slanted" sSlanted ["cell", "tick"]) : Cl P w K mg base 1 "slanted" spSlanted := by
  refine cl_of D scSlanted (fun vs H Q E h => ?_) (fun f cdv A outer s H vs Q E hr h => ?_)
  · obtain ⟨c, t, rfl, _⟩ := h
    rfl
  · obtain ⟨c, t, rfl, q⟩ := h
    refine ⟨_, pss_one (ps_ret (pe_tup (pa_cons (pe_op op_add (pv 0) (pv 1)) (pa_cons (pe_op op_add (pe_op op_add (pe_op op_mul pe_int (pv 1)) (pv 0)) pe_int) pa_nil)))), ?_⟩
    refine ⟨_, rfl, _, rfl, c, t, rfl, rfl, _, rfl, 2, t, rfl, rfl, .inl ⟨by decide, by decide⟩, _, rfl, _, _, rfl, rfl, _, _, rfl, rfl, (by show 2 ≤ sizeLine; decide), fun p np => ?_⟩
    refine q p _ (Same.new15 np) np ?_
    rw [upd_same]
    have e1 : ((c + t : Nat) : Int) = (c : Int) + t := by omega
    have e2 : ((2 * t + c + 1 : Nat) : Int) = 2 * (t : Int) + c + 1 := by omega
    rw [e1, e2]
theorem scSlant : FnScope ["cell", "tick"] ["cell", "tick"] (defScope sSlant) := ⟨rfl, rfl, rfl, by decide +kernel, rfl, by decide +kernel, by decide +kernel⟩
theorem cl_slant (D : Dd K mg "slant" sSlant ["cell", "tick"]) (C1 : Cl P w K mg base 3 "need_number" spNeedNumber) (C2 : Cl P w K mg base 1 "slanted" spSlanted) : Cl P w K mg base 4 "slant" spSlanted := by
  refine cl_of D scSlant (fun vs H Q E h => ?_) (fun f cdv A outer s H vs Q E hr h => ?_)
  · obtain ⟨c, t, rfl, _⟩ := h
    rfl
  · obtain ⟨c, t, rfl, q⟩ := h
    refine ⟨_, pss_cons (ps_expr (pe_cl C1 hr (by rfl) (pa_cons (pv 0) (pa_cons pe_str (pa_cons pe_int (pa_cons pe_non pa_nil))))))
      (pss_cons (ps_expr (pe_cl C1 hr (by rfl) (pa_cons (pv 1) (pa_cons pe_str (pa_cons pe_int (pa_cons pe_non pa_nil))))))
      (pss_one (ps_ret (pe_cl C2 (hr.mono (by omega)) (by rfl) (pa_cons (pv 0) (pa_cons (pv 1) pa_nil)))))), ?_⟩
    refine ⟨_, rfl, (c : Int), _, some 0, none, rfl, ⟨fun l e => by cases e; omega, fun h e => by cases e⟩, ?_⟩
    refine ⟨_, rfl, (t : Int), _, some 0, none, rfl, ⟨fun l e => by cases e; omega, fun h e => by cases e⟩, ?_⟩
    exact ⟨_, rfl, _, rfl, c, t, rfl, q⟩
theorem scOneTick : FnScope ["row", "cells", "sides", "at", "own"] ["row", "cells"] (defScope sOneTick) := ⟨rfl, rfl, rfl, by decide +kernel, rfl, by decide +kernel, by decide +kernel⟩
theorem cl_oneTick (D : Dd K mg "one_tick" sOneTick ["row", "cells"]) (T : Tx K mg CT CO CR) (C1 : Mt P w K mg base 2 CO "next" (spOneNext P w CT CO)) : Cl P w K mg base 3 "one_tick" (spOneTick P w CT CO) := by
  refine cl_of D scOneTick (fun vs H Q E h => ?_) (fun fa cdv A outer s H vs Q E hr h => ?_)
  · obtain ⟨x, l, f, os, rfl, _⟩ := h
    rfl
  · obtain ⟨x, l, f, os, rfl, hx, ⟨l', ts, el, hl, hts, ets⟩, hz, q⟩ := h
    cases el
    refine ⟨_, pss_cons (ps_set (i := 2) scOneTick.nd rfl (Or.inr rfl) (pe_lst (pa_cons pe_non (StX.pa_star (pv 1) (pa_cons pe_non pa_nil)))))
      (pss_one (ps_ret (pe_lc (own := [("at", 3), ("own", 4)]) (g := gTup K 2 (gCons (gName 3) (gCons (gName 4) gNil))) (tt := tYes) rfl scOneTick.nd (pi_enum (by rfl) T.enumerate (pa_cons (pv 1) pa_nil))
        (blkOk_by (N := ["row", "cells", "sides", "at", "own"]) (sc := defScope sOneTick) (by decide +kernel))
        (fun _ _ _ _ _ => pg_tup rfl (pgs_cons (pg_name (i := 3) scOneTick.nd rfl (Or.inl rfl)) (pgs_cons (pg_name (i := 4) scOneTick.nd rfl (Or.inl rfl)) pgs_nil))) (fun _ _ _ _ _ => pts_nil)
        (fun _ _ _ _ _ => pe_me C1 hr (pv 0) (pa_cons (pe_ix (ix_listK (K := K) rfl) (pv 2) (pv 3) (by intro _ _; rfl)) (pa_cons (pv 4) (pa_cons (pe_ix (ix_listK (K := K) rfl) (pv 2) (pe_op op_add (pv 3) pe_int) (by intro _ _; rfl)) pa_nil))))))), ?_⟩
    have len : (ts.map fun t => V.ref t.1).length = ts.length := List.length_map ..
    have lo : os.length = ts.length := by rw [← ets, List.length_map]
    have big : (1002 : Nat) ≤ sizeLine := by decide
    have hts' : ∀ {i : Nat} {t : Addr × OW}, ts[i]? = some t → H t.1 = some (.tup (owV t.2)) := fun e => hts _ (List.mem_of_getElem? e)
    refine ⟨_, rfl, l, _, rfl, .inr (SqL.of hl), ?_⟩
    refine ⟨by show (((ts.map fun t => V.ref t.1) ++ [V.non]).length + 1) ≤ sizeLine; rw [List.length_append, len]; show ts.length + 1 + 1 ≤ sizeLine; omega, fun sp np => ?_⟩
    have s1 : Same H (upd H sp (.lst (V.non :: ((ts.map fun t => V.ref t.1) ++ [V.non])))) := Same.new15 np
    have es : upd H sp (.lst (V.non :: ((ts.map fun t => V.ref t.1) ++ [V.non]))) sp = some (.lst (V.non :: ((ts.map fun t => V.ref t.1) ++ [V.non]))) := upd_same
    generalize upd H sp (.lst (V.non :: ((ts.map fun t => V.ref t.1) ++ [V.non]))) = H1 at s1 es
    refine ⟨_, rfl, l, _, rfl, SqL.of (s1 _ _ hl), fun D nD => ?_⟩
    refine lcE (K := K) (xs := ts.map fun t => V.ref t.1) (fun i y H => ∃ t : Addr × OW, y = V.ref t.1 ∧ t.2 = owNext f (lf os i) (os.getD i (.wait 0)) ∧ H t.1 = some (.tup (owV t.2))) (fun j y H H' ⟨t, h1, h2, h3⟩ sm => ⟨t, h1, h2, sm _ _ h3⟩)
      (SqL.of (s1 _ _ hl)) nD (by rw [len]; omega) (fun i v Tp H2 k hv s2 hD hT kk => ?_) fun H2 ys s2 e2 ly hy => ?_
    · rw [List.getElem?_map] at hv
      obtain ⟨t, ht, rfl⟩ := Option.map_eq_some_iff.mp hv
      have hi : i < ts.length := (List.getElem?_eq_some_iff.mp ht).1
      have s12 := s1.trans s2.of_hide15
      have eo : os.getD i (.wait 0) = t.2 := by rw [← ets, List.getD_eq_getElem?_getD, List.getElem?_map, ht]; rfl
      -- the two sides
      have left : ∃ lv, (V.non :: ((ts.map fun t => V.ref t.1) ++ [V.non]))[i]? = some lv ∧ OWat H2 lv (lf os i) := by
        cases i with
        | zero => exact ⟨.non, rfl, by rw [lf_zero]; rfl⟩
        | succ j =>
          have hj : j < ts.length := by omega
          refine ⟨V.ref ts[j].1, ?_, ?_⟩
          · rw [List.getElem?_cons_succ, List.getElem?_append_left (by rw [len]; exact hj), List.getElem?_map, List.getElem?_eq_getElem hj]
            rfl
          · rw [lf_get, ← ets, List.getElem?_map, List.getElem?_eq_getElem hj]
            exact ⟨_, rfl, s12 _ _ (hts' (List.getElem?_eq_getElem hj))⟩
      have right : ∃ rv, (V.non :: ((ts.map fun t => V.ref t.1) ++ [V.non]))[i + 2]? = some rv := by
        refine ⟨_, List.getElem?_eq_getElem ?_⟩
        rw [List.length_cons, List.length_append, len]
        show i + 2 < ts.length + 1 + 1
        omega
      obtain ⟨lv, hlv, how⟩ := left
      obtain ⟨rv, hrv⟩ := right
      have e2i : ((i : Int) + 2) = ((i + 2 : Nat) : Int) := by omega
      obtain ⟨dx, q0, n0, hx1, hx2⟩ := id hx
      refine ⟨Tp, _, rfl, SqT.of hT, rfl, _, _, rfl, _, _, rfl, rfl, rfl, ?_⟩
      refine ⟨_, rfl, x, dx, _, rfl, s12 _ _ hx1, oneF_no _ _ (by decide +kernel), _, rfl, _, rfl, sp, _, _, _, rfl, rfl, SqL.of (s2.of_hide15 _ _ es), atI_nat hlv, _, rfl, ?_⟩
      refine ⟨_, rfl, _, rfl, _, _, rfl, rfl, sp, _, _, _, rfl, rfl, SqL.of (s2.of_hide15 _ _ es), (by rw [e2i]; exact atI_nat hrv), ?_⟩
      refine ⟨x, t.1, f, lv, rv, lf os i, t.2, rfl, hx.same s12, how, s12 _ _ (hts' ht), fun p H4 s4 h4 => ?_⟩
      obtain ⟨ysD, hD⟩ := hD
      exact kk _ _ s4 ⟨(p, owNext f (lf os i) t.2), rfl, by rw [eo], hide_at (ne_obj h4 (s4 _ _ hD) (fun z => by cases z)) h4⟩
    · obtain ⟨us, lu, hus⟩ := choose_items hy
      have lus : us.length = ts.length := by rw [lu, ly, len]
      refine q D H2 (s1.trans s2.of_hide15) (s1.free nD) ⟨D, us, rfl, ?_, fun t ht => ?_, ?_⟩
      · rw [e2]
        refine congrArg (fun z => some (HO.lst z)) (List.ext_getElem? fun j => ?_)
        by_cases hj : j < us.length
        · have hj2 : j < ys.length := by rw [← lu]; exact hj
          rw [List.getElem?_map, List.getElem?_eq_getElem hj, List.getElem?_eq_getElem hj2, (hus j _ _ (List.getElem?_eq_getElem hj) (List.getElem?_eq_getElem hj2)).1]
          rfl
        · rw [List.getElem?_eq_none (by omega), List.getElem?_eq_none (by rw [List.length_map]; omega)]
      · obtain ⟨j, hj⟩ := List.mem_iff_getElem?.mp ht
        have hj1 := (List.getElem?_eq_some_iff.mp hj).1
        have hj2 : j < ys.length := by rw [← lu]; exact hj1
        exact (hide_get (hus j _ _ hj (List.getElem?_eq_getElem hj2)).2.2).1
      · unfold tick1
        refine List.ext_getElem? fun j => ?_
        by_cases hj : j < us.length
        · have hj2 : j < ys.length := by rw [← lu]; exact hj
          rw [List.getElem?_map, List.getElem?_map, List.getElem?_eq_getElem hj, List.getElem?_range (by omega)]
          exact congrArg some (hus j _ _ (List.getElem?_eq_getElem hj) (List.getElem?_eq_getElem hj2)).2.1
        · rw [List.getElem?_eq_none (by rw [List.length_map]; omega), List.getElem?_eq_none (by rw [List.length_map, List.length_range]; omega)]
end
end K15
end

section
set_option Elab.async false
set_option linter.all false
set_option maxRecDepth 100000
set_option maxHeartbeats 2000000
/-! The triangle. -/
namespace K15
open PySem PySem.W PySem.Spec PyProof.Rows L2

/-- parts of statements -/
def nth (st : Stmt) (i : Nat) : Stmt := (defBody st).getD i (.Pass ⟨0, 0, 0, 0⟩)
def valOf : Stmt → Expr
  | .Assign _ e _ => e
  | .Return (some e) _ => e
  | .Expr e _ => e
  | _ => .Constant .none 0 ⟨0, 0, 0, 0⟩
def argOf : Expr → Nat → Expr
  | .Call _ es _ _, i => es.getD i (.Constant .none 0 ⟨0, 0, 0, 0⟩)
  | _, _ => .Constant .none 0 ⟨0, 0, 0, 0⟩
def scOf : Expr → Scope
  | .ListComp _ _ s _ => s
  | _ => default

theorem mt_appendK {X : Cx} : MtR X "list.append" rAppend := mt_append
theorem pe_app {X : Cx} {o e : Expr} {to te : TE} {apos cpos : Pos} (ho : PE X o to) (he : PE X e te) (hbase : attributeBase o "append" X.env (eval o X.env) = eval o X.env := by rfl)
    (hfew : ((backTo cpos (starEach [e] X.env)).all (fun x => !x.1) && (backToKw cpos (keywordEach [] X.env)).all (fun x => x.1.isSome)
      && decide ([e].length + ([] : List Keyword).length + (if ([] : List Keyword).isEmpty then 0 else 1) < 30)) = true := by rfl)
    (hline : (apos.endLine == cpos.line) = true := by rfl) (hs : starEach [e] X.env = (false, eval e X.env) :: starEach [] X.env := by rfl) (hplain : (backTo cpos (starEach [] X.env)).any (·.1) = false := by rfl) :
    PE X (.Call (.Attribute o "append" apos) [e] [] cpos) (tBM X.K "list" rAppend to (tCons te tNil)) :=
  pe_bm PySem.F.plainAttrs_list PySem.F.slot_list_append PySem.F.type_list_append mt_append ho (pa_cons he pa_nil hs) hbase hfew hline hs hplain

theorem pi_listK {X : Cx} {K : PySem.W.Frag} {tg l : Expr} {tl : TE} (h : X.K = K) (hl : PE X l tl) : PI X tg l (iList K tl) := by
  subst h
  exact pi_list hl
theorem atI_last {α : Type} {xs : List α} {n : Nat} {x : α} (hl : xs.length = n + 1) (h : xs[n]? = some x) : atI xs (-1) = some x := by
  unfold atI ixN
  rw [if_neg (by decide), if_pos (by omega)]
  show xs[(-1 + (xs.length : Int)).toNat]? = some x
  rw [hl, show (-1 + ((n + 1 : Nat) : Int)).toNat = n by omega]
  exact h
/-- a new list with one item -/
theorem lci_one {H0 H : Hp} {D : Addr} {R : Nat → V → Hp → Prop} {y : V} (mono : ∀ j y H H', R j y H → Same H H' → R j y H') (s : Same H0 H) (hD : H D = none) (r : R 0 y H) : LcI H0 D R 1 (upd H D (.lst [y])) := by
  have s1 : Same H (hide D (upd H D (.lst [y]))) := hide_hide_upd ((Same.refl H).to_hide15 hD)
  refine ⟨[y], rfl, upd_same, s.trans s1, fun j z e => ?_⟩
  match j, e with
  | 0, e =>
    cases (Option.some.inj e)
    exact mono _ _ _ _ r s1
  | j + 1, e => exact (nil_get (j := j) e).elim
/-- what stood before an instance was made stands on -/
theorem made_same {H1 H3 : Hp} {x dx : Addr} {u o : HO} (nx : H1 x = none) (ndx : H1 dx = none) (s : Same (hide x (upd (upd H1 dx u) x o)) (hide x H3)) : Same H1 H3 := fun b v e =>
  (hide_get (s _ _ (hide_at (ne_of_none e nx) ((upd_ne (ne_of_none e nx)).trans ((upd_ne (ne_of_none e ndx)).trans e))))).1
theorem make_same {H1 : Hp} {x dx : Addr} {u o : HO} (nx : H1 x = none) (ndx : H1 dx = none) : Same H1 (upd (upd H1 dx u) x o) := fun b v e => (upd_ne (ne_of_none e nx)).trans ((upd_ne (ne_of_none e ndx)).trans e)
theorem lcR0 {n : Nat} {g : TG} {te : TE} {vs : List Nat} {σ : L2.St} {H1 : Hp} {D : Addr} {Qd : Hp → Prop} (R : Nat → V → Hp → Prop) (mono : ∀ j y H H', R j y H → Same H H' → R j y H') (hD : H1 D = none) (hz : n ≤ sizeLine)
    (el : ∀ (i : Nat) H (k : V → Hp → Prop), i < n → Same H1 (hide D H) → (∃ ys, H D = some (.lst ys)) → (∀ y H4, Same H H4 → R i y (hide D H4) → k y H4) → g (.int (i : Nat)) (wipe σ vs) H fun σ2 H2 => wipe σ2 vs = wipe σ vs ∧ te σ2 H2 k)
    (hd : ∀ H ys, Same H1 (hide D H) → H D = some (.lst ys) → ys.length = n → (∀ j y, ys[j]? = some y → R j y (hide D H)) → Qd H) :
    ∃ W : Nat → Nat → Hp → Prop, (∃ m, W 0 m (L2.upd H1 D (.lst []))) ∧ ∀ i m H, W i m H →
      ((Itr 0 n).stop i H ∧ Qd H) ∨ ((Itr 0 n).go i H ∧ ∃ Nx : Hp → Prop, (∀ H', Nx H' → ∃ m', m' < m ∧ W (i + 1) m' H') ∧ ∀ x H', (Itr 0 n).yld i H x H' → g x (wipe σ vs) H' fun σ2 H2 => wipe σ2 vs = wipe σ vs ∧ tYes σ2 H2 fun b H3 =>
        if b = true then te σ2 H3 fun y H4 => ∃ acc, H4 D = some (.lst acc) ∧ acc.length < sizeLine ∧ Nx (L2.upd H4 D (.lst (acc ++ [y]))) else Nx H3) :=
  lcR R mono hD hz (fun i H k hi s hD kk => by rw [Int.zero_add]; exact el i H k hi s hD kk) hd
theorem for_range0 {n : Nat} {g : TG} {tb : TS} {D : Ends} {σ : L2.St} {H : Hp} (Pv : Nat → L2.St → Hp → Prop) (h0 : Pv 0 σ H)
    (hs : ∀ (i : Nat) σ H, i < n → Pv i σ H → g (.int (i : Nat)) σ H fun σ2 H2 => tb { D with nx := Pv (i + 1), ct := Pv (i + 1), bk := D.nx } σ2 H2) (hd : ∀ σ H, Pv n σ H → D.nx σ H) :
    ∃ W : Nat → Nat → L2.St → Hp → Prop, (∃ m, W 0 m σ H) ∧ ∀ i m σ H, W i m σ H →
      ((Itr 0 n).stop i H ∧ D.nx σ H) ∨ ((Itr 0 n).go i H ∧ ∃ N : L2.St → Hp → Prop, (∀ σ' H', N σ' H' → ∃ m', m' < m ∧ W (i + 1) m' σ' H') ∧ ∀ x H', (Itr 0 n).yld i H x H' → g x σ H' fun σ2 H2 => tb { D with nx := N, ct := N, bk := D.nx } σ2 H2) :=
  for_range Pv h0 (fun i σ H hi p => by rw [Int.zero_add]; exact hs i σ H hi p) hd
/-- a list of refs, each with what it means -/
theorem refs_get {α : Type} {us : List (Addr × α)} {ys : List V} {R : Nat → Addr × α → Prop} (lu : us.length = ys.length) (h : ∀ (j : Nat) (t : Addr × α) (y : V), us[j]? = some t → ys[j]? = some y → y = V.ref t.1 ∧ R j t) : ys = us.map (fun t => V.ref t.1) ∧ ∀ j t, us[j]? = some t → R j t := by
  refine ⟨List.ext_getElem? fun j => ?_, fun j t ht => ?_⟩
  · by_cases hj : j < us.length
    · have hj2 : j < ys.length := by rw [← lu]; exact hj
      rw [List.getElem?_map, List.getElem?_eq_getElem hj, List.getElem?_eq_getElem hj2, (h j _ _ (List.getElem?_eq_getElem hj) (List.getElem?_eq_getElem hj2)).1]
      rfl
    · rw [List.getElem?_eq_none (by omega), List.getElem?_eq_none (by rw [List.length_map]; omega)]
  · have hj := (List.getElem?_eq_some_iff.mp ht).1
    have hj2 : j < ys.length := by rw [← lu]; exact hj
    exact (h j _ _ ht (List.getElem?_eq_getElem hj2)).2
theorem rowO_of {H : Hp} {D : Addr} {ys : List V} {os : List OW} (e : H D = some (.lst ys)) (ly : ys.length = os.length)
    (hy : ∀ (j : Nat) (y : V), ys[j]? = some y → ∃ t : Addr × OW, y = V.ref t.1 ∧ os[j]? = some t.2 ∧ hide D H t.1 = some (.tup (owV t.2))) : RowO H (.ref D) os := by
  obtain ⟨us, lu, hus⟩ := choose_items hy
  obtain ⟨ey, hr⟩ := refs_get lu hus
  refine ⟨D, us, rfl, by rw [e, ey], fun t ht => ?_, List.ext_getElem? fun j => ?_⟩
  · obtain ⟨j, hj⟩ := List.mem_iff_getElem?.mp ht
    exact (hide_get (hr j t hj).2).1
  · by_cases hj : j < us.length
    · rw [List.getElem?_map, List.getElem?_eq_getElem hj, (hr j _ (List.getElem?_eq_getElem hj)).1]
      rfl
    · rw [List.getElem?_eq_none (by rw [List.length_map]; omega), List.getElem?_eq_none (by omega)]
theorem rowO_at {H : Hp} {v : V} {os : List OW} {j : Nat} {o : OW} (r : RowO H v os) (e : os[j]? = some o) : ∃ (l : Addr) (xs : List V) (a : Addr), v = .ref l ∧ H l = some (.lst xs) ∧ xs[j]? = some (.ref a) ∧ H a = some (.tup (owV o)) := by
  obtain ⟨l, ts, rfl, h1, h2, rfl⟩ := r
  rw [List.getElem?_map] at e
  obtain ⟨t, ht, rfl⟩ := Option.map_eq_some_iff.mp e
  exact ⟨l, _, t.1, rfl, h1, by rw [List.getElem?_map, ht]; rfl, h2 t (List.mem_of_getElem? ht)⟩
/-- the places of a tick -/
def PlAt (m t : Nat) (H : Hp) (y : V) : Prop := ∃ (a : Addr) (as : List Addr), y = .ref a ∧ H a = some (.lst (as.map V.ref)) ∧ as.length = m - t ∧ ∀ (c : Nat) (b : Addr), as[c]? = some b → H b = some (.tup [.int ((c + t : Nat) : Int), .int ((2 * t + c + 1 : Nat) : Int)])
theorem PlAt.same {m t : Nat} {H H' : Hp} {y : V} (h : PlAt m t H y) (s : Same H H') : PlAt m t H' y := let ⟨a, as, e, h1, h2, h3⟩ := h; ⟨a, as, e, s _ _ h1, h2, fun c b hb => s _ _ (h3 c b hb)⟩
theorem addrs_of {ys : List V} {R : Nat → Addr → Prop} (h : ∀ (j : Nat) (y : V), ys[j]? = some y → ∃ a : Addr, y = V.ref a ∧ R j a) : ∃ as : List Addr, ys = as.map V.ref ∧ as.length = ys.length ∧ ∀ j a, as[j]? = some a → R j a := by
  obtain ⟨us, lu, hus⟩ := choose_items (α := Addr × Unit) (R := fun j t y => y = V.ref t.1 ∧ R j t.1) fun j y e => let ⟨a, h1, h2⟩ := h j y e; ⟨(a, ()), h1, h2⟩
  obtain ⟨ey, hr⟩ := refs_get (R := fun j t => R j t.1) lu hus
  refine ⟨us.map (·.1), by rw [ey, List.map_map]; rfl, by rw [List.length_map, lu], fun j a e => ?_⟩
  rw [List.getElem?_map] at e
  obtain ⟨t, ht, rfl⟩ := Option.map_eq_some_iff.mp e
  exact hr j t ht
abbrev nTri : List Str := ["row", "word", "letters", "made", "many", "strip", "_", "places", "letter", "tick", "cell", "row_of", "where", "when"]
/-- a def of the module, and its promise: for calls by keywords as well -/
structure ClF (P : Program) (w : World) (K : PySem.W.Frag) (mg : Str → Option Value) (base : Heap) (k : Nat) (x : Str) (st : Stmt) (ps : List Str) (sp : Sp) : Prop where
  ex : ∃ (f : Addr) (fd : FuncData), Fun K x x st f fd ∧ FnOk P w K mg base CX0 k f fd ps sp ∧ mg x = some (.ref f) ∧ Binds K fd ps []
theorem ClF.cl {P : Program} {w : World} {K : PySem.W.Frag} {mg : Str → Option Value} {base : Heap} {k : Nat} {x : Str} {st : Stmt} {ps : List Str} {sp : Sp} (c : ClF P w K mg base k x st ps sp) : Cl P w K mg base k x sp := by
  obtain ⟨f, fd, F, O, m, b⟩ := c.ex
  exact ⟨f, fd, ps, O, m, F.kp, b⟩
theorem clF_of {P : Program} {w : World} {K : PySem.W.Frag} {mg : Str → Option Value} {base : Heap} {x : Str} {st : Stmt} {N ps : List Str} {k : Nat} {sp : Sp} (D : Dd K mg x st ps) (S : FnScope N ps (defScope st)) (len : ∀ vs H Q E, sp vs H Q E → vs.length = ps.length)
    (body : ∀ (f : Addr) (cdv : Value) (A : Around) (outer : List Env) (s : Shared) (H : Hp) (vs : List V) (Q : VK) (E : XK), Room k (A.deeper (envOfC x (defScope st) s.heap.objs.size f cdv)) → sp vs H Q E →
      ∃ t, PSs (cxOf CX0 P w K mg base N x (defScope st) f cdv A outer s H E).nox (defBody st) t ∧ t { nx := fun _ H' => Q .non H', rt := Q } (start N vs) H) : ClF P w K mg base (k + 1) x st ps sp := by
  obtain ⟨f, fd, F, m, b⟩ := D.ex
  exact ⟨f, fd, F, F.ok S len (fun cdv A outer s H vs Q E hr h => body f cdv A outer s H vs Q E hr h), m, b⟩
/-- the triangle at v -/
def TriAt (H : Hp) (v : V) (f : F3) (ws : List Int) : Prop := ∃ (q : Addr) (rs : List Addr), v = .ref q ∧ H q = some (.tup (rs.map V.ref)) ∧ rs.length = ws.length ∧ ∀ (t : Nat) (a : Addr), rs[t]? = some a → H a = some (.tup ((List.range (ws.length - t)).map fun c => V.int (du f ws t c)))
def spTri (P : Program) (w : World) (CT : Addr) : Sp := fun vs H Q _ => ∃ (p wa : Addr) (f : F3) (n : Int) (ws : List Int), vs = [.ref p, .ref wa] ∧ TabAt P w CT H p f n ∧ SeqAt2 H wa (ws.map V.int) ∧ (1 ≤ ws.length ∧ ws.length ≤ 200) ∧ (∀ z ∈ ws, 0 ≤ z ∧ z < n) ∧
  ∀ v H', Same H H' → TriAt H' v f ws → Q v H'
section
variable {P : Program} {w : World} {K : PySem.W.Frag} {mg : Str → Option Value} {base : Heap} {CT CO CR : Addr}
theorem scTri : FnScope nTri ["row", "word"] (defScope sTriangle) := ⟨rfl, rfl, rfl, by decide +kernel, rfl, by decide +kernel, by decide +kernel⟩
theorem cl_tri (D : Dd K mg "triangle" sTriangle ["row", "word"]) (T : Tx K mg CT CO CR) (C1 : Cl P w K mg base 1 "need_row" (spNeedRow CT)) (C2 : Cl P w K mg base 5 "need_word" spNeedWord) (C3 : Cl P w K mg base 2 "need_two_ways" (spNeedTwo CT))
    (C4 : Mm P w K mg base 3 "OneWay" CO (spOne P w CT CO)) (C5 : Mt P w K mg base 2 CO "begin" (spOneBegin P w CT CO)) (C6 : Cl P w K mg base 3 "one_tick" (spOneTick P w CT CO)) (C7 : Cl P w K mg base 1 "slanted" spSlanted) :
    ClF P w K mg base 6 "triangle" sTriangle ["row", "word"] (spTri P w CT) := by
  refine clF_of D scTri (fun vs H Q E h => ?_) (fun fa cdv A outer s H vs Q E hr h => ?_)
  · obtain ⟨p, wa, f, n, ws, rfl, _⟩ := h
    rfl
  · obtain ⟨p, wa, f, n, ws, rfl, ht, hw, ⟨m1, m2⟩, hws, q⟩ := h
    refine ⟨_, pss_cons (ps_expr (pe_cl C1 (hr.mono (by omega)) (by rfl) (pa_cons (pv 0) (pa_cons pe_str pa_nil))))
      (pss_cons (ps_set (i := 2) scTri.nd rfl (Or.inl rfl) (pe_cl C2 hr (by rfl) (pa_cons (pv 1) (pa_cons (pe_fld (pv 0) (by rfl)) (pa_cons pe_str pa_nil)))))
      (pss_cons (ps_expr (pe_cl C3 (hr.mono (by omega)) (by rfl) (pa_cons (pv 0) pa_nil)))
      (pss_cons (ps_asg (pe_tup (pa_cons (pe_mm C4 (hr.mono (by omega)) (by rfl) (pa_cons (pv 0) pa_nil)) (pa_cons (pe_callB call_len_seq (by rfl) T.len bt_len (pa_cons (pv 2) pa_nil)) pa_nil)))
          (pg_tup rfl (pgs_cons (pg_name (i := 3) scTri.nd rfl (Or.inr rfl)) (pgs_cons (pg_name (i := 4) scTri.nd rfl (Or.inr rfl)) pgs_nil))))
      (pss_cons (ps_set (i := 5) scTri.nd rfl (Or.inr rfl) (pe_lst (pa_cons (pe_lc (own := [("letter", 8)]) (g := gName 8) (tt := tYes) rfl scTri.nd (pi_tup (pv 2)) (blkOk_by (N := nTri) (sc := defScope sTriangle) (by decide +kernel))
          (fun _ _ _ _ _ => pg_name (i := 8) scTri.nd rfl (Or.inl rfl)) (fun _ _ _ _ _ => pts_nil) (fun _ _ _ _ _ => pe_me C5 (hr.mono (by omega)) (pv 3) (pa_cons (pv 8) pa_nil))) pa_nil)))
      (pss_cons (ps_for PassesOwn.never rfl (pi_range1 (by rfl) T.range (pa_cons (pe_op op_mul pe_int (pv 4)) pa_nil)) (pg_name (i := 6) scTri.nd rfl (Or.inl rfl))
          (pss_one (ps_expr (pe_app (pv 5) (pe_cl C6 (hr.mono (by omega)) (by rfl) (pa_cons (pv 3) (pa_cons (pe_ix ix_list (pv 5) (pe_un un_neg pe_int) (by intro _ _; rfl)) pa_nil)))))))
      (pss_cons (ps_setLc (i := 7) (own := [("tick", 9)]) (g := gName 9) (tt := tYes) rfl scTri.nd rfl rfl (sw_true rfl rfl rfl rfl) (pi_range1 (by rfl) T.range (pa_cons (pv 4) pa_nil)) (blkOk_by (N := nTri) (sc := defScope sTriangle) (by decide +kernel))
          (fun _ _ _ _ _ => pg_name (i := 9) scTri.nd rfl (Or.inr rfl)) (fun _ _ _ _ _ => pts_nil)
          (fun _ _ _ _ _ => pe_lc (own := [("cell", 10)]) (g := gName 10) (tt := tYes) rfl scTri.nd (pi_range1 (by rfl) T.range (pa_cons (pe_op op_sub (pv 4) (pv 9)) pa_nil))
            (blkOk_by (N := nTri) (sc := relS (scOf (valOf (nth sTriangle 6))) (defScope sTriangle)) (by decide +kernel))
            (fun _ _ _ _ _ => pg_name (i := 10) scTri.nd rfl (Or.inl rfl)) (fun _ _ _ _ _ => pts_nil) (fun _ _ _ _ _ => pe_cl C7 (hr.mono (by omega)) (by rfl) (pa_cons (pv 10) (pa_cons (pv 9) pa_nil)))))
      (pss_one (ps_ret (pe_callTy (call_tupK (K := K) rfl) (by rfl) T.tuple bt_tuple (pa_cons (pe_lc (own := [("row_of", 11)]) (g := gName 11) (tt := tYes) rfl scTri.nd (pi_list (pv 7)) (blkOk_by (N := nTri) (sc := defScope sTriangle) (by decide +kernel))
          (fun _ _ _ _ _ => pg_name (i := 11) scTri.nd rfl (Or.inl rfl)) (fun _ _ _ _ _ => pts_nil)
          (fun _ _ _ _ _ => pe_callTy (call_tupK (K := K) rfl) (by rfl) T.tuple bt_tuple (pa_cons (pe_lc (own := [("where", 12), ("when", 13)]) (g := gTup K 2 (gCons (gName 12) (gCons (gName 13) gNil))) (tt := tYes) rfl scTri.nd (pi_listK (K := K) rfl (pv 11))
            (blkOk_by (N := nTri) (sc := relS (scOf (argOf (valOf (nth sTriangle 7)) 0)) (defScope sTriangle)) (by decide +kernel))
            (fun _ _ _ _ _ => pg_tup rfl (pgs_cons (pg_name (i := 12) scTri.nd rfl (Or.inl rfl)) (pgs_cons (pg_name (i := 13) scTri.nd rfl (Or.inl rfl)) pgs_nil))) (fun _ _ _ _ _ => pts_nil)
            (fun _ _ _ _ _ => pe_ix (ix_tupK (K := K) rfl) (pe_ix (ix_listK (K := K) rfl) (pe_ix (ix_listK (K := K) rfl) (pv 5) (pv 13) (by intro _ _; rfl)) (pv 12) (by intro _ _; rfl)) pe_int (by intro _ _; rfl))) pa_nil))) pa_nil)))))))))), ?_⟩
    have len : (ws.map V.int).length = ws.length := List.length_map ..
    have big : (500 : Nat) ≤ sizeLine := by decide
    obtain ⟨dxp, wo, rl, yl, d, xs, h1, h2, h3, h4⟩ := id ht
    refine ⟨_, rfl, p, _, rfl, ht.obj, ?_⟩
    refine ⟨_, rfl, _, rfl, p, CT, dxp, _, _, rfl, h1, T.clT, T.tLetters, tabF_letters .., wa, ws, n, _, rfl, hw, m1, m2, hws, fun lp H1 s1 hl => ?_⟩
    refine ⟨_, rfl, p, rfl, (ht.same s1).obj, ?_⟩
    refine ⟨_, rfl, fun x dx nx ndx hne => ⟨x, p, dx, f, n, rfl, upd_same, (ht.same s1).same (make_same nx ndx), fun H2 s2 o2 => ⟨rfl, ?_⟩⟩⟩
    have s12 := made_same nx ndx s2
    refine ⟨_, rfl, lp, _, rfl, .inr (SqT.of (s12 _ _ hl)), (by show 2 ≤ sizeLine; decide), fun tp np => ?_⟩
    refine ⟨tp, _, rfl, SqT.of upd_same, rfl, _, _, rfl, _, _, rfl, rfl, ?_⟩
    rw [len]
    have s23 : Same H2 (upd H2 tp (.tup [.ref x, .int ((ws.map V.int).length : Nat)])) := Same.new15 np
    rw [len] at s23
    generalize upd H2 tp (.tup [.ref x, .int (ws.length : Nat)]) = H3 at s23
    have hl3 := s23 _ _ (s12 _ _ hl)
    have o3 := o2.same s23
    have s03 : Same H H3 := (s1.trans s12).trans s23
    -- strip
    refine ⟨_, rfl, lp, rfl, ⟨_, SqT.of hl3⟩, fun D nD => ?_⟩
    refine lcT (K := K) (xs := ws.map V.int) (fun i y H => ∃ t : Addr × OW, y = V.ref t.1 ∧ (made f ws 0)[i]? = some t.2 ∧ H t.1 = some (.tup (owV t.2))) (fun j y H H' ⟨t, h1, h2, h3⟩ sm => ⟨t, h1, h2, sm _ _ h3⟩)
      (SqT.of hl3) nD (by rw [len]; omega) (fun H2 s => SqT.of (s _ _ hl3)) (fun i v H5 k hv s5 hD kk => ?_) fun H5 ys s5 e5 ly hy => ?_
    · rw [List.getElem?_map] at hv
      obtain ⟨z, hz, rfl⟩ := Option.map_eq_some_iff.mp hv
      obtain ⟨dx3, q3, n3, hx1, hx2⟩ := o3.same s5.of_hide15
      refine ⟨rfl, _, rfl, x, dx3, _, rfl, hx1, oneF_no _ _ (by decide +kernel), _, rfl, x, f, z, rfl, ⟨dx3, q3, n3, hx1, hx2⟩, fun cp H6 s6 nc hc => ?_⟩
      obtain ⟨ysD, hD⟩ := hD
      exact kk _ _ s6 ⟨(cp, .wait z), rfl, by show (ws.map OW.wait)[i]? = _; rw [List.getElem?_map, hz]; rfl, hide_at (ne_obj hc (s6 _ _ hD) (fun z => by cases z)) hc⟩
    have row0 : RowO H5 (.ref D) (made f ws 0) := rowO_of e5 (by rw [ly, len]; exact (made_len f ws 0).symm) hy
    have s35 : Same H3 H5 := s5.of_hide15
    refine ⟨(by show 1 ≤ sizeLine; decide), fun l nl => ?_⟩
    have mono : ∀ j y H H', RowO H y (made f ws j) → Same H H' → RowO H' y (made f ws j) := fun j y H H' h s => h.same s
    have L0 : LcI H5 l (fun j y H => RowO H y (made f ws j)) 1 (upd H5 l (.lst [.ref D])) := lci_one mono (Same.refl _) nl row0
    generalize upd H5 l (.lst [.ref D]) = H6 at L0
    -- for
    have em : (2 * (ws.length : Int)).toNat = 2 * ws.length := by omega
    refine ⟨_, rfl, 2, (ws.length : Int), rfl, rfl, .inl ⟨by decide, by decide⟩, 2 * (ws.length : Int), rfl, by omega, by omega, ?_⟩
    rw [em]
    refine for_range0 (fun i σ H => (∃ u : Option V, σ = [some (.ref p), some (.ref wa), some (.ref lp), some (.ref x), some (.int (ws.length : Nat)), some (.ref l), u, none, none, none, none, none, none, none]) ∧ LcI H5 l (fun j y H => RowO H y (made f ws j)) (i + 1) H)
      ⟨⟨none, rfl⟩, L0⟩ (fun i σ H7 hi ⟨⟨u, eσ⟩, L⟩ => ?_) fun σ H7 ⟨⟨u, eσ⟩, L⟩ => ?_
    · subst eσ
      obtain ⟨zs, lz, eL, sL, hz⟩ := id L
      have hlast : zs[i]? = some zs[i] := List.getElem?_eq_getElem (by omega)
      have rl := (hz i _ hlast).same hide_same
      obtain ⟨ra, rts, er, _⟩ := id rl
      refine ⟨_, rfl, .inl ⟨rfl, zs, SqL.of eL⟩, _, rfl, _, rfl, _, rfl, l, zs, -1, zs[i], rfl, rfl, SqL.of eL, atI_last lz hlast, ?_⟩
      rw [er] at rl ⊢
      refine ⟨x, ra, f, made f ws i, rfl, o3.same (s35.trans sL.of_hide15), rl, by rw [made_len]; omega, fun np2 H8 s8 nn hr8 => ?_⟩
      have ne8 : np2 ≠ l := fun e => by rw [e, eL] at nn; cases nn
      have rh : RowO (hide l H8) (.ref np2) (made f ws (i + 1)) := by
        obtain ⟨l2, ts2, e2, k1, k2, k3⟩ := hr8
        cases e2
        exact ⟨np2, ts2, rfl, hide_at ne8 k1, fun t ht => hide_at (ne_obj (k2 t ht) (s8 _ _ eL) (fun z => by cases z)) (k2 t ht), k3⟩
      obtain ⟨acc, ea, za, La⟩ := lci_next mono (by omega) L s8 rh
      exact ⟨l, acc, _, rfl, rfl, ea, za, ⟨_, rfl⟩, La⟩
    subst eσ
    -- places
    obtain ⟨zs, lz, eL, sL, hz⟩ := id L
    have s07 : Same H H7 := (s03.trans s35).trans sL.of_hide15
    refine ⟨_, rfl, (ws.length : Int), rfl, by omega, by omega, fun D2 nD2 => ?_⟩
    rw [Int.toNat_natCast]
    refine lcR0 (fun i y H => PlAt ws.length i H y) (fun j y H H' h s => h.same s) nD2 (by omega) (fun t H8 k ht8 s8 hD8 kk => ?_) fun H8 ys8 s8 e8 ly8 hy8 => ?_
    · refine ⟨rfl, _, rfl, _, rfl, (ws.length : Int), (t : Int), rfl, rfl, (ws.length : Int) - (t : Int), rfl, by omega, by omega, fun D3 nD3 => ?_⟩
      have e9 : ((ws.length : Int) - (t : Int)).toNat = ws.length - t := by omega
      rw [e9]
      refine lcR0 (fun c y H => ∃ a : Addr, y = V.ref a ∧ H a = some (.tup [.int ((c + t : Nat) : Int), .int ((2 * t + c + 1 : Nat) : Int)])) (fun j y H H' ⟨a, h1, h2⟩ s => ⟨a, h1, s _ _ h2⟩) nD3 (by omega) (fun c H9 k9 hc9 s9 hD9 kk9 => ?_) fun H9 ys9 s9 e9 ly9 hy9 => ?_
      · refine ⟨rfl, _, rfl, _, rfl, c, t, rfl, fun np3 H10 s10 n10 h10 => ?_⟩
        obtain ⟨ysD, hD⟩ := hD9
        exact kk9 _ _ s10 ⟨np3, rfl, hide_at (ne_obj h10 (s10 _ _ hD) (fun z => by cases z)) h10⟩
      · obtain ⟨as, ea, la, ha⟩ := addrs_of hy9
        obtain ⟨ysD, hD⟩ := hD8
        have s89 : Same H8 H9 := s9.of_hide15
        have hD9 := s89 _ _ hD
        have n93 : D3 ≠ D2 := fun z => by rw [z, hD] at nD3; cases nD3
        exact kk _ _ s89 ⟨D3, as, rfl, hide_at n93 (by rw [e9, ea]), by rw [la, ly9], fun c b hb => hide_at (ne_obj (hide_get (ha c b hb)).1 hD9 (fun z => by cases z)) (hide_get (ha c b hb)).1⟩
    -- the tuples
    have s78 : Same H7 H8 := s8.of_hide15
    have eL8 := s78 _ _ eL
    refine ⟨_, rfl, D2, rfl, ⟨_, SqL.of e8⟩, fun D4 nD4 => ?_⟩
    refine lcL (K := K) (xs := ys8) (fun t y H => ∃ a : Addr, y = V.ref a ∧ H a = some (.tup ((List.range (ws.length - t)).map fun c => V.int (du f ws t c)))) (fun j y H H' ⟨a, h1, h2⟩ s => ⟨a, h1, s _ _ h2⟩)
      (SqL.of e8) nD4 (by omega) (fun t v H9 k hv s9 hD9 kk => ?_) fun H9 ys9 s9 e9 ly9 hy9 => ?_
    · have ht : t < ws.length := by rw [← ly8]; exact (List.getElem?_eq_some_iff.mp hv).1
      have s89 : Same H8 H9 := s9.of_hide15
      obtain ⟨a, as, rfl, ha, la, has⟩ := ((hy8 t v hv).same hide_same).same s89
      refine ⟨rfl, _, rfl, a, rfl, ⟨_, SqL.of ha⟩, fun D5 nD5 => ?_⟩
      refine lcL (K := K) (xs := as.map V.ref) (fun c y H => y = V.int (du f ws t c)) (fun j y H H' h s => h) (SqL.of ha) nD5 (by rw [List.length_map]; omega) (fun c v2 H10 k10 hv2 s10 hD10 kk10 => ?_) fun H10 ys10 s10 e10 ly10 hy10 => ?_
      · rw [List.getElem?_map] at hv2
        obtain ⟨b, hb, rfl⟩ := Option.map_eq_some_iff.mp hv2
        have hc : c < ws.length - t := by rw [← la]; exact (List.getElem?_eq_some_iff.mp hb).1
        have s910 : Same H9 H10 := s10.of_hide15
        obtain ⟨o1, o2, eo⟩ := told_slant f ws c t
        have hrow : zs[2 * t + c + 1]? = some zs[2 * t + c + 1] := List.getElem?_eq_getElem (by omega)
        have hro := (((hz _ _ hrow).same hide_same).same s78).same (s89.trans s910)
        have hcell := made_get f ws (2 * t + c + 1) (c + t) (by omega)
        rw [eo] at hcell
        obtain ⟨rl2, rxs, ra, er, k1, k2, k3⟩ := rowO_at hro hcell
        refine ⟨b, _, rfl, SqT.of (s910 _ _ (has c b hb)), rfl, _, _, rfl, _, _, rfl, rfl, rfl, ?_⟩
        refine ⟨_, rfl, _, rfl, l, zs, _, _, rfl, rfl, SqL.of ((s89.trans s910) _ _ eL8), atI_nat hrow, _, rfl, rl2, rxs, _, _, er, rfl, SqL.of k1, atI_nat k2, ra, _, 1, _, rfl, rfl, SqT.of k3, (rfl : atI (owV (.work (some (du f ws t c)) o1 o2)) 1 = some (V.int (du f ws t c))), kk10 _ _ (Same.refl _) rfl⟩
      · have s910 : Same H9 H10 := s10.of_hide15
        refine ⟨D5, ys10, rfl, .inl ⟨SqL.of e10, fun tl ntl => ?_⟩⟩
        have ey : ys10 = (List.range (ws.length - t)).map fun c => V.int (du f ws t c) := List.ext_getElem? fun j => by
          by_cases hj : j < ys10.length
          · rw [List.getElem?_map, List.getElem?_range (by rw [ly10, List.length_map, la] at hj; exact hj), List.getElem?_eq_getElem hj]
            exact congrArg some (hy10 j _ (List.getElem?_eq_getElem hj))
          · rw [List.getElem?_eq_none (by omega), List.getElem?_eq_none (by rw [List.length_map, List.length_range]; rw [ly10, List.length_map, la] at hj; omega)]
        obtain ⟨ysD, hD⟩ := hD9
        exact kk _ _ (s910.upd15 ntl) ⟨tl, rfl, hide_at (ne_of_none (s910 _ _ hD) ntl).symm (by rw [upd_same, ey])⟩
    · obtain ⟨rs, er, lr, hrs⟩ := addrs_of hy9
      refine ⟨D4, ys9, rfl, .inl ⟨SqL.of e9, fun tl ntl => ?_⟩⟩
      have s89 : Same H8 H9 := s9.of_hide15
      refine q _ _ (((s07.trans s78).trans s89).upd15 ntl) ⟨tl, rs, rfl, by rw [upd_same, er], by rw [lr, ly9, ly8], fun t a ha => ?_⟩
      exact (Same.new15 ntl) _ _ (hide_get (hrs t a ha)).1
end
end K15
end

section
set_option Elab.async false
set_option linter.all false
set_option maxRecDepth 100000
set_option maxHeartbeats 2000000
/-! The law's drawing. -/
namespace K15
open PySem PySem.W PySem.Spec PyProof.Rows L2

/-- the ramp at p, its list at l, drawn from at most b times -/
def RampP (H : Hp) (p l : Addr) (b : Int) : Prop := ∃ lap rest : Int, H p = some (.lst [.ref l, .int lap, .int rest]) ∧ 0 ≤ lap ∧ lap ≤ b
def RampL (G : Hp) (l : Addr) : Prop := ∃ ms : List Int, G l = some (.lst (ms.map V.int)) ∧ ms.length ≤ 1000
theorem RampP.same {H H' : Hp} {p l : Addr} {b : Int} (r : RampP H p l b) (s : Same H H') : RampP H' p l b := let ⟨lap, rest, h1, h⟩ := r; ⟨lap, rest, s _ _ h1, h⟩
theorem RampP.mono {H : Hp} {p l : Addr} {b c : Int} (r : RampP H p l b) (h : b ≤ c) : RampP H p l c := let ⟨lap, rest, h1, h2, h3⟩ := r; ⟨lap, rest, h1, h2, by omega⟩
theorem RampP.upd {H : Hp} {p l D : Addr} {o : HO} {b : Int} (r : RampP H p l b) (h : D ≠ p) : RampP (upd H D o) p l b := let ⟨lap, rest, h1, h2⟩ := r; ⟨lap, rest, (upd_ne h.symm).trans h1, h2⟩
theorem RampL.same {G G' : Hp} {l : Addr} (r : RampL G l) (s : Same G G') : RampL G' l := let ⟨ms, h1, h2⟩ := r; ⟨ms, s _ _ h1, h2⟩
def spRamp (K : PySem.W.Frag) : Sp := fun vs H Q _ => ∃ (a : Addr) (ns : List Int), vs = [.ref a] ∧ SqL K H a (ns.map V.int) ∧ ns.length ≤ 1000 ∧ ∀ p l H', Same H H' → H p = none → RampP H' p l 0 → RampL (hide p H') l → Q (.ref p) H'
def spRoll : Sp := fun vs H Q _ => ∃ (p l : Addr) (m b : Int), vs = [.ref p, .int m] ∧ RampP H p l b ∧ RampL (hide p H) l ∧ (0 < m ∧ m < 1073741824) ∧ b ≤ 1000000 ∧ ∀ r H', 0 ≤ r → r < m → Same (hide p H) (hide p H') → RampP H' p l (b + 1) → Q (.int r) H'
def spOf : Sp := fun vs H Q _ => ∃ (p l a : Addr) (xs : List Int) (b : Int), vs = [.ref p, .ref a] ∧ RampP H p l b ∧ RampL (hide p H) l ∧ hide p H a = some (.lst (xs.map V.int)) ∧ (xs ≠ [] ∧ xs.length < 1073741824) ∧ b ≤ 1000000 ∧ ∀ x H', x ∈ xs → Same (hide p H) (hide p H') → RampP H' p l (b + 1) → Q (.int x) H'
theorem bt_int2 : bootBuiltins "int" = some (.type "int") := bt_int
theorem canLay_ints (ns : List Int) : PyData.canLayAll0 (ns.map PyData.int) = true := by
  induction ns with
  | nil => simp [PyData.canLayAll0]
  | cons n ns ih => rw [List.map_cons]; simp [PyData.canLayAll0, PyData.canLay0, ih]
theorem depth_ints (ns : List Int) : PyData.depthAll (ns.map PyData.int) = 0 := by
  induction ns with
  | nil => simp [PyData.depthAll]
  | cons n ns ih => rw [List.map_cons]; simp [PyData.depthAll, PyData.depth, ih]
theorem shaped_ints (ns : List Int) : SeqAt.shaped (.list (ns.map PyData.int)) = true := by
  unfold SeqAt.shaped
  simp [PyData.canLay0, PyData.depth, canLay_ints, depth_ints]
theorem dp_ints {K : PySem.W.Frag} {H : Hp} : ∀ ns : List Int, DpAll K H (ns.map V.int) (ns.map PyData.int)
  | [] => .nil
  | n :: ns => .cons (.int n) (dp_ints ns)
section
variable {P : Program} {w : World} {K : PySem.W.Frag} {mg : Str → Option Value} {base : Heap} {CT CO CR : Addr}
abbrev nRamp : List Str := ["_law_script", "_law_cell"]
theorem scRamp : FnScope nRamp ["_law_script"] (defScope sRamp) := ⟨rfl, rfl, rfl, by decide +kernel, rfl, by decide +kernel, by decide +kernel⟩
theorem cl_ramp (D : Dd K mg "_law_ramp" sRamp ["_law_script"]) (T : Tx K mg CT CO CR) : Cl P w K mg base 1 "_law_ramp" (spRamp K) := by
  refine cl_of D scRamp (fun vs H Q E h => ?_) (fun fa cdv A outer s H vs Q E hr h => ?_)
  · obtain ⟨a, ns, rfl, _⟩ := h
    rfl
  · obtain ⟨a, ns, rfl, ha, hz, q⟩ := h
    refine ⟨_, pss_one (ps_ret (pe_lst (pa_cons (pe_lc (own := [("_law_cell", 1)]) (g := gName 1) (tt := tYes) rfl scRamp.nd (pi_list (pe_slice sl_list (pv 0) po_none (po_some pe_int))) (blkOk_by (N := nRamp) (sc := defScope sRamp) (by decide +kernel))
        (fun _ _ _ _ _ => pg_name (i := 1) scRamp.nd rfl (Or.inl rfl)) (fun _ _ _ _ _ => pts_nil) (fun _ _ _ _ _ => pe_callTy call_int1 (by rfl) T.int bt_int (pa_cons (pv 1) pa_nil))) (pa_cons pe_int (pa_cons pe_int pa_nil))))), ?_⟩
    have big : (1000 : Nat) ≤ sizeLine := by decide
    refine ⟨_, rfl, 60, rfl, a, _, rfl, ha, fun p np => ?_⟩
    have es : ∃ ms : List Int, cutV (ns.map V.int) none (some 60) = ms.map V.int ∧ ms.length ≤ 1000 := by
      unfold cutV
      refine ⟨(ns.drop _).take _, by rw [List.map_take, List.map_drop], ?_⟩
      rw [List.length_take, List.length_drop]
      omega
    obtain ⟨ms, ems, lms⟩ := es
    rw [ems]
    have s1 : Same H (upd H p (.lst (ms.map V.int))) := Same.new15 np
    have e1 : upd H p (.lst (ms.map V.int)) p = some (.lst (ms.map V.int)) := upd_same
    generalize upd H p (.lst (ms.map V.int)) = H1 at s1 e1
    have len : (ms.map V.int).length = ms.length := List.length_map ..
    refine ⟨p, rfl, ⟨_, SqL.of e1⟩, fun D nD => ?_⟩
    refine lcL (K := K) (xs := ms.map V.int) (fun i y _ => (ms.map V.int)[i]? = some y) (fun _ _ _ _ e _ => e) (SqL.of e1) nD (by rw [len]; omega) (fun i x H2 k hx s2 _ kk => ?_) fun H2 ys s2 e2 ly hy => ?_
    · have hx' := hx
      rw [List.getElem?_map] at hx
      obtain ⟨z, hz, rfl⟩ := Option.map_eq_some_iff.mp hx
      exact ⟨rfl, _, rfl, .inl ⟨z, rfl, kk _ _ (Same.refl _) hx'⟩⟩
    · have ey : ys = ms.map V.int := List.ext_getElem? fun j => by
        by_cases hj : j < ys.length
        · rw [hy j ys[j] (List.getElem?_eq_getElem hj), List.getElem?_eq_getElem hj]
        · rw [List.getElem?_eq_none (by omega), List.getElem?_eq_none (by omega)]
      refine ⟨(by show 3 ≤ sizeLine; omega), fun rp nrp => ?_⟩
      have s12 : Same H H2 := s1.trans s2.of_hide15
      exact q rp D _ (s12.upd15 nrp) (s12.free nrp) ⟨0, 0, upd_same, by omega, by omega⟩ ⟨ms, hide_at (ne_of_none e2 nrp) ((upd_ne (ne_of_none e2 nrp)).trans (by rw [e2, ey])), lms⟩
abbrev nRoll : List Str := ["_law_ramp_here", "_law_many", "_law_rest", "_law_lap", "_law_cell", "_law_mixed"]
theorem scRoll : FnScope nRoll ["_law_ramp_here", "_law_many"] (defScope sRoll) := ⟨rfl, rfl, rfl, by decide +kernel, rfl, by decide +kernel, by decide +kernel⟩
theorem ps_rampSet {X : Cx} {o i e : Expr} {to ti te : TE} {p1 p2 : Pos} (he : PE X e te) (ho : PE X o to) (hi : PE X i ti)
    (ha : ∀ v, assign (.Subscript o i p1) X.env v = (do
      let ov ← holding [v] (eval o X.env)
      let iv ← holding [v, ov] (eval i X.env)
      standAt p1
      holding [v, ov, iv] (setItem ov iv v)
      release [v, ov, iv] []) := by intro _; rfl)
    (hs : swapsWithSole [.Subscript o i p1] e p2.line X.env = pure false := by rfl) (hw : swappedStores [.Subscript o i p1] e X.env = pure none := by rfl) (h1 : (assignEach [.Subscript o i p1] X.env).map (·.2) = [assign (.Subscript o i p1) X.env] := by rfl) :
    PS X (.Assign [.Subscript o i p1] e p2) (tAsg te (gSub to ti rSetL)) := ps_asg he (pg_sub ho hi set_list ha) hs hw h1
theorem cl_roll (D : Dd K mg "_law_roll" sRoll ["_law_ramp_here", "_law_many"]) (T : Tx K mg CT CO CR) : Cl P w K mg base 1 "_law_roll" spRoll := by
  refine cl_of D scRoll (fun vs H Q E h => ?_) (fun fa cdv A outer s H vs Q E hr h => ?_)
  · obtain ⟨p, l, m, b, rfl, _⟩ := h
    rfl
  · obtain ⟨p, l, m, b, rfl, ⟨lap, rest, hp, b0, b1⟩, ⟨ms, hgl, b2⟩, ⟨m0, m1⟩, hb, q⟩ := h
    obtain ⟨hl, hne⟩ := hide_get hgl
    have hu := hr.units
    obtain ⟨X, eX⟩ : ∃ X, X = (cxOf CX0 P w K mg base nRoll "_law_roll" (defScope sRoll) fa cdv A outer s H E).nox := ⟨_, rfl⟩
    obtain ⟨t3, P3, R3⟩ : ∃ t3, PSs (cxOf CX0 P w K mg base nRoll "_law_roll" (defScope sRoll) fa cdv A outer s H E).nox ((defBody sRoll).drop 6) t3 ∧
        ∀ (cell : Int) (u v : Option V) (H3 : Hp), (∀ r, 0 ≤ r → r < m → Q (.int r) H3) → t3 { nx := fun _ H' => Q .non H', rt := Q } [some (.ref p), some (.int m), u, some (.int lap), some (.int cell), v] H3 := by
      refine ⟨_, pss_cons (ps_set (i := 5) scRoll.nd rfl (Or.inl rfl) (pe_op op_mod (pe_callTy call_int1 (by rfl) T.int bt_int (pa_cons (pe_op op_pow (pe_op op_add (pe_op op_add (pe_op op_mod (pe_callTy call_int1 (by rfl) T.int bt_int (pa_cons (pv 4) pa_nil)) pe_int) (pe_op op_mul pe_int (pv 3))) pe_int) pe_int) pa_nil)) pe_int))
        (pss_cons (ps_set (i := 5) scRoll.nd rfl (Or.inl rfl) (pe_op op_mod (pe_callTy call_int1 (by rfl) T.int bt_int (pa_cons (pe_op op_pow (pe_op op_add (pe_op op_add (pe_op op_mul (pv 5) (pe_op op_add (pe_op op_mul pe_int (pv 3)) pe_int)) (pe_op op_mul (pe_op op_mul pe_int (pv 3)) (pv 3))) pe_int) pe_int) pa_nil)) pe_int))
        (pss_one (ps_ret (pe_op op_mod (pe_callTy call_int1 (by rfl) T.int bt_int (pa_cons (pe_op op_fdiv (pv 5) pe_int) pa_nil)) (pv 1))))), fun cell u v H3 hq => ?_⟩
      have c0 : (0:Int) ≤ cell % 2147483549 := Int.emod_nonneg _ (by decide)
      have c1 : cell % 2147483549 < 2147483549 := Int.emod_lt_of_pos _ (by decide)
      have small : (cell % 2147483549 + 43019 * lap + 9677).natAbs < 2 ^ 64 := by omega
      refine ⟨_, rfl, .inl ⟨cell, rfl, _, _, rfl, rfl, (by show (0:Int) < 2147483549; decide), _, rfl, _, _, rfl, rfl, .inl ⟨by decide, by decide⟩, _, _, rfl, rfl, _, _, rfl, rfl, _, _, rfl, rfl, ⟨by decide, by decide, small⟩, .inl ⟨_, rfl, _, _, rfl, rfl, (by show (0:Int) < 2147483543; decide), ?_⟩⟩⟩
      obtain ⟨mx, em⟩ : ∃ mx, mx = (cell % 2147483549 + 43019 * lap + 9677) ^ (5 : Int).toNat % 2147483543 := ⟨_, rfl⟩
      have d0 : (0:Int) ≤ mx := by rw [em]; exact Int.emod_nonneg _ (by decide)
      have d1 : mx < 2147483543 := by rw [em]; exact Int.emod_lt_of_pos _ (by decide)
      have k1 : mx * (2 * lap + 4337) ≤ 2147483543 * 2004337 := Int.mul_le_mul (by omega) (by omega) (by omega) (by decide)
      have k2 : 0 ≤ mx * (2 * lap + 4337) := Int.mul_nonneg d0 (by omega)
      have k3 : 73037 * lap * lap ≤ 73037000000 * 1000000 := Int.mul_le_mul (by omega) (by omega) (by omega) (by decide)
      have k4 : 0 ≤ 73037 * lap * lap := Int.mul_nonneg (by omega) (by omega)
      have small2 : (mx * (2 * lap + 4337) + 73037 * lap * lap + 43019).natAbs < 2 ^ 64 := by omega
      subst em
      refine ⟨_, rfl, _, rfl, _, _, rfl, rfl, .inl ⟨by decide, by decide⟩, _, _, rfl, rfl, _, _, rfl, rfl, .inl ⟨by omega, by omega⟩, _, rfl, _, _, rfl, rfl, .inl ⟨by decide, by decide⟩, _, rfl, _, _, rfl, rfl, .inr ⟨by omega, by omega⟩,
        _, _, rfl, rfl, _, _, rfl, rfl, _, _, rfl, rfl, ⟨by decide, by decide, small2⟩, .inl ⟨_, rfl, _, _, rfl, rfl, (by show (0:Int) < 2147483497; decide), ?_⟩⟩
      refine ⟨_, rfl, _, _, rfl, rfl, ⟨by decide, by decide⟩, .inl ⟨_, rfl, _, rfl, _, _, rfl, rfl, m0, ?_⟩⟩
      exact hq _ (Int.emod_nonneg _ (by omega)) (Int.emod_lt_of_pos _ m0)
    obtain ⟨t2, P2, R2⟩ : ∃ t2, PSs (cxOf CX0 P w K mg base nRoll "_law_roll" (defScope sRoll) fa cdv A outer s H E).nox ((defBody sRoll).drop 5) t2 ∧
        ∀ (cell : Int) (u v : Option V) (H3 : Hp), H3 p = some (.lst [.ref l, .int (lap + 1), .int rest]) → H3 l = some (.lst (ms.map V.int)) → (∀ r H4, 0 ≤ r → r < m → Same (hide p H3) (hide p H4) → RampP H4 p l (b + 1) → Q (.int r) H4) →
          t2 { nx := fun _ H' => Q .non H', rt := Q } [some (.ref p), some (.int m), u, some (.int lap), some (.int cell), v] H3 := by
      refine ⟨_, pss_cons (ps_if (PW.pt (pw_and (pt_cmp (pc_lt (pv 3) (pe_callB call_len_seq (by rfl) T.len bt_len (pa_cons (pe_ix ix_list (pv 0) pe_int (by intro _ _; rfl)) pa_nil)))) (pw_and1 (pt_cmp (pc_ge (pe_callB call_abs (by rfl) T.abs bt_abs (pa_cons (pv 4) pa_nil)) (pe_op op_pow pe_int pe_int))))))
          (pss_cons (ps_set (i := 2) scRoll.nd rfl (Or.inl rfl) (pe_op op_add (pe_op op_mul pe_int (pe_op op_sub (pe_callB call_abs (by rfl) T.abs bt_abs (pa_cons (pv 4) pa_nil)) (pe_op op_pow pe_int pe_int))) (pe_callTy call_int1 (by rfl) T.int bt_int (pa_cons (pe_cmp (pc_lt (pv 4) pe_int)) pa_nil))))
          (pss_cons (ps_rampSet (pe_op op_fdiv (pv 2) (pv 1)) (pv 0) pe_int)
          (pss_one (ps_ret (pe_op op_mod (pe_callTy call_int1 (by rfl) T.int bt_int (pa_cons (pv 2) pa_nil)) (pv 1)))))) pss_nil) P3, fun cell u v H3 h3 h3l hq => ?_⟩
      have len : (ms.map V.int).length = ms.length := List.length_map ..
      have go : ∀ (w2 : Option V), t3 { nx := fun _ H' => Q .non H', rt := Q } [some (.ref p), some (.int m), w2, some (.int lap), some (.int cell), v] H3 := fun w2 =>
        R3 cell w2 v H3 fun r r0 r1 => hq r H3 r0 r1 (Same.refl _) ⟨lap + 1, rest, h3, by omega, by omega⟩
      refine ⟨_, rfl, _, rfl, p, _, 0, _, rfl, rfl, SqL.of h3, (rfl : atI [V.ref l, .int (lap + 1), .int rest] 0 = some (V.ref l)), l, _, rfl, .inl (SqL.of h3l), _, _, rfl, rfl, decide (lap < ((ms.map V.int).length : Int)), rfl, ?_⟩
      by_cases hlt : lap < ((ms.map V.int).length : Int)
      · rw [decide_eq_true hlt]
        refine iteT ⟨_, rfl, cell, rfl, _, _, rfl, rfl, ⟨by decide, by decide, by decide⟩, _, _, rfl, rfl, decide ((10:Int) ^ (18:Int).toNat ≤ if cell < 0 then -cell else cell), rfl, ?_⟩
        by_cases hge : (10:Int) ^ (18:Int).toNat ≤ if cell < 0 then -cell else cell
        · rw [decide_eq_true hge]
          refine iteT ⟨_, rfl, cell, rfl, _, _, rfl, rfl, ⟨by decide, by decide, by decide⟩, _, _, rfl, rfl, _, _, rfl, rfl, .inl ⟨by decide, by decide⟩, _, rfl, _, _, rfl, rfl, .inr ⟨_, rfl, _, _, rfl, rfl, ?_⟩⟩
          refine ⟨_, rfl, _, rfl, _, m, rfl, rfl, ⟨m0, m1⟩, _, rfl, p, _, 2, 2, rfl, rfl, h3, rfl, ?_⟩
          refine ⟨_, rfl, .inl ⟨_, rfl, _, rfl, _, m, rfl, rfl, m0, ?_⟩⟩
          exact hq _ _ (Int.emod_nonneg _ (by omega)) (Int.emod_lt_of_pos _ m0) (hid_new (Same.refl _)) ⟨lap + 1, _, upd_same, by omega, by omega⟩
        · rw [decide_eq_false hge]
          exact iteF (go u)
      · rw [decide_eq_false hlt]
        exact iteF (iteF (go u))
    refine ⟨_, pss_cons (ps_if (pt_cmp (pc_gt (pe_ix ix_list (pv 0) pe_int (by intro _ _; rfl)) pe_int))
        (pss_cons (ps_set (i := 2) scRoll.nd rfl (Or.inl rfl) (pe_callTy call_int1 (by rfl) T.int bt_int (pa_cons (pe_ix ix_list (pv 0) pe_int (by intro _ _; rfl)) pa_nil)))
        (pss_cons (ps_rampSet (pe_op op_fdiv (pv 2) (pv 1)) (pv 0) pe_int)
        (pss_one (ps_ret (pe_op op_mod (pe_callTy call_int1 (by rfl) T.int bt_int (pa_cons (pv 2) pa_nil)) (pv 1)))))) pss_nil)
      (pss_cons (ps_set (i := 3) scRoll.nd rfl (Or.inl rfl) (pe_ix ix_list (pv 0) pe_int (by intro _ _; rfl)))
      (pss_cons (ps_rampSet (pe_op op_add (pv 3) pe_int) (pv 0) pe_int)
      (pss_cons (ps_set (i := 4) scRoll.nd rfl (Or.inl rfl) (pe_op op_add (pe_op op_mul pe_int (pv 3)) pe_int))
      (pss_cons (ps_if (pt_cmpR (op_neD hu) (pe_ix ix_list (pv 0) pe_int (by intro _ _; rfl)) (pe_lst pa_nil) (nomark _))
        (pss_one (ps_set (i := 4) scRoll.nd rfl (Or.inl rfl) (pe_ix ix_list (pe_ix ix_list (pv 0) pe_int (by intro _ _; rfl)) (pe_op op_mod (pe_callTy call_int1 (by rfl) T.int bt_int (pa_cons (pv 3) pa_nil)) (pe_callB call_len_seq (by rfl) T.len bt_len (pa_cons (pe_ix ix_list (pv 0) pe_int (by intro _ _; rfl)) pa_nil))) (by intro _ _; rfl)))) pss_nil) P2)))), ?_⟩
    refine ⟨_, rfl, p, _, 2, _, rfl, rfl, SqL.of hp, (rfl : atI [V.ref l, .int lap, .int rest] 2 = some (V.int rest)), rest, 0, rfl, rfl, decide (0 < rest), rfl, ?_⟩
    by_cases hrest : 0 < rest
    · rw [decide_eq_true hrest]
      refine iteT ⟨_, rfl, p, _, 2, _, rfl, rfl, SqL.of hp, (rfl : atI [V.ref l, .int lap, .int rest] 2 = some (V.int rest)), .inl ⟨rest, rfl, ?_⟩⟩
      refine ⟨_, rfl, _, rfl, _, m, rfl, rfl, ⟨m0, m1⟩, _, rfl, p, _, 2, 2, rfl, rfl, hp, rfl, ?_⟩
      refine ⟨_, rfl, .inl ⟨_, rfl, _, rfl, _, m, rfl, rfl, m0, ?_⟩⟩
      exact q _ _ (Int.emod_nonneg _ (by omega)) (Int.emod_lt_of_pos _ m0) (hid_new (Same.refl _)) ⟨lap, _, upd_same, by omega, by omega⟩
    · rw [decide_eq_false hrest]
      refine iteF ⟨_, rfl, p, _, 1, _, rfl, rfl, SqL.of hp, (rfl : atI [V.ref l, .int lap, .int rest] 1 = some (V.int lap)), ?_⟩
      refine ⟨_, rfl, lap, 1, rfl, rfl, _, rfl, p, _, 1, 1, rfl, rfl, hp, rfl, ?_⟩
      have e2 : upd H p (.lst ([V.ref l, .int lap, .int rest].set 1 (.int (lap + 1)))) p = some (.lst [.ref l, .int (lap + 1), .int rest]) := upd_same
      have e2l : upd H p (.lst ([V.ref l, .int lap, .int rest].set 1 (.int (lap + 1)))) l = some (.lst (ms.map V.int)) := (upd_ne hne).trans hl
      have s2 : Same (hide p H) (hide p (upd H p (.lst ([V.ref l, .int lap, .int rest].set 1 (.int (lap + 1)))))) := hid_new (Same.refl _)
      generalize upd H p (.lst ([V.ref l, .int lap, .int rest].set 1 (.int (lap + 1)))) = H2 at e2 e2l s2
      refine ⟨_, rfl, 73037, lap, rfl, rfl, .inl ⟨by decide, by decide⟩, _, _, rfl, rfl, ?_⟩
      refine ⟨_, rfl, p, _, 0, _, rfl, rfl, SqL.of e2, (rfl : atI [V.ref l, .int (lap + 1), .int rest] 0 = some (V.ref l)), (by show 0 ≤ sizeLine; decide), fun np nn => ?_⟩
      have s3 : Same H2 (upd H2 np (.lst [])) := Same.new15 nn
      have e4 : upd H2 np (.lst []) np = some (.lst []) := upd_same
      generalize upd H2 np (.lst []) = H3 at s3 e4
      have fin : ∀ r H4, 0 ≤ r → r < m → Same (hide p H3) (hide p H4) → RampP H4 p l (b + 1) → Q (.int r) H4 := fun r H4 r0 r1 s4 ra => q r H4 r0 r1 ((s2.trans s3.hid15).trans s4) ra
      refine ⟨.list (ms.map PyData.int), .list [], .lst (SqL.of (s3 _ _ e2l)) (dp_ints ms), .lst (SqL.of e4) .nil, shaped_ints ms, rfl, _, rfl, ?_⟩
      cases ms with
      | nil => exact R2 _ _ _ H3 (s3 _ _ e2) (s3 _ _ e2l) fin
      | cons z zs =>
        have e3 := s3 _ _ e2
        have e3l := s3 _ _ e2l
        have i0 : (0:Int) ≤ lap % (((z :: zs).map V.int).length : Int) := Int.emod_nonneg _ (by rw [List.length_map, List.length_cons]; omega)
        have i1 : lap % (((z :: zs).map V.int).length : Int) < (((z :: zs).map V.int).length : Int) := Int.emod_lt_of_pos _ (by rw [List.length_map, List.length_cons]; omega)
        have ei : lap % (((z :: zs).map V.int).length : Int) = ((lap % (((z :: zs).map V.int).length : Int)).toNat : Int) := by omega
        have eg : ((z :: zs).map V.int)[(lap % (((z :: zs).map V.int).length : Int)).toNat]? = some (V.int ((z :: zs)[(lap % (((z :: zs).map V.int).length : Int)).toNat]'(by rw [List.length_map] at i0 i1 ⊢; omega))) := by
          rw [List.getElem?_map, List.getElem?_eq_getElem]
          rfl
        have ea := (congrArg (atI ((z :: zs).map V.int)) ei).trans (atI_nat eg)
        refine iteT ⟨_, rfl, p, _, 0, _, rfl, rfl, SqL.of e3, (rfl : atI [V.ref l, .int (lap + 1), .int rest] 0 = some (V.ref l)), _, rfl, .inl ⟨lap, rfl, _, rfl, p, _, 0, _, rfl, rfl, SqL.of e3, (rfl : atI [V.ref l, .int (lap + 1), .int rest] 0 = some (V.ref l)), l, _, rfl, .inl (SqL.of e3l), _, _, rfl, rfl,
          (by rw [List.length_map, List.length_cons]; omega), l, _, _, _, rfl, rfl, SqL.of e3l, ea, ?_⟩⟩
        exact R2 _ _ _ H3 e3 e3l fin
abbrev nOf : List Str := ["_law_ramp_here", "_law_some"]
theorem scOf15 : FnScope nOf nOf (defScope sOf) := ⟨rfl, rfl, rfl, by decide +kernel, rfl, by decide +kernel, by decide +kernel⟩
theorem cl_of15 (D : Dd K mg "_law_of" sOf nOf) (T : Tx K mg CT CO CR) (C1 : Cl P w K mg base 1 "_law_roll" spRoll) : Cl P w K mg base 2 "_law_of" spOf := by
  refine cl_of D scOf15 (fun vs H Q E h => ?_) (fun fa cdv A outer s H vs Q E hr h => ?_)
  · obtain ⟨p, l, a, xs, b, rfl, _⟩ := h
    rfl
  · obtain ⟨p, l, a, xs, b, rfl, rp, rl, hga, ⟨x0, x1⟩, hb, q⟩ := h
    obtain ⟨ha, hne⟩ := hide_get hga
    refine ⟨_, pss_one (ps_ret (pe_ix ix_list (pv 1) (pe_cl C1 hr (by rfl) (pa_cons (pv 0) (pa_cons (pe_callB call_len_seq (by rfl) T.len bt_len (pa_cons (pv 1) pa_nil)) pa_nil))) (by intro _ _; rfl))), ?_⟩
    have len : (xs.map V.int).length = xs.length := List.length_map ..
    have pos : 0 < xs.length := List.length_pos_iff.mpr x0
    refine ⟨_, rfl, _, rfl, _, rfl, a, _, rfl, .inl (SqL.of ha), p, l, _, b, rfl, rp, rl, ⟨by rw [len]; omega, by rw [len]; omega⟩, hb, fun r H' r0 r1 s1 rp' => ?_⟩
    rw [len] at r1
    have hr1 : r.toNat < xs.length := by omega
    have er : r = ((r.toNat : Nat) : Int) := by omega
    have eg : (xs.map V.int)[r.toNat]? = some (V.int xs[r.toNat]) := by rw [List.getElem?_map, List.getElem?_eq_getElem hr1]; rfl
    refine ⟨a, _, r, _, rfl, rfl, SqL.of (hide_get (s1 _ _ hga)).1, (congrArg (atI (xs.map V.int)) er).trans (atI_nat eg), q _ _ (List.getElem_mem hr1) s1 rp'⟩
end
end K15
end

section
set_option Elab.async false
set_option linter.all false
set_option maxRecDepth 100000
set_option maxHeartbeats 2000000
/-! The drawn table. -/
namespace K15
open PySem PySem.W PySem.Spec PyProof.Rows L2

def sideO : Nat → Option Int
  | 0 => none
  | i + 1 => some i
theorem sideO_inj {i j : Nat} (h : sideO i = sideO j) : i = j := by
  cases i with
  | zero =>
    cases j with
    | zero => rfl
    | succ j => cases h
  | succ i =>
    cases j with
    | zero => cases h
    | succ j =>
      have e : (i : Int) = j := Option.some.inj h
      omega
theorem sideO_lt {i : Nat} {n : Int} (h : (i : Int) ≤ n) {v : Int} (e : sideO i = some v) : 0 ≤ v ∧ v < n := by
  cases i with
  | zero => cases e
  | succ i =>
    cases (Option.some.inj e)
    omega
theorem oL_inj {a b : Option Int} (h : oL a = oL b) : a = b := by
  cases a with
  | none =>
    cases b with
    | none => rfl
    | some b => cases h
  | some a =>
    cases b with
    | none => cases h
    | some b => injection h with h; rw [h]
theorem kL_inj {a a' : Option Int} {o o' : Int} {r r' : Option Int} (h : kL a o r = kL a' o' r') : a = a' ∧ o = o' ∧ r = r' := by
  unfold kL at h
  injection h with h1 h2
  injection h2 with h2 h3
  injection h3 with h3 h4
  injection h2 with h2
  exact ⟨oL_inj h1, h2, oL_inj h3⟩
theorem sides_eq {wo : Int} (h : 0 ≤ wo) : [V.non] ++ rgV 0 wo = (List.range (wo.toNat + 1)).map fun i => oV (sideO i) := by
  unfold rgV
  rw [List.range_succ_eq_map, List.map_cons, List.map_map, Int.sub_zero]
  show V.non :: _ = V.non :: _
  refine congrArg _ (List.map_congr_left fun i _ => ?_)
  show V.int (0 + (i : Int)) = V.int (i : Int)
  rw [Int.zero_add]
/-- the rules of one left and one own worth; of all before -/
def TsK (wo : Int) (i j k : Nat) (us : List PrT) : Prop := (us.map (·.2.1)).Nodup ∧ ∀ t ∈ us, (∃ k', k' < k ∧ t.2.1 = kL (sideO i) j (sideO k')) ∧ ∃ z, t.2.2.2 = V.int z ∧ 0 ≤ z ∧ z < wo
def TsOk (wo : Int) (i j : Nat) (ts : List PrT) : Prop := (ts.map (·.2.1)).Nodup ∧ ∀ t ∈ ts, (∃ i' j' k' : Nat, t.2.1 = kL (sideO i') j' (sideO k') ∧ (i' < i ∨ (i' = i ∧ j' < j)) ∧ (i' : Int) ≤ wo ∧ (j' : Int) < wo ∧ (k' : Int) ≤ wo) ∧ ∃ z, t.2.2.2 = V.int z ∧ 0 ≤ z ∧ z < wo
theorem tsk_nil {wo : Int} {i j : Nat} : TsK wo i j 0 [] := ⟨List.nodup_nil, fun t h => by cases h⟩
theorem tsk_skip {wo : Int} {i j k : Nat} {us : List PrT} (h : TsK wo i j k us) : TsK wo i j (k + 1) us := ⟨h.1, fun t ht => let ⟨⟨k', h1, h2⟩, h3⟩ := h.2 t ht; ⟨⟨k', by omega, h2⟩, h3⟩⟩
theorem tsk_add {wo : Int} {i j k : Nat} {us : List PrT} (h : TsK wo i j k us) {a b : Addr} {z : Int} (z0 : 0 ≤ z) (z1 : z < wo) : TsK wo i j (k + 1) (us ++ [(a, kL (sideO i) j (sideO k), b, V.int z)]) := by
  refine ⟨?_, fun t ht => ?_⟩
  · rw [List.map_append, List.nodup_append]
    refine ⟨h.1, by simp, fun x hx y hy e => ?_⟩
    obtain ⟨t, ht, rfl⟩ := List.mem_map.mp hx
    obtain ⟨⟨k', h1, h2⟩, _⟩ := h.2 t ht
    have ey : y = kL (sideO i) j (sideO k) := by simpa using hy
    rw [h2, ey] at e
    have := sideO_inj (kL_inj e).2.2
    omega
  · rcases List.mem_append.mp ht with ht | ht
    · exact (tsk_skip h).2 t ht
    · have e : t = (a, kL (sideO i) j (sideO k), b, V.int z) := by simpa using ht
      subst e
      exact ⟨⟨k, by omega, rfl⟩, z, rfl, z0, z1⟩
theorem tsok_nil {wo : Int} : TsOk wo 0 0 [] := ⟨List.nodup_nil, fun t h => by cases h⟩
theorem tsok_row {wo : Int} {i j : Nat} {ts : List PrT} (h : TsOk wo i j ts) : TsOk wo (i + 1) 0 ts := ⟨h.1, fun t ht => let ⟨⟨i', j', k', h1, h2, h3⟩, h4⟩ := h.2 t ht; ⟨⟨i', j', k', h1, .inl (by omega), h3⟩, h4⟩⟩
theorem tsok_app {wo : Int} {i j k : Nat} {ts us : List PrT} (h : TsOk wo i j ts) (g : TsK wo i j k us) (hi : (i : Int) ≤ wo) (hj : (j : Int) < wo) (hk : (k : Int) ≤ wo + 1) : TsOk wo i (j + 1) (ts ++ us) := by
  refine ⟨?_, fun t ht => ?_⟩
  · rw [List.map_append, List.nodup_append]
    refine ⟨h.1, g.1, fun x hx y hy e => ?_⟩
    obtain ⟨t, ht, rfl⟩ := List.mem_map.mp hx
    obtain ⟨u, hu, rfl⟩ := List.mem_map.mp hy
    obtain ⟨⟨i', j', k', h1, h2, _⟩, _⟩ := h.2 t ht
    obtain ⟨⟨k2, h3, h4⟩, _⟩ := g.2 u hu
    rw [h1, h4] at e
    obtain ⟨e1, e2, _⟩ := kL_inj e
    have := sideO_inj e1
    omega
  · rcases List.mem_append.mp ht with ht | ht
    · obtain ⟨⟨i', j', k', h1, h2, h3⟩, h4⟩ := h.2 t ht
      exact ⟨⟨i', j', k', h1, by omega, h3⟩, h4⟩
    · obtain ⟨⟨k', h1, h2⟩, h4⟩ := g.2 t ht
      exact ⟨⟨i, j, k', h2, .inr ⟨rfl, by omega⟩, hi, hj, by omega⟩, h4⟩
theorem tsok_rules {wo : Int} {i j : Nat} {ts : List PrT} (h : TsOk wo i j ts) (hl : ts.length ≤ 1000) : RulesOk wo ts := by
  refine ⟨hl, h.1, fun t ht => ?_⟩
  obtain ⟨⟨i', j', k', h1, h2, h3, h4, h5⟩, h6⟩ := h.2 t ht
  exact ⟨⟨sideO i', sideO k', j', h1, fun v e => sideO_lt h3 e, ⟨by omega, h4⟩, fun v e => sideO_lt h5 e⟩, h6⟩

theorem hide2_upd {D p : Addr} {H : Hp} {o : HO} : hide D (hide p (upd H D o)) = hide D (hide p H) := by
  funext b
  by_cases h : b = D
  · rw [show hide D (hide p (upd H D o)) b = none from if_pos h, show hide D (hide p H) b = none from if_pos h]
  · rw [hide_ne h, hide_ne h]
    show (if b = p then none else upd H D o b) = if b = p then none else H b
    rw [upd_ne h]
theorem PrsIn.hidL {G : Hp} {x : Addr} {xs : List V} {ts : List PrT} (h : PrsIn G ts) (e : G x = some (.lst xs)) : PrsIn (hide x G) ts := fun t ht =>
  ⟨hide_at (ne_obj (h t ht).1 e (fun z => by cases z)) (h t ht).1, hide_at (ne_obj (h t ht).2 e (fun z => by cases z)) (h t ht).2⟩
theorem PrsIn.app {G : Hp} {ts us : List PrT} (h : PrsIn G ts) (g : PrsIn G us) : PrsIn G (ts ++ us) := fun t ht => (List.mem_append.mp ht).elim (h t) (g t)
theorem hide_none {p D : Addr} {H : Hp} (h : H D = none) : hide p H D = none := by
  show (if D = p then none else H D) = none
  split
  · rfl
  · exact h
def spTable : Sp := fun vs H Q _ => ∃ (p l : Addr) (b : Int), vs = [.ref p, .int 2, .int 5] ∧ RampP H p l b ∧ RampL (hide p H) l ∧ b ≤ 900000 ∧ ∀ (t rl yl : Addr) (n wo : Int) (ts : List PrT) (ys : List Int) (H' : Hp), Same (hide p H) (hide p H') → RampP H' p l (b + 1000) →
  hide p H' t = some (.tup [.int n, .int wo, .ref rl, .ref yl]) → hide p H' rl = some (.lst (ts.map fun t => V.ref t.1)) → PrsIn (hide p H') ts → RulesOk wo ts → hide p H' yl = some (.lst (ys.map V.int)) →
  (ys.Nodup ∧ ys.length < 64 ∧ ∀ y ∈ ys, 0 ≤ y ∧ y < wo) → (1 ≤ n ∧ n ≤ 6 ∧ n ≤ wo ∧ wo ≤ 12) → Q (.ref t) H'
section
variable {P : Program} {w : World} {K : PySem.W.Frag} {mg : Str → Option Value} {base : Heap} {CT CO CR : Addr}
abbrev nTable : List Str := ["_law_ramp_here", "_law_ways", "_law_most", "_law_worths", "_law_letters", "_law_full", "_law_sides", "_law_rules", "_law_left", "_law_own", "_law_right_here", "_law_worth"]
theorem scTable : FnScope nTable ["_law_ramp_here", "_law_ways", "_law_most"] (defScope sTable) := ⟨rfl, rfl, rfl, by decide +kernel, rfl, by decide +kernel, by decide +kernel⟩
theorem cl_table (D : Dd K mg "_law_table" sTable ["_law_ramp_here", "_law_ways", "_law_most"]) (T : Tx K mg CT CO CR) (C1 : Cl P w K mg base 1 "_law_roll" spRoll) (C2 : Cl P w K mg base 2 "_law_of" spOf) : Cl P w K mg base 3 "_law_table" spTable := by
  refine cl_of D scTable (fun vs H Q E h => ?_) (fun fa cdv A outer s H vs Q E hr h => ?_)
  · obtain ⟨p, l, b, rfl, _⟩ := h
    rfl
  · obtain ⟨p, l, b, rfl, rp, rl0, hb, q⟩ := h
    refine ⟨_, pss_cons (ps_set (i := 3) scTable.nd rfl (Or.inr rfl) (pe_op op_add pe_int (pe_cl C1 (hr.mono (by omega)) (by rfl) (pa_cons (pv 0) (pa_cons (pe_op op_sub (pv 2) pe_int) pa_nil)))))
      (pss_cons (ps_asg (pe_tup (pa_cons (pe_op op_add pe_int (pe_cl C1 (hr.mono (by omega)) (by rfl) (pa_cons (pv 0) (pa_cons (pe_callB (call_min2 rfl) (by rfl) T.min bt_min (pa_cons (pv 3) (pa_cons pe_int pa_nil))) pa_nil))))
          (pa_cons (pe_cl C2 hr (by rfl) (pa_cons (pv 0) (pa_cons (pe_lst (pa_cons pe_int (pa_cons pe_int (pa_cons pe_int (pa_cons pe_int pa_nil))))) pa_nil))) pa_nil)))
          (pg_tup rfl (pgs_cons (pg_name (i := 4) scTable.nd rfl (Or.inl rfl)) (pgs_cons (pg_name (i := 5) scTable.nd rfl (Or.inr rfl)) pgs_nil))))
      (pss_cons (ps_par (i := 6) (j := 7) rfl scTable.nd rfl rfl (by decide) rfl rfl (pa_cons (pe_op op_cat (pe_lst (pa_cons pe_non pa_nil)) (pe_listRg rfl (by rfl) T.list (prg_1 (by rfl) T.range (pv 3)))) (pa_cons (pe_lst pa_nil) pa_nil)) rfl)
      (pss_cons (ps_for PassesOwn.never rfl (pi_list (pv 6)) (pg_name (i := 8) scTable.nd rfl (Or.inr rfl))
        (pss_one (ps_for PassesOwn.never rfl (pi_range1 (by rfl) T.range (pa_cons (pv 3) pa_nil)) (pg_name (i := 9) scTable.nd rfl (Or.inr rfl))
          (pss_one (ps_if (pt_cmp (pc_eqI (pv 1) pe_int)) pss_never
            (pss_one (ps_expr (pe_bm (T := "list") PySem.F.plainAttrs_list PySem.F.slot_list_extend PySem.F.type_list_extend mt_extend (pv 7) (pa_cons (pe_lc (own := [("_law_right_here", 10)]) (g := gName 10) rfl scTable.nd (pi_list (pv 6))
              (blkOk_by (N := nTable) (sc := defScope sTable) (by decide +kernel)) (fun _ _ _ _ _ => pg_name (i := 10) scTable.nd rfl (Or.inl rfl))
              (fun _ _ _ _ _ => pts_one (PW.pt (pw_or (pt_cmp (pc_eqI (pv 5) pe_int)) (pw_or1 (pt_cmp (pc_eqI (pe_cl C1 (hr.mono (by omega)) (by rfl) (pa_cons (pv 0) (pa_cons (pv 5) pa_nil))) pe_int))))))
              (fun _ _ _ _ _ => pe_tup (pa_cons (pe_tup (pa_cons (pv 8) (pa_cons (pv 9) (pa_cons (pv 10) pa_nil)))) (pa_cons (pe_cl C1 (hr.mono (by omega)) (by rfl) (pa_cons (pv 0) (pa_cons (pv 3) pa_nil))) pa_nil)))) pa_nil)))))))))
      (pss_one (ps_ret (pe_tup (pa_cons (pv 4) (pa_cons (pv 3) (pa_cons (pv 7) (pa_cons (pe_lc (own := [("_law_worth", 11)]) (g := gName 11) rfl scTable.nd (pi_range1 (by rfl) T.range (pa_cons (pv 3) pa_nil))
              (blkOk_by (N := nTable) (sc := defScope sTable) (by decide +kernel)) (fun _ _ _ _ _ => pg_name (i := 11) scTable.nd rfl (Or.inl rfl))
              (fun _ _ _ _ _ => pts_one (pt_cmp (pc_eqI (pe_cl C1 (hr.mono (by omega)) (by rfl) (pa_cons (pv 0) (pa_cons pe_int pa_nil))) pe_int)))
              (fun _ _ _ _ _ => pv 11)) pa_nil)))))))))), ?_⟩
    have big : (100000 : Nat) ≤ sizeLine := by decide
    -- worths
    refine ⟨_, rfl, _, rfl, _, _, rfl, rfl, p, l, 5 - 1, b, rfl, rp, rl0, ⟨by decide, by decide⟩, by omega, fun r1 H1 r10 r11 s1 rp1 => ?_⟩
    refine ⟨_, _, rfl, rfl, ?_⟩
    obtain ⟨wo, ewo⟩ : ∃ wo, wo = 2 + r1 := ⟨_, rfl⟩
    have w0 : 2 ≤ wo := by omega
    have w1 : wo ≤ 5 := by omega
    show gName 3 (V.int (2 + r1)) _ _ _
    rw [← ewo]
    -- letters, full
    have rl1 := rl0.same s1
    refine ⟨_, rfl, _, rfl, wo, 3, rfl, p, l, _, b + 1, rfl, rp1, rl1, ⟨by split <;> omega, by split <;> omega⟩, by omega, fun r2 H2 r20 r21 s2 rp2 => ?_⟩
    have rl2 := rl1.same s2
    have n1 : 1 + r2 ≤ wo := by
      split at r21 <;> omega
    have n2 : 1 + r2 ≤ 3 := by
      split at r21 <;> omega
    refine ⟨_, _, rfl, rfl, _, rfl, (by show 4 ≤ sizeLine; omega), fun fp nfp => ?_⟩
    have fne : fp ≠ p := fun e => by obtain ⟨_, _, z, _⟩ := rp2; rw [e, z] at nfp; cases nfp
    have s23 : Same (hide p H2) (hide p (upd H2 fp (.lst [.int 1, .int 1, .int 2, .int 4]))) := (Same.new15 nfp).hid15
    have efp : hide p (upd H2 fp (.lst [.int 1, .int 1, .int 2, .int 4])) fp = some (.lst (([1, 1, 2, 4] : List Int).map V.int)) := hide_at fne upd_same
    have rp3 : RampP (upd H2 fp (.lst [.int 1, .int 1, .int 2, .int 4])) p l (b + 1 + 1) := rp2.upd fne
    generalize upd H2 fp (.lst [.int 1, .int 1, .int 2, .int 4]) = H3 at s23 efp rp3
    refine ⟨p, l, fp, [1, 1, 2, 4], b + 1 + 1, rfl, rp3, rl2.same s23, efp, ⟨by decide, by decide⟩, by omega, fun full H4 hfull s34 rp4 => ?_⟩
    have hf : 0 < full ∧ full < 1000 := by
      simp only [List.mem_cons, List.not_mem_nil, or_false] at hfull
      omega
    have rl4 := (rl2.same s23).same s34
    refine ⟨(by show 2 ≤ sizeLine; omega), fun tp ntp => ?_⟩
    have tne : tp ≠ p := fun e => by obtain ⟨_, _, z, _⟩ := rp4; rw [e, z] at ntp; cases ntp
    refine ⟨tp, _, rfl, SqT.of upd_same, rfl, _, _, rfl, _, _, rfl, rfl, ?_⟩
    have s45 : Same (hide p H4) (hide p (upd H4 tp (.tup [.int (1 + r2), .int full]))) := (Same.new15 ntp).hid15
    have rp5 : RampP (upd H4 tp (.tup [.int (1 + r2), .int full])) p l (b + 1 + 1 + 1) := rp4.upd tne
    generalize upd H4 tp (.tup [.int (1 + r2), .int full]) = H5 at s45 rp5
    have s05 := (((s1.trans s2).trans s23).trans s34).trans s45
    have rl5 := rl4.same s45
    -- sides, rules
    refine ⟨(by show 1 ≤ sizeLine; omega), fun np nnp => ?_⟩
    have e6 : upd H5 np (.lst [.non]) np = some (.lst [.non]) := upd_same
    have nne : np ≠ p := fun e => by obtain ⟨_, _, z, _⟩ := rp5; rw [e, z] at nnp; cases nnp
    have s56 : Same (hide p H5) (hide p (upd H5 np (.lst [.non]))) := (Same.new15 nnp).hid15
    have rp6 : RampP (upd H5 np (.lst [.non])) p l (b + 1 + 1 + 1) := rp5.upd nne
    generalize upd H5 np (.lst [.non]) = H6 at e6 s56 rp6
    refine ⟨_, rfl, wo, rfl, RgOk.of_le (by omega) (by omega) (by omega) (by omega), fun gp ngp => ?_⟩
    have gne : gp ≠ p := fun e => by obtain ⟨_, _, z, _⟩ := rp6; rw [e, z] at ngp; cases ngp
    have e7 : upd H6 gp (.lst (rgV 0 wo)) gp = some (.lst (rgV 0 wo)) := upd_same
    have e7n : upd H6 gp (.lst (rgV 0 wo)) np = some (.lst [.non]) := (upd_ne (ne_of_none e6 ngp)).trans e6
    have s67 : Same (hide p H6) (hide p (upd H6 gp (.lst (rgV 0 wo)))) := (Same.new15 ngp).hid15
    have rp7 : RampP (upd H6 gp (.lst (rgV 0 wo))) p l (b + 1 + 1 + 1) := rp6.upd gne
    generalize upd H6 gp (.lst (rgV 0 wo)) = H7 at e7 e7n s67 rp7
    refine ⟨np, gp, _, _, rfl, rfl, e7n, e7, (by rw [rgV_length]; show 1 + _ ≤ _; omega), fun sp nsp => ?_⟩
    rw [sides_eq (by omega)]
    have sne : sp ≠ p := fun e => by obtain ⟨_, _, z, _⟩ := rp7; rw [e, z] at nsp; cases nsp
    have e8 : hide p (upd H7 sp (.lst ((List.range (wo.toNat + 1)).map fun i => oV (sideO i)))) sp = some (.lst ((List.range (wo.toNat + 1)).map fun i => oV (sideO i))) := hide_at sne upd_same
    have s78 : Same (hide p H7) (hide p (upd H7 sp (.lst ((List.range (wo.toNat + 1)).map fun i => oV (sideO i))))) := (Same.new15 nsp).hid15
    have rp8 : RampP (upd H7 sp (.lst ((List.range (wo.toNat + 1)).map fun i => oV (sideO i)))) p l (b + 1 + 1 + 1) := rp7.upd sne
    generalize upd H7 sp (.lst ((List.range (wo.toNat + 1)).map fun i => oV (sideO i))) = H8 at e8 s78 rp8
    refine ⟨(by show 0 ≤ sizeLine; omega), fun ru nru => ?_⟩
    have rne : ru ≠ p := fun e => by obtain ⟨_, _, z, _⟩ := rp8; rw [e, z] at nru; cases nru
    have e9 : hide p (upd H8 ru (.lst [])) ru = some (.lst []) := hide_at rne upd_same
    have rp9 : RampP (upd H8 ru (.lst [])) p l (b + 1 + 1 + 1) := rp8.upd rne
    have s89 : Same (hide p H8) (hide ru (hide p (upd H8 ru (.lst [])))) := by rw [hide2_upd]; exact (Same.refl _).to_hide15 (hide_none nru)
    have s08 := (((s05.trans s56).trans s67).trans s78)
    have rl8 := rl5.same ((s56.trans s67).trans s78)
    generalize upd H8 ru (.lst []) = H9 at e9 rp9 s89
    refine ⟨_, _, rfl, ?_⟩
    -- the invariant
    obtain ⟨LT, eLT⟩ : ∃ LT : Nat → Nat → Hp → Prop, LT = fun (i j : Nat) (H : Hp) => RampP H p l (b + 3 + 72 * (i : Int) + 12 * (j : Int)) ∧ Same (hide p H8) (hide ru (hide p H)) ∧ ∃ ts : List PrT, H ru = some (.lst (ts.map fun t => V.ref t.1)) ∧ PrsIn (hide ru (hide p H)) ts ∧ TsOk wo i j ts ∧ ts.length ≤ 36 * i + 6 * j := ⟨_, rfl⟩
    have lt0 : LT 0 0 H9 := by
      rw [eLT]
      exact ⟨rp9.mono (by omega), s89, [], (hide_get e9).1, (fun t ht => by cases ht), tsok_nil, Nat.le_refl _⟩
    have sidesAt : ∀ {i j : Nat} {H : Hp}, LT i j H → H sp = some (.lst ((List.range (wo.toNat + 1)).map fun i => oV (sideO i))) := fun {i j H} h => by
      rw [eLT] at h
      exact (hide_get (h.2.1.of_hide15 _ _ e8)).1
    have lenS : ((List.range (wo.toNat + 1)).map fun i => oV (sideO i)).length = wo.toNat + 1 := by rw [List.length_map, List.length_range]
    have getS : ∀ {i : Nat} {x : V}, ((List.range (wo.toNat + 1)).map fun i => oV (sideO i))[i]? = some x → x = oV (sideO i) ∧ (i : Int) ≤ wo := fun {i x} h => by
      have hi : i < wo.toNat + 1 := by rw [← lenS]; exact (List.getElem?_eq_some_iff.mp h).1
      rw [List.getElem?_map, List.getElem?_range hi] at h
      exact ⟨(Option.some.inj h).symm, by omega⟩
    refine ⟨_, rfl, sp, rfl, ⟨_, SqL.of (sidesAt lt0)⟩, ?_⟩
    refine for_list (K := K) (xs := (List.range (wo.toNat + 1)).map fun i => oV (sideO i)) (fun i σ H => (∃ u1 u2 : Option V, σ = [some (.ref p), some (.int 2), some (.int 5), some (.int wo), some (.int (1 + r2)), some (.int full), some (.ref sp), some (.ref ru), u1, u2, none, none]) ∧ LT i 0 H)
      ⟨⟨none, none, rfl⟩, lt0⟩ (fun i σ H hi h => SqL.of (sidesAt h.2)) (fun i x σ H10 hx ⟨⟨u1, u2, eσ⟩, L⟩ => ?_) fun σ H10 ⟨⟨u1, u2, eσ⟩, L⟩ => ?_
    · subst eσ
      obtain ⟨rfl, hiw⟩ := getS hx
      refine ⟨_, rfl, wo, rfl, by omega, by omega, ?_⟩
      refine for_range0 (n := wo.toNat) (fun j σ H => (∃ u2 : Option V, σ = [some (.ref p), some (.int 2), some (.int 5), some (.int wo), some (.int (1 + r2)), some (.int full), some (.ref sp), some (.ref ru), some (oV (sideO i)), u2, none, none]) ∧ LT i j H)
        ⟨⟨u2, rfl⟩, L⟩ (fun j σ H11 hj ⟨⟨u3, eσ⟩, L⟩ => ?_) fun σ H11 ⟨⟨u3, eσ⟩, L⟩ => ?_
      · subst eσ
        have hjw : (j : Int) < wo := by omega
        refine ⟨_, rfl, 2, 1, rfl, rfl, false, rfl, iteF ?_⟩
        have eS := sidesAt L
        rw [eLT] at L
        obtain ⟨rpL, sL, ts, hts, pts, ok, lts⟩ := L
        refine ⟨_, rfl, .inl ⟨rfl, _, SqL.of hts⟩, _, rfl, sp, rfl, ⟨_, SqL.of eS⟩, fun D nD => ?_⟩
        have Dne : D ≠ p := fun e => by obtain ⟨_, _, z, _⟩ := rpL; rw [e, z] at nD; cases nD
        have bi : b + 3 + 72 * (i : Int) + 12 * j + 12 ≤ 1000000 := by omega
        refine lc_list (K := K) (xs := (List.range (wo.toNat + 1)).map fun i => oV (sideO i))
          (fun k H => RampP H p l (b + 3 + 72 * i + 12 * j + 2 * k) ∧ Same (hide p H11) (hide D (hide p H)) ∧ ∃ us : List PrT, H D = some (.lst (us.map fun t => V.ref t.1)) ∧ PrsIn (hide D (hide p H)) us ∧ TsK wo i j k us ∧ us.length ≤ k)
          ⟨(rpL.upd Dne).mono (by omega), by rw [hide2_upd]; exact (Same.refl _).to_hide15 (hide_none nD), [], upd_same, (fun t ht => by cases ht), tsk_nil, Nat.le_refl _⟩
          (fun k H hk h => SqL.of (hide_get (h.2.1.of_hide15 _ _ (hide_at sne eS))).1) (fun k x H12 hx ⟨rpk, sk, us, hD, pus, tk, lk⟩ => ?_) fun H12 ⟨rpk, sk, us, hD, pus, tk, lk⟩ => ?_
        · obtain ⟨rfl, hkw⟩ := getS hx
          have rlk : RampL (hide p H12) l := ((rl8.same sL.of_hide15).same sk.of_hide15)
          -- the element, from a later state
          have elem : ∀ (H13 : Hp), RampP H13 p l (b + 3 + 72 * i + 12 * j + 2 * k + 1) → Same (hide p H12) (hide p H13) → ∀ (kk : V → Hp → Prop),
              (∀ (tp : Addr) (H14 : Hp) (us2 : List PrT), H14 D = some (.lst (us.map fun t => V.ref t.1)) → (us.length < sizeLine ∧ (∀ o, RampP (upd H14 D o) p l (b + 3 + 72 * i + 12 * j + 2 * (k + 1 : Nat))) ∧ Same (hide p H11) (hide D (hide p H14)) ∧
                PrsIn (hide D (hide p H14)) us2 ∧ us2.map (fun t => V.ref t.1) = us.map (fun t => V.ref t.1) ++ [V.ref tp] ∧ TsK wo i j (k + 1) us2 ∧ us2.length ≤ k + 1) → kk (.ref tp) H14) →
              (tTup (tCons (tTup (tCons (tVar 8) (tCons (tVar 9) (tCons (tVar 10) tNil)))) (tCons (tCall spRoll [] E0 (tCons (tVar 0) (tCons (tVar 3) tNil))) tNil)))
                [some (.ref p), some (.int 2), some (.int 5), some (.int wo), some (.int (1 + r2)), some (.int full), some (.ref sp), some (.ref ru), some (oV (sideO i)), some (.int j), some (oV (sideO k)), none] H13 kk := fun H13 rp13 s13 kk hkk => by
            refine ⟨_, rfl, _, rfl, _, rfl, (by show 3 ≤ sizeLine; omega), fun kp nkp => ?_⟩
            have kne : kp ≠ p := fun e => by obtain ⟨_, _, z, _⟩ := rp13; rw [e, z] at nkp; cases nkp
            have sa : Same (hide p H13) (hide p (upd H13 kp (.tup [oV (sideO i), .int j, oV (sideO k)]))) := (Same.new15 nkp).hid15
            have ek : hide p (upd H13 kp (.tup [oV (sideO i), .int j, oV (sideO k)])) kp = some (.tup ((kL (sideO i) j (sideO k)).map lfV)) := by rw [kL_v]; exact hide_at kne upd_same
            have rpa : RampP (upd H13 kp (.tup [oV (sideO i), .int j, oV (sideO k)])) p l _ := rp13.upd kne
            generalize upd H13 kp (.tup [oV (sideO i), .int j, oV (sideO k)]) = H15 at sa ek rpa
            refine ⟨_, rfl, _, rfl, p, l, wo, _, rfl, rpa, (rlk.same s13).same sa, ⟨by omega, by omega⟩, by omega, fun z H16 z0 z1 s16 rp16 => ?_⟩
            refine ⟨(by show 2 ≤ sizeLine; omega), fun tq ntq => ?_⟩
            have qne : tq ≠ p := fun e => by obtain ⟨_, _, y, _⟩ := rp16; rw [e, y] at ntq; cases ntq
            have sb : Same (hide p H16) (hide p (upd H16 tq (.tup [.ref kp, .int z]))) := (Same.new15 ntq).hid15
            have s12 : Same (hide p H12) (hide p (upd H16 tq (.tup [.ref kp, .int z]))) := ((s13.trans sa).trans s16).trans sb
            have hD16 : H16 D = some (.lst (us.map fun t => V.ref t.1)) := (hide_get (((s13.trans sa).trans s16) _ _ (hide_at Dne hD))).1
            have hDz := (hide_get (s12 _ _ (hide_at Dne hD))).1
            have eq1 : hide p (upd H16 tq (.tup [.ref kp, .int z])) tq = some (.tup [.ref kp, .int z]) := hide_at qne upd_same
            have ek1 := (s16.trans sb) _ _ ek
            refine hkk tq _ (us ++ [(tq, kL (sideO i) j (sideO k), kp, V.int z)]) hDz ⟨by omega, fun o => ((rp16.upd qne).upd Dne).mono (by omega), sk.trans s12.hid15, ?_, by rw [List.map_append]; rfl, tsk_add tk z0 z1, by rw [List.length_append]; show us.length + 1 ≤ _; omega⟩
            refine (pus.same s12.hid15).app fun t ht => ?_
            have et : t = (tq, kL (sideO i) j (sideO k), kp, V.int z) := by simpa using ht
            subst et
            exact ⟨hide_at (ne_obj (hide_get eq1).1 hDz (fun z => by cases z)) eq1, hide_at (ne_obj (hide_get ek1).1 hDz (fun z => by cases z)) ek1⟩
          refine ⟨rfl, _, rfl, full, 1, rfl, rfl, decide (full = 1), rfl, ?_⟩
          by_cases hf1 : full = 1
          · rw [decide_eq_true hf1]
            refine iteT (iteT (elem H12 (rpk.mono (by omega)) (Same.refl _) _ fun tq H14 us2 e14 ⟨h1, h2, h3, h4, h5, h6, h7⟩ => ?_))
            exact ⟨_, e14, by rw [List.length_map]; exact h1, h2 _, by rw [hide2_upd]; exact h3, us2, by rw [upd_same, h5], by rw [hide2_upd]; exact h4, h6, h7⟩
          · rw [decide_eq_false hf1]
            refine iteF ⟨_, rfl, _, rfl, p, l, full, _, rfl, rpk, rlk, ⟨by omega, by omega⟩, by omega, fun r H13 r0 r1 s13 rp13 => ?_⟩
            refine ⟨r, 0, rfl, rfl, decide (r = 0), rfl, ?_⟩
            by_cases hr0 : r = 0
            · rw [decide_eq_true hr0]
              refine iteT (elem H13 (rp13.mono (by omega)) s13 _ fun tq H14 us2 e14 ⟨h1, h2, h3, h4, h5, h6, h7⟩ => ?_)
              exact ⟨_, e14, by rw [List.length_map]; exact h1, h2 _, by rw [hide2_upd]; exact h3, us2, by rw [upd_same, h5], by rw [hide2_upd]; exact h4, h6, h7⟩
            · rw [decide_eq_false hr0]
              refine iteF ⟨rp13.mono (by omega), sk.trans s13.hid15, us, (hide_get (s13 _ _ (hide_at Dne hD))).1, pus.same s13.hid15, tsk_skip tk, by omega⟩
        · -- extend
          have hru := (hide_get (sk.of_hide15 _ _ (hide_at rne hts))).1
          refine ⟨ru, D, _, _, rfl, rfl, hru, hD, by rw [List.length_map, List.length_map]; rw [lenS] at lk; omega, ⟨⟨_, rfl⟩, ?_⟩⟩
          rw [eLT]
          rw [lenS] at rpk tk lk
          have sG : Same (hide p H11) (hide p H12) := sk.of_hide15
          refine ⟨(rpk.upd rne).mono (by omega), by rw [hide2_upd]; exact sL.trans sG.hid15, ts ++ us, by rw [upd_same, List.map_append], ?_, tsok_app ok tk hiw hjw (by omega), by rw [List.length_append]; omega⟩
          rw [hide2_upd]
          exact (pts.same sG.hid15).app ((pus.same hide_same).hidL (hide_at rne hru))
      · subst eσ
        refine ⟨⟨_, _, rfl⟩, ?_⟩
        rw [eLT] at L ⊢
        obtain ⟨rpL, sL, ts, hts, pts, ok, lts⟩ := L
        exact ⟨rpL.mono (by omega), sL, ts, hts, pts, tsok_row ok, by omega⟩
    subst eσ
    rw [eLT] at L
    rw [lenS] at L
    obtain ⟨rpL, sL, ts, hts, pts, ok, lts⟩ := L
    refine ⟨_, rfl, _, rfl, _, rfl, _, rfl, wo, rfl, by omega, by omega, fun D nD => ?_⟩
    have Dne : D ≠ p := fun e => by obtain ⟨_, _, z, _⟩ := rpL; rw [e, z] at nD; cases nD
    have rlL : RampL (hide p H10) l := rl8.same sL.of_hide15
    refine lc_range (lo := 0) (n := wo.toNat)
      (fun k H => RampP H p l (b + 900 + k) ∧ Same (hide p H10) (hide D (hide p H)) ∧ ∃ ys : List Int, H D = some (.lst (ys.map V.int)) ∧ ys.Nodup ∧ (∀ y ∈ ys, 0 ≤ y ∧ y < (k : Int)) ∧ ys.length ≤ k)
      ⟨(rpL.upd Dne).mono (by omega), by rw [hide2_upd]; exact (Same.refl _).to_hide15 (hide_none nD), [], upd_same, List.nodup_nil, (fun t ht => by cases ht), Nat.le_refl _⟩ (fun k H11 hk ⟨rpk, sk, ys, hD, yn, yb, yl⟩ => ?_) fun H11 ⟨rpk, sk, ys, hD, yn, yb, yl⟩ => ?_
    · refine ⟨rfl, _, rfl, p, l, 2, _, rfl, rpk, rlL.same sk.of_hide15, ⟨by decide, by decide⟩, by omega, fun r H12 r0 r1 s12 rp12 => ?_⟩
      have hD12 := (hide_get (s12 _ _ (hide_at Dne hD))).1
      have len : (ys.map V.int).length = ys.length := List.length_map ..
      refine ⟨r, 0, rfl, rfl, decide (r = 0), rfl, ?_⟩
      by_cases hr0 : r = 0
      · rw [decide_eq_true hr0]
        refine iteT ⟨_, rfl, _, hD12, by rw [len]; omega, (rp12.upd Dne).mono (by omega), by rw [hide2_upd]; exact sk.trans s12.hid15, ys ++ [0 + (k : Int)], by rw [upd_same, List.map_append]; rfl, ?_, fun y hy => ?_, by rw [List.length_append]; show ys.length + 1 ≤ _; omega⟩
        · rw [List.nodup_append]
          refine ⟨yn, by simp, fun x hx y hy e => ?_⟩
          have ey : y = 0 + (k : Int) := by simpa using hy
          have := (yb x hx).2
          omega
        · rcases List.mem_append.mp hy with hy | hy
          · have := yb y hy
            omega
          · have ey : y = 0 + (k : Int) := by simpa using hy
            omega
      · rw [decide_eq_false hr0]
        refine iteF ⟨rp12.mono (by omega), sk.trans s12.hid15, ys, hD12, yn, fun y hy => ?_, by omega⟩
        have := yb y hy
        omega
    · have sG : Same (hide p H10) (hide p H11) := sk.of_hide15
      refine ⟨(by show 4 ≤ sizeLine; omega), fun tq ntq => ?_⟩
      have qne : tq ≠ p := fun e => by obtain ⟨_, _, y, _⟩ := rpk; rw [e, y] at ntq; cases ntq
      have sb : Same (hide p H11) (hide p (upd H11 tq (.tup [.int (1 + r2), .int wo, .ref ru, .ref D]))) := (Same.new15 ntq).hid15
      have s8L : Same (hide p H8) (hide p H10) := sL.of_hide15
      refine q tq ru D (1 + r2) wo ts ys _ (((s08.trans s8L).trans sG).trans sb) ((rpk.upd qne).mono (by omega)) (hide_at qne upd_same) ((sG.trans sb) _ _ (hide_at rne hts)) ((pts.same hide_same).same (sG.trans sb)) (tsok_rules ok (by omega))
        (sb _ _ (hide_at Dne hD)) ⟨yn, by omega, fun y hy => by have := yb y hy; omega⟩ ⟨by omega, by omega, n1, by omega⟩
end
end K15
end

section
set_option Elab.async false
set_option linter.all false
set_option maxRecDepth 100000
set_option maxHeartbeats 2000000
/-! The law's own runs. -/
namespace K15
open PySem PySem.W PySem.Spec PyProof.Rows L2

/-- n rows of the row of two ways; of the row of one way -/
def StpI (H : Hp) (l : Addr) (f : F3) (ws : List Int) (n : Nat) : Prop := ∃ ys : List V, H l = some (.lst ys) ∧ ys.length = n ∧ ∀ (j : Nat) (y : V), ys[j]? = some y → RowI H y (due f ws j)
def StpO (H : Hp) (l : Addr) (f : F3) (ws : List Int) (n : Nat) : Prop := ∃ ys : List V, H l = some (.lst ys) ∧ ys.length = n ∧ ∀ (j : Nat) (y : V), ys[j]? = some y → RowO H y (made f ws j)
theorem StpI.same {H H' : Hp} {l : Addr} {f : F3} {ws : List Int} {n : Nat} (h : StpI H l f ws n) (s : Same H H') : StpI H' l f ws n := let ⟨ys, h1, h2, h3⟩ := h; ⟨ys, s _ _ h1, h2, fun j y e => (h3 j y e).same s⟩
theorem StpO.same {H H' : Hp} {l : Addr} {f : F3} {ws : List Int} {n : Nat} (h : StpO H l f ws n) (s : Same H H') : StpO H' l f ws n := let ⟨ys, h1, h2, h3⟩ := h; ⟨ys, s _ _ h1, h2, fun j y e => (h3 j y e).same s⟩
theorem rowI_of {H : Hp} {D : Addr} {ys : List V} {xs : List Int} (e : H D = some (.lst ys)) (ly : ys.length = xs.length) (hy : ∀ (j : Nat) (y : V), ys[j]? = some y → ∃ z, y = V.int z ∧ xs[j]? = some z) : RowI H (.ref D) xs := by
  refine ⟨D, rfl, ?_⟩
  rw [e]
  refine congrArg (fun z => some (HO.lst z)) (List.ext_getElem? fun j => ?_)
  by_cases hj : j < ys.length
  · obtain ⟨z, ez, ex⟩ := hy j _ (List.getElem?_eq_getElem hj)
    rw [List.getElem?_map, List.getElem?_eq_getElem hj, ez, ex]
    rfl
  · rw [List.getElem?_eq_none (by omega), List.getElem?_eq_none (by rw [List.length_map]; omega)]
/-- the three cells around: the sides are None -/
theorem around (xs : List V) (i : Nat) (hi : i < xs.length) : ([V.non] ++ xs ++ [V.non])[i]? = some ((lf xs i).getD .non) ∧ ([V.non] ++ xs ++ [V.non])[i + 1]? = some xs[i] ∧ ([V.non] ++ xs ++ [V.non])[i + 2]? = some ((rt xs i).getD .non) := by
  have e : [V.non] ++ xs ++ [V.non] = V.non :: (xs ++ [V.non]) := rfl
  rw [e]
  refine ⟨?_, ?_, ?_⟩
  · cases i with
    | zero => rfl
    | succ j => rw [List.getElem?_cons_succ, List.getElem?_append_left (by omega), lf_get, List.getElem?_eq_getElem (by omega)]; rfl
  · rw [List.getElem?_cons_succ, List.getElem?_append_left hi, List.getElem?_eq_getElem hi]
  · rw [List.getElem?_cons_succ]
    unfold rt
    by_cases h : i + 1 < xs.length
    · rw [List.getElem?_append_left h, List.getElem?_eq_getElem h]
      rfl
    · rw [List.getElem?_append_right (by omega), show i + 1 - xs.length = 0 by omega, List.getElem?_eq_none (l := xs) (by omega)]
      rfl
theorem lf_map {α β : Type} (g : α → β) (xs : List α) (i : Nat) : lf (xs.map g) i = (lf xs i).map g := by
  unfold lf
  split
  · rfl
  · rw [List.getElem?_map]
theorem rt_map {α β : Type} (g : α → β) (xs : List α) (i : Nat) : rt (xs.map g) i = (rt xs i).map g := by
  unfold rt
  rw [List.getElem?_map]
theorem getD_oV (o : Option Int) : (o.map V.int).getD .non = oV o := by cases o <;> rfl
def spLNext (P : Program) (w : World) : Sp := fun vs H Q _ => ∃ (d : Addr) (l r : Option Int) (o : Int) (xs : List Ent), vs = [.ref d, oV l, .int o, oV r] ∧ H d = some (Dn P w d xs) ∧ KeysIn H xs ∧ IntVals xs ∧ ∀ H', Same H H' → Q (.int (fnOf xs l o r)) H'
def spStrip (P : Program) (w : World) : Sp := fun vs H Q _ => ∃ (d wa : Addr) (tk : Nat) (xs : List Ent) (ws : List Int), vs = [.ref d, .ref wa, .int (tk : Nat)] ∧ H d = some (Dn P w d xs) ∧ KeysIn H xs ∧ IntVals xs ∧ H wa = some (.lst (ws.map V.int)) ∧ ws.length ≤ 1000 ∧ tk ≤ 1000 ∧
  ∀ l H', Same H H' → StpI H' l (fnOf xs) ws (tk + 1) → Q (.ref l) H'
def spRun (P : Program) (w : World) (CT CO : Addr) : Sp := fun vs H Q _ => ∃ (x wa : Addr) (tk : Nat) (f : F3) (ws : List Int), vs = [.ref x, .ref wa, .int (tk : Nat)] ∧ OneAt P w CT CO H x f ∧ H wa = some (.lst (ws.map V.int)) ∧ ws.length ≤ 1000 ∧ tk ≤ 1000 ∧
  ∀ l H', Same H H' → StpO H' l f ws (tk + 1) → Q (.ref l) H'
def spWord : Sp := fun vs H Q _ => ∃ (p l : Addr) (n b : Int) (m : Nat), vs = [.ref p, .int n, .int (m : Nat)] ∧ RampP H p l b ∧ RampL (hide p H) l ∧ (0 < n ∧ n < 1000) ∧ m ≤ 1000 ∧ b ≤ 900000 ∧
  ∀ (wl : Addr) (ws : List Int) (H' : Hp), ws.length = m → (∀ z ∈ ws, 0 ≤ z ∧ z < n) → Same (hide p H) (hide p H') → RampP H' p l (b + 1000) → hide p H' wl = some (.lst (ws.map V.int)) → Q (.ref wl) H'
section
variable {P : Program} {w : World} {K : PySem.W.Frag} {mg : Str → Option Value} {base : Heap} {CT CO CR : Addr}
abbrev nNext : List Str := ["_law_rules", "_law_left", "_law_own", "_law_right_here"]
theorem scNext : FnScope nNext nNext (defScope sNext) := ⟨rfl, rfl, rfl, by decide +kernel, rfl, by decide +kernel, by decide +kernel⟩
theorem cl_next (D : Dd K mg "_law_next" sNext nNext) : Cl P w K mg base 1 "_law_next" (spLNext P w) := by
  refine cl_of D scNext (fun vs H Q E h => ?_) (fun fa cdv A outer s H vs Q E hr h => ?_)
  · obtain ⟨d, l, r, o, xs, rfl, _⟩ := h
    rfl
  · obtain ⟨d, l, r, o, xs, rfl, h2, h3, h4, q⟩ := h
    have hu := hr.units
    refine ⟨_, pss_one (ps_ret (pe_nget (by show A.units + 3 + 1 < _; have : A.units + 3 + 64 < _ := hu; omega) (pv 0) (pe_tup (pa_cons (pv 1) (pa_cons (pv 2) (pa_cons (pv 3) pa_nil)))) (pv 2) ⟨rfl, rfl, rfl, rfl⟩)), ?_⟩
    refine ⟨_, rfl, d, xs, rfl, h2, _, rfl, _, rfl, _, rfl, (by show 3 ≤ sizeLine; decide), fun kp np => ?_⟩
    have s1 : Same H (upd H kp (.tup [oV l, .int o, oV r])) := Same.new15 np
    have ek : upd H kp (.tup [oV l, .int o, oV r]) kp = some (.tup ((kL l o r).map lfV)) := by rw [kL_v]; exact upd_same
    refine ⟨_, rfl, xs, kp, kL l o r, s1 _ _ h2, h3.same s1, rfl, ek, ?_⟩
    show Q ((look xs (kL l o r)).getD (.int o)) _
    rw [fnOf_get h4]
    exact q _ s1
abbrev nStrip : List Str := ["_law_rules", "_law_word_here", "_law_ticks", "_law_found", "_law_tick", "_law_cells", "_law_at"]
theorem scStrip : FnScope nStrip ["_law_rules", "_law_word_here", "_law_ticks"] (defScope sStrip) := ⟨rfl, rfl, rfl, by decide +kernel, rfl, by decide +kernel, by decide +kernel⟩
theorem cl_strip (D : Dd K mg "_law_strip" sStrip ["_law_rules", "_law_word_here", "_law_ticks"]) (T : Tx K mg CT CO CR) (C1 : Cl P w K mg base 1 "_law_next" (spLNext P w)) : Cl P w K mg base 2 "_law_strip" (spStrip P w) := by
  refine cl_of D scStrip (fun vs H Q E h => ?_) (fun fa cdv A outer s H vs Q E hr h => ?_)
  · obtain ⟨d, wa, tk, xs, ws, rfl, _⟩ := h
    rfl
  · obtain ⟨d, wa, tk, xs, ws, rfl, h2, h3, h4, hw, lw, ltk, q⟩ := h
    refine ⟨_, pss_cons (ps_set (i := 3) scStrip.nd rfl (Or.inl rfl) (pe_lst (pa_cons (pe_callTy call_list_of (by rfl) T.list bt_list (pa_cons (pv 1) pa_nil)) pa_nil)))
      (pss_cons (ps_for PassesOwn.never rfl (pi_range1 (by rfl) T.range (pa_cons (pv 2) pa_nil)) (pg_name (i := 4) scStrip.nd rfl (Or.inl rfl))
        (pss_cons (ps_set (i := 5) scStrip.nd rfl (Or.inr rfl) (pe_op op_cat (pe_op op_cat (pe_lst (pa_cons pe_non pa_nil)) (pe_ix ix_list (pv 3) (pe_un un_neg pe_int) (by intro _ _; rfl))) (pe_lst (pa_cons pe_non pa_nil))))
        (pss_one (ps_expr (pe_app (pv 3) (pe_lc (own := [("_law_at", 6)]) (g := gName 6) (tt := tYes) rfl scStrip.nd (pi_range1 (by rfl) T.range (pa_cons (pe_callB call_len_seq (by rfl) T.len bt_len (pa_cons (pv 1) pa_nil)) pa_nil))
          (blkOk_by (N := nStrip) (sc := defScope sStrip) (by decide +kernel)) (fun _ _ _ _ _ => pg_name (i := 6) scStrip.nd rfl (Or.inl rfl)) (fun _ _ _ _ _ => pts_nil)
          (fun _ _ _ _ _ => pe_cl C1 hr (by rfl) (pa_cons (pv 0) (pa_cons (pe_ix (ix_listK (K := K) rfl) (pv 5) (pv 6) (by intro _ _; rfl)) (pa_cons (pe_ix (ix_listK (K := K) rfl) (pv 5) (pe_op op_add (pv 6) pe_int) (by intro _ _; rfl))
            (pa_cons (pe_ix (ix_listK (K := K) rfl) (pv 5) (pe_op op_add (pv 6) pe_int) (by intro _ _; rfl)) pa_nil)))))))))))
      (pss_one (ps_ret (pv 3)))), ?_⟩
    have big : (10000 : Nat) ≤ sizeLine := by decide
    have lenW : (ws.map V.int).length = ws.length := List.length_map ..
    obtain ⟨f, ef⟩ : ∃ f, f = fnOf xs := ⟨_, rfl⟩
    refine ⟨_, rfl, wa, _, rfl, .inl (SqL.of hw), fun l0 nl0 => ⟨(by show 1 ≤ sizeLine; omega), fun l nl => ?_⟩⟩
    have s01 : Same H (upd H l0 (.lst (ws.map V.int))) := Same.new15 nl0
    have row0 : RowI (upd H l0 (.lst (ws.map V.int))) (.ref l0) (due f ws 0) := ⟨l0, rfl, upd_same⟩
    have mono : ∀ j y H H', RowI H y (due f ws j) → Same H H' → RowI H' y (due f ws j) := fun j y H H' h s => h.same s
    have L0 : LcI H l (fun j y H => RowI H y (due f ws j)) 1 (upd (upd H l0 (.lst (ws.map V.int))) l (.lst [.ref l0])) := lci_one mono s01 nl row0
    generalize upd (upd H l0 (.lst (ws.map V.int))) l (.lst [.ref l0]) = H1 at L0
    refine ⟨_, rfl, (tk : Int), rfl, by omega, by omega, ?_⟩
    rw [Int.toNat_natCast]
    refine for_range0 (fun i σ H2 => (∃ u v : Option V, σ = [some (.ref d), some (.ref wa), some (.int (tk : Nat)), some (.ref l), u, v, none]) ∧ LcI H l (fun j y H => RowI H y (due f ws j)) (i + 1) H2)
      ⟨⟨none, none, rfl⟩, L0⟩ (fun i σ H2 hi ⟨⟨u, v, eσ⟩, L⟩ => ?_) fun σ H2 ⟨⟨u, v, eσ⟩, L⟩ => ?_
    · subst eσ
      obtain ⟨zs, lz, eL, sL, hz⟩ := id L
      have hlast : zs[i]? = some zs[i] := List.getElem?_eq_getElem (by omega)
      obtain ⟨ra, er, hra⟩ := (hz i _ hlast).same hide_same
      have s02 : Same H H2 := sL.of_hide15
      have ld : (due f ws i).length = ws.length := due_len f ws i
      have lenD : ((due f ws i).map V.int).length = ws.length := by rw [List.length_map, ld]
      -- cells
      refine ⟨(by show 1 ≤ sizeLine; omega), fun np nn => ?_⟩
      have e3 : upd H2 np (.lst [.non]) np = some (.lst [.non]) := upd_same
      have s23 : Same H2 (upd H2 np (.lst [.non])) := Same.new15 nn
      generalize upd H2 np (.lst [.non]) = H3 at e3 s23
      refine ⟨_, rfl, _, rfl, l, zs, -1, zs[i], rfl, rfl, SqL.of (s23 _ _ eL), atI_last lz hlast, ?_⟩
      rw [er]
      refine ⟨np, ra, _, _, rfl, rfl, e3, s23 _ _ hra, by rw [lenD]; show 1 + _ ≤ _; omega, fun cp nc => ⟨(by show 1 ≤ sizeLine; omega), fun np2 nn2 => ?_⟩⟩
      have s34 : Same H3 (upd H3 cp (.lst ([V.non] ++ (due f ws i).map V.int))) := Same.new15 nc
      have e4 : upd H3 cp (.lst ([V.non] ++ (due f ws i).map V.int)) cp = some (.lst ([V.non] ++ (due f ws i).map V.int)) := upd_same
      generalize upd H3 cp (.lst ([V.non] ++ (due f ws i).map V.int)) = H4 at s34 e4 nn2
      have s45 : Same H4 (upd H4 np2 (.lst [.non])) := Same.new15 nn2
      have e5 : upd H4 np2 (.lst [.non]) np2 = some (.lst [.non]) := upd_same
      generalize upd H4 np2 (.lst [.non]) = H5 at s45 e5
      refine ⟨cp, np2, _, _, rfl, rfl, s45 _ _ e4, e5, by rw [List.length_append, lenD]; show 1 + _ + 1 ≤ _; omega, fun cq ncq => ?_⟩
      have s56 : Same H5 (upd H5 cq (.lst ([V.non] ++ (due f ws i).map V.int ++ [V.non]))) := Same.new15 ncq
      have e6 : upd H5 cq (.lst ([V.non] ++ (due f ws i).map V.int ++ [V.non])) cq = some (.lst ([V.non] ++ (due f ws i).map V.int ++ [V.non])) := upd_same
      generalize upd H5 cq (.lst ([V.non] ++ (due f ws i).map V.int ++ [V.non])) = H6 at s56 e6
      have s26 : Same H2 H6 := ((s23.trans s34).trans s45).trans s56
      -- the new row
      refine ⟨_, rfl, .inl ⟨rfl, zs, SqL.of (s26 _ _ eL)⟩, _, rfl, wa, _, rfl, .inl (SqL.of ((s02.trans s26) _ _ hw)), (ws.length : Int), by rw [lenW], by omega, by omega, fun D nD => ?_⟩
      rw [Int.toNat_natCast]
      refine lcR0 (fun c y H => ∃ z, y = V.int z ∧ (due f ws (i + 1))[c]? = some z) (fun _ _ _ _ h _ => h) nD (by omega) (fun c H7 k hc s7 hD7 kk => ?_) fun H7 ys s7 e7 ly hy => ?_
      · obtain ⟨a1, a2, a3⟩ := around ((due f ws i).map V.int) c (by rw [lenD]; exact hc)
        rw [lf_map, getD_oV] at a1
        rw [rt_map, getD_oV] at a3
        have s67 : Same H6 H7 := s7.of_hide15
        have s07 : Same H H7 := (s02.trans s26).trans s67
        have eD : ((due f ws i).map V.int)[c]'(by rw [lenD]; exact hc) = V.int (du f ws i c) := by
          have h := due_get f ws i c hc
          have h2 : ((due f ws i).map V.int)[c]? = some (V.int (du f ws i c)) := by rw [List.getElem?_map, h]; rfl
          rw [List.getElem?_eq_getElem (by rw [lenD]; exact hc)] at h2
          exact Option.some.inj h2
        rw [eD] at a2
        have i1 : ((c : Int) + 1) = ((c + 1 : Nat) : Int) := by omega
        have i2 : ((c : Int) + 2) = ((c + 2 : Nat) : Int) := by omega
        refine ⟨rfl, _, rfl, _, rfl, _, rfl, cq, _, _, _, rfl, rfl, SqL.of (s67 _ _ e6), atI_nat a1, _, rfl, _, rfl, _, _, rfl, rfl, cq, _, _, _, rfl, rfl, SqL.of (s67 _ _ e6), (congrArg (atI _) i1).trans (atI_nat a2),
          _, rfl, _, rfl, _, _, rfl, rfl, cq, _, _, _, rfl, rfl, SqL.of (s67 _ _ e6), (congrArg (atI _) i2).trans (atI_nat a3), d, _, _, _, xs, rfl, s07 _ _ h2, h3.same s07, h4, fun H8 s8 => kk _ _ s8 ⟨_, rfl, ?_⟩⟩
        rw [← ef, due_get f ws (i + 1) c hc, du_succ f ws i c hc]
      · have rowN : RowI H7 (.ref D) (due f ws (i + 1)) := rowI_of e7 (by rw [ly, due_len]) hy
        have s27 : Same H2 H7 := s26.trans s7.of_hide15
        have nDl : D ≠ l := fun e => by rw [e, s26 _ _ eL] at nD; cases nD
        have rh : RowI (hide l H7) (.ref D) (due f ws (i + 1)) := by
          obtain ⟨l2, e2, k1⟩ := rowN
          cases e2
          exact ⟨D, rfl, hide_at nDl k1⟩
        obtain ⟨acc, ea, za, La⟩ := lci_next mono (by omega) L s27 rh
        exact ⟨l, acc, _, rfl, rfl, ea, za, ⟨_, _, rfl⟩, La⟩
    · subst eσ
      obtain ⟨zs, lz, eL, sL, hz⟩ := L
      exact ⟨_, rfl, q l H2 sL.of_hide15 ⟨zs, eL, lz, fun j y e => by rw [← ef]; exact (hz j y e).same hide_same⟩⟩
abbrev nRun : List Str := ["_law_row", "_law_word_here", "_law_ticks", "_law_found", "_law_tick", "_law_cells", "_law_at", "_law_letter"]
theorem scRun : FnScope nRun ["_law_row", "_law_word_here", "_law_ticks"] (defScope sRun) := ⟨rfl, rfl, rfl, by decide +kernel, rfl, by decide +kernel, by decide +kernel⟩
theorem cl_run (D : Dd K mg "_law_run" sRun ["_law_row", "_law_word_here", "_law_ticks"]) (T : Tx K mg CT CO CR) (C1 : Mt P w K mg base 2 CO "begin" (spOneBegin P w CT CO)) (C2 : Mt P w K mg base 2 CO "next" (spOneNext P w CT CO)) : Cl P w K mg base 3 "_law_run" (spRun P w CT CO) := by
  refine cl_of D scRun (fun vs H Q E h => ?_) (fun fa cdv A outer s H vs Q E hr h => ?_)
  · obtain ⟨x, wa, tk, f, ws, rfl, _⟩ := h
    rfl
  · obtain ⟨x, wa, tk, f, ws, rfl, o0, hw, lw, ltk, q⟩ := h
    refine ⟨_, pss_cons (ps_set (i := 3) scRun.nd rfl (Or.inl rfl) (pe_lst (pa_cons (pe_lc (own := [("_law_letter", 7)]) (g := gName 7) (tt := tYes) rfl scRun.nd (pi_list (pv 1)) (blkOk_by (N := nRun) (sc := defScope sRun) (by decide +kernel))
          (fun _ _ _ _ _ => pg_name (i := 7) scRun.nd rfl (Or.inl rfl)) (fun _ _ _ _ _ => pts_nil) (fun _ _ _ _ _ => pe_me C1 hr (pv 0) (pa_cons (pv 7) pa_nil))) pa_nil)))
      (pss_cons (ps_for PassesOwn.never rfl (pi_range1 (by rfl) T.range (pa_cons (pv 2) pa_nil)) (pg_name (i := 4) scRun.nd rfl (Or.inl rfl))
        (pss_cons (ps_set (i := 5) scRun.nd rfl (Or.inr rfl) (pe_op op_cat (pe_op op_cat (pe_lst (pa_cons pe_non pa_nil)) (pe_ix ix_list (pv 3) (pe_un un_neg pe_int) (by intro _ _; rfl))) (pe_lst (pa_cons pe_non pa_nil))))
        (pss_one (ps_expr (pe_app (pv 3) (pe_lc (own := [("_law_at", 6)]) (g := gName 6) (tt := tYes) rfl scRun.nd (pi_range1 (by rfl) T.range (pa_cons (pe_callB call_len_seq (by rfl) T.len bt_len (pa_cons (pv 1) pa_nil)) pa_nil))
          (blkOk_by (N := nRun) (sc := defScope sRun) (by decide +kernel)) (fun _ _ _ _ _ => pg_name (i := 6) scRun.nd rfl (Or.inl rfl)) (fun _ _ _ _ _ => pts_nil)
          (fun _ _ _ _ _ => pe_me C2 hr (pv 0) (pa_cons (pe_ix (ix_listK (K := K) rfl) (pv 5) (pv 6) (by intro _ _; rfl)) (pa_cons (pe_ix (ix_listK (K := K) rfl) (pv 5) (pe_op op_add (pv 6) pe_int) (by intro _ _; rfl))
            (pa_cons (pe_ix (ix_listK (K := K) rfl) (pv 5) (pe_op op_add (pv 6) pe_int) (by intro _ _; rfl)) pa_nil))))))))))
      (pss_one (ps_ret (pv 3)))), ?_⟩
    have big : (10000 : Nat) ≤ sizeLine := by decide
    have lenW : (ws.map V.int).length = ws.length := List.length_map ..
    -- the first row
    refine ⟨_, rfl, wa, rfl, ⟨_, SqL.of hw⟩, fun D nD => ?_⟩
    refine lcL (K := K) (xs := ws.map V.int) (fun i y H => ∃ t : Addr × OW, y = V.ref t.1 ∧ (made f ws 0)[i]? = some t.2 ∧ H t.1 = some (.tup (owV t.2))) (fun j y H H' ⟨t, h1, h2, h3⟩ sm => ⟨t, h1, h2, sm _ _ h3⟩)
      (SqL.of hw) nD (by rw [lenW]; omega) (fun i v H5 k hv s5 hD kk => ?_) fun H5 ys s5 e5 ly hy => ?_
    · rw [List.getElem?_map] at hv
      obtain ⟨z, hz, rfl⟩ := Option.map_eq_some_iff.mp hv
      obtain ⟨dx3, q3, n3, hx1, hx2⟩ := o0.same s5.of_hide15
      refine ⟨rfl, _, rfl, x, dx3, _, rfl, hx1, oneF_no _ _ (by decide +kernel), _, rfl, x, f, z, rfl, ⟨dx3, q3, n3, hx1, hx2⟩, fun cp H6 s6 nc hc => ?_⟩
      obtain ⟨ysD, hD⟩ := hD
      exact kk _ _ s6 ⟨(cp, .wait z), rfl, by show (ws.map OW.wait)[i]? = _; rw [List.getElem?_map, hz]; rfl, hide_at (ne_obj hc (s6 _ _ hD) (fun z => by cases z)) hc⟩
    have row0 : RowO H5 (.ref D) (made f ws 0) := rowO_of e5 (by rw [ly, lenW]; exact (made_len f ws 0).symm) hy
    have s05 : Same H H5 := s5.of_hide15
    refine ⟨(by show 1 ≤ sizeLine; omega), fun l nl => ?_⟩
    have mono : ∀ j y H H', RowO H y (made f ws j) → Same H H' → RowO H' y (made f ws j) := fun j y H H' h s => h.same s
    have L0 : LcI H l (fun j y H => RowO H y (made f ws j)) 1 (upd H5 l (.lst [.ref D])) := lci_one mono s05 nl row0
    generalize upd H5 l (.lst [.ref D]) = H1 at L0
    refine ⟨_, rfl, (tk : Int), rfl, by omega, by omega, ?_⟩
    rw [Int.toNat_natCast]
    refine for_range0 (fun i σ H2 => (∃ u v : Option V, σ = [some (.ref x), some (.ref wa), some (.int (tk : Nat)), some (.ref l), u, v, none, none]) ∧ LcI H l (fun j y H => RowO H y (made f ws j)) (i + 1) H2)
      ⟨⟨none, none, rfl⟩, L0⟩ (fun i σ H2 hi ⟨⟨u, v, eσ⟩, L⟩ => ?_) fun σ H2 ⟨⟨u, v, eσ⟩, L⟩ => ?_
    · subst eσ
      obtain ⟨zs, lz, eL, sL, hz⟩ := id L
      have hlast : zs[i]? = some zs[i] := List.getElem?_eq_getElem (by omega)
      obtain ⟨ra, ts, er, hra, hts, ets⟩ := (hz i _ hlast).same hide_same
      have s02 : Same H H2 := sL.of_hide15
      have ld : ts.length = ws.length := by rw [← made_len f ws i, ← ets, List.length_map]
      have lenD : (ts.map fun t => V.ref t.1).length = ws.length := by rw [List.length_map, ld]
      -- cells
      refine ⟨(by show 1 ≤ sizeLine; omega), fun np nn => ?_⟩
      have e3 : upd H2 np (.lst [.non]) np = some (.lst [.non]) := upd_same
      have s23 : Same H2 (upd H2 np (.lst [.non])) := Same.new15 nn
      generalize upd H2 np (.lst [.non]) = H3 at e3 s23
      refine ⟨_, rfl, _, rfl, l, zs, -1, zs[i], rfl, rfl, SqL.of (s23 _ _ eL), atI_last lz hlast, ?_⟩
      rw [er]
      refine ⟨np, ra, _, _, rfl, rfl, e3, s23 _ _ hra, by rw [lenD]; show 1 + _ ≤ _; omega, fun cp nc => ⟨(by show 1 ≤ sizeLine; omega), fun np2 nn2 => ?_⟩⟩
      have s34 : Same H3 (upd H3 cp (.lst ([V.non] ++ ts.map fun t => V.ref t.1))) := Same.new15 nc
      have e4 : upd H3 cp (.lst ([V.non] ++ ts.map fun t => V.ref t.1)) cp = some (.lst ([V.non] ++ ts.map fun t => V.ref t.1)) := upd_same
      generalize upd H3 cp (.lst ([V.non] ++ ts.map fun t => V.ref t.1)) = H4 at s34 e4 nn2
      have s45 : Same H4 (upd H4 np2 (.lst [.non])) := Same.new15 nn2
      have e5' : upd H4 np2 (.lst [.non]) np2 = some (.lst [.non]) := upd_same
      generalize upd H4 np2 (.lst [.non]) = H5' at s45 e5'
      refine ⟨cp, np2, _, _, rfl, rfl, s45 _ _ e4, e5', by rw [List.length_append, lenD]; show 1 + _ + 1 ≤ _; omega, fun cq ncq => ?_⟩
      have s56 : Same H5' (upd H5' cq (.lst ([V.non] ++ (ts.map fun t => V.ref t.1) ++ [V.non]))) := Same.new15 ncq
      have e6 : upd H5' cq (.lst ([V.non] ++ (ts.map fun t => V.ref t.1) ++ [V.non])) cq = some (.lst ([V.non] ++ (ts.map fun t => V.ref t.1) ++ [V.non])) := upd_same
      generalize upd H5' cq (.lst ([V.non] ++ (ts.map fun t => V.ref t.1) ++ [V.non])) = H6 at s56 e6
      have s26 : Same H2 H6 := ((s23.trans s34).trans s45).trans s56
      -- the new row
      refine ⟨_, rfl, .inl ⟨rfl, zs, SqL.of (s26 _ _ eL)⟩, _, rfl, wa, _, rfl, .inl (SqL.of ((s02.trans s26) _ _ hw)), (ws.length : Int), by rw [lenW], by omega, by omega, fun D nD => ?_⟩
      rw [Int.toNat_natCast]
      refine lcR0 (fun c y H => ∃ t : Addr × OW, y = V.ref t.1 ∧ (made f ws (i + 1))[c]? = some t.2 ∧ H t.1 = some (.tup (owV t.2))) (fun j y H H' ⟨t, h1, h2, h3⟩ sm => ⟨t, h1, h2, sm _ _ h3⟩) nD (by omega) (fun c H7 k hc s7 hD7 kk => ?_) fun H7 ys s7 e7 ly hy => ?_
      · obtain ⟨a1, a2, a3⟩ := around (ts.map fun t => V.ref t.1) c (by rw [lenD]; exact hc)
        have s67 : Same H6 H7 := s7.of_hide15
        have s27 : Same H2 H7 := s26.trans s67
        have s07 : Same H H7 := s02.trans s27
        have hcT : c < ts.length := by rw [ld]; exact hc
        have how : OWat H7 ((lf (ts.map fun t => V.ref t.1) c).getD .non) (lf (made f ws i) c) := by
          rw [← ets, lf_map, lf_map]
          cases e : lf ts c with
          | none => rfl
          | some t =>
            have hm : t ∈ ts := by
              unfold lf at e
              split at e
              · cases e
              · exact List.mem_of_getElem? e
            exact ⟨t.1, rfl, s27 _ _ (hts t hm)⟩
        have eD : (ts.map fun t => V.ref t.1)[c]'(by rw [lenD]; exact hc) = V.ref (ts[c]).1 := List.getElem_map ..
        rw [eD] at a2
        have i1 : ((c : Int) + 1) = ((c + 1 : Nat) : Int) := by omega
        have i2 : ((c : Int) + 2) = ((c + 2 : Nat) : Int) := by omega
        obtain ⟨dx3, q3, n3, hx1, hx2⟩ := o0.same s07
        have emade : (made f ws (i + 1))[c]? = some (owNext f (lf (made f ws i) c) ts[c].2) := by
          have hm : (made f ws i).getD c (.wait 0) = ts[c].2 := by
            rw [List.getD_eq_getElem?_getD, ← ets, List.getElem?_map, List.getElem?_eq_getElem hcT]
            rfl
          show (tick1 f (made f ws i))[c]? = _
          unfold tick1
          rw [List.getElem?_map, List.getElem?_range (by rw [made_len]; exact hc)]
          show some (owNext f (lf (made f ws i) c) ((made f ws i).getD c (.wait 0))) = _
          rw [hm]
        refine ⟨rfl, _, rfl, x, dx3, _, rfl, hx1, oneF_no _ _ (by decide +kernel), _, rfl, _, rfl, cq, _, _, _, rfl, rfl, SqL.of (s67 _ _ e6), atI_nat a1, _, rfl, _, rfl, _, _, rfl, rfl, cq, _, _, _, rfl, rfl, SqL.of (s67 _ _ e6), (congrArg (atI _) i1).trans (atI_nat a2),
          _, rfl, _, rfl, _, _, rfl, rfl, cq, _, _, _, rfl, rfl, SqL.of (s67 _ _ e6), (congrArg (atI _) i2).trans (atI_nat a3), ?_⟩
        refine ⟨x, ts[c].1, f, _, _, lf (made f ws i) c, ts[c].2, rfl, ⟨dx3, q3, n3, hx1, hx2⟩, how, s27 _ _ (hts _ (List.getElem_mem hcT)), fun np3 H8 s8 h8 => ?_⟩
        obtain ⟨ysD, hD⟩ := hD7
        exact kk _ _ s8 ⟨(np3, owNext f (lf (made f ws i) c) ts[c].2), rfl, emade, hide_at (ne_obj h8 (s8 _ _ hD) (fun z => by cases z)) h8⟩
      · have rowN : RowO H7 (.ref D) (made f ws (i + 1)) := rowO_of e7 (by rw [ly, made_len]) hy
        have s27 : Same H2 H7 := s26.trans s7.of_hide15
        have nDl : D ≠ l := fun e => by rw [e, s26 _ _ eL] at nD; cases nD
        have rh : RowO (hide l H7) (.ref D) (made f ws (i + 1)) := by
          obtain ⟨l2, ts2, e2, k1, k2, k3⟩ := rowN
          cases e2
          exact ⟨D, ts2, rfl, hide_at nDl k1, fun t ht => hide_at (ne_obj (k2 t ht) (s27 _ _ eL) (fun z => by cases z)) (k2 t ht), k3⟩
        obtain ⟨acc, ea, za, La⟩ := lci_next mono (by omega) L s27 rh
        exact ⟨l, acc, _, rfl, rfl, ea, za, ⟨_, _, rfl⟩, La⟩
    · subst eσ
      obtain ⟨zs, lz, eL, sL, hz⟩ := L
      exact ⟨_, rfl, q l H2 sL.of_hide15 ⟨zs, eL, lz, fun j y e => (hz j y e).same hide_same⟩⟩
abbrev nWord : List Str := ["_law_ramp_here", "_law_letters", "_law_many", "_law_at"]
theorem scWord : FnScope nWord ["_law_ramp_here", "_law_letters", "_law_many"] (defScope sWord) := ⟨rfl, rfl, rfl, by decide +kernel, rfl, by decide +kernel, by decide +kernel⟩
theorem cl_word (D : Dd K mg "_law_word" sWord ["_law_ramp_here", "_law_letters", "_law_many"]) (T : Tx K mg CT CO CR) (C1 : Cl P w K mg base 1 "_law_roll" spRoll) : Cl P w K mg base 2 "_law_word" spWord := by
  refine cl_of D scWord (fun vs H Q E h => ?_) (fun fa cdv A outer s H vs Q E hr h => ?_)
  · obtain ⟨p, l, n, b, m, rfl, _⟩ := h
    rfl
  · obtain ⟨p, l, n, b, m, rfl, rp, rl, ⟨n0, n1⟩, hm, hb, q⟩ := h
    have big : (10000 : Nat) ≤ sizeLine := by decide
    refine ⟨_, pss_one (ps_ret (pe_lc (own := [("_law_at", 3)]) (g := gName 3) (tt := tYes) rfl scWord.nd (pi_range1 (by rfl) T.range (pa_cons (pv 2) pa_nil)) (blkOk_by (N := nWord) (sc := defScope sWord) (by decide +kernel))
          (fun _ _ _ _ _ => pg_name (i := 3) scWord.nd rfl (Or.inl rfl)) (fun _ _ _ _ _ => pts_nil) (fun _ _ _ _ _ => pe_cl C1 hr (by rfl) (pa_cons (pv 0) (pa_cons (pv 1) pa_nil))))), ?_⟩
    refine ⟨_, rfl, (m : Int), rfl, by omega, by omega, fun D nD => ?_⟩
    rw [Int.toNat_natCast]
    have Dne : D ≠ p := fun e => by obtain ⟨_, _, z, _⟩ := rp; rw [e, z] at nD; cases nD
    refine lc_range (lo := 0) (n := m)
      (fun k H2 => RampP H2 p l (b + k) ∧ Same (hide p H) (hide D (hide p H2)) ∧ ∃ ys : List Int, H2 D = some (.lst (ys.map V.int)) ∧ ys.length = k ∧ ∀ y ∈ ys, 0 ≤ y ∧ y < n)
      ⟨(rp.upd Dne).mono (by omega), by rw [hide2_upd]; exact (Same.refl _).to_hide15 (hide_none nD), [], upd_same, rfl, fun t ht => by cases ht⟩ (fun k H2 hk ⟨rpk, sk, ys, hD, yl, yb⟩ => ?_) fun H2 ⟨rpk, sk, ys, hD, yl, yb⟩ => ?_
    · refine ⟨rfl, ?_⟩
      unfold tYes
      refine (if_pos rfl).mpr ?_
      refine ⟨_, rfl, _, rfl, p, l, n, _, rfl, rpk, rl.same sk.of_hide15, ⟨n0, by omega⟩, by omega, fun r H3 r0 r1 s3 rp3 => ?_⟩
      have hD3 := (hide_get (s3 _ _ (hide_at Dne hD))).1
      refine ⟨_, hD3, by rw [List.length_map]; omega, (rp3.upd Dne).mono (by omega), by rw [hide2_upd]; exact sk.trans s3.hid15, ys ++ [r], by rw [upd_same, List.map_append]; rfl, by rw [List.length_append, yl]; rfl, fun y hy => ?_⟩
      rcases List.mem_append.mp hy with hy | hy
      · exact yb y hy
      · have ey : y = r := by simpa using hy
        omega
    · exact q D ys H2 yl yb sk.of_hide15 (rpk.mono (by omega)) (hide_at Dne hD)
end
end K15
end

section
set_option Elab.async false
set_option linter.all false
set_option maxRecDepth 100000
set_option maxHeartbeats 2000000
/-! Nested data: whether it may be compared, shown; the triangle as such. -/
namespace K15
open PySem PySem.W PySem.Spec PyProof.Rows L2

theorem canLayAll_of {ds : List PyData} (h : ∀ d ∈ ds, PyData.canLay0 d = true) : PyData.canLayAll0 ds = true := by
  induction ds with
  | nil => simp [PyData.canLayAll0]
  | cons d ds ih => simp only [PyData.canLayAll0, Bool.and_eq_true]; exact ⟨h d (List.mem_cons_self ..), ih fun e he => h e (List.mem_cons_of_mem _ he)⟩
theorem depthAll_of {ds : List PyData} {n : Nat} (h : ∀ d ∈ ds, PyData.depth d ≤ n) : PyData.depthAll ds ≤ n := by
  induction ds with
  | nil => simp [PyData.depthAll]
  | cons d ds ih => simp only [PyData.depthAll]; exact Nat.max_le.mpr ⟨h d (List.mem_cons_self ..), ih fun e he => h e (List.mem_cons_of_mem _ he)⟩
theorem showableAll_of {ds : List PyData} (h : ∀ d ∈ ds, PyData.showable d = true) : PyData.showableAll ds = true := by
  induction ds with
  | nil => simp [PyData.showableAll]
  | cons d ds ih => simp only [PyData.showableAll, Bool.and_eq_true]; exact ⟨h d (List.mem_cons_self ..), ih fun e he => h e (List.mem_cons_of_mem _ he)⟩
theorem eqvAll_of {ds : List PyData} (h : ∀ d ∈ ds, PyData.eqv d d = true) : PyData.eqvAll ds ds = true := by
  induction ds with
  | nil => simp [PyData.eqvAll]
  | cons d ds ih => simp only [PyData.eqvAll, Bool.and_eq_true]; exact ⟨h d (List.mem_cons_self ..), ih fun e he => h e (List.mem_cons_of_mem _ he)⟩
theorem eqv_int (i : Int) : PyData.eqv (.int i) (.int i) = true := by simp [PyData.eqv]
theorem eqv_non : PyData.eqv .none .none = true := by simp [PyData.eqv]
theorem eqv_lst {ds : List PyData} (h : ∀ d ∈ ds, PyData.eqv d d = true) : PyData.eqv (.list ds) (.list ds) = true := by simp only [PyData.eqv]; exact eqvAll_of h
theorem eqv_tup {ds : List PyData} (h : ∀ d ∈ ds, PyData.eqv d d = true) : PyData.eqv (.tuple ds) (.tuple ds) = true := by simp only [PyData.eqv]; exact eqvAll_of h
theorem shaped_lst {ds : List PyData} (h : ∀ d ∈ ds, PyData.canLay0 d = true) (k : ∀ d ∈ ds, PyData.depth d ≤ 60) : SeqAt.shaped (.list ds) = true := by
  have e := depthAll_of k
  refine Bool.and_eq_true_iff.mpr ⟨by simp only [PyData.canLay0]; exact canLayAll_of h, decide_eq_true ?_⟩
  simp only [PyData.depth]
  omega
theorem shaped_tup {ds : List PyData} (h : ∀ d ∈ ds, PyData.canLay0 d = true) (k : ∀ d ∈ ds, PyData.depth d ≤ 60) : SeqAt.shaped (.tuple ds) = true := by
  have e := depthAll_of k
  refine Bool.and_eq_true_iff.mpr ⟨by simp only [PyData.canLay0]; exact canLayAll_of h, decide_eq_true ?_⟩
  simp only [PyData.depth]
  omega
theorem dpAll_of {K : PySem.W.Frag} {H : Hp} : ∀ {vs : List V} {ds : List PyData}, vs.length = ds.length → (∀ (j : Nat) (v : V) (d : PyData), vs[j]? = some v → ds[j]? = some d → Dp K H v d) → DpAll K H vs ds
  | [], [], _, _ => .nil
  | v :: vs, d :: ds, hl, h => .cons (h 0 v d rfl rfl) (dpAll_of (Nat.succ.inj hl) fun j v d e1 e2 => h (j + 1) v d e1 e2)
  | [], _ :: _, hl, _ => by cases hl
  | _ :: _, [], hl, _ => by cases hl
/-- a tuple of two whole numbers -/
theorem dp_pair {K : PySem.W.Frag} {H : Hp} {a : Addr} {i j : Int} (e : H a = some (.tup [.int i, .int j])) : Dp K H (.ref a) (.tuple [.int i, .int j]) := .tup (SqT.of e) (.cons (.int i) (.cons (.int j) .nil))
theorem can_pair (i j : Int) : PyData.canLay0 (.tuple [.int i, .int j]) = true := by simp [PyData.canLay0, PyData.canLayAll0]
theorem dep_pair (i j : Int) : PyData.depth (.tuple [.int i, .int j]) ≤ 60 := by simp [PyData.depth, PyData.depthAll]
theorem shaped_pair (i j : Int) : SeqAt.shaped (.tuple [.int i, .int j]) = true := by
  simp [SeqAt.shaped, PyData.canLay0, PyData.canLayAll0, PyData.depth, PyData.depthAll]
theorem eqv_pair (i j : Int) : PyData.eqv (.tuple [.int i, .int j]) (.tuple [.int i, .int j]) = true := by simp [PyData.eqv, PyData.eqvAll]
/-- the triangle's data -/
def triRow (f : F3) (ws : List Int) (t : Nat) : PyData := .tuple ((List.range (ws.length - t)).map fun c => PyData.int (du f ws t c))
def triD (f : F3) (ws : List Int) : PyData := .tuple ((List.range ws.length).map (triRow f ws))
theorem tri_dp {K : PySem.W.Frag} {H : Hp} {v : V} {f : F3} {ws : List Int} (h : TriAt H v f ws) : Dp K H v (triD f ws) := by
  obtain ⟨q, rs, rfl, h1, h2, h3⟩ := h
  refine .tup (SqT.of h1) (dpAll_of (by rw [List.length_map, List.length_map, List.length_range, h2]) fun t v d e1 e2 => ?_)
  rw [List.getElem?_map] at e1
  obtain ⟨a, ha, rfl⟩ := Option.map_eq_some_iff.mp e1
  have ht : t < ws.length := by rw [← h2]; exact (List.getElem?_eq_some_iff.mp ha).1
  rw [List.getElem?_map, List.getElem?_range ht] at e2
  cases (Option.some.inj e2)
  refine .tup (SqT.of (h3 t a ha)) (dpAll_of (by rw [List.length_map, List.length_map]) fun c v d e1 e2 => ?_)
  rw [List.getElem?_map] at e1 e2
  obtain ⟨i, hi, rfl⟩ := Option.map_eq_some_iff.mp e1
  rw [hi] at e2
  cases (Option.some.inj e2)
  exact .int _
theorem tri_row_can (f : F3) (ws : List Int) (t : Nat) : PyData.canLay0 (triRow f ws t) = true := by
  unfold triRow
  simp only [PyData.canLay0]
  refine canLayAll_of fun d hd => ?_
  obtain ⟨c, _, rfl⟩ := List.mem_map.mp hd
  simp [PyData.canLay0]
theorem tri_row_depth (f : F3) (ws : List Int) (t : Nat) : PyData.depth (triRow f ws t) ≤ 1 := by
  unfold triRow
  simp only [PyData.depth]
  have := depthAll_of (n := 0) (ds := (List.range (ws.length - t)).map fun c => PyData.int (du f ws t c)) fun d hd => by
    obtain ⟨c, _, rfl⟩ := List.mem_map.mp hd
    simp [PyData.depth]
  omega
theorem tri_depth (f : F3) (ws : List Int) : PyData.depth (triD f ws) ≤ 2 := by
  unfold triD
  simp only [PyData.depth]
  have := depthAll_of (n := 1) (ds := (List.range ws.length).map (triRow f ws)) fun d hd => by
    obtain ⟨c, _, rfl⟩ := List.mem_map.mp hd
    exact tri_row_depth f ws c
  omega
theorem tri_shaped (f : F3) (ws : List Int) : SeqAt.shaped (triD f ws) = true := by
  refine shaped_tup (fun d hd => ?_) fun d hd => ?_
  · obtain ⟨c, _, rfl⟩ := List.mem_map.mp hd
    exact tri_row_can f ws c
  · obtain ⟨c, _, rfl⟩ := List.mem_map.mp hd
    exact Nat.le_trans (tri_row_depth f ws c) (by decide)
theorem tri_eqv (f : F3) (ws : List Int) : PyData.eqv (triD f ws) (triD f ws) = true := by
  refine eqv_tup fun d hd => ?_
  obtain ⟨c, _, rfl⟩ := List.mem_map.mp hd
  refine eqv_tup fun d hd => ?_
  obtain ⟨c, _, rfl⟩ := List.mem_map.mp hd
  exact eqv_int _
theorem tri_noDict (f : F3) (ws : List Int) : PyData.hasDict (triD f ws) = false := PyData.hasDict_of_canLay _ (SeqAt.canLay_of_shaped (tri_shaped f ws))
theorem piled_le {ts : List Str} {B : Nat} (h : ∀ t ∈ ts, t.length ≤ B) : piled ts ≤ (B + 2) * ts.length := by
  induction ts with
  | nil => exact Nat.zero_le _
  | cons t ts ih =>
    rw [piled_cons, List.length_cons]
    have h1 := h t (List.mem_cons_self ..)
    have h2 := ih fun x hx => h x (List.mem_cons_of_mem _ hx)
    rw [Nat.mul_succ]
    omega
theorem tupText_le {ts : List Str} {B : Nat} (hne : ts ≠ []) (h : ∀ t ∈ ts, t.length ≤ B) : (tupleText ts).length ≤ 3 + (B + 2) * ts.length := by
  have h1 := join_length_add ts hne
  have h2 := piled_le h
  unfold tupleText
  rw [strLen_append, strLen_append]
  have h3 : (("(" : String) : Str).length = 1 := rfl
  have h4 : ((if ts.length == 1 then ",)" else ")" : String) : Str).length ≤ 2 := by
    split
    · exact Nat.le_refl _
    · exact Nat.le_succ _
  omega
theorem shownAll_map (ds : List PyData) : PyData.shownAll ds = ds.map PyData.shown := by
  induction ds with
  | nil => simp [PyData.shownAll]
  | cons d ds ih => simp only [PyData.shownAll, List.map_cons, ih]
theorem shown_tup (ds : List PyData) : (PyData.tuple ds).shown = tupleText (ds.map PyData.shown) := by
  simp only [PyData.shown, shownAll_map]
theorem tri_shows {f : F3} {ws : List Int} (h0 : 1 ≤ ws.length) (h1 : ws.length ≤ 100) (hb : ∀ t c, c < ws.length → 0 ≤ du f ws t c ∧ du f ws t c < 100) : (triD f ws).showable = true ∧ (triD f ws).shown.length ≤ sizeLine := by
  constructor
  · unfold triD
    simp only [PyData.showable]
    refine showableAll_of fun d hd => ?_
    obtain ⟨t, ht, rfl⟩ := List.mem_map.mp hd
    unfold triRow
    simp only [PyData.showable]
    refine showableAll_of fun d hd => ?_
    obtain ⟨c, hc, rfl⟩ := List.mem_map.mp hd
    have hc2 : c < ws.length := by have := List.mem_range.mp hc; omega
    obtain ⟨b0, b1⟩ := hb t c hc2
    simp only [PyData.showable, decide_eq_true_eq]
    have : (du f ws t c).natAbs < 2 ^ 7 := by omega
    have hl : (du f ws t c).natAbs.log2 ≤ (du f ws t c).natAbs := Nat.log2_le_self _
    omega
  · unfold triD
    rw [shown_tup]
    have big : 3 + (102 * 100 + 100 + 5) * 100 ≤ sizeLine := by decide
    refine Nat.le_trans (tupText_le (B := 10303) (fun z => ?_) fun t ht => ?_) ?_
    · have := congrArg List.length z
      rw [List.length_map, List.length_map, List.length_range] at this
      exact absurd this (by show ¬ ws.length = 0; omega)
    · obtain ⟨d, hd, rfl⟩ := List.mem_map.mp ht
      obtain ⟨t, htr, rfl⟩ := List.mem_map.mp hd
      have htl := List.mem_range.mp htr
      unfold triRow
      rw [shown_tup]
      refine Nat.le_trans (tupText_le (B := 101) (fun z => ?_) fun s hs => ?_) ?_
      · have := congrArg List.length z
        rw [List.length_map, List.length_map, List.length_range] at this
        exact absurd this (by show ¬ ws.length - t = 0; omega)
      · obtain ⟨d, hd, rfl⟩ := List.mem_map.mp hs
        obtain ⟨c, hc, rfl⟩ := List.mem_map.mp hd
        have hc2 : c < ws.length := by have := List.mem_range.mp hc; omega
        obtain ⟨b0, b1⟩ := hb t c hc2
        simp only [PyData.shown]
        have := len_str_of_int (du f ws t c)
        omega
      · rw [List.length_map, List.length_map, List.length_range]
        have : (101 + 2) * (ws.length - t) ≤ 103 * 100 := Nat.mul_le_mul_left _ (by omega)
        omega
    · rw [List.length_map, List.length_map, List.length_range]
      have : (10303 + 2) * ws.length ≤ 10305 * 100 := Nat.mul_le_mul_left _ h1
      omega
/-- worths stay within their bounds -/
theorem du_bound {f : F3} {ws : List Int} {n : Int} (hf : ∀ l o r, 0 ≤ o → o < n → 0 ≤ f l o r ∧ f l o r < n) (hw : ∀ z ∈ ws, 0 ≤ z ∧ z < n) : ∀ (t c : Nat), c < ws.length → 0 ≤ du f ws t c ∧ du f ws t c < n
  | 0, c, hc => by
    show 0 ≤ ws.getD c 0 ∧ ws.getD c 0 < n
    rw [List.getD_eq_getElem?_getD, List.getElem?_eq_getElem hc]
    exact hw _ (List.getElem_mem hc)
  | t + 1, c, hc => by
    rw [du_succ f ws t c hc]
    obtain ⟨h1, h2⟩ := du_bound hf hw t c hc
    exact hf _ _ _ h1 h2
theorem fnOf_bound {wo : Int} {ts : List PrT} (h : RulesOk wo ts) (l : Option Int) (o : Int) (r : Option Int) (h0 : 0 ≤ o) (h1 : o < wo) : 0 ≤ fnOf (ts.map (·.2)) l o r ∧ fnOf (ts.map (·.2)) l o r < wo := by
  unfold fnOf
  cases e : look (ts.map (·.2)) (kL l o r) with
  | none => exact ⟨h0, h1⟩
  | some v =>
    unfold look at e
    obtain ⟨y, hy, ey⟩ := Option.map_eq_some_iff.mp e
    obtain ⟨t, ht, rfl⟩ := List.mem_map.mp (List.mem_of_find?_eq_some hy)
    obtain ⟨i, hi, i0, i1⟩ := (h.2.2 t ht).2
    rw [← ey, hi]
    exact ⟨i0, i1⟩
theorem rules_ints {wo : Int} {ts : List PrT} (h : RulesOk wo ts) : IntVals (ts.map (·.2)) := fun x hx => by
  obtain ⟨t, ht, rfl⟩ := List.mem_map.mp hx
  obtain ⟨i, hi, _⟩ := (h.2.2 t ht).2
  exact ⟨i, hi⟩
end K15
end

section
set_option Elab.async false
set_option linter.all false
set_option maxRecDepth 100000
set_option maxHeartbeats 4000000
/-! One turn of the law. -/
namespace K15
open PySem PySem.W PySem.Spec PyProof.Rows L2

theorem sl_listK {X : Cx} {K : PySem.W.Frag} (h : X.K = K) : SlR X (rSlL K) := by
  subst h
  exact sl_list
theorem TriAt.same {H H' : Hp} {v : V} {f : F3} {ws : List Int} (h : TriAt H v f ws) (s : Same H H') : TriAt H' v f ws := let ⟨q, rs, e, h1, h2, h3⟩ := h; ⟨q, rs, e, s _ _ h1, h2, fun t a ha => s _ _ (h3 t a ha)⟩
theorem due_cut {f : F3} {ws : List Int} {t : Nat} (ht : t < ws.length) : cutV ((due f ws t).map V.int) none (some ((ws.length : Int) - (t : Int))) = (List.range (ws.length - t)).map fun c => V.int (du f ws t c) := by
  have e : (ws.length : Int) - (t : Int) = ((ws.length - t : Nat) : Int) := by omega
  have ld : ((due f ws t).map V.int).length = ws.length := by rw [List.length_map, due_len]
  unfold cutV
  rw [e, HT.sIx_none, HT.sIx_nat, ld, Nat.sub_zero, List.drop_zero, Nat.min_eq_left (by omega)]
  refine List.ext_getElem? fun c => ?_
  by_cases hc : c < ws.length - t
  · rw [List.getElem?_take, if_pos hc, List.getElem?_map, due_get f ws t c (by omega), List.getElem?_map, List.getElem?_range hc]
    rfl
  · rw [List.getElem?_take, if_neg hc, List.getElem?_eq_none (by rw [List.length_map, List.length_range]; omega)]
abbrev nRight : List Str := ["_law_ramp_here", "_law_letters", "_law_worths", "_law_rules", "_law_yes", "_law_table_here", "_law_many", "_law_word_here", "_law_due", "_law_made", "_law_tick", "_law_cell", "_law_where", "_law_when", "_law_told"]
def spRight : Sp := fun vs H Q _ => ∃ (p l : Addr) (b : Int), vs = [.ref p] ∧ RampP H p l b ∧ RampL (hide p H) l ∧ b ≤ 100000 ∧ ∀ H', Same (hide p H) (hide p H') → RampP H' p l (b + 5000) → Q (.bl true) H'
section
variable {P : Program} {w : World} {K : PySem.W.Frag} {mg : Str → Option Value} {base : Heap} {CT CO CR : Addr}
theorem scRight : FnScope nRight ["_law_ramp_here"] (defScope sRight) := ⟨rfl, rfl, rfl, by decide +kernel, rfl, by decide +kernel, by decide +kernel⟩
structure FnGx (P : Program) (w : World) (K : PySem.W.Frag) (mg : Str → Option Value) (base : Heap) (k : Nat) (x : Str) (ps : List Str) (sp : Sp) : Prop where
  ex : ∃ (f : Addr) (fd : FuncData), FnG P w K mg base k f fd ps sp ∧ mg x = some (.ref f) ∧ PySem.W.keepIn K (.ref f) = true ∧ Binds K fd ps []
theorem cl_right (D : Dd K mg "_law_right" sRight ["_law_ramp_here"]) (T : Tx K mg CT CO CR) (C1 : Cl P w K mg base 3 "_law_table" spTable) (C2 : Mm P w K mg base 5 "Table" CT (spTab P w CT)) (C3 : Cl P w K mg base 2 "_law_of" spOf)
    (C4 : Cl P w K mg base 2 "_law_word" spWord) (C5 : Cl P w K mg base 2 "_law_strip" (spStrip P w)) (C6 : Mm P w K mg base 3 "OneWay" CO (spOne P w CT CO)) (C7 : Cl P w K mg base 3 "_law_run" (spRun P w CT CO)) (C8 : Cl P w K mg base 4 "slant" spSlanted)
    (C9 : ClF P w K mg base 6 "triangle" sTriangle ["row", "word"] (spTri P w CT)) : FnGx P w K mg base 7 "_law_right" ["_law_ramp_here"] spRight := by
  obtain ⟨ft, fdt, FT, OT, mt, bt⟩ := C9.ex
  have hbT : ∀ (s : Shared) (ws : List Value), ws.length = (["word", "row"] : List Str).length → BindsTo s fdt ⟨[], (["word", "row"] : List Str).zip ws⟩ ((["row", "word"] : List Str).zip ws.reverse) := by
    obtain ⟨oc, od, kV, doc, pm, an, cdv, ct, osl, rfl, lk, hcd⟩ := FT.ex
    intro s ws hl
    match ws, hl with
    | [a, b], _ => exact .of_eq rfl
  obtain ⟨f, fd, F, m, b⟩ := D.ex
  refine ⟨f, fd, okG F scRight (fun vs H Q E h => ?_) (fun cdv A outer s H vs Q E hgd hr h => ?_), m, F.kp, b⟩
  · obtain ⟨p, l, b, rfl, _⟩ := h
    rfl
  · obtain ⟨p, l, b, rfl, rp, rl, hb, q⟩ := h
    have hu := hr.units
    refine ⟨_, pss_cons (ps_asg (pe_cl C1 (hr.mono (by omega)) (by rfl) (pa_cons (pv 0) (pa_cons pe_int (pa_cons pe_int pa_nil))))
          (pg_tup rfl (pgs_cons (pg_name (i := 1) scRight.nd rfl (Or.inl rfl)) (pgs_cons (pg_name (i := 2) scRight.nd rfl (Or.inl rfl)) (pgs_cons (pg_name (i := 3) scRight.nd rfl (Or.inl rfl)) (pgs_cons (pg_name (i := 4) scRight.nd rfl (Or.inl rfl)) pgs_nil))))))
      (pss_cons (ps_asg (pe_tup (pa_cons (pe_mm C2 (hr.mono (by omega)) (by rfl) (pa_cons pe_int (pa_cons (pv 1) (pa_cons (pv 2) (pa_cons (pv 3) (pa_cons (pv 4) pa_nil))))))
          (pa_cons (pe_op op_add pe_int (pe_cl C3 (hr.mono (by omega)) (by rfl) (pa_cons (pv 0) (pa_cons (pe_lst (pa_cons pe_int (pa_cons pe_int (pa_cons pe_int (pa_cons pe_int (pa_cons pe_int pa_nil)))))) pa_nil)))) pa_nil)))
          (pg_tup rfl (pgs_cons (pg_name (i := 5) scRight.nd rfl (Or.inl rfl)) (pgs_cons (pg_name (i := 6) scRight.nd rfl (Or.inr rfl)) pgs_nil))))
      (pss_cons (ps_set (i := 7) scRight.nd rfl (Or.inl rfl) (pe_cl C4 (hr.mono (by omega)) (by rfl) (pa_cons (pv 0) (pa_cons (pv 1) (pa_cons (pv 6) pa_nil)))))
      (pss_cons (ps_asg (pe_tup (pa_cons (pe_cl C5 (hr.mono (by omega)) (by rfl) (pa_cons (pe_callTy (call_dictL rfl (by show A.units + 3 + 3 < _; have : A.units + 3 + 64 < _ := hu; omega)) (by rfl) T.dict bt_dict (pa_cons (pv 3) pa_nil)) (pa_cons (pv 7) (pa_cons (pe_op op_sub (pv 6) pe_int) pa_nil))))
          (pa_cons (pe_cl C7 (hr.mono (by omega)) (by rfl) (pa_cons (pe_mm C6 (hr.mono (by omega)) (by rfl) (pa_cons (pv 5) pa_nil)) (pa_cons (pv 7) (pa_cons (pe_op op_mul pe_int (pv 6)) pa_nil)))) pa_nil)))
          (pg_tup rfl (pgs_cons (pg_name (i := 8) scRight.nd rfl (Or.inr rfl)) (pgs_cons (pg_name (i := 9) scRight.nd rfl (Or.inr rfl)) pgs_nil))))
      (pss_cons (ps_for PassesOwn.never rfl (pi_range1 (by rfl) T.range (pa_cons (pv 6) pa_nil)) (pg_name (i := 10) scRight.nd rfl (Or.inl rfl))
        (pss_one (ps_for PassesOwn.never rfl (pi_range1 (by rfl) T.range (pa_cons (pe_op op_sub (pv 6) (pv 10)) pa_nil)) (pg_name (i := 11) scRight.nd rfl (Or.inr rfl))
          (pss_cons (ps_par (i := 12) (j := 13) rfl scRight.nd rfl rfl (by decide) rfl rfl (pa_cons (pe_op op_add (pv 11) (pv 10)) (pa_cons (pe_op op_add (pe_op op_add (pe_op op_mul pe_int (pv 10)) (pv 11)) pe_int) pa_nil)) rfl)
          (pss_one (ps_if (PW.pt (pw_or (pt_cmpR (op_neD hu) (pe_cl C8 (hr.mono (by omega)) (by rfl) (pa_cons (pv 11) (pa_cons (pv 10) pa_nil))) (pe_tup (pa_cons (pv 12) (pa_cons (pv 13) pa_nil))) (nomark _))
            (pw_or1 (pt_cmpR (op_neD hu) (pe_slice sl_tup (pe_ix ix_list (pe_ix ix_list (pv 9) (pv 13) (by intro _ _; rfl)) (pv 12) (by intro _ _; rfl)) po_none (po_some pe_int))
              (pe_tup (pa_cons pe_int (pa_cons (pe_ix ix_list (pe_ix ix_list (pv 8) (pv 10) (by intro _ _; rfl)) (pv 11) (by intro _ _; rfl)) pa_nil))) (nomark _))))) pss_never pss_nil))))))
      (pss_cons (ps_for PassesOwn.never rfl (pi_range1 (by rfl) T.range (pa_cons (pv 6) pa_nil)) (pg_name (i := 11) scRight.nd rfl (Or.inr rfl))
        (pss_cons (ps_if (pt_cmpR (op_neD hu) (pe_lc (own := [("_law_tick", 10)]) (g := gName 10) (tt := tYes) rfl scRight.nd (pi_range1 (by rfl) T.range (pa_cons (pe_op op_add (pv 11) pe_int) pa_nil)) (blkOk_by (N := nRight) (sc := defScope sRight) (by decide +kernel))
              (fun _ _ _ _ _ => pg_name (i := 10) scRight.nd rfl (Or.inl rfl)) (fun _ _ _ _ _ => pts_nil) (fun _ _ _ _ _ => pe_ix (ix_listK (K := K) rfl) (pe_ix (ix_listK (K := K) rfl) (pv 9) (pv 10) (by intro _ _; rfl)) (pv 11) (by intro _ _; rfl)))
            (pe_op op_rep (pe_lst (pa_cons (pe_tup (pa_cons pe_int (pa_cons (pe_ix ix_list (pv 7) (pv 11) (by intro _ _; rfl)) pa_nil))) pa_nil)) (pe_op op_add (pv 11) pe_int)) (nomark _)) pss_never pss_nil)
        (pss_one (ps_if (pt_cmpR (op_neD hu) (pe_lc (own := [("_law_tick", 10)]) (g := gName 10) (tt := tYes) rfl scRight.nd (pi_range2 (by rfl) T.range (pa_cons (pe_op op_add (pe_op op_mul pe_int (pv 11)) pe_int) (pa_cons (pe_op op_add (pe_op op_mul pe_int (pv 6)) pe_int) pa_nil))) (blkOk_by (N := nRight) (sc := defScope sRight) (by decide +kernel))
              (fun _ _ _ _ _ => pg_name (i := 10) scRight.nd rfl (Or.inl rfl)) (fun _ _ _ _ _ => pts_nil) (fun _ _ _ _ _ => pe_ix (ix_tupK (K := K) rfl) (pe_ix (ix_listK (K := K) rfl) (pe_ix (ix_listK (K := K) rfl) (pv 9) (pv 10) (by intro _ _; rfl)) (pv 11) (by intro _ _; rfl)) pe_int (by intro _ _; rfl)))
            (pe_op op_rep (pe_lst (pa_cons pe_non pa_nil)) (pe_op op_sub (pe_op op_sub (pe_op op_mul pe_int (pv 6)) (pe_op op_mul pe_int (pv 11))) pe_int)) (nomark _)) pss_never pss_nil))))
      (pss_cons (ps_set (i := 14) scRight.nd rfl (Or.inl rfl) (pe_cl C9.cl hr (by rfl) (pa_cons (pv 5) (pa_cons (pv 7) pa_nil))))
      (pss_cons (ps_if (pt_cmpR op_ne (pe_callB (cr_repr hgd) (by rfl) T.repr bt_repr (pa_cons (pv 14) pa_nil)) (pe_callB (cr_repr hgd) (by rfl) T.repr bt_repr (pa_cons (pe_callTy call_tuple_of (by rfl) T.tuple bt_tuple (pa_cons
            (pe_lc (own := [("_law_tick", 10)]) (g := gName 10) (tt := tYes) rfl scRight.nd (pi_range1 (by rfl) T.range (pa_cons (pv 6) pa_nil)) (blkOk_by (N := nRight) (sc := defScope sRight) (by decide +kernel))
              (fun _ _ _ _ _ => pg_name (i := 10) scRight.nd rfl (Or.inl rfl)) (fun _ _ _ _ _ => pts_nil) (fun _ _ _ _ _ => pe_callTy (call_tupK (K := K) rfl) (by rfl) T.tuple bt_tuple (pa_cons (pe_slice (sl_listK (K := K) rfl) (pe_ix (ix_listK (K := K) rfl) (pv 8) (pv 10) (by intro _ _; rfl)) po_none (po_some (pe_op op_sub (pv 6) (pv 10)))) pa_nil))) pa_nil)) pa_nil)) (nomark _)) pss_never pss_nil)
      (pss_one (ps_ret (pe_cmpR (op_eqD hu) (pe_callZ (ks := ["word", "row"]) (g := List.reverse) (gV := List.reverse) (E := E0) OT hr (by rfl) mt FT.kp hbT (fun h => h.reverse) (pk_cons (pe_callTy call_tuple_of (by rfl) T.tuple bt_tuple (pa_cons (pv 7) pa_nil)) (pk_cons (pv 5) pk_nil))) (pv 14) (nomark _))))))))))), ?_⟩
    have hun : (A.deeper (envOfC "_law_right" (defScope sRight) s.heap.objs.size f cdv)).units + 64 < cLine := hu
    have big : (100000 : Nat) ≤ sizeLine := by decide
    -- the table's parts
    refine ⟨_, rfl, p, l, b, rfl, rp, rl, by omega, fun t ru yl n wo ts ys H1 s1 rp1 et eru pts ok eyl ⟨y1, y2, y3⟩ ⟨n1, n2, n3, n4⟩ => ?_⟩
    refine ⟨t, _, rfl, SqT.of (hide_get et).1, rfl, _, _, rfl, _, _, rfl, _, _, rfl, _, _, rfl, rfl, ?_⟩
    -- the table, how many cells
    refine ⟨_, rfl, _, rfl, _, rfl, _, rfl, fun x dx nx ndx hne => ⟨x, dx, ru, yl, n, wo, ts, ys, rfl, upd_same, ⟨n1, n2, n3, n4⟩, (make_same nx ndx) _ _ (hide_get eru).1, (pts.same hide_same).same (make_same nx ndx), ok, (make_same nx ndx) _ _ (hide_get eyl).1, ⟨y1, y2, y3⟩, fun H2 s2 tab => ⟨rfl, ?_⟩⟩⟩
    have s12 := made_same nx ndx s2
    have rp2 := rp1.same s12
    have sp2 : Same (hide p H) (hide p H2) := s1.trans s12.hid15
    refine ⟨_, rfl, (by show 5 ≤ sizeLine; omega), fun fp nfp => ?_⟩
    have fne : fp ≠ p := fun e => by obtain ⟨_, _, z, _⟩ := rp2; rw [e, z] at nfp; cases nfp
    have s23 : Same H2 (upd H2 fp (.lst [.int 0, .int 2, .int 5, .int 7, .int 11])) := Same.new15 nfp
    have efp : hide p (upd H2 fp (.lst [.int 0, .int 2, .int 5, .int 7, .int 11])) fp = some (.lst (([0, 2, 5, 7, 11] : List Int).map V.int)) := hide_at fne upd_same
    have rp3 := rp2.same s23
    generalize upd H2 fp (.lst [.int 0, .int 2, .int 5, .int 7, .int 11]) = H3 at s23 efp rp3
    have sp3 := sp2.trans s23.hid15
    refine ⟨p, l, fp, [0, 2, 5, 7, 11], _, rfl, rp3, rl.same sp3, efp, ⟨by decide, by decide⟩, by omega, fun x' H4 hx' s34 rp4 => ⟨1, x', rfl, rfl, ?_⟩⟩
    obtain ⟨mN, em, m1, m2⟩ : ∃ mN : Nat, 1 + x' = (mN : Int) ∧ 1 ≤ mN ∧ mN ≤ 12 := by
      simp only [List.mem_cons, List.not_mem_nil, or_false] at hx'
      exact ⟨(1 + x').toNat, by omega, by omega, by omega⟩
    have sp4 := sp3.trans s34
    have ru4 := (s12.hid15.trans s23.hid15).trans s34
    dsimp only
    rw [em]
    have xne : x ≠ p := fun e => by obtain ⟨_, _, z, _⟩ := rp1; rw [e, z] at nx; cases nx
    refine ⟨(by show 2 ≤ sizeLine; omega), fun tp ntp => ⟨tp, _, rfl, SqT.of upd_same, rfl, _, _, rfl, _, _, rfl, rfl, ?_⟩⟩
    have s45 : Same H4 (upd H4 tp (.tup [.ref x, .int (mN : Nat)])) := Same.new15 ntp
    generalize upd H4 tp (.tup [.ref x, .int (mN : Nat)]) = H5 at s45
    have rp5 := rp4.same s45
    have sp5 := sp4.trans s45.hid15
    have g25 : Same (hide p H2) (hide p H5) := (s23.hid15.trans s34).trans s45.hid15
    -- the table stands on, without the ramp
    have hidTab : ∀ {p : Addr} {H : Hp} {x : Addr} {g : F3} {n : Int}, TabAt P w CT H x g n → (∃ xs, H p = some (.lst xs)) → TabAt P w CT (hide p H) x g n := fun {p H x g n} ⟨dx, wo, rl, yl, d, xs, h1, h2, h3, h4⟩ ⟨zs, ez⟩ =>
      ⟨dx, wo, rl, yl, d, xs, hide_at (ne_obj h1 ez (fun z => by cases z)) h1, hide_at (ne_obj h2 ez (fun z => by cases z)) h2, fun e he => hide_at (ne_obj (h3 e he) ez (fun z => by cases z)) (h3 e he), h4⟩
    have tabG : TabAt P w CT (hide p H2) x (fnOf (ts.map (·.2))) n := hidTab tab (let ⟨_, _, z, _⟩ := rp2; ⟨_, z⟩)
    -- the word
    refine ⟨_, rfl, _, rfl, _, rfl, p, l, n, _, mN, rfl, rp5, rl.same sp5, ⟨by omega, by omega⟩, by omega, by omega, fun wl ws H6 lws hws s56 rp6 ewl => ?_⟩
    subst lws
    have sp6 := sp5.trans s56
    have g26 := g25.trans s56
    obtain ⟨g, eg⟩ : ∃ g, g = fnOf (ts.map (·.2)) := ⟨_, rfl⟩
    rw [← eg] at tabG
    have tab6 : TabAt P w CT H6 x g n := (tabG.same g26).same hide_same
    have pts6 : PrsIn H6 ts := (pts.same (s12.hid15.trans g26)).same hide_same
    have eru6 : H6 ru = some (.lst (ts.map fun t => V.ref t.1)) := (hide_get ((s12.hid15.trans g26) _ _ eru)).1
    have ewl6 := (hide_get ewl).1
    -- due, made
    refine ⟨_, rfl, ru, ts, rfl, SqL.of eru6, pts6, ok.2.1, fun d nd => ?_⟩
    have s67 : Same H6 (upd H6 d (Dn P w d (ts.map (·.2)))) := Same.new15 nd
    have ed : upd H6 d (Dn P w d (ts.map (·.2))) d = some (Dn P w d (ts.map (·.2))) := upd_same
    refine ⟨_, rfl, _, rfl, (ws.length : Int), 1, rfl, rfl, d, wl, ws.length - 1, (ts.map fun t : PrT => t.2), ws, congrArg (fun z => [V.ref d, V.ref wl, V.int z]) (by omega : (ws.length : Int) - 1 = ((ws.length - 1 : Nat) : Int)), ed, (pts6.same s67).keys, rules_ints ok, s67 _ _ ewl6, by omega, by omega, fun dl H8 s78 st => ?_⟩
    rw [← eg, show ws.length - 1 + 1 = ws.length by omega] at st
    have s68 : Same H6 H8 := s67.trans s78
    refine ⟨_, rfl, fun x2 dx2 nx2 ndx2 hne2 => ⟨x2, x, dx2, g, n, rfl, upd_same, (tab6.same s68).same (make_same nx2 ndx2), fun H9 s9 one => ⟨rfl, ?_⟩⟩⟩
    have s89 := made_same nx2 ndx2 s9
    refine ⟨_, rfl, _, rfl, 2, (ws.length : Int), rfl, rfl, .inl ⟨by decide, by decide⟩, x2, wl, 2 * ws.length, g, ws, congrArg (fun z => [V.ref x2, V.ref wl, V.int z]) (by omega : 2 * (ws.length : Int) = ((2 * ws.length : Nat) : Int)), one, (s68.trans s89) _ _ ewl6, by omega, by omega, fun ml H10 s910 so => ?_⟩
    refine ⟨(by show 2 ≤ sizeLine; omega), fun tp2 ntp2 => ⟨tp2, _, rfl, SqT.of upd_same, rfl, _, _, rfl, _, _, rfl, rfl, ?_⟩⟩
    have s1011 : Same H10 (upd H10 tp2 (.tup [.ref dl, .ref ml])) := Same.new15 ntp2
    generalize upd H10 tp2 (.tup [.ref dl, .ref ml]) = H11 at s1011
    have s811 := (s89.trans s910).trans s1011
    have s611 := s68.trans s811
    have tabZ := tab6.same s611
    have ewlZ := s611 _ _ ewl6
    have rpZ := rp6.same s611
    have spZ := sp6.trans s611.hid15
    obtain ⟨ds, eds, lds, hds⟩ := st.same s811
    obtain ⟨zs, ezs, lzs, hzs⟩ := so.same s1011
    clear pts6 eru6 s67 ed s78 s9 one nx2 ndx2 s1 s2 nx ndx
    have wlen : (ws.map V.int).length = ws.length := List.length_map ..
    -- a cell of made
    have cellOf : ∀ {H' : Hp} (j c : Nat), Same H11 H' → j < 2 * ws.length + 1 → c < ws.length → ∃ (rowv : V) (rl2 : Addr) (rxs : List V) (ra : Addr), zs[j]? = some rowv ∧ rowv = .ref rl2 ∧ H' rl2 = some (.lst rxs) ∧ rxs[c]? = some (.ref ra) ∧ H' ra = some (.tup (owV (told g ws c j))) := fun {H'} j c s' hj hc => by
      have hrow : zs[j]? = some zs[j] := List.getElem?_eq_getElem (by omega)
      obtain ⟨rl2, rxs, ra, er, k1, k2, k3⟩ := rowO_at ((hzs j _ hrow).same s') (made_get g ws j c hc)
      exact ⟨_, rl2, rxs, ra, hrow, er, k1, k2, k3⟩
    -- a row of due
    have rowOf : ∀ {H' : Hp} (j : Nat), Same H11 H' → j < ws.length → ∃ (rowv : V) (rl2 : Addr), ds[j]? = some rowv ∧ rowv = .ref rl2 ∧ H' rl2 = some (.lst ((due g ws j).map V.int)) := fun {H'} j s' hj => by
      have hrow : ds[j]? = some ds[j] := List.getElem?_eq_getElem (by omega)
      obtain ⟨rl2, er, k1⟩ := (hds j _ hrow).same s'
      exact ⟨_, rl2, hrow, er, k1⟩
    have dueOf : ∀ (j c : Nat), c < ws.length → ((due g ws j).map V.int)[c]? = some (V.int (du g ws j c)) := fun j c hc => by rw [List.getElem?_map, due_get g ws j c hc]; rfl
    -- the slants
    refine ⟨_, rfl, (ws.length : Int), rfl, by omega, by omega, ?_⟩
    rw [Int.toNat_natCast]
    refine for_range0 (fun i σ H' => (∃ u1 u2 u3 u4 : Option V, σ = [some (.ref p), some (.int n), some (.int wo), some (.ref ru), some (.ref yl), some (.ref x), some (.int (ws.length : Nat)), some (.ref wl), some (.ref dl), some (.ref ml), u1, u2, u3, u4, none]) ∧ Same H11 H')
      ⟨⟨none, none, none, none, rfl⟩, Same.refl _⟩ (fun t σ H12 ht ⟨⟨u1, u2, u3, u4, eσ⟩, sS⟩ => ?_) fun σ H12 ⟨⟨u1, u2, u3, u4, eσ⟩, sS⟩ => ?_
    · subst eσ
      refine ⟨_, rfl, _, rfl, (ws.length : Int), (t : Int), rfl, rfl, (ws.length : Int) - (t : Int), rfl, by omega, by omega, ?_⟩
      have e9 : ((ws.length : Int) - (t : Int)).toNat = ws.length - t := by omega
      rw [e9]
      refine for_range0 (fun i σ H' => (∃ u2 u3 u4 : Option V, σ = [some (.ref p), some (.int n), some (.int wo), some (.ref ru), some (.ref yl), some (.ref x), some (.int (ws.length : Nat)), some (.ref wl), some (.ref dl), some (.ref ml), some (.int (t : Nat)), u2, u3, u4, none]) ∧ Same H11 H')
        ⟨⟨u2, u3, u4, rfl⟩, sS⟩ (fun c σ H13 hc ⟨⟨v2, v3, v4, eσ⟩, sS⟩ => ?_) fun σ H13 ⟨⟨v2, v3, v4, eσ⟩, sS⟩ => ?_
      · subst eσ
        have e1 : ((c + t : Nat) : Int) = (c : Int) + t := by omega
        have e2 : ((2 * t + c + 1 : Nat) : Int) = 2 * (t : Int) + c + 1 := by omega
        refine ⟨_, rfl, _, rfl, (c : Int), (t : Int), rfl, rfl, _, rfl, 2, (t : Int), rfl, rfl, .inl ⟨by decide, by decide⟩, _, rfl, _, _, rfl, rfl, _, _, rfl, rfl, _, _, rfl, ?_⟩
        refine ⟨_, rfl, _, rfl, c, t, rfl, fun sp H14 s14 nsp esp => ⟨_, rfl, _, rfl, (by show 2 ≤ sizeLine; omega), fun wp nwp => ?_⟩⟩
        have s15 : Same H14 (upd H14 wp (.tup [.int ((c : Int) + t), .int (2 * (t : Int) + c + 1)])) := Same.new15 nwp
        have ewp : upd H14 wp (.tup [.int ((c : Int) + t), .int (2 * (t : Int) + c + 1)]) wp = some (.tup [.int ((c : Int) + t), .int (2 * (t : Int) + c + 1)]) := upd_same
        generalize upd H14 wp (.tup [.int ((c : Int) + t), .int (2 * (t : Int) + c + 1)]) = H15 at s15 ewp
        refine ⟨_, _, dp_pair (s15 _ _ esp), dp_pair ewp, shaped_pair _ _, shaped_pair _ _, false, by rw [e1, e2, eqv_pair]; rfl, iteF ?_⟩
        have sU : Same H11 H15 := (sS.trans s14).trans s15
        obtain ⟨o1, o2, eo⟩ := told_slant g ws c t
        obtain ⟨rowv, rl2, rxs, ra, k0, er, k1, k2, k3⟩ := cellOf (2 * t + c + 1) (c + t) sU (by omega) (by omega)
        rw [eo] at k3
        subst er
        refine ⟨_, rfl, _, rfl, ml, zs, _, _, rfl, rfl, SqL.of (sU _ _ ezs), (congrArg (atI zs) e2.symm).trans (atI_nat k0), _, rfl, rl2, rxs, _, _, rfl, rfl, SqL.of k1, (congrArg (atI rxs) e1.symm).trans (atI_nat k2), 2, rfl, ra, _, rfl, SqT.of k3, (fun z => absurd z.2 (by show ¬ (2 : Nat) = 4; decide)), fun qp nqp => ?_⟩
        have s16 : Same H15 (upd H15 qp (.tup (cutV (owV (.work (some (du g ws t c)) o1 o2)) none (some 2)))) := Same.new15 nqp
        have eqp : upd H15 qp (.tup (cutV (owV (.work (some (du g ws t c)) o1 o2)) none (some 2))) qp = some (.tup [.int 1, .int (du g ws t c)]) := upd_same
        generalize upd H15 qp (.tup (cutV (owV (.work (some (du g ws t c)) o1 o2)) none (some 2))) = H16 at s16 eqp
        have sW := sU.trans s16
        obtain ⟨drow, dl2, k5, er, k6⟩ := rowOf t sW (by omega)
        subst er
        refine ⟨_, rfl, _, rfl, dl, ds, _, _, rfl, rfl, SqL.of (sW _ _ eds), atI_nat k5, _, rfl, dl2, _, _, _, rfl, rfl, SqL.of k6, atI_nat (dueOf t c (by omega)), (by show 2 ≤ sizeLine; omega), fun wp2 nwp2 => ?_⟩
        refine ⟨_, _, dp_pair ((Same.new15 nwp2) _ _ eqp), dp_pair upd_same, shaped_pair _ _, shaped_pair _ _, false, by rw [eqv_pair]; rfl, iteF ?_⟩
        exact ⟨⟨_, _, _, rfl⟩, sW.upd15 nwp2⟩
      · subst eσ
        exact ⟨⟨_, _, _, _, rfl⟩, sS⟩
    subst eσ
    -- each cell by itself
    refine ⟨_, rfl, (ws.length : Int), rfl, by omega, by omega, ?_⟩
    rw [Int.toNat_natCast]
    refine for_range0 (fun i σ H' => (∃ u1 u2 u3 u4 : Option V, σ = [some (.ref p), some (.int n), some (.int wo), some (.ref ru), some (.ref yl), some (.ref x), some (.int (ws.length : Nat)), some (.ref wl), some (.ref dl), some (.ref ml), u1, u2, u3, u4, none]) ∧ Same H11 H')
      ⟨⟨_, _, _, _, rfl⟩, sS⟩ (fun c σ H13 hc ⟨⟨v1, v2, v3, v4, eσ⟩, sS⟩ => ?_) fun σ H13 ⟨⟨v1, v2, v3, v4, eσ⟩, sS⟩ => ?_
    · subst eσ
      -- before its time it waits
      refine ⟨_, rfl, (c : Int), 1, rfl, rfl, (c : Int) + 1, rfl, by omega, by omega, fun D1 nD1 => ?_⟩
      rw [show ((c : Int) + 1).toNat = c + 1 by omega]
      refine lcR0 (fun i y H => ∃ a : Addr, y = V.ref a ∧ H a = some (.tup [.int 0, .int (ws.getD c 0)])) (fun j y H H' ⟨a, h1, h2⟩ s => ⟨a, h1, s _ _ h2⟩) nD1 (by omega) (fun i H14 k hi s14 hD14 kk => ?_) fun H14 ys s14 e14 ly hy => ?_
      · have sU : Same H11 H14 := sS.trans s14.of_hide15
        obtain ⟨rowv, rl2, rxs, ra, k0, er, k1, k2, k3⟩ := cellOf i c sU (by omega) hc
        rw [told_wait g ws c i (by omega)] at k3
        subst er
        obtain ⟨ysD, hD⟩ := hD14
        exact ⟨rfl, _, rfl, _, rfl, ml, zs, _, _, rfl, rfl, SqL.of (sU _ _ ezs), atI_nat k0, _, rfl, rl2, rxs, _, _, rfl, rfl, SqL.of k1, atI_nat k2, kk _ _ (Same.refl _) ⟨ra, rfl, hide_at (ne_obj k3 hD (fun z => by cases z)) k3⟩⟩
      have sU : Same H11 H14 := sS.trans s14.of_hide15
      have ewc : (ws.map V.int)[c]? = some (V.int (ws.getD c 0)) := by rw [List.getElem?_map, List.getD_eq_getElem?_getD, List.getElem?_eq_getElem hc]; rfl
      refine ⟨_, rfl, _, rfl, wl, _, _, _, rfl, rfl, SqL.of (sU _ _ ewlZ), atI_nat ewc, (by show 2 ≤ sizeLine; omega), fun pp npp => ⟨(by show 1 ≤ sizeLine; omega), fun lp nlp => ?_⟩⟩
      have s15 : Same H14 (upd H14 pp (.tup [.int 0, .int (ws.getD c 0)])) := Same.new15 npp
      have epp : upd H14 pp (.tup [.int 0, .int (ws.getD c 0)]) pp = some (.tup [.int 0, .int (ws.getD c 0)]) := upd_same
      generalize upd H14 pp (.tup [.int 0, .int (ws.getD c 0)]) = H15 at s15 epp nlp
      have s16 : Same H15 (upd H15 lp (.lst [.ref pp])) := Same.new15 nlp
      have elp : upd H15 lp (.lst [.ref pp]) lp = some (.lst [.ref pp]) := upd_same
      generalize upd H15 lp (.lst [.ref pp]) = H16 at s16 elp
      refine ⟨_, rfl, (c : Int), 1, rfl, rfl, lp, (c : Int) + 1, [.ref pp], rfl, rfl, elp, by omega, by omega, ?_, fun np nnp => ?_⟩
      · rw [show ((c : Int) + 1).toNat = c + 1 by omega]
        show 1 * (c + 1) ≤ sizeLine
        omega
      rw [show ((c : Int) + 1).toNat = c + 1 by omega, List.flatten_replicate_singleton]
      have s17 : Same H16 (upd H16 np (.lst (List.replicate (c + 1) (.ref pp)))) := Same.new15 nnp
      have enp : upd H16 np (.lst (List.replicate (c + 1) (.ref pp))) np = some (.lst (List.replicate (c + 1) (.ref pp))) := upd_same
      generalize upd H16 np (.lst (List.replicate (c + 1) (.ref pp))) = H17 at s17 enp
      have s1417 : Same H14 H17 := (s15.trans s16).trans s17
      obtain ⟨as, eas, las, has⟩ := addrs_of hy
      have dp1 : Dp K H17 (.ref D1) (.list (List.replicate (c + 1) (.tuple [.int 0, .int (ws.getD c 0)]))) := by
        refine .lst (SqL.of (s1417 _ _ e14)) (dpAll_of (by rw [ly, List.length_replicate]) fun j v d e1 e2 => ?_)
        rw [eas, List.getElem?_map] at e1
        obtain ⟨a, ha, rfl⟩ := Option.map_eq_some_iff.mp e1
        cases (List.mem_replicate.mp (List.mem_of_getElem? e2)).2
        exact dp_pair (s1417 _ _ (hide_get (has j a ha)).1)
      have dp2 : Dp K H17 (.ref np) (.list (List.replicate (c + 1) (.tuple [.int 0, .int (ws.getD c 0)]))) := by
        refine .lst (SqL.of enp) (dpAll_of (by rw [List.length_replicate, List.length_replicate]) fun j v d e1 e2 => ?_)
        cases (List.mem_replicate.mp (List.mem_of_getElem? e1)).2
        cases (List.mem_replicate.mp (List.mem_of_getElem? e2)).2
        exact dp_pair ((s16.trans s17) _ _ epp)
      have shp : SeqAt.shaped (.list (List.replicate (c + 1) (.tuple [.int 0, .int (ws.getD c 0)]))) = true := by
        refine shaped_lst (fun d hd => ?_) fun d hd => ?_
        · rw [(List.mem_replicate.mp hd).2]
          exact can_pair _ _
        · rw [(List.mem_replicate.mp hd).2]
          exact dep_pair _ _
      refine ⟨_, _, dp1, dp2, shp, shp, false, ?_, iteF ?_⟩
      · rw [eqv_lst fun d hd => by rw [(List.mem_replicate.mp hd).2]; exact eqv_pair _ _]
        rfl
      have sV : Same H11 H17 := sU.trans s1417
      clear dp1 dp2 shp has eas epp elp enp s15 s16 s17 hy e14
      -- after its time it has none
      refine ⟨_, rfl, 2, (c : Int), rfl, rfl, .inl ⟨by decide, by decide⟩, _, _, rfl, rfl, _, rfl, 2, (ws.length : Int), rfl, rfl, .inl ⟨by decide, by decide⟩, _, _, rfl, rfl, 2 * (c : Int) + 2, 2 * (ws.length : Int) + 1, rfl, ⟨by omega, by omega, by omega, by omega⟩, fun D2 nD2 => ?_⟩
      obtain ⟨cnt, ecnt, hcnt⟩ : ∃ cnt : Nat, (2 * (ws.length : Int) + 1 - (2 * (c : Int) + 2)).toNat = cnt ∧ cnt = 2 * ws.length - 2 * c - 1 := ⟨_, rfl, by omega⟩
      rw [ecnt]
      refine lcR (fun i y H => y = V.non) (fun j y H H' h s => h) nD2 (by omega) (fun i H18 k hi s18 hD18 kk => ?_) fun H18 ys2 s18 e18 ly2 hy2 => ?_
      · have sX : Same H11 H18 := sV.trans s18.of_hide15
        obtain ⟨rowv, rl2, rxs, ra, k0, er, k1, k2, k3⟩ := cellOf (2 * c + 2 + i) c sX (by omega) hc
        obtain ⟨o1, o2, eo⟩ := told_late g ws c (2 * c + 2 + i) (by omega)
        rw [eo] at k3
        subst er
        have ei : 2 * (c : Int) + 2 + (i : Int) = ((2 * c + 2 + i : Nat) : Int) := by omega
        exact ⟨rfl, _, rfl, _, rfl, ml, zs, _, _, rfl, rfl, SqL.of (sX _ _ ezs), (congrArg (atI zs) ei).trans (atI_nat k0), _, rfl, rl2, rxs, _, _, rfl, rfl, SqL.of k1, atI_nat k2, ra, _, 1, _, rfl, rfl, SqT.of k3, (rfl : atI (owV (.work none o1 o2)) 1 = some V.non), kk _ _ (Same.refl _) rfl⟩
      have sX : Same H11 H18 := sV.trans s18.of_hide15
      refine ⟨(by show 1 ≤ sizeLine; omega), fun lp2 nlp2 => ?_⟩
      have s19 : Same H18 (upd H18 lp2 (.lst [.non])) := Same.new15 nlp2
      have elp2 : upd H18 lp2 (.lst [.non]) lp2 = some (.lst [.non]) := upd_same
      generalize upd H18 lp2 (.lst [.non]) = H19 at s19 elp2
      refine ⟨_, rfl, 2, (ws.length : Int), rfl, rfl, .inl ⟨by decide, by decide⟩, _, rfl, 2, (c : Int), rfl, rfl, .inl ⟨by decide, by decide⟩, _, _, rfl, rfl, _, _, rfl, rfl, lp2, 2 * (ws.length : Int) - 2 * (c : Int) - 1, [.non], rfl, rfl, elp2, by omega, by omega, ?_, fun np2 nnp2 => ?_⟩
      · rw [show (2 * (ws.length : Int) - 2 * (c : Int) - 1).toNat = cnt by omega]
        show 1 * cnt ≤ sizeLine
        omega
      rw [show (2 * (ws.length : Int) - 2 * (c : Int) - 1).toNat = cnt by omega, List.flatten_replicate_singleton]
      have s20 : Same H19 (upd H19 np2 (.lst (List.replicate cnt .non))) := Same.new15 nnp2
      have enp2 : upd H19 np2 (.lst (List.replicate cnt .non)) np2 = some (.lst (List.replicate cnt .non)) := upd_same
      generalize upd H19 np2 (.lst (List.replicate cnt .non)) = H20 at s20 enp2
      have dp1 : Dp K H20 (.ref D2) (.list (List.replicate cnt .none)) := by
        refine .lst (SqL.of ((s19.trans s20) _ _ e18)) (dpAll_of (by rw [ly2, List.length_replicate]) fun j v d e1 e2 => ?_)
        cases (List.mem_replicate.mp (List.mem_of_getElem? e2)).2
        cases (hy2 j v e1)
        exact .non
      have dp2 : Dp K H20 (.ref np2) (.list (List.replicate cnt .none)) := by
        refine .lst (SqL.of enp2) (dpAll_of (by rw [List.length_replicate, List.length_replicate]) fun j v d e1 e2 => ?_)
        cases (List.mem_replicate.mp (List.mem_of_getElem? e1)).2
        cases (List.mem_replicate.mp (List.mem_of_getElem? e2)).2
        exact .non
      have shp : SeqAt.shaped (.list (List.replicate cnt .none)) = true := by
        refine shaped_lst (fun d hd => ?_) fun d hd => ?_
        · rw [(List.mem_replicate.mp hd).2]
          rfl
        · rw [(List.mem_replicate.mp hd).2]
          exact Nat.zero_le _
      refine ⟨_, _, dp1, dp2, shp, shp, false, ?_, iteF ?_⟩
      · rw [eqv_lst fun d hd => by rw [(List.mem_replicate.mp hd).2]; exact eqv_non]
        rfl
      exact ⟨⟨_, _, _, _, rfl⟩, (sX.trans s19).trans s20⟩
    subst eσ
    -- the triangle
    have wsb : 1 ≤ ws.length ∧ ws.length ≤ 200 := ⟨m1, by omega⟩
    refine ⟨_, rfl, _, rfl, x, wl, g, n, ws, rfl, tabZ.same sS, .inl (sS _ _ ewlZ), wsb, hws, fun tv H14 s14 tri => ?_⟩
    have sU : Same H11 H14 := sS.trans s14
    have shows := tri_shows (f := g) m1 (by omega) fun t c hc => by
      have hb := du_bound (f := g) (n := wo) (fun l o r h0 h1 => by rw [eg]; exact fnOf_bound ok l o r h0 h1) (fun z hz => by have := hws z hz; omega) t c hc
      omega
    have hdep := tri_depth g ws
    obtain ⟨tq, rs0, etv, _⟩ := id tri
    subst etv
    refine ⟨_, rfl, tq, triD g ws, rfl, tri_dp tri, shows.1, tri_noDict g ws, shows.2, ?_, ?_⟩
    · show (A.deeper (envOfC "_law_right" (defScope sRight) s.heap.objs.size f cdv)).units + _ < cLine
      omega
    refine ⟨_, rfl, (ws.length : Int), rfl, by omega, by omega, fun D1 nD1 => ?_⟩
    rw [Int.toNat_natCast]
    refine lcR0 (fun t y H => ∃ a : Addr, y = V.ref a ∧ H a = some (.tup ((List.range (ws.length - t)).map fun c => V.int (du g ws t c)))) (fun j y H H' ⟨a, h1, h2⟩ s => ⟨a, h1, s _ _ h2⟩) nD1 (by omega) (fun t H15 k ht s15 hD15 kk => ?_) fun H15 ys s15 e15 ly hy => ?_
    · have sX : Same H11 H15 := sU.trans s15.of_hide15
      obtain ⟨drow, dl2, k5, er, k6⟩ := rowOf t sX ht
      subst er
      refine ⟨rfl, _, rfl, _, rfl, dl, ds, _, _, rfl, rfl, SqL.of (sX _ _ eds), atI_nat k5, _, rfl, _, rfl, _, _, rfl, rfl, _, rfl, dl2, _, rfl, SqL.of k6, fun sp nsp => ?_⟩
      rw [due_cut ht]
      have s16 : Same H15 (upd H15 sp (.lst ((List.range (ws.length - t)).map fun c => V.int (du g ws t c)))) := Same.new15 nsp
      refine ⟨sp, _, rfl, .inl ⟨SqL.of upd_same, fun tl ntl => ?_⟩⟩
      obtain ⟨ysD, hD⟩ := hD15
      exact kk _ _ (s16.upd15 ntl) ⟨tl, rfl, hide_at (ne_of_none (s16 _ _ hD) ntl).symm upd_same⟩
    have sX : Same H14 H15 := s15.of_hide15
    refine ⟨D1, ys, rfl, .inl ⟨SqL.of e15, fun tl ntl => ?_⟩⟩
    obtain ⟨rs, ers, lrs, hrs⟩ := addrs_of hy
    have s16 : Same H15 (upd H15 tl (.tup ys)) := Same.new15 ntl
    have tri2 : TriAt (upd H15 tl (.tup ys)) (.ref tl) g ws := ⟨tl, rs, rfl, by rw [upd_same, ers], by rw [lrs, ly], fun t a ha => s16 _ _ (hide_get (hrs t a ha)).1⟩
    generalize upd H15 tl (.tup ys) = H16 at s16 tri2
    refine ⟨tl, triD g ws, rfl, tri_dp tri2, shows.1, tri_noDict g ws, shows.2, ?_, ?_⟩
    · show (A.deeper (envOfC "_law_right" (defScope sRight) s.heap.objs.size f cdv)).units + _ < cLine
      omega
    refine ⟨rfl, false, by rw [decide_eq_true rfl]; rfl, iteF ?_⟩
    -- by keywords
    have sY : Same H11 H16 := (sU.trans sX).trans s16
    refine ⟨_, rfl, wl, _, rfl, .inl ⟨SqL.of (sY _ _ ewlZ), fun wt nwt => ?_⟩⟩
    have s17 : Same H16 (upd H16 wt (.tup (ws.map V.int))) := Same.new15 nwt
    have ewt : upd H16 wt (.tup (ws.map V.int)) wt = some (.tup (ws.map V.int)) := upd_same
    generalize upd H16 wt (.tup (ws.map V.int)) = H17 at s17 ewt
    refine ⟨_, rfl, rfl, x, wt, g, n, ws, rfl, tabZ.same (sY.trans s17), .inr ewt, wsb, hws, fun tv2 H18 s18 tri3 => ?_⟩
    refine ⟨_, rfl, triD g ws, triD g ws, tri_dp tri3, tri_dp (tri.same (((sX.trans s16).trans s17).trans s18)), tri_shaped g ws, tri_shaped g ws, ?_⟩
    rw [tri_eqv]
    have sZ : Same H11 H18 := (sY.trans s17).trans s18
    exact q H18 (spZ.trans sZ.hid15) ((rpZ.same sZ).mono (by omega))
end
end K15
end

section
set_option Elab.async false
set_option linter.all false
set_option maxRecDepth 100000
set_option maxHeartbeats 2000000
/-! The law; what the top has left. -/
namespace K15
open PySem PySem.W PySem.Spec PyProof.Rows L2

def spLaw (K : PySem.W.Frag) : Sp := fun vs H Q _ => ∃ (a : Addr) (ns : List Int), vs = [.ref a] ∧ SqL K H a (ns.map V.int) ∧ ns.length ≤ 1000 ∧ ∀ H', Q (.bl true) H'
abbrev nLaw : List Str := ["_law_script", "_law_ramp_here", "_law_turn"]
theorem scLaw : FnScope nLaw ["_law_script"] (defScope sLaw) := ⟨rfl, rfl, rfl, by decide +kernel, rfl, by decide +kernel, by decide +kernel⟩
section
variable {P : Program} {w : World} {K : PySem.W.Frag} {mg : Str → Option Value} {base : Heap} {h : Heap} {CT CO CR : Addr}
theorem ok_law15 {f : Addr} {fd : FuncData} (F : Fun K "law" "law" sLaw f fd) (T : Tx K mg CT CO CR) (C1 : Cl P w K mg base 1 "_law_ramp" (spRamp K)) (C2 : FnGx P w K mg base 7 "_law_right" ["_law_ramp_here"] spRight) : FnG P w K mg base 8 f fd ["_law_script"] (spLaw K) := by
  obtain ⟨fr, fdr, FR, mr, kr, br⟩ := C2.ex
  refine okG F scLaw (fun vs H Q E h => ?_) (fun cdv A outer s H vs Q E hgd hr h => ?_)
  · obtain ⟨a, ns, rfl, _⟩ := h
    rfl
  · obtain ⟨a, ns, rfl, ha, hz, q⟩ := h
    refine ⟨_, pss_cons (ps_set (i := 1) scLaw.nd rfl (Or.inl rfl) (pe_cl C1 (hr.mono (by omega)) (by rfl) (pa_cons (pv 0) pa_nil)))
      (pss_cons (ps_for PassesOwn.never rfl (pi_range1 (by rfl) T.range (pa_cons pe_int pa_nil)) (pg_name (i := 2) scLaw.nd rfl (Or.inl rfl))
        (pss_one (ps_if (pt_not (pt_val (pe_callG1 hgd FR hr (by rfl) mr kr br (pa_cons (pv 1) pa_nil)))) pss_never pss_nil)))
      (pss_one (ps_ret pe_bl))), ?_⟩
    refine ⟨_, rfl, a, ns, rfl, ha, hz, fun p l H1 s1 np rp rl => ?_⟩
    refine ⟨2, rfl, by decide, by decide, ?_⟩
    refine for_range0 (n := (2 : Int).toNat) (fun i σ H' => (∃ u : Option V, σ = [some (.ref a), some (.ref p), u]) ∧ RampP H' p l (5000 * (i : Int)) ∧ RampL (hide p H') l) ⟨⟨none, rfl⟩, rp.mono (by omega), rl⟩ (fun i σ H2 hi ⟨⟨u, eσ⟩, rp2, rl2⟩ => ?_) fun σ H2 ⟨⟨u, eσ⟩, rp2, rl2⟩ => ?_
    · subst eσ
      have hi2 : i < 2 := hi
      exact ⟨_, rfl, p, l, _, rfl, rp2, rl2, by omega, fun H3 s3 rp3 => ⟨true, rfl, iteF ⟨⟨_, rfl⟩, rp3.mono (by omega), rl2.same s3⟩⟩⟩
    · subst eσ
      exact q H2
theorem dd_mk (X : K.In h) (G : h.Ns mainGlobals mg) {x : Str} {st : Stmt} {ps : List Str} {f : Addr} {fd : FuncData} (a : PySem.W.nsIn K mainGlobals x = some (some (.ref f))) (F : Fun K x x st f fd)
    (hb : ∀ (kV doc pm : Value) (an : Option Addr) (cdv ct : Value) (us : List Value), us.length = ps.length → bindArgs (PySem.W.fnOf x x (defArgs st) (defBody st) (defScope st) .none kV doc pm an cdv ct) ⟨us, []⟩ = pure (ps.zip us)) : Dd K mg x st ps :=
  ⟨f, fd, F, PySem.W.mg_of X G a, F.binds hb⟩
theorem dm_mk {C : Addr} {m q : Str} {st : Stmt} {ps : List Str} {f : Addr} {fd : FuncData} (a : PySem.W.findIn K (.ref C) m = some (some (.ref f))) (i : PySem.W.isFn K (.ref f) = true) (F : Fun K m q st f fd)
    (hb : ∀ (kV doc pm : Value) (an : Option Addr) (cdv ct : Value) (us : List Value), us.length = ps.length → bindArgs (PySem.W.fnOf m q (defArgs st) (defBody st) (defScope st) .none kV doc pm an cdv ct) ⟨us, []⟩ = pure (ps.zip us)) : Dm K C m q st ps :=
  ⟨f, fd, F, ⟨a, i, F.kp⟩, F.binds hb⟩
theorem drow_mk (X : K.In h) (G : h.Ns mainGlobals mg) {f t : Addr} {od od2 an : Option Addr} {sl sl2 : Array (Option Value)} {oc oc2 kV dc pm cd ct : Value} {tk : Tok} {n : Nat} (a : PySem.W.nsIn K mainGlobals "need_row" = some (some (.ref f)))
    (l : K.lookup f = some ⟨oc, od, .func (PySem.W.fnOf "need_row" "need_row" (defArgs sNeedRow) (defBody sNeedRow) (defScope sNeedRow) (.ref t) kV dc pm an cd ct), sl⟩) (c : PySem.W.codeIn K cd "need_row" = true) (k : PySem.W.keepIn K (.ref f) = true)
    (ht : K.lookup t = some ⟨oc2, od2, .seq #[.str "row" tk] n, sl2⟩) : DRow K mg :=
  ⟨f, _, ⟨⟨oc, od, .ref t, kV, dc, pm, an, cd, ct, sl, rfl, l, c, .inr ⟨by decide, t, _, [.str "row" tk], n, rfl, ht, rfl, .cons ⟨_, rfl⟩ .nil⟩, .inl rfl⟩, k⟩, PySem.W.mg_of X G a, k⟩
theorem kit_own15 {C D : Addr} {cd : ClassData} (rC : PySem.W.clsIn K D = some cd) (rT : PySem.W.typeIn K (.ref D) = some (.type "type")) (rS : PySem.W.subIn K (.ref C) (.ref D) = some true) : PySem.W.kitOne K (.ref C) (.ref D) = some true := by
  unfold PySem.W.kitOne
  split
  · rfl
  · unfold PySem.W.kitCls
    simp only [rC, rT, rS]
    rfl
theorem dd0 (X : K.In h) (G : h.Ns mainGlobals mg) {f : Addr} {od an : Option Addr} {sl : Array (Option Value)} {oc kV dc pm cd ct : Value} (a : PySem.W.nsIn K mainGlobals "is_integer" = some (some (.ref f)))
    (l : K.lookup f = some ⟨oc, od, .func (PySem.W.fnOf "is_integer" "is_integer" (defArgs sIsInteger) (defBody sIsInteger) (defScope sIsInteger) .none kV dc pm an cd ct), sl⟩) (c : PySem.W.codeIn K cd "is_integer" = true) (k : PySem.W.keepIn K (.ref f) = true) : Dd K mg "is_integer" sIsInteger ["value"] :=
  dd_mk X G a (fun_mk (st := sIsInteger) l c k) fun _ _ _ _ _ _ us hl => match us, hl with | [_], _ => rfl
theorem dd1 (X : K.In h) (G : h.Ns mainGlobals mg) {f : Addr} {od an : Option Addr} {sl : Array (Option Value)} {oc kV dc pm cd ct : Value} (a : PySem.W.nsIn K mainGlobals "is_within" = some (some (.ref f)))
    (l : K.lookup f = some ⟨oc, od, .func (PySem.W.fnOf "is_within" "is_within" (defArgs sIsWithin) (defBody sIsWithin) (defScope sIsWithin) .none kV dc pm an cd ct), sl⟩) (c : PySem.W.codeIn K cd "is_within" = true) (k : PySem.W.keepIn K (.ref f) = true) : Dd K mg "is_within" sIsWithin ["value", "least", "most"] :=
  dd_mk X G a (fun_mk (st := sIsWithin) l c k) fun _ _ _ _ _ _ us hl => match us, hl with | [_, _, _], _ => rfl
theorem dd2 (X : K.In h) (G : h.Ns mainGlobals mg) {f : Addr} {od an : Option Addr} {sl : Array (Option Value)} {oc kV dc pm cd ct : Value} (a : PySem.W.nsIn K mainGlobals "is_letter" = some (some (.ref f)))
    (l : K.lookup f = some ⟨oc, od, .func (PySem.W.fnOf "is_letter" "is_letter" (defArgs sIsLetter) (defBody sIsLetter) (defScope sIsLetter) .none kV dc pm an cd ct), sl⟩) (c : PySem.W.codeIn K cd "is_letter" = true) (k : PySem.W.keepIn K (.ref f) = true) : Dd K mg "is_letter" sIsLetter ["value", "letters"] :=
  dd_mk X G a (fun_mk (st := sIsLetter) l c k) fun _ _ _ _ _ _ us hl => match us, hl with | [_, _], _ => rfl
theorem dd3 (X : K.In h) (G : h.Ns mainGlobals mg) {f : Addr} {od an : Option Addr} {sl : Array (Option Value)} {oc kV dc pm cd ct : Value} (a : PySem.W.nsIn K mainGlobals "is_word" = some (some (.ref f)))
    (l : K.lookup f = some ⟨oc, od, .func (PySem.W.fnOf "is_word" "is_word" (defArgs sIsWord) (defBody sIsWord) (defScope sIsWord) .none kV dc pm an cd ct), sl⟩) (c : PySem.W.codeIn K cd "is_word" = true) (k : PySem.W.keepIn K (.ref f) = true) : Dd K mg "is_word" sIsWord ["value", "letters"] :=
  dd_mk X G a (fun_mk (st := sIsWord) l c k) fun _ _ _ _ _ _ us hl => match us, hl with | [_, _], _ => rfl
theorem dd4 (X : K.In h) (G : h.Ns mainGlobals mg) {f : Addr} {od an : Option Addr} {sl : Array (Option Value)} {oc kV dc pm cd ct : Value} (a : PySem.W.nsIn K mainGlobals "need_number" = some (some (.ref f)))
    (l : K.lookup f = some ⟨oc, od, .func (PySem.W.fnOf "need_number" "need_number" (defArgs sNeedNumber) (defBody sNeedNumber) (defScope sNeedNumber) .none kV dc pm an cd ct), sl⟩) (c : PySem.W.codeIn K cd "need_number" = true) (k : PySem.W.keepIn K (.ref f) = true) : Dd K mg "need_number" sNeedNumber ["value", "part", "least", "most"] :=
  dd_mk X G a (fun_mk (st := sNeedNumber) l c k) fun _ _ _ _ _ _ us hl => match us, hl with | [_, _, _, _], _ => rfl
theorem dd5 (X : K.In h) (G : h.Ns mainGlobals mg) {f : Addr} {od an : Option Addr} {sl : Array (Option Value)} {oc kV dc pm cd ct : Value} (a : PySem.W.nsIn K mainGlobals "need_word" = some (some (.ref f)))
    (l : K.lookup f = some ⟨oc, od, .func (PySem.W.fnOf "need_word" "need_word" (defArgs sNeedWord) (defBody sNeedWord) (defScope sNeedWord) .none kV dc pm an cd ct), sl⟩) (c : PySem.W.codeIn K cd "need_word" = true) (k : PySem.W.keepIn K (.ref f) = true) : Dd K mg "need_word" sNeedWord ["value", "letters", "part"] :=
  dd_mk X G a (fun_mk (st := sNeedWord) l c k) fun _ _ _ _ _ _ us hl => match us, hl with | [_, _, _], _ => rfl
theorem dd6 (X : K.In h) (G : h.Ns mainGlobals mg) {f : Addr} {od an : Option Addr} {sl : Array (Option Value)} {oc kV dc pm cd ct : Value} (a : PySem.W.nsIn K mainGlobals "pairs_in" = some (some (.ref f)))
    (l : K.lookup f = some ⟨oc, od, .func (PySem.W.fnOf "pairs_in" "pairs_in" (defArgs sPairsIn) (defBody sPairsIn) (defScope sPairsIn) .none kV dc pm an cd ct), sl⟩) (c : PySem.W.codeIn K cd "pairs_in" = true) (k : PySem.W.keepIn K (.ref f) = true) : Dd K mg "pairs_in" sPairsIn ["value"] :=
  dd_mk X G a (fun_mk (st := sPairsIn) l c k) fun _ _ _ _ _ _ us hl => match us, hl with | [_], _ => rfl
theorem dd7 (X : K.In h) (G : h.Ns mainGlobals mg) {f : Addr} {od an : Option Addr} {sl : Array (Option Value)} {oc kV dc pm cd ct : Value} (a : PySem.W.nsIn K mainGlobals "need_two_ways" = some (some (.ref f)))
    (l : K.lookup f = some ⟨oc, od, .func (PySem.W.fnOf "need_two_ways" "need_two_ways" (defArgs sNeedTwo) (defBody sNeedTwo) (defScope sNeedTwo) .none kV dc pm an cd ct), sl⟩) (c : PySem.W.codeIn K cd "need_two_ways" = true) (k : PySem.W.keepIn K (.ref f) = true) : Dd K mg "need_two_ways" sNeedTwo ["row"] :=
  dd_mk X G a (fun_mk (st := sNeedTwo) l c k) fun _ _ _ _ _ _ us hl => match us, hl with | [_], _ => rfl
theorem dd8 (X : K.In h) (G : h.Ns mainGlobals mg) {f : Addr} {od an : Option Addr} {sl : Array (Option Value)} {oc kV dc pm cd ct : Value} (a : PySem.W.nsIn K mainGlobals "slanted" = some (some (.ref f)))
    (l : K.lookup f = some ⟨oc, od, .func (PySem.W.fnOf "slanted" "slanted" (defArgs sSlanted) (defBody sSlanted) (defScope sSlanted) .none kV dc pm an cd ct), sl⟩) (c : PySem.W.codeIn K cd "slanted" = true) (k : PySem.W.keepIn K (.ref f) = true) : Dd K mg "slanted" sSlanted ["cell", "tick"] :=
  dd_mk X G a (fun_mk (st := sSlanted) l c k) fun _ _ _ _ _ _ us hl => match us, hl with | [_, _], _ => rfl
theorem dd9 (X : K.In h) (G : h.Ns mainGlobals mg) {f : Addr} {od an : Option Addr} {sl : Array (Option Value)} {oc kV dc pm cd ct : Value} (a : PySem.W.nsIn K mainGlobals "one_tick" = some (some (.ref f)))
    (l : K.lookup f = some ⟨oc, od, .func (PySem.W.fnOf "one_tick" "one_tick" (defArgs sOneTick) (defBody sOneTick) (defScope sOneTick) .none kV dc pm an cd ct), sl⟩) (c : PySem.W.codeIn K cd "one_tick" = true) (k : PySem.W.keepIn K (.ref f) = true) : Dd K mg "one_tick" sOneTick ["row", "cells"] :=
  dd_mk X G a (fun_mk (st := sOneTick) l c k) fun _ _ _ _ _ _ us hl => match us, hl with | [_, _], _ => rfl
theorem dd10 (X : K.In h) (G : h.Ns mainGlobals mg) {f : Addr} {od an : Option Addr} {sl : Array (Option Value)} {oc kV dc pm cd ct : Value} (a : PySem.W.nsIn K mainGlobals "slant" = some (some (.ref f)))
    (l : K.lookup f = some ⟨oc, od, .func (PySem.W.fnOf "slant" "slant" (defArgs sSlant) (defBody sSlant) (defScope sSlant) .none kV dc pm an cd ct), sl⟩) (c : PySem.W.codeIn K cd "slant" = true) (k : PySem.W.keepIn K (.ref f) = true) : Dd K mg "slant" sSlant ["cell", "tick"] :=
  dd_mk X G a (fun_mk (st := sSlant) l c k) fun _ _ _ _ _ _ us hl => match us, hl with | [_, _], _ => rfl
theorem dd11 (X : K.In h) (G : h.Ns mainGlobals mg) {f : Addr} {od an : Option Addr} {sl : Array (Option Value)} {oc kV dc pm cd ct : Value} (a : PySem.W.nsIn K mainGlobals "triangle" = some (some (.ref f)))
    (l : K.lookup f = some ⟨oc, od, .func (PySem.W.fnOf "triangle" "triangle" (defArgs sTriangle) (defBody sTriangle) (defScope sTriangle) .none kV dc pm an cd ct), sl⟩) (c : PySem.W.codeIn K cd "triangle" = true) (k : PySem.W.keepIn K (.ref f) = true) : Dd K mg "triangle" sTriangle ["row", "word"] :=
  dd_mk X G a (fun_mk (st := sTriangle) l c k) fun _ _ _ _ _ _ us hl => match us, hl with | [_, _], _ => rfl
theorem dd12 (X : K.In h) (G : h.Ns mainGlobals mg) {f : Addr} {od an : Option Addr} {sl : Array (Option Value)} {oc kV dc pm cd ct : Value} (a : PySem.W.nsIn K mainGlobals "key_order" = some (some (.ref f)))
    (l : K.lookup f = some ⟨oc, od, .func (PySem.W.fnOf "key_order" "key_order" (defArgs sKeyOrder) (defBody sKeyOrder) (defScope sKeyOrder) .none kV dc pm an cd ct), sl⟩) (c : PySem.W.codeIn K cd "key_order" = true) (k : PySem.W.keepIn K (.ref f) = true) : Dd K mg "key_order" sKeyOrder ["key"] :=
  dd_mk X G a (fun_mk (st := sKeyOrder) l c k) fun _ _ _ _ _ _ us hl => match us, hl with | [_], _ => rfl
theorem dd13 (X : K.In h) (G : h.Ns mainGlobals mg) {f : Addr} {od an : Option Addr} {sl : Array (Option Value)} {oc kV dc pm cd ct : Value} (a : PySem.W.nsIn K mainGlobals "is_key" = some (some (.ref f)))
    (l : K.lookup f = some ⟨oc, od, .func (PySem.W.fnOf "is_key" "is_key" (defArgs sIsKey) (defBody sIsKey) (defScope sIsKey) .none kV dc pm an cd ct), sl⟩) (c : PySem.W.codeIn K cd "is_key" = true) (k : PySem.W.keepIn K (.ref f) = true) : Dd K mg "is_key" sIsKey ["value", "ways", "worths"] :=
  dd_mk X G a (fun_mk (st := sIsKey) l c k) fun _ _ _ _ _ _ us hl => match us, hl with | [_, _, _], _ => rfl
theorem dd14 (X : K.In h) (G : h.Ns mainGlobals mg) {f : Addr} {od an : Option Addr} {sl : Array (Option Value)} {oc kV dc pm cd ct : Value} (a : PySem.W.nsIn K mainGlobals "rules_from" = some (some (.ref f)))
    (l : K.lookup f = some ⟨oc, od, .func (PySem.W.fnOf "rules_from" "rules_from" (defArgs sRulesFrom) (defBody sRulesFrom) (defScope sRulesFrom) .none kV dc pm an cd ct), sl⟩) (c : PySem.W.codeIn K cd "rules_from" = true) (k : PySem.W.keepIn K (.ref f) = true) : Dd K mg "rules_from" sRulesFrom ["value", "ways", "worths"] :=
  dd_mk X G a (fun_mk (st := sRulesFrom) l c k) fun _ _ _ _ _ _ us hl => match us, hl with | [_, _, _], _ => rfl
theorem dd15 (X : K.In h) (G : h.Ns mainGlobals mg) {f : Addr} {od an : Option Addr} {sl : Array (Option Value)} {oc kV dc pm cd ct : Value} (a : PySem.W.nsIn K mainGlobals "worths_from" = some (some (.ref f)))
    (l : K.lookup f = some ⟨oc, od, .func (PySem.W.fnOf "worths_from" "worths_from" (defArgs sWorthsFrom) (defBody sWorthsFrom) (defScope sWorthsFrom) .none kV dc pm an cd ct), sl⟩) (c : PySem.W.codeIn K cd "worths_from" = true) (k : PySem.W.keepIn K (.ref f) = true) : Dd K mg "worths_from" sWorthsFrom ["value", "worths"] :=
  dd_mk X G a (fun_mk (st := sWorthsFrom) l c k) fun _ _ _ _ _ _ us hl => match us, hl with | [_, _], _ => rfl
theorem dd16 (X : K.In h) (G : h.Ns mainGlobals mg) {f : Addr} {od an : Option Addr} {sl : Array (Option Value)} {oc kV dc pm cd ct : Value} (a : PySem.W.nsIn K mainGlobals "_law_ramp" = some (some (.ref f)))
    (l : K.lookup f = some ⟨oc, od, .func (PySem.W.fnOf "_law_ramp" "_law_ramp" (defArgs sRamp) (defBody sRamp) (defScope sRamp) .none kV dc pm an cd ct), sl⟩) (c : PySem.W.codeIn K cd "_law_ramp" = true) (k : PySem.W.keepIn K (.ref f) = true) : Dd K mg "_law_ramp" sRamp ["_law_script"] :=
  dd_mk X G a (fun_mk (st := sRamp) l c k) fun _ _ _ _ _ _ us hl => match us, hl with | [_], _ => rfl
theorem dd17 (X : K.In h) (G : h.Ns mainGlobals mg) {f : Addr} {od an : Option Addr} {sl : Array (Option Value)} {oc kV dc pm cd ct : Value} (a : PySem.W.nsIn K mainGlobals "_law_roll" = some (some (.ref f)))
    (l : K.lookup f = some ⟨oc, od, .func (PySem.W.fnOf "_law_roll" "_law_roll" (defArgs sRoll) (defBody sRoll) (defScope sRoll) .none kV dc pm an cd ct), sl⟩) (c : PySem.W.codeIn K cd "_law_roll" = true) (k : PySem.W.keepIn K (.ref f) = true) : Dd K mg "_law_roll" sRoll ["_law_ramp_here", "_law_many"] :=
  dd_mk X G a (fun_mk (st := sRoll) l c k) fun _ _ _ _ _ _ us hl => match us, hl with | [_, _], _ => rfl
theorem dd18 (X : K.In h) (G : h.Ns mainGlobals mg) {f : Addr} {od an : Option Addr} {sl : Array (Option Value)} {oc kV dc pm cd ct : Value} (a : PySem.W.nsIn K mainGlobals "_law_of" = some (some (.ref f)))
    (l : K.lookup f = some ⟨oc, od, .func (PySem.W.fnOf "_law_of" "_law_of" (defArgs sOf) (defBody sOf) (defScope sOf) .none kV dc pm an cd ct), sl⟩) (c : PySem.W.codeIn K cd "_law_of" = true) (k : PySem.W.keepIn K (.ref f) = true) : Dd K mg "_law_of" sOf ["_law_ramp_here", "_law_some"] :=
  dd_mk X G a (fun_mk (st := sOf) l c k) fun _ _ _ _ _ _ us hl => match us, hl with | [_, _], _ => rfl
theorem dd19 (X : K.In h) (G : h.Ns mainGlobals mg) {f : Addr} {od an : Option Addr} {sl : Array (Option Value)} {oc kV dc pm cd ct : Value} (a : PySem.W.nsIn K mainGlobals "_law_table" = some (some (.ref f)))
    (l : K.lookup f = some ⟨oc, od, .func (PySem.W.fnOf "_law_table" "_law_table" (defArgs sTable) (defBody sTable) (defScope sTable) .none kV dc pm an cd ct), sl⟩) (c : PySem.W.codeIn K cd "_law_table" = true) (k : PySem.W.keepIn K (.ref f) = true) : Dd K mg "_law_table" sTable ["_law_ramp_here", "_law_ways", "_law_most"] :=
  dd_mk X G a (fun_mk (st := sTable) l c k) fun _ _ _ _ _ _ us hl => match us, hl with | [_, _, _], _ => rfl
theorem dd20 (X : K.In h) (G : h.Ns mainGlobals mg) {f : Addr} {od an : Option Addr} {sl : Array (Option Value)} {oc kV dc pm cd ct : Value} (a : PySem.W.nsIn K mainGlobals "_law_next" = some (some (.ref f)))
    (l : K.lookup f = some ⟨oc, od, .func (PySem.W.fnOf "_law_next" "_law_next" (defArgs sNext) (defBody sNext) (defScope sNext) .none kV dc pm an cd ct), sl⟩) (c : PySem.W.codeIn K cd "_law_next" = true) (k : PySem.W.keepIn K (.ref f) = true) : Dd K mg "_law_next" sNext ["_law_rules", "_law_left", "_law_own", "_law_right_here"] :=
  dd_mk X G a (fun_mk (st := sNext) l c k) fun _ _ _ _ _ _ us hl => match us, hl with | [_, _, _, _], _ => rfl
theorem dd21 (X : K.In h) (G : h.Ns mainGlobals mg) {f : Addr} {od an : Option Addr} {sl : Array (Option Value)} {oc kV dc pm cd ct : Value} (a : PySem.W.nsIn K mainGlobals "_law_strip" = some (some (.ref f)))
    (l : K.lookup f = some ⟨oc, od, .func (PySem.W.fnOf "_law_strip" "_law_strip" (defArgs sStrip) (defBody sStrip) (defScope sStrip) .none kV dc pm an cd ct), sl⟩) (c : PySem.W.codeIn K cd "_law_strip" = true) (k : PySem.W.keepIn K (.ref f) = true) : Dd K mg "_law_strip" sStrip ["_law_rules", "_law_word_here", "_law_ticks"] :=
  dd_mk X G a (fun_mk (st := sStrip) l c k) fun _ _ _ _ _ _ us hl => match us, hl with | [_, _, _], _ => rfl
theorem dd22 (X : K.In h) (G : h.Ns mainGlobals mg) {f : Addr} {od an : Option Addr} {sl : Array (Option Value)} {oc kV dc pm cd ct : Value} (a : PySem.W.nsIn K mainGlobals "_law_run" = some (some (.ref f)))
    (l : K.lookup f = some ⟨oc, od, .func (PySem.W.fnOf "_law_run" "_law_run" (defArgs sRun) (defBody sRun) (defScope sRun) .none kV dc pm an cd ct), sl⟩) (c : PySem.W.codeIn K cd "_law_run" = true) (k : PySem.W.keepIn K (.ref f) = true) : Dd K mg "_law_run" sRun ["_law_row", "_law_word_here", "_law_ticks"] :=
  dd_mk X G a (fun_mk (st := sRun) l c k) fun _ _ _ _ _ _ us hl => match us, hl with | [_, _, _], _ => rfl
theorem dd23 (X : K.In h) (G : h.Ns mainGlobals mg) {f : Addr} {od an : Option Addr} {sl : Array (Option Value)} {oc kV dc pm cd ct : Value} (a : PySem.W.nsIn K mainGlobals "_law_word" = some (some (.ref f)))
    (l : K.lookup f = some ⟨oc, od, .func (PySem.W.fnOf "_law_word" "_law_word" (defArgs sWord) (defBody sWord) (defScope sWord) .none kV dc pm an cd ct), sl⟩) (c : PySem.W.codeIn K cd "_law_word" = true) (k : PySem.W.keepIn K (.ref f) = true) : Dd K mg "_law_word" sWord ["_law_ramp_here", "_law_letters", "_law_many"] :=
  dd_mk X G a (fun_mk (st := sWord) l c k) fun _ _ _ _ _ _ us hl => match us, hl with | [_, _, _], _ => rfl
theorem dd24 (X : K.In h) (G : h.Ns mainGlobals mg) {f : Addr} {od an : Option Addr} {sl : Array (Option Value)} {oc kV dc pm cd ct : Value} (a : PySem.W.nsIn K mainGlobals "_law_right" = some (some (.ref f)))
    (l : K.lookup f = some ⟨oc, od, .func (PySem.W.fnOf "_law_right" "_law_right" (defArgs sRight) (defBody sRight) (defScope sRight) .none kV dc pm an cd ct), sl⟩) (c : PySem.W.codeIn K cd "_law_right" = true) (k : PySem.W.keepIn K (.ref f) = true) : Dd K mg "_law_right" sRight ["_law_ramp_here"] :=
  dd_mk X G a (fun_mk (st := sRight) l c k) fun _ _ _ _ _ _ us hl => match us, hl with | [_], _ => rfl
theorem dd25 (X : K.In h) (G : h.Ns mainGlobals mg) {f : Addr} {od an : Option Addr} {sl : Array (Option Value)} {oc kV dc pm cd ct : Value} (a : PySem.W.nsIn K mainGlobals "law" = some (some (.ref f)))
    (l : K.lookup f = some ⟨oc, od, .func (PySem.W.fnOf "law" "law" (defArgs sLaw) (defBody sLaw) (defScope sLaw) .none kV dc pm an cd ct), sl⟩) (c : PySem.W.codeIn K cd "law" = true) (k : PySem.W.keepIn K (.ref f) = true) : Dd K mg "law" sLaw ["_law_script"] :=
  dd_mk X G a (fun_mk (st := sLaw) l c k) fun _ _ _ _ _ _ us hl => match us, hl with | [_], _ => rfl
theorem dm0 {C f : Addr} {od an : Option Addr} {sl : Array (Option Value)} {oc kV dc pm cd ct : Value} (a : PySem.W.findIn K (.ref C) "__init__" = some (some (.ref f))) (i : PySem.W.isFn K (.ref f) = true)
    (l : K.lookup f = some ⟨oc, od, .func (PySem.W.fnOf "__init__" "OneWay.__init__" (defArgs sOneInit) (defBody sOneInit) (defScope sOneInit) .none kV dc pm an cd ct), sl⟩) (c : PySem.W.codeIn K cd "OneWay.__init__" = true) (k : PySem.W.keepIn K (.ref f) = true) : Dm K C "__init__" "OneWay.__init__" sOneInit ["self", "row"] :=
  dm_mk a i (fun_mk (st := sOneInit) l c k) fun _ _ _ _ _ _ us hl => match us, hl with | [_, _], _ => rfl
theorem dm1 {C f : Addr} {od an : Option Addr} {sl : Array (Option Value)} {oc kV dc pm cd ct : Value} (a : PySem.W.findIn K (.ref C) "begin" = some (some (.ref f))) (i : PySem.W.isFn K (.ref f) = true)
    (l : K.lookup f = some ⟨oc, od, .func (PySem.W.fnOf "begin" "OneWay.begin" (defArgs sOneBegin) (defBody sOneBegin) (defScope sOneBegin) .none kV dc pm an cd ct), sl⟩) (c : PySem.W.codeIn K cd "OneWay.begin" = true) (k : PySem.W.keepIn K (.ref f) = true) : Dm K C "begin" "OneWay.begin" sOneBegin ["self", "letter"] :=
  dm_mk a i (fun_mk (st := sOneBegin) l c k) fun _ _ _ _ _ _ us hl => match us, hl with | [_, _], _ => rfl
theorem dm2 {C f : Addr} {od an : Option Addr} {sl : Array (Option Value)} {oc kV dc pm cd ct : Value} (a : PySem.W.findIn K (.ref C) "next" = some (some (.ref f))) (i : PySem.W.isFn K (.ref f) = true)
    (l : K.lookup f = some ⟨oc, od, .func (PySem.W.fnOf "next" "OneWay.next" (defArgs sOneNext) (defBody sOneNext) (defScope sOneNext) .none kV dc pm an cd ct), sl⟩) (c : PySem.W.codeIn K cd "OneWay.next" = true) (k : PySem.W.keepIn K (.ref f) = true) : Dm K C "next" "OneWay.next" sOneNext ["self", "left", "own", "right"] :=
  dm_mk a i (fun_mk (st := sOneNext) l c k) fun _ _ _ _ _ _ us hl => match us, hl with | [_, _, _, _], _ => rfl
theorem dm3 {C f : Addr} {od an : Option Addr} {sl : Array (Option Value)} {oc kV dc pm cd ct : Value} (a : PySem.W.findIn K (.ref C) "__init__" = some (some (.ref f))) (i : PySem.W.isFn K (.ref f) = true)
    (l : K.lookup f = some ⟨oc, od, .func (PySem.W.fnOf "__init__" "Table.__init__" (defArgs sTabInit) (defBody sTabInit) (defScope sTabInit) .none kV dc pm an cd ct), sl⟩) (c : PySem.W.codeIn K cd "Table.__init__" = true) (k : PySem.W.keepIn K (.ref f) = true) : Dm K C "__init__" "Table.__init__" sTabInit ["self", "ways", "letters", "worths", "rules", "yes"] :=
  dm_mk a i (fun_mk (st := sTabInit) l c k) fun _ _ _ _ _ _ us hl => match us, hl with | [_, _, _, _, _, _], _ => rfl
theorem dm4 {C f : Addr} {od an : Option Addr} {sl : Array (Option Value)} {oc kV dc pm cd ct : Value} (a : PySem.W.findIn K (.ref C) "begin" = some (some (.ref f))) (i : PySem.W.isFn K (.ref f) = true)
    (l : K.lookup f = some ⟨oc, od, .func (PySem.W.fnOf "begin" "Table.begin" (defArgs sTabBegin) (defBody sTabBegin) (defScope sTabBegin) .none kV dc pm an cd ct), sl⟩) (c : PySem.W.codeIn K cd "Table.begin" = true) (k : PySem.W.keepIn K (.ref f) = true) : Dm K C "begin" "Table.begin" sTabBegin ["self", "letter"] :=
  dm_mk a i (fun_mk (st := sTabBegin) l c k) fun _ _ _ _ _ _ us hl => match us, hl with | [_, _], _ => rfl
theorem dm5 {C f : Addr} {od an : Option Addr} {sl : Array (Option Value)} {oc kV dc pm cd ct : Value} (a : PySem.W.findIn K (.ref C) "next" = some (some (.ref f))) (i : PySem.W.isFn K (.ref f) = true)
    (l : K.lookup f = some ⟨oc, od, .func (PySem.W.fnOf "next" "Table.next" (defArgs sTabNext) (defBody sTabNext) (defScope sTabNext) .none kV dc pm an cd ct), sl⟩) (c : PySem.W.codeIn K cd "Table.next" = true) (k : PySem.W.keepIn K (.ref f) = true) : Dm K C "next" "Table.next" sTabNext ["self", "left", "own", "right"] :=
  dm_mk a i (fun_mk (st := sTabNext) l c k) fun _ _ _ _ _ _ us hl => match us, hl with | [_, _, _, _], _ => rfl
theorem tx_mk (X : K.In h) (G : h.Ns mainGlobals mg) {CT CO CR : Addr}
    (n_isinstance : PySem.W.nsIn K mainGlobals "isinstance" = some none)
    (n_int : PySem.W.nsIn K mainGlobals "int" = some none)
    (n_bool : PySem.W.nsIn K mainGlobals "bool" = some none)
    (n_list : PySem.W.nsIn K mainGlobals "list" = some none)
    (n_tuple : PySem.W.nsIn K mainGlobals "tuple" = some none)
    (n_dict : PySem.W.nsIn K mainGlobals "dict" = some none)
    (n_set : PySem.W.nsIn K mainGlobals "set" = some none)
    (n_len : PySem.W.nsIn K mainGlobals "len" = some none)
    (n_all : PySem.W.nsIn K mainGlobals "all" = some none)
    (n_range : PySem.W.nsIn K mainGlobals "range" = some none)
    (n_enumerate : PySem.W.nsIn K mainGlobals "enumerate" = some none)
    (n_sorted : PySem.W.nsIn K mainGlobals "sorted" = some none)
    (n_abs : PySem.W.nsIn K mainGlobals "abs" = some none)
    (n_min : PySem.W.nsIn K mainGlobals "min" = some none)
    (n_repr : PySem.W.nsIn K mainGlobals "repr" = some none)
    {t_longest t_oneWay t_twoWays t_mostLetters t_mostWorths t_waits t_works : Tok}
    (c_longest : PySem.W.nsIn K mainGlobals "LONGEST" = some (some (.int 200 t_longest)))
    (c_oneWay : PySem.W.nsIn K mainGlobals "ONE_WAY" = some (some (.int 1 t_oneWay)))
    (c_twoWays : PySem.W.nsIn K mainGlobals "TWO_WAYS" = some (some (.int 2 t_twoWays)))
    (c_mostLetters : PySem.W.nsIn K mainGlobals "MOST_LETTERS" = some (some (.int 6 t_mostLetters)))
    (c_mostWorths : PySem.W.nsIn K mainGlobals "MOST_WORTHS" = some (some (.int 12 t_mostWorths)))
    (c_waits : PySem.W.nsIn K mainGlobals "WAITS" = some (some (.int 0 t_waits)))
    (c_works : PySem.W.nsIn K mainGlobals "WORKS" = some (some (.int 1 t_works)))
    (row : PySem.W.nsIn K mainGlobals "Row" = some (some (.ref CR)))
    (pgCT : PySem.W.plainGet K CT Str.empty = true) (hdCT : PySem.W.hasDictIn K CT = true) (poCT : PySem.W.plainOver K CT = true) (saCT : PySem.W.findIn K (.ref CT) "__setattr__" = some (some (.builtin "object.__setattr__")))
    (pgCO : PySem.W.plainGet K CO Str.empty = true) (hdCO : PySem.W.hasDictIn K CO = true) (poCO : PySem.W.plainOver K CO = true) (saCO : PySem.W.findIn K (.ref CO) "__setattr__" = some (some (.builtin "object.__setattr__")))
    (tHa : PySem.W.findIn K (.ref CT) "__class__" = some (some (.builtin "object.__class__"))) (tHn : PySem.W.specialIn K (.builtin "object.__class__") "__get__" = some (some (.builtin "getset_descriptor.__get__"))) (tHtk : PySem.W.takesIn K (.builtin "object.__class__") = some true)
    (tHm : PySem.W.mroIn K CT (.type "object") = some true) {cdR : ClassData} (rC : PySem.W.clsIn K CR = some cdR) (rT : PySem.W.typeIn K (.ref CR) = some (.type "type")) (rS : PySem.W.subIn K (.ref CT) (.ref CR) = some true)
    (tWays : PySem.W.findIn K (.ref CT) "ways" = some none)
    (tLetters : PySem.W.findIn K (.ref CT) "letters" = some none)
    (tWorths : PySem.W.findIn K (.ref CT) "worths" = some none)
    (tRules : PySem.W.findIn K (.ref CT) "rules" = some none)
    (tYes : PySem.W.findIn K (.ref CT) "yes" = some none)
    (tBy : PySem.W.findIn K (.ref CT) "by_key" = some none)
    (oRow : PySem.W.findIn K (.ref CO) "row" = some none)
    (oLetters : PySem.W.findIn K (.ref CO) "letters" = some none)
    (oWays : PySem.W.findIn K (.ref CO) "ways" = some none)
    : Tx K mg CT CO CR := ⟨PySem.W.mg_none_of X G n_isinstance, PySem.W.mg_none_of X G n_int, PySem.W.mg_none_of X G n_bool, PySem.W.mg_none_of X G n_list, PySem.W.mg_none_of X G n_tuple, PySem.W.mg_none_of X G n_dict, PySem.W.mg_none_of X G n_set, PySem.W.mg_none_of X G n_len, PySem.W.mg_none_of X G n_all, PySem.W.mg_none_of X G n_range, PySem.W.mg_none_of X G n_enumerate, PySem.W.mg_none_of X G n_sorted, PySem.W.mg_none_of X G n_abs, PySem.W.mg_none_of X G n_min, PySem.W.mg_none_of X G n_repr, ⟨t_longest, PySem.W.mg_of X G c_longest⟩, ⟨t_oneWay, PySem.W.mg_of X G c_oneWay⟩, ⟨t_twoWays, PySem.W.mg_of X G c_twoWays⟩, ⟨t_mostLetters, PySem.W.mg_of X G c_mostLetters⟩, ⟨t_mostWorths, PySem.W.mg_of X G c_mostWorths⟩, ⟨t_waits, PySem.W.mg_of X G c_waits⟩, ⟨t_works, PySem.W.mg_of X G c_works⟩, PySem.W.mg_of X G row, ⟨pgCT, hdCT, poCT, saCT⟩, ⟨pgCO, hdCO, poCO, saCO⟩, tHa, tHn, tHtk, tHm, kit_own15 rC rT rS, tWays, tLetters, tWorths, tRules, tYes, tBy, oRow, oLetters, oWays⟩
end
section
variable {w : World} {K : PySem.W.Frag} {mg : Str → Option Value} {h : Heap} {CT CO CR fa : Addr}
theorem all_mk {l : PySem.W.OpenLaw} (X : K.In h) (G : h.Ns mainGlobals mg) (hfa : mg "law" = some (.ref fa)) (aT : PySem.W.nsIn K mainGlobals "Table" = some (some (.ref CT))) (aO : PySem.W.nsIn K mainGlobals "OneWay" = some (some (.ref CO))) (T : Tx K mg CT CO CR)
    (mkT : PySem.W.makesIn K CT = true) (kpT : PySem.W.keepIn K (.ref CT) = true) (mkO : PySem.W.makesIn K CO = true) (kpO : PySem.W.keepIn K (.ref CO) = true) (R : DRow K mg)
    (D0 : Dd K mg "is_integer" sIsInteger ["value"])
    (D1 : Dd K mg "is_within" sIsWithin ["value", "least", "most"])
    (D2 : Dd K mg "is_letter" sIsLetter ["value", "letters"])
    (D3 : Dd K mg "is_word" sIsWord ["value", "letters"])
    (D4 : Dd K mg "need_number" sNeedNumber ["value", "part", "least", "most"])
    (D5 : Dd K mg "need_word" sNeedWord ["value", "letters", "part"])
    (D6 : Dd K mg "pairs_in" sPairsIn ["value"])
    (D7 : Dd K mg "need_two_ways" sNeedTwo ["row"])
    (D8 : Dd K mg "slanted" sSlanted ["cell", "tick"])
    (D9 : Dd K mg "one_tick" sOneTick ["row", "cells"])
    (D10 : Dd K mg "slant" sSlant ["cell", "tick"])
    (D11 : Dd K mg "triangle" sTriangle ["row", "word"])
    (D12 : Dd K mg "key_order" sKeyOrder ["key"])
    (D13 : Dd K mg "is_key" sIsKey ["value", "ways", "worths"])
    (D14 : Dd K mg "rules_from" sRulesFrom ["value", "ways", "worths"])
    (D15 : Dd K mg "worths_from" sWorthsFrom ["value", "worths"])
    (D16 : Dd K mg "_law_ramp" sRamp ["_law_script"])
    (D17 : Dd K mg "_law_roll" sRoll ["_law_ramp_here", "_law_many"])
    (D18 : Dd K mg "_law_of" sOf ["_law_ramp_here", "_law_some"])
    (D19 : Dd K mg "_law_table" sTable ["_law_ramp_here", "_law_ways", "_law_most"])
    (D20 : Dd K mg "_law_next" sNext ["_law_rules", "_law_left", "_law_own", "_law_right_here"])
    (D21 : Dd K mg "_law_strip" sStrip ["_law_rules", "_law_word_here", "_law_ticks"])
    (D22 : Dd K mg "_law_run" sRun ["_law_row", "_law_word_here", "_law_ticks"])
    (D23 : Dd K mg "_law_word" sWord ["_law_ramp_here", "_law_letters", "_law_many"])
    (D24 : Dd K mg "_law_right" sRight ["_law_ramp_here"])
    (D25 : Dd K mg "law" sLaw ["_law_script"])
    (M0 : Dm K CO "__init__" "OneWay.__init__" sOneInit ["self", "row"])
    (M1 : Dm K CO "begin" "OneWay.begin" sOneBegin ["self", "letter"])
    (M2 : Dm K CO "next" "OneWay.next" sOneNext ["self", "left", "own", "right"])
    (M3 : Dm K CT "__init__" "Table.__init__" sTabInit ["self", "ways", "letters", "worths", "rules", "yes"])
    (M4 : Dm K CT "begin" "Table.begin" sTabBegin ["self", "letter"])
    (M5 : Dm K CT "next" "Table.next" sTabNext ["self", "left", "own", "right"]) :
    ∃ fd : FuncData, (∀ (s : Shared) (u : Value), BindsTo s fd ⟨[u], []⟩ [(("_law_script" : Str), u)]) ∧ ∀ base : Heap, K.In base → base.Ns mainGlobals mg → FnG l.prog w K mg base 8 fa fd ["_law_script"] (spLaw K) := by
  obtain ⟨fl, fdl, FL, ml, bl⟩ := D25.ex
  have e := hfa.symm.trans ml
  cases e
  refine ⟨fdl, ?_, fun base XB GB => ?_⟩
  · obtain ⟨oc, od, kV, doc, pm, an, cdv, ct, osl, rfl, lk, hcd⟩ := FL.ex
    intro s u
    exact .of_eq rfl
  · have c_int := cl_isInteger (P := l.prog) (w := w) (base := base) D0 T
    have c_within := cl_isWithin D1 c_int
    have c_letter := cl_isLetter D2 c_within
    have c_word := cl_isWord D3 T c_letter
    have c_nnum := cl_needNumber D4 c_within
    have c_nword := cl_needWord D5 T c_word
    have c_pairs := cl_pairsIn (P := l.prog) (w := w) (base := base) D6 T
    have c_nrow := cl_needRow (P := l.prog) (w := w) (base := base) R T
    have c_two := cl_needTwo D7 T c_nrow
    have c_slanted := cl_slanted (P := l.prog) (w := w) (base := base) D8
    have m_tbegin := mt_tabBegin (P := l.prog) (w := w) (base := base) M4 T
    have m_tnext := mt_tabNext (P := l.prog) (w := w) (base := base) M5 T
    have m_oinit := mt_oneInit M0 T c_two
    have m_obegin := mt_oneBegin M1 T m_tbegin
    have m_onext := mt_oneNext M2 T m_tnext
    have c_tick := cl_oneTick D9 T m_onext
    have c_slant := cl_slant D10 c_nnum c_slanted
    have mm_one := mm_of mkO kpO (PySem.W.mg_of X G aO) m_oinit
    have c_tri := cl_tri D11 T c_nrow c_nword c_two mm_one m_obegin c_tick c_slanted
    have c_ord := cl_keyOrder (P := l.prog) (w := w) (base := base) D12
    have c_key := cl_isKey D13 T c_within
    have c_rules := cl_rulesFrom D14 T c_pairs c_key c_within c_ord
    have c_worths := cl_worthsFrom D15 T c_within
    have m_tinit := mt_tabInit M3 T c_within c_rules c_worths
    have mm_tab := mm_of mkT kpT (PySem.W.mg_of X G aT) m_tinit
    have c_ramp := cl_ramp (P := l.prog) (w := w) (base := base) D16 T
    have c_roll := cl_roll (P := l.prog) (w := w) (base := base) D17 T
    have c_of := cl_of15 D18 T c_roll
    have c_table := cl_table D19 T c_roll c_of
    have c_next := cl_next (P := l.prog) (w := w) (base := base) D20
    have c_strip := cl_strip D21 T c_next
    have c_run := cl_run D22 T m_obegin m_onext
    have c_wordL := cl_word D23 T c_roll
    have c_right := cl_right D24 T c_table mm_tab c_of c_wordL c_strip mm_one c_run c_slant c_tri
    exact ok_law15 FL T c_ramp c_right
end
end K15
end

set_option maxRecDepth 100000
open PySem PySem.W PyProof.Rows
set_option maxRecDepth 100000 in
set_option maxHeartbeats 0 in
theorem PySem.Challenge.cw_backwardrow_k15_whole_slants_of_all_cell_holds : PySem.Challenge.rw_backwardrow_k15_whole_slants_of_all_cell.Holds := by
  w_on; o_law; k_head; (case hw => w_witness2)
  k_fill
  refine K15.end_walk (l := PySem.Challenge.rw_backwardrow_k15_whole_slants_of_all_cell) (n := 63) (k := 8) (x := "_law_script") (sp := K15.spLaw) rfl (by decide) rfl ⟨rfl, by decide, by decide⟩ (fun w h Y => PySem.W.kIn_of Y) ?F (fun K H a ns hl hS => ⟨a, ns, rfl, hS, by omega, fun _ => rfl⟩)
  case F =>
    intro w mg fa h KX G hmg
    refine' K15.all_mk KX G hmg ?aT ?aO ?T ?mkT ?kpT ?mkO ?kpO ?R ?D0 ?D1 ?D2 ?D3 ?D4 ?D5 ?D6 ?D7 ?D8 ?D9 ?D10 ?D11 ?D12 ?D13 ?D14 ?D15 ?D16 ?D17 ?D18 ?D19 ?D20 ?D21 ?D22 ?D23 ?D24 ?D25 ?M0 ?M1 ?M2 ?M3 ?M4 ?M5
    (case aT => k_is); (case aO => k_is)
    (case T => refine' K15.tx_mk KX G ?n_isinstance ?n_int ?n_bool ?n_list ?n_tuple ?n_dict ?n_set ?n_len ?n_all ?n_range ?n_enumerate ?n_sorted ?n_abs ?n_min ?n_repr ?c_longest ?c_oneWay ?c_twoWays ?c_mostLetters ?c_mostWorths ?c_waits ?c_works ?row ?pgCT ?hdCT ?poCT ?saCT ?pgCO ?hdCO ?poCO ?saCO ?tHa ?tHn ?tHtk ?tHm ?rC ?rT ?rS ?tWays ?tLetters ?tWorths ?tRules ?tYes ?tBy ?oRow ?oLetters ?oWays; (case n_isinstance => k_is); (case n_int => k_is); (case n_bool => k_is); (case n_list => k_is); (case n_tuple => k_is); (case n_dict => k_is); (case n_set => k_is); (case n_len => k_is); (case n_all => k_is); (case n_range => k_is); (case n_enumerate => k_is); (case n_sorted => k_is); (case n_abs => k_is); (case n_min => k_is); (case n_repr => k_is); (case c_longest => k_is); (case c_oneWay => k_is); (case c_twoWays => k_is); (case c_mostLetters => k_is); (case c_mostWorths => k_is); (case c_waits => k_is); (case c_works => k_is); (case row => k_is); (case pgCT => k_is); (case hdCT => k_is); (case poCT => k_is); (case saCT => k_is); (case pgCO => k_is); (case hdCO => k_is); (case poCO => k_is); (case saCO => k_is); (case tHa => k_is); (case tHn => k_is); (case tHtk => k_is); (case tHm => k_is); (case rC => k_is); (case rT => k_is); (case rS => k_is); (case tWays => k_is); (case tLetters => k_is); (case tWorths => k_is); (case tRules => k_is); (case tYes => k_is); (case tBy => k_is); (case oRow => k_is); (case oLetters => k_is); (case oWays => k_is))
    (case mkT => k_is); (case kpT => k_is); (case mkO => k_is); (case kpO => k_is)
    (case R => refine' K15.drow_mk KX G ?a ?l ?c ?k ?t; (case a => k_is); (case l => k_is); (case c => k_is); (case k => k_is); (case t => k_is))
    (case D0 => refine' K15.dd0 KX G ?a ?l ?c ?k; (case a => k_is); (case l => k_is); (case c => k_is); (case k => k_is))
    (case D1 => refine' K15.dd1 KX G ?a ?l ?c ?k; (case a => k_is); (case l => k_is); (case c => k_is); (case k => k_is))
    (case D2 => refine' K15.dd2 KX G ?a ?l ?c ?k; (case a => k_is); (case l => k_is); (case c => k_is); (case k => k_is))
    (case D3 => refine' K15.dd3 KX G ?a ?l ?c ?k; (case a => k_is); (case l => k_is); (case c => k_is); (case k => k_is))
    (case D4 => refine' K15.dd4 KX G ?a ?l ?c ?k; (case a => k_is); (case l => k_is); (case c => k_is); (case k => k_is))
    (case D5 => refine' K15.dd5 KX G ?a ?l ?c ?k; (case a => k_is); (case l => k_is); (case c => k_is); (case k => k_is))
    (case D6 => refine' K15.dd6 KX G ?a ?l ?c ?k; (case a => k_is); (case l => k_is); (case c => k_is); (case k => k_is))
    (case D7 => refine' K15.dd7 KX G ?a ?l ?c ?k; (case a => k_is); (case l => k_is); (case c => k_is); (case k => k_is))
    (case D8 => refine' K15.dd8 KX G ?a ?l ?c ?k; (case a => k_is); (case l => k_is); (case c => k_is); (case k => k_is))
    (case D9 => refine' K15.dd9 KX G ?a ?l ?c ?k; (case a => k_is); (case l => k_is); (case c => k_is); (case k => k_is))
    (case D10 => refine' K15.dd10 KX G ?a ?l ?c ?k; (case a => k_is); (case l => k_is); (case c => k_is); (case k => k_is))
    (case D11 => refine' K15.dd11 KX G ?a ?l ?c ?k; (case a => k_is); (case l => k_is); (case c => k_is); (case k => k_is))
    (case D12 => refine' K15.dd12 KX G ?a ?l ?c ?k; (case a => k_is); (case l => k_is); (case c => k_is); (case k => k_is))
    (case D13 => refine' K15.dd13 KX G ?a ?l ?c ?k; (case a => k_is); (case l => k_is); (case c => k_is); (case k => k_is))
    (case D14 => refine' K15.dd14 KX G ?a ?l ?c ?k; (case a => k_is); (case l => k_is); (case c => k_is); (case k => k_is))
    (case D15 => refine' K15.dd15 KX G ?a ?l ?c ?k; (case a => k_is); (case l => k_is); (case c => k_is); (case k => k_is))
    (case D16 => refine' K15.dd16 KX G ?a ?l ?c ?k; (case a => k_is); (case l => k_is); (case c => k_is); (case k => k_is))
    (case D17 => refine' K15.dd17 KX G ?a ?l ?c ?k; (case a => k_is); (case l => k_is); (case c => k_is); (case k => k_is))
    (case D18 => refine' K15.dd18 KX G ?a ?l ?c ?k; (case a => k_is); (case l => k_is); (case c => k_is); (case k => k_is))
    (case D19 => refine' K15.dd19 KX G ?a ?l ?c ?k; (case a => k_is); (case l => k_is); (case c => k_is); (case k => k_is))
    (case D20 => refine' K15.dd20 KX G ?a ?l ?c ?k; (case a => k_is); (case l => k_is); (case c => k_is); (case k => k_is))
    (case D21 => refine' K15.dd21 KX G ?a ?l ?c ?k; (case a => k_is); (case l => k_is); (case c => k_is); (case k => k_is))
    (case D22 => refine' K15.dd22 KX G ?a ?l ?c ?k; (case a => k_is); (case l => k_is); (case c => k_is); (case k => k_is))
    (case D23 => refine' K15.dd23 KX G ?a ?l ?c ?k; (case a => k_is); (case l => k_is); (case c => k_is); (case k => k_is))
    (case D24 => refine' K15.dd24 KX G ?a ?l ?c ?k; (case a => k_is); (case l => k_is); (case c => k_is); (case k => k_is))
    (case D25 => refine' K15.dd25 KX G ?a ?l ?c ?k; (case a => k_is); (case l => k_is); (case c => k_is); (case k => k_is))
    (case M0 => refine' K15.dm0 ?a ?i ?l ?c ?k; (case a => k_is); (case i => k_is); (case l => k_is); (case c => k_is); (case k => k_is))
    (case M1 => refine' K15.dm1 ?a ?i ?l ?c ?k; (case a => k_is); (case i => k_is); (case l => k_is); (case c => k_is); (case k => k_is))
    (case M2 => refine' K15.dm2 ?a ?i ?l ?c ?k; (case a => k_is); (case i => k_is); (case l => k_is); (case c => k_is); (case k => k_is))
    (case M3 => refine' K15.dm3 ?a ?i ?l ?c ?k; (case a => k_is); (case i => k_is); (case l => k_is); (case c => k_is); (case k => k_is))
    (case M4 => refine' K15.dm4 ?a ?i ?l ?c ?k; (case a => k_is); (case i => k_is); (case l => k_is); (case c => k_is); (case k => k_is))
    (case M5 => refine' K15.dm5 ?a ?i ?l ?c ?k; (case a => k_is); (case i => k_is); (case l => k_is); (case c => k_is); (case k => k_is))
