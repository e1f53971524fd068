import PyProof.Rows.All
import Wide.All
import OpenK.AllK
import Wide.FinOn
import HandS.ForMost
import HandS.More
import HandS.WordsExc
import HandS.Defaults
import HandS.Deep
import HandS.TupAny
import HandS.TupMul
import HandS.TupLe
import HandS.Style
import HandS.IsInst
import HandS.Zip
import HandS.SortRule
import HandS.SortInts
import HandS.Conv
import HandS.Codes
import HandS.TupLen
import HandS.RaiseMore
import KE.KTupSum
import HandS.Iter
import KE.GoesEnum
import HandS.Dict
import HandS.TupSets
import KE.KDictList
import KE.KDictCopyH
import PyProof.TupleOfSeq
import HandS.DictTup
import KE.DataMinMax
import HandS.Strs
import HandS.Head0
import HandS.Head1
import HandS.Head2
import HandS.HeadEnd
import HandS.HeadHook1
import HandS.HeadHook2
import HandS.HotCalls
import HandS.ExcIs
import KE.KStateDown
import PySem.Challenge.RW_hillarms_k21_whole_nearest_tree
set_option Elab.async false
set_option linter.all false
set_option maxRecDepth 100000
set_option maxHeartbeats 0
set_option autoImplicit false
/-! Hil1: trees in slots: what a value is worth, who owns what. -/
namespace Hil
open PySem PySem.Spec PyProof.Rows L2

abbrev Ad := PySem.Addr
abbrev PD := PySem.PyData
/-- a value's worth -/
inductive W where
  | d (x : PD) | opq (v : V) | dk (kvs : List (Key × PD)) | dt (kvs : List (List Key × PD)) | scr (ns : List Int)

section
variable (K : PySem.W.Frag) (H : Hp) (A : Ad → Prop)
/-- a tuple of the module -/
def KTup (a : Ad) (xs : List V) : Prop :=
  ∃ (o : Obj) (its : Array Value) (n : Nat), K.lookup a = some o ∧ o.cls = .type "tuple" ∧ o.dict = none ∧ o.data = .seq its n ∧ its.size ≤ sizeLine ∧ Vals xs its.toList
theorem KTup.sq {K : PySem.W.Frag} {H : Hp} {a : Ad} {xs : List V} (h : KTup K a xs) : SqT K H a xs :=
  let ⟨o, its, n, e, c, _, d, z, v⟩ := h; .inr ⟨o, its, n, e, c, d, z, v⟩
def isStr : PD → Bool
  | .str _ => true
  | _ => false
/-- texts alone, one at least: such a tuple is held as the object it is -/
def isSs (ds : List PD) : Bool := !ds.isEmpty && ds.all isStr
theorem isSs_of {ss : List Str} (h : ss ≠ []) : isSs (ss.map .str) = true := by
  cases ss with
  | nil => exact absurd rfl h
  | cons z r => simp [isSs, isStr]
theorem isSs_ints (ns : List Int) : isSs (ns.map .int) = false := by
  cases ns with
  | nil => rfl
  | cons z r => simp [isSs, isStr]
theorem isSs_get {ds : List PD} (h : isSs ds = true) : ∃ ss : List Str, ds = ss.map .str ∧ ss ≠ [] := by
  have aux : ∀ ds : List PD, ds.all isStr = true → ∃ ss : List Str, ds = ss.map .str := by
    intro ds
    induction ds with
    | nil => intro _; exact ⟨[], rfl⟩
    | cons d r ih =>
      intro h
      rw [List.all_cons, Bool.and_eq_true] at h
      obtain ⟨ss, e⟩ := ih h.2
      cases d with
      | str z => exact ⟨z :: ss, by rw [e]; rfl⟩
      | _ => exact absurd h.1 (by simp [isStr])
  unfold isSs at h
  rw [Bool.and_eq_true] at h
  obtain ⟨ss, e⟩ := aux ds h.2
  refine ⟨ss, e, fun z => ?_⟩
  subst z
  subst e
  exact absurd h.1 (by decide)
/-- what one may own -/
def MO : HO → Bool
  | .lst _ => true
  | .dK _ => true
  | .dT _ => true
  | _ => false
abbrev MHO := { o : HO // MO o = true }
mutual
inductive RD : V → PD → Prop
  | non : RD .non .none
  | bl (b : Bool) : RD (.bl b) (.bool b)
  | int (i : Int) : RD (.int i) (.int i)
  | str (x : Str) : PyData.strOk x = true → RD (.str x) (.str x)
  | lst {a : Ad} {xs : List V} {ds : List PD} : H a = some (.lst xs) → ¬ A a → RDs xs ds → RD (.ref a) (.list ds)
  | tup {a : Ad} {xs : List V} {ds : List PD} : H a = some (.tup xs) → ¬ A a → RDs xs ds → isSs ds = false → RD (.ref a) (.tuple ds)
  | ftup {a : Ad} {o : Obj} {ss : List Str} : H a = some (.frz o (.tup (ss.map V.str))) → o.dict = none → ¬ A a → ss ≠ [] → (∀ z ∈ ss, PyData.strOk z = true) → RD (.ref a) (.tuple (ss.map .str))
  | ktup {a : Ad} {ss : List Str} : KTup K a (ss.map V.str) → ss ≠ [] → (∀ z ∈ ss, PyData.strOk z = true) → RD (.ref a) (.tuple (ss.map .str))
inductive RDs : List V → List PD → Prop
  | nil : RDs [] []
  | cons {v : V} {vs : List V} {d : PD} {ds : List PD} : RD v d → RDs vs ds → RDs (v :: vs) (d :: ds)
end
/-- what the one who holds the object at a knows of it -/
def OW (a : Ad) : W → Prop
  | .d (.list ds) => ∃ vs, H a = some (.lst vs) ∧ RDs K H A vs ds
  | .dk kvs => ∃ l, H a = some (.dK l) ∧ l.map (·.1) = kvs.map (·.1) ∧ RDs K H A (l.map (·.2)) (kvs.map (·.2)) ∧ (kvs.map (·.1)).Nodup
  | .dt kvs => ∃ l, H a = some (.dT l) ∧ l.map (·.1) = kvs.map (·.1) ∧ RDs K H A (l.map (·.2)) (kvs.map (·.2)) ∧ (kvs.map (·.1)).Nodup
  | _ => False
/-- a value that is shared: nothing of it changes any more -/
def RW (v : V) : W → Prop
  | .d x => RD K H A v x
  | .opq u => v = u
  | .dk kvs => ∃ a, v = .ref a ∧ ¬ A a ∧ OW K H A a (.dk kvs)
  | .dt kvs => ∃ a, v = .ref a ∧ ¬ A a ∧ OW K H A a (.dt kvs)
  | .scr ns => ∃ a, v = .ref a ∧ ((∃ o, H a = some (.frz o (.lst (ns.map V.int))) ∧ ¬ A a) ∨ ∃ (o : Obj) (its : Array Value) (n : Nat), K.lookup a = some o ∧ o.cls = .type "list" ∧ o.dict = none ∧ o.data = .seq its n ∧ its.size ≤ sizeLine ∧ Vals (ns.map V.int) its.toList)
/-- a value that is looked at -/
def PW (v : V) (w : W) : Prop := RW K H A v w ∨ ∃ a, v = .ref a ∧ OW K H A a w
end

section
variable {K : PySem.W.Frag} {H H' : Hp} {A A' : Ad → Prop}
theorem RDs.ofStrs {K : PySem.W.Frag} {H : Hp} {A : Ad → Prop} : ∀ {ss : List Str}, (∀ z ∈ ss, PyData.strOk z = true) → RDs K H A (ss.map V.str) (ss.map .str)
  | [], _ => .nil
  | z :: r, h => .cons (.str z (h z List.mem_cons_self)) (RDs.ofStrs fun y hy => h y (List.mem_cons_of_mem _ hy))
theorem dpStrs {K : PySem.W.Frag} {H : Hp} : ∀ ss : List Str, DpAll K H (ss.map V.str) (ss.map .str)
  | [] => .nil
  | z :: r => .cons (.str z) (dpStrs r)
theorem layStrs : ∀ {ss : List Str}, (∀ z ∈ ss, PyData.strOk z = true) → PyData.canLayAll0 (ss.map .str) = true
  | [], _ => rfl
  | z :: r, h => by
    have a := h z List.mem_cons_self
    have b := layStrs (ss := r) fun y hy => h y (List.mem_cons_of_mem _ hy)
    simp [PyData.canLayAll0, PyData.canLay0, a, b]
mutual
theorem RD.mono (h1 : ∀ b o, H b = some o → ¬ A b → H' b = some o) (h2 : ∀ b o, H b = some o → ¬ A b → ¬ A' b) : ∀ {v : V} {d : PD}, RD K H A v d → RD K H' A' v d
  | _, _, .non => .non
  | _, _, .bl b => .bl b
  | _, _, .int i => .int i
  | _, _, .str x h => .str x h
  | _, _, .lst e n r => .lst (h1 _ _ e n) (h2 _ _ e n) (RDs.mono h1 h2 r)
  | _, _, .tup e n r q => .tup (h1 _ _ e n) (h2 _ _ e n) (RDs.mono h1 h2 r) q
  | _, _, .ftup e d n r q => .ftup (h1 _ _ e n) d (h2 _ _ e n) r q
  | _, _, .ktup e n r => .ktup e n r
theorem RDs.mono (h1 : ∀ b o, H b = some o → ¬ A b → H' b = some o) (h2 : ∀ b o, H b = some o → ¬ A b → ¬ A' b) : ∀ {vs : List V} {ds : List PD}, RDs K H A vs ds → RDs K H' A' vs ds
  | _, _, .nil => .nil
  | _, _, .cons r rs => .cons (RD.mono h1 h2 r) (RDs.mono h1 h2 rs)
end
mutual
theorem RD.dp : ∀ {v : V} {d : PD}, RD K H A v d → Dp K H v d
  | _, _, .non => .non
  | _, _, .bl b => .bl b
  | _, _, .int i => .int i
  | _, _, .str x _ => .str x
  | _, _, .lst e _ r => .lst (SqL.of e) (RDs.dp r)
  | _, _, .tup e _ r _ => .tup (SqT.of e) (RDs.dp r)
  | _, _, .ftup e _ _ _ _ => .tup (.inl (.inr ⟨_, e⟩)) (dpStrs _)
  | _, _, .ktup e n r => .tup e.sq (dpStrs _)
theorem RDs.dp : ∀ {vs : List V} {ds : List PD}, RDs K H A vs ds → DpAll K H vs ds
  | _, _, .nil => .nil
  | _, _, .cons r rs => .cons (RD.dp r) (RDs.dp rs)
end
mutual
theorem RD.lay : ∀ {v : V} {d : PD}, RD K H A v d → d.canLay0 = true
  | _, _, .non => rfl
  | _, _, .bl b => rfl
  | _, _, .int i => rfl
  | _, _, .str x h => by simpa [PyData.canLay0] using h
  | _, _, .lst e _ r => by simpa [PyData.canLay0] using RDs.lay r
  | _, _, .tup e _ r _ => by simpa [PyData.canLay0] using RDs.lay r
  | _, _, .ftup _ _ _ _ r => by simpa [PyData.canLay0] using layStrs r
  | _, _, .ktup e n r => by simpa [PyData.canLay0] using layStrs r
theorem RDs.lay : ∀ {vs : List V} {ds : List PD}, RDs K H A vs ds → PyData.canLayAll0 ds = true
  | _, _, .nil => rfl
  | _, _, .cons r rs => by
    have a := RD.lay r
    have b := RDs.lay rs
    simp [PyData.canLayAll0, a, b]
end
theorem RDs.length : ∀ {vs : List V} {ds : List PD}, RDs K H A vs ds → vs.length = ds.length
  | _, _, .nil => rfl
  | _, _, .cons _ rs => by simp [RDs.length rs]
theorem RDs.append : ∀ {vs us : List V} {ds es : List PD}, RDs K H A vs ds → RDs K H A us es → RDs K H A (vs ++ us) (ds ++ es)
  | _, _, _, _, .nil, q => q
  | _, _, _, _, .cons r rs, q => .cons r (RDs.append rs q)
theorem RDs.get : ∀ {vs : List V} {ds : List PD} {i : Nat} {d : PD}, RDs K H A vs ds → ds[i]? = some d → ∃ v, vs[i]? = some v ∧ RD K H A v d
  | _, _, _, _, .nil, e => by simp at e
  | _, _, 0, _, .cons r _, e => by simp at e; subst e; exact ⟨_, rfl, r⟩
  | _, _, i + 1, _, .cons _ rs, e => by
    obtain ⟨v, h1, h2⟩ := RDs.get (i := i) rs (by simpa using e)
    exact ⟨v, by simpa using h1, h2⟩
theorem RDs.getV : ∀ {vs : List V} {ds : List PD} {i : Nat} {v : V}, RDs K H A vs ds → vs[i]? = some v → ∃ d, ds[i]? = some d ∧ RD K H A v d
  | _, _, _, _, .nil, e => by simp at e
  | _, _, 0, _, .cons r _, e => by simp at e; subst e; exact ⟨_, rfl, r⟩
  | _, _, i + 1, _, .cons _ rs, e => by
    obtain ⟨v, h1, h2⟩ := RDs.getV (i := i) rs (by simpa using e)
    exact ⟨v, by simpa using h1, h2⟩
theorem RDs.take : ∀ {vs : List V} {ds : List PD} (n : Nat), RDs K H A vs ds → RDs K H A (vs.take n) (ds.take n)
  | _, _, 0, _ => by simpa using RDs.nil
  | _, _, _ + 1, .nil => .nil
  | _, _, n + 1, .cons r rs => .cons r (RDs.take n rs)
theorem RDs.drop : ∀ {vs : List V} {ds : List PD} (n : Nat), RDs K H A vs ds → RDs K H A (vs.drop n) (ds.drop n)
  | _, _, 0, r => r
  | _, _, _ + 1, .nil => .nil
  | _, _, n + 1, .cons _ rs => RDs.drop n rs
theorem RDs.set : ∀ {vs : List V} {ds : List PD} {v : V} {d : PD} (i : Nat), RDs K H A vs ds → RD K H A v d → RDs K H A (vs.set i v) (ds.set i d)
  | _, _, _, _, _, .nil, _ => .nil
  | _, _, _, _, 0, .cons _ rs, q => .cons q rs
  | _, _, _, _, i + 1, .cons r rs, q => .cons r (RDs.set i rs q)
theorem RDs.erase : ∀ {vs : List V} {ds : List PD} (i : Nat), RDs K H A vs ds → RDs K H A (vs.eraseIdx i) (ds.eraseIdx i)
  | _, _, _, .nil => .nil
  | _, _, 0, .cons _ rs => rs
  | _, _, i + 1, .cons r rs => .cons r (RDs.erase i rs)
theorem RDs.reverse {vs : List V} {ds : List PD} (h : RDs K H A vs ds) : RDs K H A vs.reverse ds.reverse := by
  have aux : ∀ {vs us : List V} {ds es : List PD}, RDs K H A vs ds → RDs K H A us es → RDs K H A (vs.reverseAux us) (ds.reverseAux es) := by
    intro vs
    induction vs with
    | nil => intro us ds es h q; cases h; exact q
    | cons v vs ih => intro us ds es h q; cases h with
      | cons r rs => exact ih (es := _ :: es) rs (.cons r q)
  exact aux h .nil
theorem RDs.one {v : V} {d : PD} (h : RD K H A v d) : RDs K H A [v] [d] := .cons h .nil
theorem RDs.snoc {vs : List V} {ds : List PD} {v : V} {d : PD} (h : RDs K H A vs ds) (r : RD K H A v d) : RDs K H A (vs ++ [v]) (ds ++ [d]) := h.append (.one r)
theorem RDs.paired : ∀ {vs : List V} {ds : List PD}, RDs K H A vs ds → Paired (RD K H A) vs ds
  | _, _, .nil => .nil
  | _, _, .cons r rs => .cons r (RDs.paired rs)
theorem RDs.ints : ∀ {ns : List Int} {vs : List V}, RDs K H A vs (ns.map .int) → vs = ns.map V.int
  | [], _, h => by cases h; rfl
  | n :: ns, _, h => by
    cases h with
    | cons r rs => cases r; rw [RDs.ints rs]; rfl
theorem RDs.strs : ∀ {ns : List Str} {vs : List V}, RDs K H A vs (ns.map .str) → vs = ns.map V.str
  | [], _, h => by cases h; rfl
  | n :: ns, _, h => by
    cases h with
    | cons r rs => cases r; rw [RDs.strs rs]; rfl
theorem RDs.bools : ∀ {ns : List Bool} {vs : List V}, RDs K H A vs (ns.map .bool) → vs = ns.map V.bl
  | [], _, h => by cases h; rfl
  | n :: ns, _, h => by
    cases h with
    | cons r rs => cases r; rw [RDs.bools rs]; rfl
/-- a list's look -/
theorem PW.lst {v : V} {ds : List PD} (h : PW K H A v (.d (.list ds))) : ∃ a vs, v = .ref a ∧ H a = some (.lst vs) ∧ RDs K H A vs ds := by
  rcases h with h | ⟨a, rfl, vs, e, r⟩
  · have h : RD K H A v (.list ds) := h
    cases h with
    | lst e _ r => exact ⟨_, _, rfl, e, r⟩
  · exact ⟨a, vs, rfl, e, r⟩
theorem RD.tupS {v : V} {ds : List PD} (h : RD K H A v (.tuple ds)) : ∃ a vs, v = .ref a ∧ SqT K H a vs ∧ RDs K H A vs ds := by
  cases h with
  | tup e _ r _ => exact ⟨_, _, rfl, SqT.of e, r⟩
  | ftup e _ _ _ r => exact ⟨_, _, rfl, .inl (.inr ⟨_, e⟩), RDs.ofStrs r⟩
  | ktup e n r => exact ⟨_, _, rfl, e.sq, RDs.ofStrs r⟩
/-- a tuple of texts: its object -/
theorem RD.tupO {v : V} {ds : List PD} (h : RD K H A v (.tuple ds)) (hs : isSs ds = true) : ∃ a, ∃ ss : List Str, v = .ref a ∧ ds = ss.map .str ∧ SqT K H a (ss.map V.str) ∧
    ((∃ o, H a = some (.frz o (.tup (ss.map V.str))) ∧ o.dict = none) ∨ ∃ o, K.lookup a = some o ∧ o.dict = none ∧ o.cls = .type "tuple") := by
  cases h with
  | tup e _ r q => rw [hs] at q; cases q
  | ftup e d _ _ r => exact ⟨_, _, rfl, rfl, .inl (.inr ⟨_, e⟩), .inl ⟨_, e, d⟩⟩
  | ktup e n r =>
    obtain ⟨o, its, n', e1, c, d1, d, z, v⟩ := id e
    exact ⟨_, _, rfl, rfl, e.sq, .inr ⟨o, e1, d1, c⟩⟩
theorem PW.tup {v : V} {ds : List PD} (h : PW K H A v (.d (.tuple ds))) : ∃ a vs, v = .ref a ∧ SqT K H a vs ∧ RDs K H A vs ds := by
  rcases h with h | ⟨a, _, h⟩
  · exact RD.tupS h
  · exact h.elim
/-- any data, deep -/
theorem PW.dp {v : V} {x : PD} (h : PW K H A v (.d x)) : Dp K H v x ∧ x.canLay0 = true := by
  rcases h with h | ⟨a, rfl, h⟩
  · exact ⟨RD.dp h, RD.lay h⟩
  · cases x with
    | list ds =>
      obtain ⟨vs, e, r⟩ := h
      exact ⟨.lst (SqL.of e) r.dp, by simpa [PyData.canLay0] using r.lay⟩
    | _ => exact h.elim
theorem PW.int {v : V} {i : Int} (h : PW K H A v (.d (.int i))) : v = .int i := by
  rcases h with h | ⟨a, rfl, h⟩
  · have h : RD K H A v (.int i) := h
    cases h; rfl
  · exact h.elim
theorem PW.bool {v : V} {i : Bool} (h : PW K H A v (.d (.bool i))) : v = .bl i := by
  rcases h with h | ⟨a, rfl, h⟩
  · have h : RD K H A v (.bool i) := h
    cases h; rfl
  · exact h.elim
theorem PW.str {v : V} {i : Str} (h : PW K H A v (.d (.str i))) : v = .str i ∧ PyData.strOk i = true := by
  rcases h with h | ⟨a, rfl, h⟩
  · have h : RD K H A v (.str i) := h
    cases h with
    | str _ e => exact ⟨rfl, e⟩
  · exact h.elim
theorem PW.non {v : V} (h : PW K H A v (.d .none)) : v = .non := by
  rcases h with h | ⟨a, rfl, h⟩
  · have h : RD K H A v .none := h
    cases h; rfl
  · exact h.elim
theorem PW.dk {v : V} {kvs : List (Key × PD)} (h : PW K H A v (.dk kvs)) : ∃ a, v = .ref a ∧ OW K H A a (.dk kvs) := by
  rcases h with ⟨a, e, _, h⟩ | ⟨a, e, h⟩
  · exact ⟨a, e, h⟩
  · exact ⟨a, e, h⟩
theorem PW.dt {v : V} {kvs : List (List Key × PD)} (h : PW K H A v (.dt kvs)) : ∃ a, v = .ref a ∧ OW K H A a (.dt kvs) := by
  rcases h with ⟨a, e, _, h⟩ | ⟨a, e, h⟩
  · exact ⟨a, e, h⟩
  · exact ⟨a, e, h⟩
theorem PW.scr {v : V} {ns : List Int} (h : PW K H A v (.scr ns)) : ∃ a, v = .ref a ∧ SqL K H a (ns.map V.int) := by
  rcases h with ⟨a, e, h⟩ | ⟨a, _, h⟩
  · refine ⟨a, e, ?_⟩
    rcases h with ⟨o, h, _⟩ | h
    · exact .inl (.inr ⟨o, h⟩)
    · exact .inr h
  · exact h.elim
theorem dpInts {K : PySem.W.Frag} {H : Hp} : ∀ ns : List Int, DpAll K H (ns.map V.int) (ns.map .int)
  | [] => .nil
  | z :: r => .cons (.int z) (dpInts r)
theorem layInts : ∀ ns : List Int, PyData.canLayAll0 (ns.map .int) = true
  | [] => rfl
  | z :: r => by
    have b := layInts r
    simp [PyData.canLayAll0, PyData.canLay0, b]
theorem PW.dpS {v : V} {ns : List Int} (h : PW K H A v (.scr ns)) : Dp K H v (.list (ns.map .int)) ∧ (PyData.list (ns.map .int)).canLay0 = true := by
  obtain ⟨a, rfl, q⟩ := h.scr
  exact ⟨.lst q (dpInts ns), by simpa [PyData.canLay0] using layInts ns⟩
theorem OW.mono {a : Ad} {w : W} (h1 : ∀ b o, H b = some o → ¬ A b → H' b = some o) (h2 : ∀ b o, H b = some o → ¬ A b → ¬ A' b) (ha : ∀ o, H a = some o → H' a = some o) (h : OW K H A a w) : OW K H' A' a w := by
  cases w with
  | d x => cases x with
    | list ds => obtain ⟨vs, e, r⟩ := h; exact ⟨vs, ha _ e, r.mono h1 h2⟩
    | _ => exact h
  | opq v => exact h
  | dk kvs => obtain ⟨l, e, k, r, n⟩ := h; exact ⟨l, ha _ e, k, r.mono h1 h2, n⟩
  | dt kvs => obtain ⟨l, e, k, r, n⟩ := h; exact ⟨l, ha _ e, k, r.mono h1 h2, n⟩
  | scr ns => exact h
theorem RW.mono {v : V} {w : W} (h1 : ∀ b o, H b = some o → ¬ A b → H' b = some o) (h2 : ∀ b o, H b = some o → ¬ A b → ¬ A' b) (h : RW K H A v w) : RW K H' A' v w := by
  cases w with
  | d x => exact RD.mono h1 h2 h
  | opq u => exact h
  | dk kvs =>
    obtain ⟨a, e, n, q⟩ := h
    obtain ⟨l, hl, _⟩ := id q
    exact ⟨a, e, h2 _ _ hl n, q.mono h1 h2 fun o z => h1 _ _ z n⟩
  | dt kvs =>
    obtain ⟨a, e, n, q⟩ := h
    obtain ⟨l, hl, _⟩ := id q
    exact ⟨a, e, h2 _ _ hl n, q.mono h1 h2 fun o z => h1 _ _ z n⟩
  | scr ns =>
    obtain ⟨a, e, q⟩ := h
    refine ⟨a, e, q.imp (fun ⟨o, h, n⟩ => ⟨o, h1 _ _ h n, h2 _ _ h n⟩) id⟩
theorem OW.some_ {a : Ad} {w : W} (h : OW K H A a w) : ∃ o : MHO, H a = some o.1 := by
  cases w with
  | d x => cases x with
    | list ds => obtain ⟨vs, e, r⟩ := h; exact ⟨⟨_, rfl⟩, e⟩
    | _ => exact h.elim
  | opq v => exact h.elim
  | dk kvs => obtain ⟨l, e, _⟩ := h; exact ⟨⟨_, rfl⟩, e⟩
  | dt kvs => obtain ⟨l, e, _⟩ := h; exact ⟨⟨_, rfl⟩, e⟩
  | scr ns => exact h.elim
/-- an owned thing is given up -/
theorem OW.share {a : Ad} {w : W} (n : ¬ A a) (h : OW K H A a w) : RW K H A (.ref a) w := by
  cases w with
  | d x => cases x with
    | list ds => obtain ⟨vs, e, r⟩ := h; exact RD.lst e n r
    | _ => exact h.elim
  | opq v => exact h.elim
  | dk kvs => exact ⟨a, rfl, n, h⟩
  | dt kvs => exact ⟨a, rfl, n, h⟩
  | scr ns => exact h.elim
end

/-! ### what may change -/
structure Tr (H : Hp) (M : Ad → Prop) (H' : Hp) (M' : Ad → Prop) : Prop where
  keep : ∀ b o, H b = some o → ¬ M b → H' b = some o
  new : ∀ b, M' b → M b ∨ H b = none
theorem Tr.refl {H : Hp} {M : Ad → Prop} : Tr H M H M := ⟨fun _ _ e _ => e, fun _ h => .inl h⟩
theorem Tr.trans {H H1 H2 : Hp} {M M1 M2 : Ad → Prop} (a : Tr H M H1 M1) (b : Tr H1 M1 H2 M2) : Tr H M H2 M2 := by
  refine ⟨fun c o e n => ?_, fun c h => ?_⟩
  · refine b.keep c o (a.keep c o e n) fun m => ?_
    rcases a.new c m with z | z
    · exact n z
    · rw [e] at z; cases z
  · rcases b.new c h with m | m
    · exact a.new c m
    · by_cases hm : M c
      · exact .inl hm
      · refine .inr ?_
        cases e : H c with
        | none => rfl
        | some o => rw [a.keep c o e hm] at m; cases m
theorem Tr.less {H : Hp} {M M' : Ad → Prop} (h : ∀ b, M' b → M b) : Tr H M H M' := ⟨fun _ _ e _ => e, fun b m => .inl (h b m)⟩
theorem Tr.laid {H : Hp} {M : Ad → Prop} {p : Ad} {o : HO} (hp : H p = none) : Tr H M (upd H p o) M :=
  ⟨fun b q e _ => by rw [upd_ne (ne_of_none e hp)]; exact e, fun b m => .inl m⟩
theorem Tr.laidM {H : Hp} {M : Ad → Prop} {p : Ad} {o : HO} (hp : H p = none) : Tr H M (upd H p o) (fun b => M b ∨ b = p) :=
  ⟨fun b q e _ => by rw [upd_ne (ne_of_none e hp)]; exact e, fun b m => m.imp id fun e => by rw [e]; exact hp⟩
theorem Tr.writ {H : Hp} {M : Ad → Prop} {p : Ad} {o : HO} (hp : M p) : Tr H M (upd H p o) M :=
  ⟨fun b q e n => by rw [upd_ne (fun z => n (by rw [z]; exact hp))]; exact e, fun b m => .inl m⟩
/-- the two facts that RD.mono asks -/
theorem Tr.h1 {H H' : Hp} {M M' Oc : Ad → Prop} (t : Tr H M H' M') : ∀ b o, H b = some o → ¬ (Oc b ∨ M b) → H' b = some o := fun b o e n => t.keep b o e fun m => n (.inr m)
theorem Tr.h2 {H H' : Hp} {M M' Oc : Ad → Prop} (t : Tr H M H' M') : ∀ b o, H b = some o → ¬ (Oc b ∨ M b) → ¬ (Oc b ∨ M' b) := fun b o e n m => by
  rcases m with m | m
  · exact n (.inl m)
  · rcases t.new b m with z | z
    · exact n (.inr z)
    · rw [e] at z; cases z
theorem RW.tr {K : PySem.W.Frag} {H H' : Hp} {M M' Oc : Ad → Prop} {v : V} {w : W} (t : Tr H M H' M') (h : RW K H (fun b => Oc b ∨ M b) v w) : RW K H' (fun b => Oc b ∨ M' b) v w := h.mono t.h1 t.h2
theorem RDs.tr {K : PySem.W.Frag} {H H' : Hp} {M M' Oc : Ad → Prop} {v : List V} {w : List PD} (t : Tr H M H' M') (h : RDs K H (fun b => Oc b ∨ M b) v w) : RDs K H' (fun b => Oc b ∨ M' b) v w := h.mono t.h1 t.h2

/-! ### the slots -/
inductive Sl where
  | un | sh (w : W) | ow (w : W) | mu (w : W)
abbrev Env' := List Sl
/-- what an expression hands back: a shared value, a new one that nobody else has, the one that slot i owns -/
inductive Vl where
  | val (w : W) | fre (w : W) | loc (i : Nat)

section
variable (K : PySem.W.Frag) (σ : L2.St) (H : Hp) (Oc M : Ad → Prop) (ma : Nat → Ad)
def SlOk (i : Nat) : Sl → Prop
  | .un => True
  | .sh w => ∃ v, σ[i]? = some (some v) ∧ RW K H (fun b => Oc b ∨ M b) v w
  | .ow w => ∃ a, σ[i]? = some (some (.ref a)) ∧ M a ∧ OW K H (fun b => Oc b ∨ M b) a w
  | .mu w => σ[i]? = some (some (.ref (ma i))) ∧ M (ma i) ∧ OW K H (fun b => Oc b ∨ M b) (ma i) w
def Sl.owned : Sl → Bool
  | .ow _ => true
  | .mu _ => true
  | _ => false
structure Sta (ρ : Env') : Prop where
  len : σ.length = ρ.length
  sl : ∀ (i : Nat) (x : Sl), ρ[i]? = some x → SlOk K σ H Oc M ma i x
  inj : ∀ (i j : Nat) (x y : Sl) (a : Ad), ρ[i]? = some x → ρ[j]? = some y → x.owned = true → y.owned = true → σ[i]? = some (some (V.ref a)) → σ[j]? = some (some (V.ref a)) → i = j
  dis : ∀ b, M b → ¬ Oc b
  trk : ∀ b, Oc b ∨ M b → ∃ o : MHO, H b = some o.1
/-- what was handed back -/
def RV (ρ : Env') (v : V) : Vl → Prop
  | .val w => RW K H (fun b => Oc b ∨ M b) v w
  | .fre w => ∃ a, v = .ref a ∧ M a ∧ OW K H (fun b => Oc b ∨ M b) a w ∧ ∀ (i : Nat) (x : Sl), ρ[i]? = some x → x.owned = true → σ[i]? ≠ some (some (V.ref a))
  | .loc i => ∃ x, ρ[i]? = some x ∧ x.owned = true ∧ σ[i]? = some (some v)
end
end Hil
/-! Hil2: the operations by worth. -/
namespace Hil
open PySem PySem.Spec PyProof.Rows L2

/-- an operation's end: a shared value, or a new object of its own -/
def Done (K : PySem.W.Frag) (H : Hp) (A : Ad → Prop) (r : W × Bool) (v : V) (H' : Hp) : Prop :=
  (∀ b o, H b = some o → H' b = some o) ∧
  match r.2 with
  | false => RW K H' A v r.1
  | true => ∃ p, v = .ref p ∧ H p = none ∧ OW K H' (fun b => A b ∨ b = p) p r.1
/-- who is avoided stands -/
def Trk (H : Hp) (A : Ad → Prop) : Prop := ∀ b, A b → ∃ o : MHO, H b = some o.1
theorem Trk.notup {H : Hp} {A : Ad → Prop} (t : Trk H A) {p : Ad} {xs : List V} (h : H p = some (.tup xs)) : ¬ A p := fun a => by
  obtain ⟨⟨o, m⟩, e⟩ := t p a
  rw [h] at e
  cases e
  cases m
theorem Trk.free {H : Hp} {A : Ad → Prop} (t : Trk H A) {p : Ad} (h : H p = none) : ¬ A p := fun a => by
  obtain ⟨o, e⟩ := t p a
  rw [h] at e; cases e
section
variable {K : PySem.W.Frag} {H : Hp} {A : Ad → Prop}
theorem RDs.laid {p : Ad} {o : HO} {vs : List V} {ds : List PD} (hp : H p = none) (h : RDs K H A vs ds) : RDs K (upd H p o) (fun b => A b ∨ b = p) vs ds :=
  h.mono (fun b q e _ => by rw [upd_ne (ne_of_none e hp)]; exact e) fun b q e n m => by
    rcases m with m | m
    · exact n m
    · rw [m, hp] at e; cases e
theorem RDs.laid0 {p : Ad} {o : HO} {vs : List V} {ds : List PD} (hp : H p = none) (h : RDs K H A vs ds) : RDs K (upd H p o) A vs ds :=
  h.mono (fun b q e _ => by rw [upd_ne (ne_of_none e hp)]; exact e) fun b q e n m => n m
theorem keep_laid {p : Ad} {o : HO} (hp : H p = none) : ∀ b q, H b = some q → upd H p o b = some q := fun b q e => by rw [upd_ne (ne_of_none e hp)]; exact e
theorem Done.val {w : W} {v : V} (h : RW K H A v w) : Done K H A (w, false) v H := ⟨fun _ _ e => e, h⟩
theorem Done.lst {p : Ad} {vs : List V} {ds : List PD} (hp : H p = none) (h : RDs K H A vs ds) : Done K H A (.d (.list ds), true) (.ref p) (upd H p (.lst vs)) :=
  ⟨keep_laid hp, p, rfl, hp, vs, upd_same, h.laid hp⟩
theorem Done.tup {p : Ad} {vs : List V} {ds : List PD} (t : Trk H A) (hp : H p = none) (h : RDs K H A vs ds) (hs : isSs ds = false) : Done K H A (.d (.tuple ds), false) (.ref p) (upd H p (.tup vs)) :=
  ⟨keep_laid hp, RD.tup upd_same (t.free hp) (h.laid0 hp) hs⟩
theorem strsOk_of : ∀ {ss : List Str}, PyData.canLayAll0 (ss.map .str) = true → ∀ z ∈ ss, PyData.strOk z = true
  | [], _, _, hz => by cases hz
  | y :: r, h, z, hz => by
    simp [PyData.canLayAll0, PyData.canLay0] at h
    rcases List.mem_cons.mp hz with e | hz
    · rw [e]; exact h.1
    · exact strsOk_of h.2 z hz
theorem Done.ftup {p : Ad} {o : Obj} {vs : List V} {ds : List PD} (t : Trk H A) (hp : H p = none) (ho : o.dict = none) (h : RDs K H A vs ds) (hs : isSs ds = true) : Done K H A (.d (.tuple ds), false) (.ref p) (upd H p (.frz o (.tup vs))) := by
  obtain ⟨ss, rfl, ne⟩ := isSs_get hs
  have e := h.strs
  subst e
  exact ⟨keep_laid hp, RD.ftup upd_same ho (t.free hp) ne (strsOk_of h.lay)⟩
/-- a new tuple, laid plainly or as the object it is -/
def New2 (H : Hp) (xs : List V) (Q : V → Hp → Prop) : Prop :=
  ∀ (p : Ad) (o : Obj), H p = none → o.dict = none → Q (.ref p) (upd H p (.tup xs)) ∨ Q (.ref p) (upd H p (.frz o (.tup xs)))
theorem New2.of {vs : List V} {ds : List PD} {Q : V → Hp → Prop} (t : Trk H A) (h : RDs K H A vs ds) (q : ∀ v H', Done K H A (.d (.tuple ds), false) v H' → Q v H') : New2 H vs Q := fun p o hp ho => by
  cases hs : isSs ds with
  | false => exact .inl (q _ _ (.tup t hp h hs))
  | true => exact .inr (q _ _ (.ftup t hp ho h hs))
end

/-- an operation of two values by worth -/
def rG (K : PySem.W.Frag) (g : W → W → Option (W × Bool)) : R2 := fun x y H Q => ∃ A w1 w2 r, Trk H A ∧ PW K H A x w1 ∧ PW K H A y w2 ∧ g w1 w2 = some r ∧ ∀ v H', Done K H A r v H' → Q v H'
def rG1 (K : PySem.W.Frag) (g : W → Option (W × Bool)) : V → Hp → VK → Prop := fun x H Q => ∃ A w r, Trk H A ∧ PW K H A x w ∧ g w = some r ∧ ∀ v H', Done K H A r v H' → Q v H'

section
variable {X : Cx} {pins : List (Ad × Obj)} {σ : L2.St} {H : Hp} {s : Shared}
/-- a tuple just laid -/
theorem laid2 {h' : Heap} {its : List Value} {xs : List V} {tk : Nat} {Q : VK} (I : Inv X pins σ H { s with heap := h', toks := tk }) (hz : xs.length ≤ sizeLine) (r : Vals xs its) (q : New2 H xs Q) :
    EP X pins σ Q (.ref h'.objs.size) { s with heap := h'.push { cls := .type "tuple", data := .seq its.toArray }, toks := tk } := by
  have hf : H h'.objs.size = none := I.hok.fresh (Nat.le_refl _)
  have ok : ObjOk X.prog X.w H (h'.push { cls := .type "tuple", data := .seq its.toArray }) h'.objs.size (.tup xs) := ⟨hz, its, r, IsTup.new _ _⟩
  rcases q h'.objs.size { cls := .type "tuple", data := .seq its.toArray } hf rfl with q | q
  · exact ⟨.ref h'.objs.size, _, I.laid (t' := tk) (fun b o e => Heap.get?_push_of_some _ e) (Nat.le_refl _) (show ObjOk X.prog X.w _ _ _ (.tup xs) from ⟨hz, its, r, IsTup.new _ _⟩), rfl, q⟩
  · exact ⟨.ref h'.objs.size, _, I.laid (t' := tk) (o := .frz { cls := .type "tuple", data := .seq its.toArray } (.tup xs)) (fun b o e => Heap.get?_push_of_some _ e) (Nat.le_refl _) (show ObjOk X.prog X.w _ _ _ (.frz _ (.tup xs)) from ⟨Heap.get?_push_size _ rfl, hz, its, r, IsTup.new _ _⟩), rfl, q⟩
def tTup2 (t : TA) : TE := fun σ H Q => t σ H fun xs H1 => xs.length ≤ sizeLine ∧ New2 H1 xs Q
theorem pe_tup2 {es : List Expr} {t : TA} {x1} {pos : Pos} (h : PA X es t) : PE X (.Tuple es x1 pos) (tTup2 t) := by
  refine ⟨fun pins s σ H Q I hq => ?_⟩
  refine wpAny_Tuple_spliced (thn (h.run pos pins s σ H _ I hq) fun us s1 ⟨xs, H1, I1, r, z, q⟩ => ⟨by rw [← r.length]; exact z, ?_⟩)
  exact laid2 (s := s1) (h' := s1.heap) (tk := s1.toks) I1 z r q
def rCat2 (K : PySem.W.Frag) : R2 := fun x y H Q => ∃ a b xs ys, x = .ref a ∧ y = .ref b ∧ SqT K H a xs ∧ SqT K H b ys ∧ xs.length + ys.length ≤ sizeLine ∧
  (xs = [] → Q (.ref b) H) ∧ (xs ≠ [] → ys = [] → Q (.ref a) H) ∧ (xs ≠ [] → ys ≠ [] → New2 H (xs ++ ys) Q)
theorem op_cat2 : OpR X (binaryOp .Add) (rCat2 X.K) := by
  intro pins s σ H x y v u Q I rx ry h
  obtain ⟨a, b, xs, ys, rfl, rfl, ha, hb, hz, q0, q1, q2⟩ := h
  by_cases hx : xs = []
  · exact op_catA pins s σ H _ _ v u Q I rx ry ⟨a, b, xs, ys, rfl, rfl, ha, hb, hz, q0, fun z => absurd hx z, fun z => absurd hx z⟩
  · by_cases hy : ys = []
    · exact op_catA pins s σ H _ _ v u Q I rx ry ⟨a, b, xs, ys, rfl, rfl, ha, hb, hz, q0, q1, fun _ z => absurd hy z⟩
    · cases rx
      cases ry
      obtain ⟨its, r1, p1, _⟩ := I.tuple ha
      obtain ⟨its2, r2, p2, _⟩ := I.tuple hb
      refine HT.cat_tup p1 p2 (fun z => hx (r1.nil_iff.mp z)) (fun z => absurd (r2.nil_iff.mp z) hy) (fun z => ?_) (by rw [← r1.length, ← r2.length]; exact hz)
      exact laid2 (s := s) (h' := s.heap) (tk := s.toks) I (by rw [List.length_append]; exact hz) (r1.append r2) (q2 hx hy)
theorem call_tuple2 : CallR X (.type "tuple") (fun xs H Q => ∃ p ys, xs = [.ref p] ∧ ((SqL X.K H p ys ∧ New2 H ys Q) ∨ (SqT X.K H p ys ∧ Q (.ref p) H))) := by
  intro pins s σ H xs us Q I r h
  obtain ⟨p, ys, rfl, h⟩ := h
  obtain ⟨u, rfl, rx⟩ := vals1 r
  cases rx
  rcases h with ⟨hq, q⟩ | ⟨hq, q⟩
  · obtain ⟨its, r', pl, hz⟩ := I.list hq
    have hlen := r'.length
    refine call_tuple_list pl.isList (fun h' kp => ?_) (by simp only [List.size_toArray] <;> omega)
    have I1 : Inv X pins σ H { s with heap := h' } := I.kept (t' := s.toks) kp
    exact laid2 (s := s) (h' := h') (tk := s.toks) I1 hz r' q
  · obtain ⟨its, r', pl, hz⟩ := I.tuple hq
    exact call_tuple_same pl ⟨.ref p, H, I, rfl, q⟩
end
/-! ### + -/
@[simp] def gAdd : W → W → Option (W × Bool)
  | .d (.int i), .d (.int j) => some (.d (.int (i + j)), false)
  | .d (.list a), .d (.list b) => if a.length + b.length ≤ 1000000 then some (.d (.list (a ++ b)), true) else none
  | .d (.tuple a), .d (.tuple b) => if a.length + b.length ≤ 1000000 then some (.d (.tuple (a ++ b)), false) else none
  | .d (.str a), .d (.str b) => if a.length + b.length ≤ 1000000 ∧ PyData.strOk (a ++ b) = true then some (.d (.str (a ++ b)), false) else none
  | _, _ => none
section
variable {X : Cx}
theorem lim_le {n : Nat} (h : n ≤ 1000000) : n ≤ sizeLine := Nat.le_trans h (by decide)
theorem og_add : OpR X (binaryOp .Add) (rG X.K gAdd) := by
  intro pins s σ H x y v u Q I rx ry h
  obtain ⟨A, w1, w2, r, tk, p1, p2, e, q⟩ := h
  unfold gAdd at e
  split at e
  · cases e
    rw [p1.int] at rx; rw [p2.int] at ry
    exact op_add pins s σ H _ _ v u Q I rx ry ⟨_, _, rfl, rfl, q _ _ (.val (.int _))⟩
  · split at e
    · rename_i a b hl
      cases e
      obtain ⟨l1, vs1, rfl, e1, r1⟩ := p1.lst
      obtain ⟨l2, vs2, rfl, e2, r2⟩ := p2.lst
      exact op_cat pins s σ H _ _ v u Q I rx ry ⟨l1, l2, vs1, vs2, rfl, rfl, e1, e2, by rw [r1.length, r2.length]; exact lim_le hl, fun p hp => q _ _ (.lst hp (r1.append r2))⟩
    · cases e
  · split at e
    · rename_i a b hl
      cases e
      obtain ⟨l1, vs1, rfl, e1, r1⟩ := p1.tup
      obtain ⟨l2, vs2, rfl, e2, r2⟩ := p2.tup
      refine op_cat2 pins s σ H _ _ v u Q I rx ry ⟨l1, l2, vs1, vs2, rfl, rfl, e1, e2, by rw [r1.length, r2.length]; exact lim_le hl, fun z => ?_, fun _ z => ?_, fun _ _ => .of tk (r1.append r2) q⟩
      · subst z
        cases r1
        rcases p2 with p2 | ⟨_, _, p2⟩
        · exact q _ _ (.val p2)
        · exact p2.elim
      · subst z
        cases r2
        rw [List.append_nil] at q
        rcases p1 with p1 | ⟨_, _, p1⟩
        · exact q _ _ (.val p1)
        · exact p1.elim
    · cases e
  · split at e
    · rename_i a b hl
      cases e
      rw [p1.str.1] at rx; rw [p2.str.1] at ry
      exact op_add_str pins s σ H _ _ v u Q I rx ry ⟨_, _, rfl, rfl, lim_le hl.1, q _ _ (.val (.str _ hl.2))⟩
    · cases e
  · cases e
/-! ### - * // % -/
@[simp] def gSub : W → W → Option (W × Bool)
  | .d (.int i), .d (.int j) => some (.d (.int (i - j)), false)
  | _, _ => none
theorem og_sub : OpR X (binaryOp .Sub) (rG X.K gSub) := by
  intro pins s σ H x y v u Q I rx ry h
  obtain ⟨A, w1, w2, r, tk, p1, p2, e, q⟩ := h
  unfold gSub at e
  split at e
  · cases e
    rw [p1.int] at rx; rw [p2.int] at ry
    exact op_sub pins s σ H _ _ v u Q I rx ry ⟨_, _, rfl, rfl, q _ _ (.val (.int _))⟩
  · cases e
@[simp] def gMul : W → W → Option (W × Bool)
  | .d (.int i), .d (.int j) => if (-18446744073709551616 < i ∧ i < 18446744073709551616) ∨ (-18446744073709551616 < j ∧ j < 18446744073709551616) then some (.d (.int (i * j)), false) else none
  | .d (.list a), .d (.int k) => if a.length ≤ 1000 ∧ 0 ≤ k ∧ k ≤ 1000 then some (.d (.list (List.replicate k.toNat a).flatten), true) else none
  | .d (.tuple a), .d (.int k) => if a.length ≤ 1000 ∧ a.isEmpty = false ∧ 2 ≤ k ∧ k ≤ 1000 ∧ isSs (List.replicate k.toNat a).flatten = false then some (.d (.tuple (List.replicate k.toNat a).flatten), false) else none
  | _, _ => none
theorem RDs.rep {K : PySem.W.Frag} {H : Hp} {A : Ad → Prop} {vs : List V} {ds : List PD} (h : RDs K H A vs ds) : ∀ n : Nat, RDs K H A (List.replicate n vs).flatten (List.replicate n ds).flatten
  | 0 => .nil
  | n + 1 => by
    rw [List.replicate_succ, List.replicate_succ, List.flatten_cons, List.flatten_cons]
    exact h.append (RDs.rep h n)
theorem og_mul : OpR X (binaryOp .Mult) (rG X.K gMul) := by
  intro pins s σ H x y v u Q I rx ry h
  obtain ⟨A, w1, w2, r, tk, p1, p2, e, q⟩ := h
  unfold gMul at e
  split at e
  · split at e
    · rename_i i j hl
      cases e
      rw [p1.int] at rx; rw [p2.int] at ry
      exact op_mul pins s σ H _ _ v u Q I rx ry ⟨_, _, rfl, rfl, by unfold CMul; omega, q _ _ (.val (.int _))⟩
    · cases e
  · split at e
    · rename_i a k hl
      cases e
      obtain ⟨l1, vs1, rfl, e1, r1⟩ := p1.lst
      rw [p2.int] at ry
      refine op_rep pins s σ H _ _ v u Q I rx ry ⟨l1, _, vs1, rfl, rfl, e1, by omega, by omega, ?_, fun p hp => q _ _ (.lst hp (r1.rep _))⟩
      rw [r1.length]
      refine Nat.le_trans (Nat.mul_le_mul hl.1 (show k.toNat ≤ 1000 by omega)) (by decide)
    · cases e
  · split at e
    · rename_i a k hl
      cases e
      obtain ⟨l1, vs1, rfl, e1, r1⟩ := p1.tup
      rw [p2.int] at ry
      have hne : vs1 ≠ [] := fun z => by
        have := r1.length
        rw [z] at this
        rw [List.length_eq_zero_iff.mp this.symm] at hl; exact absurd hl.2.1 (by decide)
      exact op_repT pins s σ H _ _ v u Q I rx ry ⟨l1, _, vs1, rfl, rfl, e1, hne, hl.2.2.1, hl.2.2.2.1, by rw [r1.length]; exact hl.1, fun p hp => q _ _ (.tup tk hp (r1.rep _) hl.2.2.2.2)⟩
    · cases e
  · cases e
@[simp] def gDiv : W → W → Option (W × Bool)
  | .d (.int i), .d (.int j) => if 0 < j ∧ j < 1000000000 then some (.d (.int (i / j)), false) else none
  | _, _ => none
theorem og_div : OpR X (binaryOp .FloorDiv) (rG X.K gDiv) := by
  intro pins s σ H x y v u Q I rx ry h
  obtain ⟨A, w1, w2, r, tk, p1, p2, e, q⟩ := h
  unfold gDiv at e
  split at e
  · split at e
    · rename_i i j hl
      cases e
      rw [p1.int] at rx; rw [p2.int] at ry
      exact op_fdiv pins s σ H _ _ v u Q I rx ry ⟨_, _, rfl, rfl, ⟨hl.1, by omega⟩, q _ _ (.val (.int _))⟩
    · cases e
  · cases e
@[simp] def gMod : W → W → Option (W × Bool)
  | .d (.int i), .d (.int j) => if 0 < j then some (.d (.int (i % j)), false) else none
  | _, _ => none
theorem og_mod : OpR X (binaryOp .Mod) (rG X.K gMod) := by
  intro pins s σ H x y v u Q I rx ry h
  obtain ⟨A, w1, w2, r, tk, p1, p2, e, q⟩ := h
  unfold gMod at e
  split at e
  · split at e
    · rename_i i j hl
      cases e
      rw [p1.int] at rx; rw [p2.int] at ry
      exact op_mod pins s σ H _ _ v u Q I rx ry ⟨_, _, rfl, rfl, hl, q _ _ (.val (.int _))⟩
    · cases e
  · cases e
/-! ### == != -/
@[simp] def gPow : W → W → Option (W × Bool)
  | .d (.int i), .d (.int j) => if (0 ≤ j ∧ j ≤ 1000000) ∧ (-18446744073709551616 < i ∧ i < 18446744073709551616) then some (.d (.int (i ^ j.toNat)), false) else none
  | _, _ => none
theorem og_pow : OpR X (binaryOp .Pow) (rG X.K gPow) := by
  intro pins s σ H x y v u Q I rx ry h
  obtain ⟨A, w1, w2, r, tk, p1, p2, e, q⟩ := h
  unfold gPow at e
  split at e
  · split at e
    · rename_i i j hl
      cases e
      rw [p1.int] at rx; rw [p2.int] at ry
      exact op_pow pins s σ H _ _ v u Q I rx ry ⟨_, _, rfl, rfl, ⟨hl.1.1, hl.1.2, by omega⟩, q _ _ (.val (.int _))⟩
    · cases e
  · cases e
@[simp] def gEq : W → W → Option (W × Bool)
  | .d a, .d b => if min a.depth b.depth ≤ 60 then some (.d (.bool (PyData.eqv a b)), false) else none
  | .scr ns, .d b => if b.depth ≤ 60 then some (.d (.bool (PyData.eqv (.list (ns.map .int)) b)), false) else none
  | _, _ => none
@[simp] def gNe : W → W → Option (W × Bool)
  | .d a, .d b => if min a.depth b.depth ≤ 60 then some (.d (.bool (!PyData.eqv a b)), false) else none
  | _, _ => none
theorem og_eq (hu : X.A.units + 64 < cLine) : OpR X (compareOp .Eq) (rG X.K gEq) := by
  intro pins s σ H x y v u Q I rx ry h
  obtain ⟨A, w1, w2, r, tk, p1, p2, e, q⟩ := h
  unfold gEq at e
  split at e
  · split at e
    · rename_i a b hl
      cases e
      obtain ⟨d1, c1⟩ := p1.dp
      obtain ⟨d2, c2⟩ := p2.dp
      obtain ⟨as, r1⟩ := Dp.reads I _ x v d1 rx
      obtain ⟨bs, r2⟩ := Dp.reads I _ y u d2 ry
      exact SeqAt.compareEq_reads r1 r2 c1 c2 (by omega) ⟨.bl _, H, I, rfl, q _ _ (.val (.bl _))⟩
    · cases e
  · split at e
    · rename_i a b hl
      cases e
      obtain ⟨d1, c1⟩ := p1.dpS
      obtain ⟨d2, c2⟩ := p2.dp
      obtain ⟨as, r1⟩ := Dp.reads I _ x v d1 rx
      obtain ⟨bs, r2⟩ := Dp.reads I _ y u d2 ry
      exact SeqAt.compareEq_reads r1 r2 c1 c2 (by omega) ⟨.bl _, H, I, rfl, q _ _ (.val (.bl _))⟩
    · cases e
  · cases e
theorem og_ne (hu : X.A.units + 64 < cLine) : OpR X (compareOp .NotEq) (rG X.K gNe) := by
  intro pins s σ H x y v u Q I rx ry h
  obtain ⟨A, w1, w2, r, tk, p1, p2, e, q⟩ := h
  unfold gNe at e
  split at e
  · split at e
    · rename_i a b hl
      cases e
      obtain ⟨d1, c1⟩ := p1.dp
      obtain ⟨d2, c2⟩ := p2.dp
      obtain ⟨as, r1⟩ := Dp.reads I _ x v d1 rx
      obtain ⟨bs, r2⟩ := Dp.reads I _ y u d2 ry
      exact SeqAt.compareNe_reads r1 r2 c1 c2 (by omega) ⟨.bl _, H, I, rfl, q _ _ (.val (.bl _))⟩
    · cases e
  · cases e
/-! ### < <= > >= -/
def intsOf : List PD → Option (List Int)
  | [] => some []
  | .int i :: r => (intsOf r).map (i :: ·)
  | _ :: _ => none
theorem intsOf_eq : ∀ {ds : List PD} {ns : List Int}, intsOf ds = some ns → ds = ns.map .int
  | [], _, h => by cases h; rfl
  | .int i :: r, ns, h => by
    unfold intsOf at h
    cases q : intsOf r with
    | none => rw [q] at h; cases h
    | some m => rw [q] at h; cases h; rw [intsOf_eq q]; rfl
  | .none :: _, _, h => by cases h
  | .bool _ :: _, _, h => by cases h
  | .str _ :: _, _, h => by cases h
  | .list _ :: _, _, h => by cases h
  | .tuple _ :: _, _, h => by cases h
  | .dict _ :: _, _, h => by cases h
theorem intsOf_map (ns : List Int) : intsOf (ns.map .int) = some ns := by
  induction ns with
  | nil => rfl
  | cons n ns ih => simp [intsOf, ih]
@[simp] def gLt : W → W → Option (W × Bool)
  | .d (.int i), .d (.int j) => some (.d (.bool (decide (i < j))), false)
  | .d (.tuple a), .d (.tuple b) => match intsOf a, intsOf b with
    | some ns, some ms => some (.d (.bool (HT.lexLt ns ms)), false)
    | _, _ => none
  | _, _ => none
theorem og_lt (hu : X.A.units < cLine) : OpR X (compareOp .Lt) (rG X.K gLt) := by
  intro pins s σ H x y v u Q I rx ry h
  obtain ⟨A, w1, w2, r, tk, p1, p2, e, q⟩ := h
  unfold gLt at e
  split at e
  · cases e
    rw [p1.int] at rx; rw [p2.int] at ry
    exact op_lt pins s σ H _ _ v u Q I rx ry ⟨_, _, rfl, rfl, q _ _ (.val (.bl _))⟩
  · split at e
    · rename_i a b _ _ ns ms e1 e2
      cases e
      obtain ⟨l1, vs1, rfl, f1, r1⟩ := p1.tup
      obtain ⟨l2, vs2, rfl, f2, r2⟩ := p2.tup
      rw [intsOf_eq e1] at r1; rw [intsOf_eq e2] at r2
      rw [r1.ints] at f1; rw [r2.ints] at f2
      exact op_ltT hu pins s σ H _ _ v u Q I rx ry ⟨l1, l2, ns, ms, rfl, rfl, f1, f2, q _ _ (.val (.bl _))⟩
    · cases e
  · cases e
@[simp] def gLe : W → W → Option (W × Bool)
  | .d (.int i), .d (.int j) => some (.d (.bool (decide (i ≤ j))), false)
  | _, _ => none
@[simp] def gGt : W → W → Option (W × Bool)
  | .d (.int i), .d (.int j) => some (.d (.bool (decide (j < i))), false)
  | _, _ => none
@[simp] def gGe : W → W → Option (W × Bool)
  | .d (.int i), .d (.int j) => some (.d (.bool (decide (j ≤ i))), false)
  | _, _ => none
theorem og_le : OpR X (compareOp .LtE) (rG X.K gLe) := by
  intro pins s σ H x y v u Q I rx ry h
  obtain ⟨A, w1, w2, r, tk, p1, p2, e, q⟩ := h
  unfold gLe at e
  split at e
  · cases e
    rw [p1.int] at rx; rw [p2.int] at ry
    exact op_le pins s σ H _ _ v u Q I rx ry ⟨_, _, rfl, rfl, q _ _ (.val (.bl _))⟩
  · cases e
theorem og_gt : OpR X (compareOp .Gt) (rG X.K gGt) := by
  intro pins s σ H x y v u Q I rx ry h
  obtain ⟨A, w1, w2, r, tk, p1, p2, e, q⟩ := h
  unfold gGt at e
  split at e
  · cases e
    rw [p1.int] at rx; rw [p2.int] at ry
    exact op_gt pins s σ H _ _ v u Q I rx ry ⟨_, _, rfl, rfl, q _ _ (.val (.bl _))⟩
  · cases e
theorem og_ge : OpR X (compareOp .GtE) (rG X.K gGe) := by
  intro pins s σ H x y v u Q I rx ry h
  obtain ⟨A, w1, w2, r, tk, p1, p2, e, q⟩ := h
  unfold gGe at e
  split at e
  · cases e
    rw [p1.int] at rx; rw [p2.int] at ry
    exact op_ge pins s σ H _ _ v u Q I rx ry ⟨_, _, rfl, rfl, q _ _ (.val (.bl _))⟩
  · cases e
/-! ### is, is not, of bools -/
@[simp] def gIsB : W → W → Option (W × Bool)
  | .d (.bool i), .d (.bool j) => some (.d (.bool (decide (i = j))), false)
  | _, _ => none
@[simp] def gIsntB : W → W → Option (W × Bool)
  | .d (.bool i), .d (.bool j) => some (.d (.bool (!decide (i = j))), false)
  | _, _ => none
theorem og_isB : OpR X (compareOp .Is) (rG X.K gIsB) := by
  intro pins s σ H x y v u Q I rx ry h
  obtain ⟨A, w1, w2, r, tk, p1, p2, e, q⟩ := h
  unfold gIsB at e
  split at e
  · cases e
    rw [p1.bool] at rx; rw [p2.bool] at ry
    exact op_is_bl pins s σ H _ _ v u Q I rx ry ⟨_, _, rfl, rfl, q _ _ (.val (.bl _))⟩
  · cases e
theorem og_isntB : OpR X (compareOp .IsNot) (rG X.K gIsntB) := by
  intro pins s σ H x y v u Q I rx ry h
  obtain ⟨A, w1, w2, r, tk, p1, p2, e, q⟩ := h
  unfold gIsntB at e
  split at e
  · cases e
    rw [p1.bool] at rx; rw [p2.bool] at ry
    exact op_isnot_bl pins s σ H _ _ v u Q I rx ry ⟨_, _, rfl, rfl, q _ _ (.val (.bl _))⟩
  · cases e
/-! ### in, not in -/
@[simp] def gIn' : W → W → Option Bool
  | .d x, .d (.list ds) => if x.depth ≤ 60 then some (ds.any fun z => PyData.eqv z x) else none
  | .d x, .d (.tuple ds) => if x.depth ≤ 60 then some (ds.any fun z => PyData.eqv z x) else none
  | .d (.str x), .d (.str z) => match x.cps.toList with
    | [c] => some (decide (c ∈ z.cps.toList))
    | _ => none
  | .d (.int i), .dk kvs => some (kvs.any fun kv => decide (kv.1 = .inl i))
  | .d (.str i), .dk kvs => some (kvs.any fun kv => decide (kv.1 = .inr i))
  | .d (.tuple k), .dt kvs => match intsOf k with
    | some k => some (kvs.any fun kv => decide (kv.1 = k.map .inl))
    | none => none
  | _, _ => none
@[simp] def gIn (x y : W) : Option (W × Bool) := (gIn' x y).map fun b => (.d (.bool b), false)
@[simp] def gNin (x y : W) : Option (W × Bool) := (gIn' x y).map fun b => (.d (.bool (!b)), false)
theorem any_keys {κ α β : Type} [DecidableEq κ] (k : κ) : ∀ {l : List (κ × α)} {m : List (κ × β)}, l.map (·.1) = m.map (·.1) → (l.any fun kv => decide (kv.1 = k)) = m.any fun kv => decide (kv.1 = k)
  | [], [], _ => rfl
  | [], _ :: _, h => by cases h
  | _ :: _, [], h => by cases h
  | p :: r, q :: t, h => by
    simp only [List.map_cons, List.cons.injEq] at h
    simp only [List.any_cons, h.1, any_keys k h.2]
/-- a tuple of ints that is a key -/
theorem RD.keyT {K : PySem.W.Frag} {H : Hp} {A : Ad → Prop} {v : V} {ds : List PD} {k : List Int} (h : RD K H A v (.tuple ds)) (e : intsOf ds = some k) : ∃ b, v = .ref b ∧ H b = some (.tup ((k.map Sum.inl : List Key).map kV)) := by
  have e2 := intsOf_eq e
  subst e2
  generalize hd : (k.map PyData.int) = ds at h
  cases h with
  | tup e1 n r _ =>
    subst hd
    refine ⟨_, rfl, ?_⟩
    rw [e1, r.ints, List.map_map]
    rfl
  | ktup e1 n r =>
    have h2 := isSs_of n
    rw [← hd, isSs_ints] at h2
    cases h2
  | ftup e1 _ _ n r =>
    have h2 := isSs_of n
    rw [← hd, isSs_ints] at h2
    cases h2
theorem look_in (hu : X.A.units + 64 < cLine) {pins : List (Ad × Obj)} {s : Shared} {σ : L2.St} {H : Hp} {x y : V} {v u : Value} {A : Ad → Prop} {w1 w2 : W} {b : Bool} (I : Inv X pins σ H s) (rx : RelV x v) (ry : RelV y u) (p1 : PW X.K H A x w1) (p2 : PW X.K H A y w2) (e : gIn' w1 w2 = some b)
    {Q : Value → Shared → Prop} (h : ∀ s', Inv X pins σ H s' → Q (.bool (b)) s') : wpAny (model X.prog X.w) X.A (compareOp .In v u) Q X.xe s := by
  unfold gIn' at e
  split at e
  · split at e
    · rename_i d ds hl
      cases e
      obtain ⟨d1, c1⟩ := p1.dp
      obtain ⟨d2, c2⟩ := p2.dp
      obtain ⟨as, r1⟩ := Dp.reads I _ x v d1 rx
      obtain ⟨bs, r2⟩ := Dp.reads I _ y u d2 ry
      exact SeqAt.in_list_reads r2 r1 (by simpa [PyData.canLay0] using c2) c1 (by omega) (h s I)
    · cases e
  · split at e
    · rename_i d ds hl
      cases e
      obtain ⟨d1, c1⟩ := p1.dp
      obtain ⟨d2, c2⟩ := p2.dp
      obtain ⟨as, r1⟩ := Dp.reads I _ x v d1 rx
      obtain ⟨bs, r2⟩ := Dp.reads I _ y u d2 ry
      exact SeqAt.in_tuple_reads r2 r1 (by simpa [PyData.canLay0] using c2) c1 (by omega) (h s I)
    · cases e
  · split at e
    · rename_i z1 z2 _ c hc
      cases e
      obtain ⟨rfl, _⟩ := p1.str
      obtain ⟨rfl, _⟩ := p2.str
      have hz : z1 = ⟨#[c]⟩ := by
        cases z1 with
        | mk cps => cases cps with
          | mk l => simp only at hc; rw [hc]
      subst hz
      refine wpAny_mono (op_in_sign pins s σ H _ _ v u (fun w H' => w = .bl (decide (c ∈ z2.cps.toList)) ∧ H' = H) I rx ry ⟨c, z2, rfl, rfl, rfl, rfl⟩) (fun a s1 ⟨w, H', I', rw', ew, eH⟩ => ?_) (fun _ _ z => z)
      subst ew; subst eH; cases rw'; exact h s1 I'
    · cases e
  · rename_i i kvs
    cases e
    rw [p1.int] at rx
    obtain ⟨a, rfl, l, e1, ek, _⟩ := p2.dk
    cases ry
    refine d_in (by omega) I (DGet.k (k := Sum.inl i) e1) rx fun s' I' => ?_
    have := h s' I'
    rw [← any_keys _ ek, valV_any] at this
    exact this
  · rename_i i kvs
    cases e
    rw [p1.str.1] at rx
    obtain ⟨a, rfl, l, e1, ek, _⟩ := p2.dk
    cases ry
    refine d_in (by omega) I (DGet.k (k := Sum.inr i) e1) rx fun s' I' => ?_
    have := h s' I'
    rw [← any_keys _ ek, valV_any] at this
    exact this
  · split at e
    · rename_i ds kvs _ k hk
      cases e
      obtain ⟨a, rfl, l, e1, ek, _⟩ := p2.dt
      rcases p1 with p1 | ⟨_, _, p1⟩
      · obtain ⟨b, rfl, hb⟩ := RD.keyT p1 hk
        cases ry
        refine d_in (by omega) I (DGet.t e1 hb) rx fun s' I' => ?_
        have := h s' I'
        rw [← any_keys _ ek, valV_any] at this
        exact this
      · exact p1.elim
    · cases e
  · cases e
theorem og_in (hu : X.A.units + 64 < cLine) : OpR X (compareOp .In) (rG X.K gIn) := by
  intro pins s σ H x y v u Q I rx ry h
  obtain ⟨A, w1, w2, r, tk, p1, p2, e, q⟩ := h
  unfold gIn at e
  cases q' : gIn' w1 w2 with
  | none => rw [q'] at e; cases e
  | some b =>
    rw [q'] at e
    cases e
    exact look_in hu I rx ry p1 p2 q' fun s' I' => ⟨.bl _, H, I', rfl, q _ _ (.val (.bl _))⟩
theorem look_nin (hu : X.A.units + 64 < cLine) {pins : List (Ad × Obj)} {s : Shared} {σ : L2.St} {H : Hp} {x y : V} {v u : Value} {A : Ad → Prop} {w1 w2 : W} {b : Bool} (I : Inv X pins σ H s) (rx : RelV x v) (ry : RelV y u) (p1 : PW X.K H A x w1) (p2 : PW X.K H A y w2) (e : gIn' w1 w2 = some b)
    {Q : Value → Shared → Prop} (h : ∀ s', Inv X pins σ H s' → Q (.bool (!b)) s') : wpAny (model X.prog X.w) X.A (compareOp .NotIn v u) Q X.xe s := by
  unfold gIn' at e
  split at e
  · split at e
    · rename_i d ds hl
      cases e
      obtain ⟨d1, c1⟩ := p1.dp
      obtain ⟨d2, c2⟩ := p2.dp
      obtain ⟨as, r1⟩ := Dp.reads I _ x v d1 rx
      obtain ⟨bs, r2⟩ := Dp.reads I _ y u d2 ry
      exact SeqAt.notIn_list_reads r2 r1 (by simpa [PyData.canLay0] using c2) c1 (by omega) (h s I)
    · cases e
  · split at e
    · rename_i d ds hl
      cases e
      obtain ⟨d1, c1⟩ := p1.dp
      obtain ⟨d2, c2⟩ := p2.dp
      obtain ⟨as, r1⟩ := Dp.reads I _ x v d1 rx
      obtain ⟨bs, r2⟩ := Dp.reads I _ y u d2 ry
      exact SeqAt.notIn_tuple_reads r2 r1 (by simpa [PyData.canLay0] using c2) c1 (by omega) (h s I)
    · cases e
  · split at e
    · rename_i z1 z2 _ c hc
      cases e
      obtain ⟨rfl, _⟩ := p1.str
      obtain ⟨rfl, _⟩ := p2.str
      have hz : z1 = ⟨#[c]⟩ := by
        cases z1 with
        | mk cps => cases cps with
          | mk l => simp only at hc; rw [hc]
      subst hz
      refine wpAny_mono (op_notIn_sign pins s σ H _ _ v u (fun w H' => w = .bl (!decide (c ∈ z2.cps.toList)) ∧ H' = H) I rx ry ⟨c, z2, rfl, rfl, rfl, rfl⟩) (fun a s1 ⟨w, H', I', rw', ew, eH⟩ => ?_) (fun _ _ z => z)
      subst ew; subst eH; cases rw'; exact h s1 I'
    · cases e
  · rename_i i kvs
    cases e
    rw [p1.int] at rx
    obtain ⟨a, rfl, l, e1, ek, _⟩ := p2.dk
    cases ry
    refine d_notIn (by omega) I (DGet.k (k := Sum.inl i) e1) rx fun s' I' => ?_
    have := h s' I'
    rw [← any_keys _ ek, valV_any] at this
    exact this
  · rename_i i kvs
    cases e
    rw [p1.str.1] at rx
    obtain ⟨a, rfl, l, e1, ek, _⟩ := p2.dk
    cases ry
    refine d_notIn (by omega) I (DGet.k (k := Sum.inr i) e1) rx fun s' I' => ?_
    have := h s' I'
    rw [← any_keys _ ek, valV_any] at this
    exact this
  · split at e
    · rename_i ds kvs _ k hk
      cases e
      obtain ⟨a, rfl, l, e1, ek, _⟩ := p2.dt
      rcases p1 with p1 | ⟨_, _, p1⟩
      · obtain ⟨b, rfl, hb⟩ := RD.keyT p1 hk
        cases ry
        refine d_notIn (by omega) I (DGet.t e1 hb) rx fun s' I' => ?_
        have := h s' I'
        rw [← any_keys _ ek, valV_any] at this
        exact this
      · exact p1.elim
    · cases e
  · cases e
theorem og_nin (hu : X.A.units + 64 < cLine) : OpR X (compareOp .NotIn) (rG X.K gNin) := by
  intro pins s σ H x y v u Q I rx ry h
  obtain ⟨A, w1, w2, r, tk, p1, p2, e, q⟩ := h
  unfold gNin at e
  cases q' : gIn' w1 w2 with
  | none => rw [q'] at e; cases e
  | some b =>
    rw [q'] at e
    cases e
    exact look_nin hu I rx ry p1 p2 q' fun s' I' => ⟨.bl _, H, I', rfl, q _ _ (.val (.bl _))⟩

/-! ### subscripts -/
@[simp] def gIx' : W → W → Option W
  | .d (.list ds), .d (.int i) => (atI ds i).map .d
  | .d (.tuple ds), .d (.int i) => (atI ds i).map .d
  | .scr ns, .d (.int i) => (atI ns i).map fun n => .d (.int n)
  | .d (.str z), .d (.int i) => if z.length ≤ 1000000 then (atI z.cps.toList i).map fun c => .d (.str ⟨#[c]⟩) else none
  | .dk kvs, .d (.int i) => (kvs.find? fun kv => decide (kv.1 = .inl i)).map fun kv => .d kv.2
  | .dk kvs, .d (.str i) => (kvs.find? fun kv => decide (kv.1 = .inr i)).map fun kv => .d kv.2
  | .dt kvs, .d (.tuple k) => match intsOf k with
    | some k => (kvs.find? fun kv => decide (kv.1 = k.map .inl)).map fun kv => .d kv.2
    | none => none
  | _, _ => none
@[simp] def gIx (x y : W) : Option (W × Bool) := (gIx' x y).map fun w => (w, false)
theorem find_keys {κ : Type} [DecidableEq κ] {K : PySem.W.Frag} {H : Hp} {A : Ad → Prop} (k : κ) : ∀ {l : List (κ × V)} {m : List (κ × PD)} {q : κ × PD}, l.map (·.1) = m.map (·.1) → RDs K H A (l.map (·.2)) (m.map (·.2)) →
    (m.find? fun kv => decide (kv.1 = k)) = some q → ∃ v, valV l k = some v ∧ RD K H A v q.2
  | [], [], _, _, _, e => by cases e
  | [], _ :: _, _, h, _, _ => by cases h
  | _ :: _, [], _, h, _, _ => by cases h
  | p :: r, z :: t, q, h, hr, e => by
    simp only [List.map_cons, List.cons.injEq] at h
    cases hr with
    | cons h1 h2 =>
      by_cases hk : z.1 = k
      · rw [List.find?_cons_of_pos (by simpa using hk)] at e
        cases e
        exact ⟨p.2, valV_pos (h.1.trans hk), h1⟩
      · rw [List.find?_cons_of_neg (by simpa using hk)] at e
        obtain ⟨v, e1, e2⟩ := find_keys k h.2 h2 e
        exact ⟨v, by rw [valV_neg (fun z' => hk (h.1.symm.trans z'))]; exact e1, e2⟩
end
end Hil
/-! Hil3: subscripts, built-ins by worth. -/
namespace Hil
open PySem PySem.Spec PyProof.Rows L2
section
variable {X : Cx}
theorem RDs.at {K : PySem.W.Frag} {H : Hp} {A : Ad → Prop} {vs : List V} {ds : List PD} {i : Int} {d : PD} (h : RDs K H A vs ds) (e : atI ds i = some d) : ∃ v, atI vs i = some v ∧ RD K H A v d := by
  unfold atI at e ⊢
  rw [h.length]
  cases q : ixN ds.length i with
  | none => rw [q] at e; cases e
  | some j =>
    rw [q] at e
    exact h.get e
theorem og_ix (hu : X.A.units + 64 < cLine) : IxR X (rG X.K gIx) := by
  intro value slice pins s σ H x y v u Q I rx ry h hs
  obtain ⟨A, w1, w2, r, tk, p1, p2, e, q⟩ := h
  unfold gIx at e
  cases e' : gIx' w1 w2 with
  | none => rw [e'] at e; cases e
  | some w =>
    rw [e'] at e
    cases e
    unfold gIx' at e'
    split at e'
    · rename_i ds i
      cases q' : atI ds i with
      | none => rw [q'] at e'; cases e'
      | some d =>
        rw [q'] at e'
        cases e'
        obtain ⟨a, vs, rfl, e1, r1⟩ := p1.lst
        obtain ⟨z, hz, rz⟩ := r1.at q'
        rw [p2.int] at ry
        exact ix_list value slice pins s σ H _ _ v u Q I rx ry ⟨a, vs, i, z, rfl, rfl, SqL.of e1, hz, q _ _ (.val rz)⟩ hs
    · rename_i ds i
      cases q' : atI ds i with
      | none => rw [q'] at e'; cases e'
      | some d =>
        rw [q'] at e'
        cases e'
        obtain ⟨a, vs, rfl, e1, r1⟩ := p1.tup
        obtain ⟨z, hz, rz⟩ := r1.at q'
        rw [p2.int] at ry
        exact ix_tup value slice pins s σ H _ _ v u Q I rx ry ⟨a, vs, i, z, rfl, rfl, e1, hz, q _ _ (.val rz)⟩ hs
    · rename_i ns i
      cases q' : atI ns i with
      | none => rw [q'] at e'; cases e'
      | some d =>
        rw [q'] at e'
        cases e'
        obtain ⟨a, rfl, e1⟩ := p1.scr
        rw [p2.int] at ry
        refine ix_list value slice pins s σ H _ _ v u Q I rx ry ⟨a, _, i, V.int d, rfl, rfl, e1, ?_, q _ _ (.val (.int _))⟩ hs
        unfold atI at q' ⊢
        rw [List.length_map]
        cases q2 : ixN ns.length i with
        | none => rw [q2] at q'; cases q'
        | some j =>
          rw [q2] at q'
          have q' : ns[j]? = some d := q'
          show (ns.map V.int)[j]? = some (V.int d)
          rw [List.getElem?_map, q']
          rfl
    · rename_i z i
      split at e'
      · rename_i hl
        cases q' : atI z.cps.toList i with
        | none => rw [q'] at e'; cases e'
        | some c =>
          rw [q'] at e'
          cases e'
          obtain ⟨rfl, hz⟩ := p1.str
          rw [p2.int] at ry
          refine ix_str value slice pins s σ H _ _ v u Q I rx ry ⟨z, i, c, rfl, rfl, lim_le hl, q', q _ _ (.val (.str _ ?_))⟩ hs
          obtain ⟨j, _, h2, _⟩ := atI_get q'
          have hc : c ∈ z.cps.toList := List.mem_of_getElem? h2
          have hz' : ∀ c ∈ z.cps.toList, c < 1114112 := by
            intro c hc
            have := (Array.all_eq_true_iff_forall_mem.mp hz) c (by simpa using hc)
            simpa using this
          have := hz' c hc
          simp [PyData.strOk, this]
      · cases e'
    · rename_i kvs i
      cases q' : kvs.find? fun kv => decide (kv.1 = .inl i) with
      | none => rw [q'] at e'; cases e'
      | some kv =>
        rw [q'] at e'
        cases e'
        obtain ⟨a, rfl, l, e1, ek, er, _⟩ := p1.dk
        rw [p2.int] at ry
        obtain ⟨z, hz, rz⟩ := find_keys _ ek er q'
        have g : DGet H a (kV (Sum.inl i)) (some z) := by rw [← hz]; exact DGet.k e1
        cases rx
        exact tail_any (dict_typeIs I g) PySem.F.slot_dict_getitem.lookup (d_getItem (by omega) I g ry fun w' s3 I3 rw' => ⟨z, H, I3, rw', q _ _ (.val rz)⟩) hs
    · rename_i kvs i
      cases q' : kvs.find? fun kv => decide (kv.1 = .inr i) with
      | none => rw [q'] at e'; cases e'
      | some kv =>
        rw [q'] at e'
        cases e'
        obtain ⟨a, rfl, l, e1, ek, er, _⟩ := p1.dk
        rw [p2.str.1] at ry
        obtain ⟨z, hz, rz⟩ := find_keys _ ek er q'
        have g : DGet H a (kV (Sum.inr i)) (some z) := by rw [← hz]; exact DGet.k e1
        cases rx
        exact tail_any (dict_typeIs I g) PySem.F.slot_dict_getitem.lookup (d_getItem (by omega) I g ry fun w' s3 I3 rw' => ⟨z, H, I3, rw', q _ _ (.val rz)⟩) hs
    · rename_i kvs ks
      split at e'
      · rename_i k hk
        cases q' : kvs.find? fun kv => decide (kv.1 = k.map .inl) with
        | none => rw [q'] at e'; cases e'
        | some kv =>
          rw [q'] at e'
          cases e'
          obtain ⟨a, rfl, l, e1, ek, er, _⟩ := p1.dt
          rcases p2 with p2 | ⟨_, _, p2⟩
          · obtain ⟨b, rfl, hb⟩ := RD.keyT p2 hk
            obtain ⟨z, hz, rz⟩ := find_keys _ ek er q'
            have g : DGet H a (.ref b) (some z) := by rw [← hz]; exact DGet.t e1 hb
            cases rx
            exact tail_any (dict_typeIs I g) PySem.F.slot_dict_getitem.lookup (d_getItem (by omega) I g ry fun w' s3 I3 rw' => ⟨z, H, I3, rw', q _ _ (.val rz)⟩) hs
          · exact p2.elim
      · cases e'
    · cases e'

/-! ### built-ins of one value -/
def rC1 (K : PySem.W.Frag) (g : W → Option (W × Bool)) : List V → Hp → VK → Prop := fun xs H Q => ∃ x, xs = [x] ∧ rG1 K g x H Q
def rC2 (K : PySem.W.Frag) (g : W → W → Option (W × Bool)) : List V → Hp → VK → Prop := fun xs H Q => ∃ x y, xs = [x, y] ∧ rG K g x y H Q
@[simp] def gLen : W → Option (W × Bool)
  | .d (.list ds) => some (.d (.int ds.length), false)
  | .d (.tuple ds) => some (.d (.int ds.length), false)
  | .d (.str z) => if z.length ≤ 1000000 then some (.d (.int z.length), false) else none
  | .dk kvs => some (.d (.int kvs.length), false)
  | .dt kvs => some (.d (.int kvs.length), false)
  | .scr ns => some (.d (.int ns.length), false)
  | _ => none
theorem og_len : CallR X (.builtin "len") (rC1 X.K gLen) := by
  intro pins s σ H xs us Q I r h
  obtain ⟨x, rfl, A, w, r', tk, p, e, q⟩ := h
  unfold gLen at e
  split at e
  · cases e
    obtain ⟨a, vs, rfl, e1, r1⟩ := p.lst
    exact call_len_seq pins s σ H _ us Q I r ⟨a, vs, rfl, .inl (SqL.of e1), q _ _ (.val (by rw [r1.length]; exact RD.int _))⟩
  · cases e
    obtain ⟨a, vs, rfl, e1, r1⟩ := p.tup
    exact call_len_seq pins s σ H _ us Q I r ⟨a, vs, rfl, .inr e1, q _ _ (.val (by rw [r1.length]; exact RD.int _))⟩
  · split at e
    · rename_i hl
      cases e
      obtain ⟨rfl, _⟩ := p.str
      exact call_len_str pins s σ H _ us Q I r ⟨_, rfl, lim_le hl, q _ _ (.val (RD.int _))⟩
    · cases e
  · cases e
    obtain ⟨a, rfl, l, e1, ek, er, _⟩ := p.dk
    have hl := congrArg List.length ek
    simp only [List.length_map] at hl
    exact call_lenD pins s σ H _ us Q I r ⟨a, l, rfl, e1, q _ _ (.val (by rw [hl]; exact RD.int _))⟩
  · cases e
    obtain ⟨a, rfl, l, e1, ek, er, _⟩ := p.dt
    have hl := congrArg List.length ek
    simp only [List.length_map] at hl
    exact call_len_dT pins s σ H _ us Q I r ⟨a, l, rfl, e1, q _ _ (.val (by rw [hl]; exact RD.int _))⟩
  · cases e
    obtain ⟨a, rfl, e1⟩ := p.scr
    exact call_len_seq pins s σ H _ us Q I r ⟨a, _, rfl, .inl e1, q _ _ (.val (by rw [List.length_map]; exact RD.int _))⟩
  · cases e
def keyD : Key → PD
  | .inl i => .int i
  | .inr z => .str z
@[simp] def gList : W → Option (W × Bool)
  | .d (.list ds) => some (.d (.list ds), true)
  | .d (.tuple ds) => some (.d (.list ds), true)
  | _ => none
theorem og_list : CallR X (.type "list") (rC1 X.K gList) := by
  intro pins s σ H xs us Q I r h
  obtain ⟨x, rfl, A, w, r', tk, p, e, q⟩ := h
  unfold gList at e
  split at e
  · cases e
    obtain ⟨a, vs, rfl, e1, r1⟩ := p.lst
    exact call_list_of pins s σ H _ us Q I r ⟨a, vs, rfl, .inl (SqL.of e1), fun l hl => q _ _ (.lst hl r1)⟩
  · cases e
    obtain ⟨a, vs, rfl, e1, r1⟩ := p.tup
    exact call_list_of pins s σ H _ us Q I r ⟨a, vs, rfl, .inr e1, fun l hl => q _ _ (.lst hl r1)⟩
  · cases e
@[simp] def gTup : W → Option (W × Bool)
  | .d (.list ds) => some (.d (.tuple ds), false)
  | .d (.tuple ds) => some (.d (.tuple ds), false)
  | _ => none
theorem og_tup : CallR X (.type "tuple") (rC1 X.K gTup) := by
  intro pins s σ H xs us Q I r h
  obtain ⟨x, rfl, A, w, r', tk, p, e, q⟩ := h
  unfold gTup at e
  split at e
  · cases e
    obtain ⟨a, vs, rfl, e1, r1⟩ := p.lst
    exact call_tuple2 pins s σ H _ us Q I r ⟨a, vs, rfl, .inl ⟨SqL.of e1, .of tk r1 q⟩⟩
  · cases e
    obtain ⟨a, vs, rfl, e1, r1⟩ := id p.tup
    refine call_tuple2 pins s σ H _ us Q I r ⟨a, vs, rfl, .inr ⟨e1, q _ _ (.val ?_)⟩⟩
    rcases p with p | ⟨_, _, p⟩
    · exact p
    · exact p.elim
  · cases e
def boolsOf : List PD → Option (List Bool)
  | [] => some []
  | .bool i :: r => (boolsOf r).map (i :: ·)
  | _ :: _ => none
theorem boolsOf_eq : ∀ {ds : List PD} {ns : List Bool}, boolsOf ds = some ns → ds = ns.map .bool
  | [], _, h => by cases h; rfl
  | .bool i :: r, ns, h => by
    unfold boolsOf at h
    cases q : boolsOf r with
    | none => rw [q] at h; cases h
    | some m => rw [q] at h; cases h; rw [boolsOf_eq q]; rfl
  | .none :: _, _, h => by cases h
  | .int _ :: _, _, h => by cases h
  | .str _ :: _, _, h => by cases h
  | .list _ :: _, _, h => by cases h
  | .tuple _ :: _, _, h => by cases h
  | .dict _ :: _, _, h => by cases h
theorem boolsOf_map (ns : List Bool) : boolsOf (ns.map .bool) = some ns := by
  induction ns with
  | nil => rfl
  | cons n ns ih => simp [boolsOf, ih]
@[simp] def gAll : W → Option (W × Bool)
  | .d (.list ds) => (boolsOf ds).map fun bs => (.d (.bool (bs.all id)), false)
  | _ => none
@[simp] def gAny : W → Option (W × Bool)
  | .d (.list ds) => (boolsOf ds).map fun bs => (.d (.bool (bs.any id)), false)
  | _ => none
theorem og_all (hc : X.calm = true) : CallR X (.builtin "all") (rC1 X.K gAll) := by
  intro pins s σ H xs us Q I r h
  obtain ⟨x, rfl, A, w, r', tk, p, e, q⟩ := h
  unfold gAll at e
  split at e
  · rename_i ds
    cases q' : boolsOf ds with
    | none => rw [q'] at e; cases e
    | some bs =>
      rw [q'] at e
      cases e
      obtain ⟨a, vs, rfl, e1, r1⟩ := p.lst
      rw [boolsOf_eq q'] at r1
      rw [r1.bools] at e1
      exact cr_all hc pins s σ H _ us Q I r ⟨a, bs, rfl, SqL.of e1, q _ _ (.val (RD.bl _))⟩
  · cases e
theorem og_any (hc : X.calm = true) : CallR X (.builtin "any") (rC1 X.K gAny) := by
  intro pins s σ H xs us Q I r h
  obtain ⟨x, rfl, A, w, r', tk, p, e, q⟩ := h
  unfold gAny at e
  split at e
  · rename_i ds
    cases q' : boolsOf ds with
    | none => rw [q'] at e; cases e
    | some bs =>
      rw [q'] at e
      cases e
      obtain ⟨a, vs, rfl, e1, r1⟩ := p.lst
      rw [boolsOf_eq q'] at r1
      rw [r1.bools] at e1
      exact cr_any hc pins s σ H _ us Q I r ⟨a, bs, rfl, SqL.of e1, q _ _ (.val (RD.bl _))⟩
  · cases e
@[simp] def gSum : W → Option (W × Bool)
  | .d (.list ds) => (intsOf ds).map fun bs => (.d (.int bs.sum), false)
  | .d (.tuple ds) => (intsOf ds).map fun bs => (.d (.int bs.sum), false)
  | _ => none
theorem sum_rawT {prog : Program} {w : World} {A : Around} {E : Value → Shared → Prop} {s : Shared} {l : PySem.Addr} {its : List Value} {ns : List Int} {Q : Value → Shared → Prop} (hh : A.handled = none) (hl : s.heap.IsTuple l its.toArray) (hi : IntsAre its ns)
    (h : ∀ h' tk t', (∀ b o, s.heap.get? b = some o → h'.get? b = some o) → Q (.int ns.sum t') { s with heap := h', toks := tk }) : wpAny (model prog w) A (call (.builtin "sum") [.ref l]) Q E s := by
  obtain ⟨xs, e⟩ := hi.allInts.items
  have hn : PySem.numsOf (intItems xs).toList = ns := by rw [← e]; exact hi.numsOf
  rw [PySem.nums_intItems] at hn
  rw [e] at hl
  refine PySem.W.ktm_sumG hh hl fun h' tk t' hk => ?_
  have := h h' tk t' hk
  rw [preSum_eq, List.take_of_length_le (by simp), hn]; exact this
theorem og_sum (hc : X.calm = true) : CallR X (.builtin "sum") (rC1 X.K gSum) := by
  intro pins s σ H xs us Q I r h
  obtain ⟨x, rfl, A, w, r', tk, p, e, q⟩ := h
  unfold gSum at e
  split at e
  · rename_i ds
    cases q' : intsOf ds with
    | none => rw [q'] at e; cases e
    | some bs =>
      rw [q'] at e
      cases e
      obtain ⟨a, vs, rfl, e1, r1⟩ := p.lst
      rw [intsOf_eq q'] at r1
      rw [r1.ints] at e1
      exact cr_sum hc pins s σ H _ us Q I r ⟨a, bs, rfl, SqL.of e1, q _ _ (.val (RD.int _))⟩
  · rename_i ds
    cases q' : intsOf ds with
    | none => rw [q'] at e; cases e
    | some bs =>
      rw [q'] at e
      cases e
      obtain ⟨a, vs, rfl, e1, r1⟩ := p.tup
      rw [intsOf_eq q'] at r1
      rw [r1.ints] at e1
      obtain ⟨its, rv, hl, _⟩ := I.tuple e1
      rw [Vals.ref1 r]
      exact sum_rawT (I.ok.hd hc) hl rv.ints fun h' tk t' hk => ⟨.int _, H, I.kept hk, ⟨_, rfl⟩, q _ _ (.val (RD.int _))⟩
  · cases e
def maxI (ns : List Int) : Int := ns.foldl max (ns.headD 0)
def minI (ns : List Int) : Int := ns.foldl min (ns.headD 0)
theorem foldl_max_le (ns : List Int) : ∀ m : Int, m ≤ ns.foldl max m ∧ ∀ y ∈ ns, y ≤ ns.foldl max m := by
  induction ns with
  | nil => intro m; exact ⟨Int.le_refl _, fun _ h => by cases h⟩
  | cons n ns ih =>
    intro m
    obtain ⟨h1, h2⟩ := ih (max m n)
    refine ⟨Int.le_trans (Int.le_max_left _ _) h1, fun y hy => ?_⟩
    rcases List.mem_cons.mp hy with e | hy
    · rw [e]; exact Int.le_trans (Int.le_max_right _ _) h1
    · exact h2 y hy
theorem foldl_max_mem (ns : List Int) : ∀ m : Int, ns.foldl max m = m ∨ ns.foldl max m ∈ ns := by
  induction ns with
  | nil => intro m; exact .inl rfl
  | cons n ns ih =>
    intro m
    rcases ih (max m n) with h | h
    · have : max m n = m ∨ max m n = n := by omega
      rcases this with e | e
      · exact .inl (by rw [List.foldl_cons, h, e])
      · exact .inr (by rw [List.foldl_cons, h, e]; exact List.mem_cons_self)
    · exact .inr (List.mem_cons_of_mem _ h)
theorem maxI_mem {ns : List Int} (h : ns ≠ []) : maxI ns ∈ ns := by
  cases ns with
  | nil => exact absurd rfl h
  | cons n ns =>
    rcases foldl_max_mem (n :: ns) n with e | e
    · show (n :: ns).foldl max n ∈ _
      rw [e]; exact List.mem_cons_self
    · exact e
theorem maxI_le {ns : List Int} : ∀ y ∈ ns, y ≤ maxI ns := (foldl_max_le ns _).2
theorem foldl_min_le (ns : List Int) : ∀ m : Int, ns.foldl min m ≤ m ∧ ∀ y ∈ ns, ns.foldl min m ≤ y := by
  induction ns with
  | nil => intro m; exact ⟨Int.le_refl _, fun _ h => by cases h⟩
  | cons n ns ih =>
    intro m
    obtain ⟨h1, h2⟩ := ih (min m n)
    refine ⟨Int.le_trans h1 (Int.min_le_left _ _), fun y hy => ?_⟩
    rcases List.mem_cons.mp hy with e | hy
    · rw [e]; exact Int.le_trans h1 (Int.min_le_right _ _)
    · exact h2 y hy
theorem foldl_min_mem (ns : List Int) : ∀ m : Int, ns.foldl min m = m ∨ ns.foldl min m ∈ ns := by
  induction ns with
  | nil => intro m; exact .inl rfl
  | cons n ns ih =>
    intro m
    rcases ih (min m n) with h | h
    · have : min m n = m ∨ min m n = n := by omega
      rcases this with e | e
      · exact .inl (by rw [List.foldl_cons, h, e])
      · exact .inr (by rw [List.foldl_cons, h, e]; exact List.mem_cons_self)
    · exact .inr (List.mem_cons_of_mem _ h)
theorem minI_mem {ns : List Int} (h : ns ≠ []) : minI ns ∈ ns := by
  cases ns with
  | nil => exact absurd rfl h
  | cons n ns =>
    rcases foldl_min_mem (n :: ns) n with e | e
    · show (n :: ns).foldl min n ∈ _
      rw [e]; exact List.mem_cons_self
    · exact e
theorem minI_le {ns : List Int} : ∀ y ∈ ns, minI ns ≤ y := (foldl_min_le ns _).2
@[simp] def gMax : W → Option (W × Bool)
  | .d (.list ds) => match intsOf ds with
    | some (n :: ns) => some (.d (.int (maxI (n :: ns))), false)
    | _ => none
  | _ => none
@[simp] def gMin : W → Option (W × Bool)
  | .d (.list ds) => match intsOf ds with
    | some (n :: ns) => some (.d (.int (minI (n :: ns))), false)
    | _ => none
  | _ => none
theorem og_max (hc : X.calm = true) : CallR X (.builtin "max") (rC1 X.K gMax) := by
  intro pins s σ H xs us Q I r h
  obtain ⟨x, rfl, A, w, r', tk, p, e, q⟩ := h
  unfold gMax at e
  split at e
  · split at e
    · rename_i ds _ n ns q'
      cases e
      obtain ⟨a, vs, rfl, e1, r1⟩ := p.lst
      rw [intsOf_eq q'] at r1
      rw [r1.ints] at e1
      refine cr_max hc pins s σ H _ us Q I r ⟨a, n :: ns, rfl, SqL.of e1, by simp, fun m hm hy => q _ _ (.val ?_)⟩
      have : m = maxI (n :: ns) := Int.le_antisymm (maxI_le m hm) (hy _ (maxI_mem (by simp)))
      rw [this]; exact RD.int _
    · cases e
  · cases e
theorem og_min (hc : X.calm = true) : CallR X (.builtin "min") (rC1 X.K gMin) := by
  intro pins s σ H xs us Q I r h
  obtain ⟨x, rfl, A, w, r', tk, p, e, q⟩ := h
  unfold gMin at e
  split at e
  · split at e
    · rename_i ds _ n ns q'
      cases e
      obtain ⟨a, vs, rfl, e1, r1⟩ := p.lst
      rw [intsOf_eq q'] at r1
      rw [r1.ints] at e1
      refine cr_min hc pins s σ H _ us Q I r ⟨a, n :: ns, rfl, SqL.of e1, by simp, fun m hm hy => q _ _ (.val ?_)⟩
      have : m = minI (n :: ns) := Int.le_antisymm (hy _ (minI_mem (by simp))) (minI_le m hm)
      rw [this]; exact RD.int _
    · cases e
  · cases e
@[simp] def gMax2 : W → W → Option (W × Bool)
  | .d (.int i), .d (.int j) => some (.d (.int (max i j)), false)
  | _, _ => none
@[simp] def gMin2 : W → W → Option (W × Bool)
  | .d (.int i), .d (.int j) => some (.d (.int (min i j)), false)
  | _, _ => none
theorem og_max2 (hc : X.calm = true) : CallR X (.builtin "max") (rC2 X.K gMax2) := by
  intro pins s σ H xs us Q I r h
  obtain ⟨x, y, rfl, A, w1, w2, r', tk, p1, p2, e, q⟩ := h
  unfold gMax2 at e
  split at e
  · rename_i i j
    cases e
    rw [p1.int, p2.int] at r
    refine call_max2 hc pins s σ H _ us Q I r ⟨i, j, rfl, ?_⟩
    have : (if j > i then j else i) = max i j := by split <;> omega
    rw [this]
    exact q _ _ (.val (RD.int _))
  · cases e
theorem og_min2 (hc : X.calm = true) : CallR X (.builtin "min") (rC2 X.K gMin2) := by
  intro pins s σ H xs us Q I r h
  obtain ⟨x, y, rfl, A, w1, w2, r', tk, p1, p2, e, q⟩ := h
  unfold gMin2 at e
  split at e
  · rename_i i j
    cases e
    rw [p1.int, p2.int] at r
    refine call_min2 hc pins s σ H _ us Q I r ⟨i, j, rfl, ?_⟩
    have : (if j < i then j else i) = min i j := by split <;> omega
    rw [this]
    exact q _ _ (.val (RD.int _))
  · cases e
@[simp] def gInt : W → Option (W × Bool)
  | .d (.bool b) => some (.d (.int (if b then 1 else 0)), false)
  | _ => none
theorem og_int : CallR X (.type "int") (rC1 X.K gInt) := by
  intro pins s σ H xs us Q I r h
  obtain ⟨x, rfl, A, w, r', tk, p, e, q⟩ := h
  unfold gInt at e
  split at e
  · rename_i b
    cases e
    rw [p.bool] at r
    exact call_int1 pins s σ H _ us Q I r (.inr ⟨b, rfl, q _ _ (.val (RD.int _))⟩)
  · cases e
/-! ### isinstance with a built-in type -/
inductive Ty where
  | int | str | list | tuple | bool
def Ty.nm : Ty → String
  | .int => "int"
  | .str => "str"
  | .list => "list"
  | .tuple => "tuple"
  | .bool => "bool"
@[simp] def gIsi (t : Ty) : W → Option (W × Bool)
  | .d .none => some (.d (.bool false), false)
  | .d (.bool _) => some (.d (.bool (match t with | .int => true | .bool => true | _ => false)), false)
  | .d (.int _) => some (.d (.bool (match t with | .int => true | _ => false)), false)
  | .d (.str _) => some (.d (.bool (match t with | .str => true | _ => false)), false)
  | .d (.list _) => some (.d (.bool (match t with | .list => true | _ => false)), false)
  | .d (.tuple _) => some (.d (.bool (match t with | .tuple => true | _ => false)), false)
  | _ => none
theorem RD.ty {K : PySem.W.Frag} {H : Hp} {A : Ad → Prop} {v : V} {ds : List PD} (h : RD K H A v (.tuple ds)) : TyX K H v (.type "tuple") := by
  cases h with
  | tup e _ _ _ => exact .base (.tup e)
  | ftup e _ _ _ _ => exact .fTuple e
  | ktup e _ _ =>
    obtain ⟨o, its, n, e1, c, _⟩ := e
    exact .kTuple e1 c
theorem og_isi (t : Ty) : CallR X (.builtin "isinstance") (fun xs H Q => ∃ x, xs = [x, .ty t.nm] ∧ rG1 X.K (gIsi t) x H Q) := by
  intro pins s σ H xs us Q I r h
  obtain ⟨x, rfl, A, w, r', tk, p, e, q⟩ := h
  unfold gIsi at e
  split at e
  · cases e
    rw [p.non] at r
    exact call_isi pins s σ H _ us Q I r ⟨.non, .ty t.nm, .type "NoneType", _, false, rfl, .ty _, .base .non, kit_ty (by cases t <;> decide +kernel), q _ _ (.val (RD.bl _))⟩
  · cases e
    rw [p.bool] at r
    exact call_isi pins s σ H _ us Q I r ⟨.bl _, .ty t.nm, .type "bool", _, _, rfl, .ty _, .base (.bl _), kit_ty (by cases t <;> decide +kernel), q _ _ (.val (RD.bl _))⟩
  · cases e
    rw [p.int] at r
    exact call_isi pins s σ H _ us Q I r ⟨.int _, .ty t.nm, .type "int", _, _, rfl, .ty _, .base (.int _), kit_ty (by cases t <;> decide +kernel), q _ _ (.val (RD.bl _))⟩
  · cases e
    rw [p.str.1] at r
    exact call_isi pins s σ H _ us Q I r ⟨.str _, .ty t.nm, .type "str", _, _, rfl, .ty _, .base (.str _), kit_ty (by cases t <;> decide +kernel), q _ _ (.val (RD.bl _))⟩
  · cases e
    obtain ⟨a, vs, rfl, e1, r1⟩ := p.lst
    exact call_isi pins s σ H _ us Q I r ⟨.ref a, .ty t.nm, .type "list", _, _, rfl, .ty _, .base (.lst e1), kit_ty (by cases t <;> decide +kernel), q _ _ (.val (RD.bl _))⟩
  · cases e
    rcases p with p | ⟨_, _, p⟩
    · exact call_isi pins s σ H _ us Q I r ⟨x, .ty t.nm, .type "tuple", _, _, rfl, .ty _, RD.ty p, kit_ty (by cases t <;> decide +kernel), q _ _ (.val (RD.bl _))⟩
    · exact p.elim
  · cases e
end
end Hil
/-! HilA: enumerate over a tuple. -/
namespace Hil
open PySem PySem.Spec PyProof.Rows L2
abbrev enumO (it : PySem.Addr) : Obj := { cls := .type "enumerate", data := .fields #[.none, .bool false, .ref it, rawInt 0, .none, .none] }
abbrev titO (l : PySem.Addr) : Obj := { cls := .type "tuple_iterator", data := .fields #[.ref l, .int 0 0] }
theorem enum_new_tuple (l : PySem.Addr) (its : Array Value) :
    Meets (Builtin.«enumerate.__new__» ⟨[.type "enumerate", .ref l], []⟩) fun _ R s => s.heap.IsTuple l its ∧ R (.ok (.ret (.ref (s.heap.push (titO l)).objs.size))) { s with heap := (s.heap.push (titO l)).push (enumO s.heap.objs.size) } :=
  .of_wp fun prog w A R s h => by
    obtain ⟨hp, g, d, tk, os⟩ := s
    obtain ⟨hl, h⟩ := h
    have hs1 := sub_enumerate
    have step : ∀ {A' : Around} {E Q : Value → Shared → Prop}, Q (.ref hp.objs.size) ⟨hp.push (titO l), g, d, tk, os⟩ → wpAny (model prog w) A' (pyIter (.ref l)) Q E ⟨hp, g, d, tk, os⟩ := fun q => wpAny_pyIter_tuple hl q
    wp_walk using step
    refine wpAny_stack_any fun st => wpAny_pure ?_
    split
    · rename_i c _ _ _ _ _
      cases (c == Value.type "enumerate") <;>
      · wp_walk using step
        exact ⟨_, rfl, h⟩
    · wp_walk using step
      exact ⟨_, rfl, h⟩
section
variable {prog : Program} {w : World} {A : Around} {E : Value → Shared → Prop} {s : Shared}
theorem call_enum_tuple {l : PySem.Addr} {its : Array Value} {Q : Value → Shared → Prop} (hL : s.heap.IsTuple l its)
    (h : ∀ h', IsEnum h' (s.heap.objs.size + 1) s.heap.objs.size 0 .none → h'.IsTupleIter s.heap.objs.size l 0 → (∀ b o, s.heap.get? b = some o → h'.get? b = some o) → Q (.ref (s.heap.objs.size + 1)) { s with heap := h' }) :
    wpAny (model prog w) A (call (.type "enumerate") [.ref l]) Q E s := by
  have sz : (s.heap.push (titO l)).objs.size = s.heap.objs.size + 1 := Heap.size_push ..
  refine callType_new F.called_enumerate (by decide) (F.typeCall_enumerate_1 _) (F.newCall_enumerate_1 _)
    (fun obj => F.args_object_init_2 obj _) F.entry_enumerate_new (enum_new_tuple l its) ⟨hL, ?_⟩
  show _ ∧ _
  rw [sz]
  have he : IsEnum ((s.heap.push (titO l)).push (enumO s.heap.objs.size)) (s.heap.objs.size + 1) s.heap.objs.size 0 .none := by
    have q := Heap.get?_push_size (s.heap.push (titO l)) (o := enumO s.heap.objs.size) rfl
    rw [sz] at q
    exact q
  exact ⟨⟨_, he, rfl⟩, h _ he ⟨_, Heap.get?_push_of_some _ (Heap.get?_push_size _ rfl), rfl, rfl⟩ fun b o x => Heap.get?_push_of_some _ (Heap.get?_push_of_some _ x)⟩
end
/-- the tuple at a, each item in a new pair with its number -/
def Ith (K : PySem.W.Frag) (a : PySem.Addr) : It :=
  ⟨fun i H => ∃ (xs : List V) (x : V), SqT K H a xs ∧ xs[i]? = some x,
   fun i H v H' => ∃ T x, v = .ref T ∧ H T = none ∧ H' = upd H T (.tup [.int (i : Nat), x]) ∧ ∀ xs, SqT K H a xs → xs[i]? = some x,
   fun i H => ∃ xs : List V, SqT K H a xs ∧ xs.length ≤ i⟩
theorem turn_enumT {P : Program} {w : World} {K : PySem.W.Frag} {elts : List Expr} {kk : Nat} {tpos : Pos} (a e it : PySem.Addr) (hai : a ≠ it) (hae : a ≠ e) :
    Turn P w K (.Tuple elts kk tpos) (Ith K a) [e, it] e (fun i h => (∃ old, IsEnum h e it ((i : Nat) : Int) old) ∧ h.IsTupleIter it a i ∧ e ≠ it) where
  mem := List.mem_cons_self
  obj := fun i h st b hb => by
    obtain ⟨⟨old, he⟩, ⟨o, ho, hc, hd⟩, _⟩ := st
    rcases List.mem_cons.mp hb with z | z
    · rw [z]
      exact ⟨_, he, fun v q => by cases q⟩
    · rw [List.mem_singleton.mp z]
      exact ⟨o, ho, fun v q => by rw [hd] at q; cases q⟩
  keep := fun i h h' st k => by
    obtain ⟨⟨old, he⟩, hi, hne⟩ := st
    exact ⟨⟨old, k e (by simp) _ he⟩, hi.at fun o q => k it (by simp) o q, hne⟩
  item := by
    intro X hP hw hK hc i pins s σ H E I hf st hg
    subst hP hw hK
    obtain ⟨⟨old, he⟩, hit, hne⟩ := st
    obtain ⟨xs, x, hq, hx⟩ := hg
    obtain ⟨its, rv, p, hz⟩ := I.tuple hq
    obtain ⟨u, hu, ru⟩ := rv.get hx
    have hT0 : s.heap.IsTuple a its.toArray := p
    have hel : e < s.heap.objs.size := Heap.lt_size he
    have hil : it < s.heap.objs.size := by
      obtain ⟨_, q, _⟩ := hit
      exact Heap.lt_size q
    have hlt : i < its.toArray.size := by
      obtain ⟨q, _⟩ := List.getElem?_eq_some_iff.mp hu
      simpa using q
    refine wpAny_pyNext_enum_itemD (Draws.tuple (A := X.A.in1) (by rw [show X.A.in1.handled = X.A.handled from rfl]; exact I.ok.hd hc) it a hai its.toArray) he ⟨hit, hT0⟩ hlt hne (by simp only [List.mem_cons, List.mem_singleton, List.not_mem_nil, or_false, not_or]; exact ⟨hne, Ne.symm hae⟩) fun y h' tk hy ho hst hT hsz hk => ?_
    have hy' : u = y := by
      have q : its[i]? = some y := by simpa using hy
      rw [hu] at q
      exact Option.some.inj q
    subst hy'
    refine ⟨_, rfl, wpAny_letOwnedTupleGo_enum (s := { s with heap := h', toks := tk + 1 }) ho fun h'' he' sb => ?_⟩
    have hT2 : h''.get? s.heap.objs.size = some { cls := .type "tuple", data := .seq #[.int i tk, u] } := (sb.2 _ (Nat.ne_of_gt hel)).trans hT
    have new : ObjOk X.prog X.w (upd H s.heap.objs.size (.tup [.int (i : Nat), x])) h'' s.heap.objs.size (.tup [.int (i : Nat), x]) := by
      refine ⟨?_, [.int i tk, u], .cons ⟨_, rfl⟩ (.cons ru .nil), ⟨_, hT2, rfl, _, rfl⟩⟩
      show 2 ≤ sizeLine
      decide
    have I1 : Inv X pins σ (upd H s.heap.objs.size (.tup [.int (i : Nat), x])) { s with heap := h'', toks := tk + 1 } :=
      I.turnedNew (ch := [e, it]) (fun b ob hb q => by
        have n1 : b ≠ e := fun z => hb (by rw [z]; exact List.mem_cons_self)
        have n2 : b ≠ it := fun z => hb (by rw [z]; exact List.mem_cons_of_mem _ List.mem_cons_self)
        exact (sb.2 b n1).trans (hk b ob n1 n2 q)) hf (Nat.le_refl _) new
    refine ⟨.ref s.heap.objs.size, _, I1, rfl, ⟨_, x, rfl, I.hok.fresh (Nat.le_refl _), rfl, fun ys hy => by rw [I.tuple_inj hy hq]; exact hx⟩, ⟨⟨u, ?_⟩, hst.1.at fun o q => (sb.2 it (Ne.symm hne)).trans q, hne⟩, fun b hb => ?_⟩
    · rw [show ((i + 1 : Nat) : Int) = (i : Int) + 1 by omega]
      exact he'
    · have hb' : b < s.heap.objs.size := by
        rcases List.mem_cons.mp hb with z | z
        · rw [z]; exact hel
        · rw [List.mem_singleton.mp z]; exact hil
      rw [upd_ne (Nat.ne_of_lt hb')]
      exact (hf b hb).1
  done := by
    intro X hP hw hK hc i pins s σ H E I hf st hg
    subst hP hw hK
    obtain ⟨⟨old, he⟩, hit, hne⟩ := st
    obtain ⟨xs, hq, hx⟩ := hg
    obtain ⟨its, rv, p, hz⟩ := I.tuple hq
    obtain ⟨f0, f1, f2, f3, f4, f5⟩ := hf it (by simp)
    have hl := rv.length
    have hx' : its.toArray[i]? = none := by
      rw [Array.getElem?_eq_none_iff, List.size_toArray]
      omega
    have D : Draws X.prog X.w X.A.in1 it [it, a] i (fun _ _ => False) (fun j h => j = i ∧ h.IsTupleIter it a i ∧ h.IsTuple a its.toArray) :=
      { live := fun _ _ st => let ⟨o, ho, _⟩ := st.2.1; ⟨o, ho⟩
        frame := fun _ _ _ st k => ⟨st.1, st.2.1.at fun o q => k it (by simp) o q, st.2.2.at fun o q => k a (by simp) o q⟩
        item := fun j s Q E hj st _ => absurd st.1 (Nat.ne_of_lt hj)
        done := fun s Q E st hE => wpAny_nextOf_tuple_end (by rw [show X.A.in1.handled = X.A.handled from rfl]; exact I.ok.hd hc) st.2.1 st.2.2 hx' hE }
    exact wpAny_pyNext_enum_endD D he ⟨rfl, hit, p⟩ fun h' eb => ⟨rfl, I.turned (t' := s.toks) (fun b o hb q => eb b o hb q) f0 f1 f3 f4 f5⟩
  self := fun A i s Q E st h => by
    obtain ⟨⟨_, he⟩, _⟩ := st
    exact wpAny_pyIter_enum he h
def iEnumT (K : PySem.W.Frag) (ta : TE) : TI := fun σ H R => ta σ H fun v H1 => ∃ a xs, v = .ref a ∧ SqT K H1 a xs ∧ R (Ith K a) H1
theorem pi_enumT {X : Cx} {e : Expr} {ta : TE} {p pos tpos : Pos} {elts : List Expr} {kk : Nat} (hg : Gl X "enumerate") (hm : X.mg "enumerate" = none) (ha : PE X e ta) (hs : starEach [e] X.env = [(false, eval e X.env)]) :
    PI X (.Tuple elts kk tpos) (.Call (.Name "enumerate" p) [e] [] pos) (iEnumT X.K ta) := by
  refine ⟨fun pins s σ H R I h => ?_⟩
  refine Call_ (ld_blt I hg hm boot_enumerate (PyProof.Rows.callWith_type1 (args_cons (thn (ha.run pins s σ H _ I h) fun v s1 ⟨x, H1, I1, r1, q1⟩ => args_nil ?_) hs) hs))
  obtain ⟨a, xs, ex, hq, q⟩ := q1
  subst ex
  cases r1
  obtain ⟨its, rv, p', hz⟩ := I1.tuple hq
  have hT0 : s1.heap.IsTuple a its.toArray := p'
  have hlt : a < s1.heap.objs.size := by
    obtain ⟨_, q, _⟩ := hT0
    exact Heap.lt_size q
  refine call_enum_tuple hT0 fun h' he hit hk => wpAny_pyIter_enum he ?_
  have I2 : Inv X pins σ H1 { s1 with heap := h' } := I1.kept (t' := s1.toks) hk
  refine ⟨s1.heap.objs.size + 1, [s1.heap.objs.size + 1, s1.heap.objs.size], _, _, H1, rfl, I2, turn_enumT a (s1.heap.objs.size + 1) s1.heap.objs.size (Nat.ne_of_lt hlt) (Nat.ne_of_lt (Nat.lt_succ_of_lt hlt)), ⟨⟨.none, he⟩, hit, Nat.succ_ne_self _⟩, fun b hb => ?_, q⟩
  have hle : s1.heap.objs.size ≤ b := by
    rcases List.mem_cons.mp hb with z | z
    · rw [z]; exact Nat.le_succ _
    · rw [List.mem_singleton.mp z]; exact Nat.le_refl _
  exact I1.fpOk hle (I1.hok.fresh hle)
end Hil
/-! HilB: more operators by worth: a list backwards, list(range(a, b)), dict of pairs. -/
namespace Hil
open PySem PySem.Spec PyProof.Rows L2
def putD {κ : Type} [DecidableEq κ] (kvs : List (κ × PD)) (k : κ) (d : PD) : List (κ × PD) :=
  if kvs.any (fun kv => decide (kv.1 = k)) = true then kvs.map fun kv => if kv.1 = k then (kv.1, d) else kv else kvs ++ [(k, d)]
/-! ### dicts written -/
section
variable {κ : Type} [DecidableEq κ]
theorem any_key2 {α : Type} (k : κ) : ∀ (l : List (κ × α)), (l.any fun kv => decide (kv.1 = k)) = (l.map (·.1)).any fun x => decide (x = k)
  | [] => rfl
  | a :: r => by simp [any_key2 k r]
theorem put_keys {l : List (κ × V)} {kvs : List (κ × PD)} {k : κ} {v : V} {d : PD} (h : l.map (·.1) = kvs.map (·.1)) : (putK l k v).map (·.1) = (putD kvs k d).map (·.1) := by
  unfold putK putD
  rw [any_key2, any_key2, h]
  have e1 : ∀ {α : Type} (l : List (κ × α)) (y : α), (l.map fun kv => if kv.1 = k then (kv.1, y) else kv).map (·.1) = l.map (·.1) := fun {α} l y => by
    rw [List.map_map]
    apply List.map_congr_left
    intro a _
    simp only [Function.comp]
    split <;> rfl
  split
  · rw [e1, e1, h]
  · simp [h]
theorem put_vals {K : PySem.W.Frag} {H : Hp} {A : Ad → Prop} {k : κ} {v : V} {d : PD} (r : RD K H A v d) : ∀ {l : List (κ × V)} {kvs : List (κ × PD)}, l.map (·.1) = kvs.map (·.1) → RDs K H A (l.map (·.2)) (kvs.map (·.2)) → RDs K H A ((putK l k v).map (·.2)) ((putD kvs k d).map (·.2)) := by
  have aux : ∀ {l : List (κ × V)} {kvs : List (κ × PD)}, l.map (·.1) = kvs.map (·.1) → RDs K H A (l.map (·.2)) (kvs.map (·.2)) → RDs K H A ((l.map fun kv => if kv.1 = k then (kv.1, v) else kv).map (·.2)) ((kvs.map fun kv => if kv.1 = k then (kv.1, d) else kv).map (·.2)) := by
    intro l
    induction l with
    | nil => intro kvs h q; cases kvs with
      | nil => exact .nil
      | cons _ _ => simp at h
    | cons a l ih => intro kvs h q; cases kvs with
      | nil => simp at h
      | cons b kvs =>
        simp only [List.map_cons, List.cons.injEq] at h
        cases q with
        | cons q qs =>
          simp only [List.map_cons]
          refine .cons ?_ (ih h.2 qs)
          rw [h.1]
          by_cases e : b.1 = k
          · simp only [if_pos e]; exact r
          · simp only [if_neg e]; exact q
  intro l kvs h q
  unfold putK putD
  rw [any_key2, any_key2, h]
  split
  · exact aux h q
  · rw [List.map_append, List.map_append]
    exact q.append (.one r)
theorem put_nodup {kvs : List (κ × PD)} {k : κ} {d : PD} (h : (kvs.map (·.1)).Nodup) : ((putD kvs k d).map (·.1)).Nodup := by
  unfold putD
  split
  · have e1 : (kvs.map fun kv => if kv.1 = k then (kv.1, d) else kv).map (·.1) = kvs.map (·.1) := by
      rw [List.map_map]
      apply List.map_congr_left
      intro a _
      simp only [Function.comp]
      split <;> rfl
    rw [e1]; exact h
  · rename_i hn
    rw [List.map_append]
    refine List.nodup_append.mpr ⟨h, by simp, ?_⟩
    intro a ha b hb e
    simp only [List.map_cons, List.map_nil, List.mem_singleton] at hb
    subst hb
    apply hn
    rw [any_key2, List.any_eq_true]
    exact ⟨a, ha, by simp [e]⟩
end

/-! ### a list backwards -/
@[simp] def gRev : W → Option (W × Bool)
  | .d (.list ds) => some (.d (.list ds.reverse), true)
  | _ => none
/-! ### list(range(a, b)) -/
def rgD (a b : Int) : List PD := (List.range (b - a).toNat).map fun (i : Nat) => .int (a + (i : Int))
@[simp] def gLrg : W → W → Option (W × Bool)
  | .d (.int a), .d (.int b) => if (a ≤ 1000000 ∧ -1000000 ≤ a) ∧ (b ≤ 1000000 ∧ -1000000 ≤ b) then some (.d (.list (rgD a b)), true) else none
  | _, _ => none
theorem rgD_rds {K : PySem.W.Frag} {H : Hp} {A : Ad → Prop} {a b : Int} : RDs K H A (rgV a b) (rgD a b) := by
  unfold rgV rgD
  induction (List.range (b - a).toNat) with
  | nil => exact .nil
  | cons n r ih => exact .cons (.int _) ih
/-! ### dict([(k, v), ..]) -/
@[simp] def keyOf : PD → Option Key
  | .int i => some (.inl i)
  | .str z => some (.inr z)
  | _ => none
@[simp] def pairsOf : List PD → Option (List (Key × PD))
  | [] => some []
  | .tuple [k, v] :: r => match keyOf k, pairsOf r with
    | some k, some q => some ((k, v) :: q)
    | _, _ => none
  | _ :: _ => none
def mergeD (kvs : List (Key × PD)) : List (Key × PD) → List (Key × PD)
  | [] => kvs
  | (k, v) :: r => mergeD (putD kvs k v) r
@[simp] def gDict : W → Option (W × Bool)
  | .d (.list ds) => match pairsOf ds with
    | some kvs => some (.dk (mergeD [] kvs), true)
    | none => none
  | _ => none
section
variable {K : PySem.W.Frag} {H : Hp} {A : Ad → Prop}
theorem keyOf_v {v : V} {d : PD} {k : Key} (r : RD K H A v d) (e : keyOf d = some k) : v = kV k := by
  cases d with
  | int i => cases e; cases r; rfl
  | str z => cases e; cases r; rfl
  | _ => cases e
theorem pairs_get : ∀ {ds : List PD} {vs : List V} {kvs : List (Key × PD)}, RDs K H A vs ds → pairsOf ds = some kvs →
    ∃ (ps : List Ad) (l : List (Key × V)), vs = ps.map V.ref ∧ Paired (fun p kv => SqT K H p [kV kv.1, kv.2]) ps l ∧ l.map (·.1) = kvs.map (·.1) ∧ RDs K H A (l.map (·.2)) (kvs.map (·.2))
  | [], _, _, .nil, e => by
    cases e
    exact ⟨[], [], rfl, .nil, rfl, .nil⟩
  | d :: ds, _, _, .cons (v := v) r rs, e => by
    unfold pairsOf at e
    split at e
    · cases ‹_ :: _ = []›
    · rename_i dk dv ds' q
      cases q
      split at e
      · rename_i k q ek eq
        cases e
        obtain ⟨ps, l, rfl, h1, h2, h3⟩ := pairs_get rs eq
        obtain ⟨a, us, rfl, hs, r2⟩ := RD.tupS r
        cases r2 with
        | cons ra rb =>
          cases rb with
          | cons rb rc =>
            cases rc
            have := keyOf_v ra ek
            subst this
            exact ⟨a :: ps, (k, _) :: l, rfl, .cons hs h1, by simp [h2], .cons rb h3⟩
      · cases e
    · cases e
theorem merge_rel : ∀ {kvs : List (Key × PD)} {l : List (Key × V)} {acc : List (Key × PD)} {al : List (Key × V)}, l.map (·.1) = kvs.map (·.1) → RDs K H A (l.map (·.2)) (kvs.map (·.2)) → al.map (·.1) = acc.map (·.1) → RDs K H A (al.map (·.2)) (acc.map (·.2)) → (acc.map (·.1)).Nodup →
    (mergeK al l).map (·.1) = (mergeD acc kvs).map (·.1) ∧ RDs K H A ((mergeK al l).map (·.2)) ((mergeD acc kvs).map (·.2)) ∧ ((mergeD acc kvs).map (·.1)).Nodup
  | [], [], _, _, _, _, h3, h4, h5 => ⟨h3, h4, h5⟩
  | [], _ :: _, _, _, h, _, _, _, _ => by cases h
  | _ :: _, [], _, _, h, _, _, _, _ => by cases h
  | (k, d) :: kvs, (k', v) :: l, acc, al, h1, h2, h3, h4, h5 => by
    simp only [List.map_cons, List.cons.injEq] at h1
    obtain ⟨rfl, h1⟩ := h1
    cases h2 with
    | cons r rs => exact merge_rel (kvs := kvs) (l := l) (acc := putD acc k' d) (al := putK al k' v) h1 rs (put_keys h3) (put_vals r h3 h4) (put_nodup h5)
end
section
variable {X : Cx}
theorem og_dict (hc : X.calm = true) : CallR X (.type "dict") (rC1 X.K gDict) := by
  intro pins s σ H xs us Q I r h
  obtain ⟨x, rfl, A, w, r', tk, p, e, q⟩ := h
  unfold gDict at e
  split at e
  · split at e
    · rename_i ds kvs hk
      cases e
      obtain ⟨a, vs, rfl, e1, r1⟩ := p.lst
      obtain ⟨ps, l, rfl, h1, h2, h3⟩ := pairs_get r1 hk
      refine call_dictP hc pins s σ H _ us Q I r ⟨a, ps, l, rfl, SqL.of e1, h1, fun b hb => q _ _ ?_⟩
      obtain ⟨m1, m2, m3⟩ := merge_rel (acc := []) (al := []) h2 h3 rfl .nil (by simp)
      exact ⟨keep_laid hb, b, rfl, hb, _, upd_same, m1, m2.laid hb, m3⟩
    · cases e
  · cases e
end
end Hil
/-! HilC: sorted(ints), sorted(set(pairs)). -/
namespace Hil
open PySem PySem.Spec PyProof.Rows L2
/-- put in its place -/
def insI (x : Int) : List Int → List Int
  | [] => [x]
  | y :: r => if x ≤ y then x :: y :: r else y :: insI x r
def sortI : List Int → List Int
  | [] => []
  | x :: r => insI x (sortI r)
theorem insI_perm (x : Int) : ∀ l : List Int, (insI x l).Perm (x :: l)
  | [] => .refl _
  | y :: r => by
    unfold insI
    split
    · exact .refl _
    · exact ((insI_perm x r).cons y).trans (.swap x y r)
theorem sortI_perm : ∀ l : List Int, (sortI l).Perm l
  | [] => .refl _
  | x :: r => (insI_perm x (sortI r)).trans ((sortI_perm r).cons x)
theorem insI_mem {x y : Int} {l : List Int} : y ∈ insI x l ↔ y = x ∨ y ∈ l := by
  rw [(insI_perm x l).mem_iff, List.mem_cons]
theorem insI_sorted (x : Int) : ∀ {l : List Int}, l.Pairwise (· ≤ ·) → (insI x l).Pairwise (· ≤ ·)
  | [], _ => by simp [insI]
  | y :: r, h => by
    rw [List.pairwise_cons] at h
    unfold insI
    split
    · rename_i hxy
      rw [List.pairwise_cons, List.pairwise_cons]
      refine ⟨fun z hz => ?_, h.1, h.2⟩
      rcases List.mem_cons.mp hz with rfl | hz
      · exact hxy
      · have := h.1 z hz; omega
    · rename_i hxy
      rw [List.pairwise_cons]
      refine ⟨fun z hz => ?_, insI_sorted x h.2⟩
      rcases insI_mem.mp hz with rfl | hz
      · omega
      · exact h.1 z hz
theorem sortI_sorted : ∀ l : List Int, (sortI l).Pairwise (· ≤ ·)
  | [] => .nil
  | x :: r => insI_sorted x (sortI_sorted r)
theorem sorted_unique : ∀ {a b : List Int}, a.Perm b → a.Pairwise (· ≤ ·) → b.Pairwise (· ≤ ·) → a = b
  | [], b, p, _, _ => p.nil_eq
  | x :: a, [], p, _, _ => absurd p.length_eq (by simp)
  | x :: a, y :: b, p, ha, hb => by
    rw [List.pairwise_cons] at ha hb
    have e : x = y := by
      have h1 : x ∈ y :: b := p.mem_iff.mp List.mem_cons_self
      have h2 : y ∈ x :: a := p.mem_iff.mpr List.mem_cons_self
      rcases List.mem_cons.mp h1 with h1 | h1
      · exact h1
      · rcases List.mem_cons.mp h2 with h2 | h2
        · exact h2.symm
        · have := ha.1 y h2
          have := hb.1 x h1
          omega
    subst e
    rw [sorted_unique ((List.perm_cons x).mp p) ha.2 hb.2]
@[simp] def gSorted : W → Option (W × Bool)
  | .d (.list ds) => (intsOf ds).map fun bs => (.d (.list ((sortI bs).map .int)), true)
  | _ => none
theorem ints_rds {K : PySem.W.Frag} {H : Hp} {A : Ad → Prop} : ∀ ns : List Int, RDs K H A (ns.map V.int) (ns.map PyData.int)
  | [] => .nil
  | n :: r => .cons (.int n) (ints_rds r)
theorem og_sorted {X : Cx} : CallR X (.builtin "sorted") (rC1 X.K gSorted) := by
  intro pins s σ H xs us Q I r h
  obtain ⟨x, rfl, A, w, r', tk, p, e, q⟩ := h
  unfold gSorted at e
  split at e
  · rename_i ds
    cases q' : intsOf ds with
    | none => rw [q'] at e; cases e
    | some bs =>
      rw [q'] at e
      cases e
      obtain ⟨a, vs, rfl, e1, r1⟩ := p.lst
      rw [intsOf_eq q'] at r1
      rw [r1.ints] at e1
      refine cr_sortedI pins s σ H _ us Q I r ⟨a, bs, rfl, SqL.of e1, fun ns' b h1 h2 hb => ?_⟩
      have : ns' = sortI bs := sorted_unique (h1.trans (sortI_perm bs).symm) h2 (sortI_sorted bs)
      rw [this]
      exact q _ _ (.lst hb (ints_rds _))
  · cases e
/-! ### sorted(set(pairs)) -/
/-- a pair of small numbers, by one number -/
def pairC : PyData → Option Int
  | .tuple [.int x, .int y] => if (0 ≤ x ∧ x < 64) ∧ (0 ≤ y ∧ y < 64) then some (x * 64 + y) else none
  | _ => none
def pairsC : List PyData → Option (List Int)
  | [] => some []
  | d :: r => match pairC d, pairsC r with
    | some c, some cs => some (c :: cs)
    | _, _ => none
def unC (c : Int) : PyData := .tuple [.int (c / 64), .int (c % 64)]
/-- put in its place, once -/
def insU (x : Int) : List Int → List Int
  | [] => [x]
  | y :: r => if x < y then x :: y :: r else if x = y then y :: r else y :: insU x r
def sortU : List Int → List Int
  | [] => []
  | x :: r => insU x (sortU r)
theorem insU_mem {x y : Int} : ∀ {l : List Int}, y ∈ insU x l ↔ y = x ∨ y ∈ l
  | [] => by simp [insU]
  | z :: r => by
    unfold insU
    split
    · simp
    · split
      · rename_i e
        subst e
        simp only [List.mem_cons]
        constructor
        · exact .inr
        · rintro (h | h)
          · exact .inl h
          · exact h
      · simp only [List.mem_cons, insU_mem (l := r)]
        constructor
        · rintro (h | h | h)
          · exact .inr (.inl h)
          · exact .inl h
          · exact .inr (.inr h)
        · rintro (h | h | h)
          · exact .inr (.inl h)
          · exact .inl h
          · exact .inr (.inr h)
theorem sortU_mem {y : Int} : ∀ {l : List Int}, y ∈ sortU l ↔ y ∈ l
  | [] => Iff.rfl
  | x :: r => by
    show y ∈ insU x (sortU r) ↔ _
    rw [insU_mem, List.mem_cons, sortU_mem (l := r)]
theorem insU_sorted (x : Int) : ∀ {l : List Int}, l.Pairwise (· < ·) → (insU x l).Pairwise (· < ·)
  | [], _ => by simp [insU]
  | y :: r, h => by
    rw [List.pairwise_cons] at h
    unfold insU
    split
    · rename_i hxy
      rw [List.pairwise_cons, List.pairwise_cons]
      refine ⟨fun z hz => ?_, h.1, h.2⟩
      rcases List.mem_cons.mp hz with rfl | hz
      · exact hxy
      · have := h.1 z hz; omega
    · split
      · rw [List.pairwise_cons]; exact h
      · rename_i h1 h2
        rw [List.pairwise_cons]
        refine ⟨fun z hz => ?_, insU_sorted x h.2⟩
        rcases insU_mem.mp hz with rfl | hz
        · omega
        · exact h.1 z hz
theorem sortU_sorted : ∀ l : List Int, (sortU l).Pairwise (· < ·)
  | [] => .nil
  | x :: r => insU_sorted x (sortU_sorted r)
theorem strict_unique : ∀ {a b : List Int}, (∀ x, x ∈ a ↔ x ∈ b) → a.Pairwise (· < ·) → b.Pairwise (· < ·) → a = b
  | [], [], _, _, _ => rfl
  | [], y :: b, p, _, _ => absurd ((p y).mpr List.mem_cons_self) (by simp)
  | x :: a, [], p, _, _ => absurd ((p x).mp List.mem_cons_self) (by simp)
  | x :: a, y :: b, p, ha, hb => by
    rw [List.pairwise_cons] at ha hb
    have e : x = y := by
      have h1 : x ∈ y :: b := (p x).mp List.mem_cons_self
      have h2 : y ∈ x :: a := (p y).mpr List.mem_cons_self
      rcases List.mem_cons.mp h1 with h1 | h1
      · exact h1
      · rcases List.mem_cons.mp h2 with h2 | h2
        · exact h2.symm
        · have := ha.1 y h2
          have := hb.1 x h1
          omega
    subst e
    congr 1
    refine strict_unique (fun z => ?_) ha.2 hb.2
    have := p z
    simp only [List.mem_cons] at this
    constructor
    · intro h
      rcases this.mp (.inr h) with e | e
      · have := ha.1 z h; omega
      · exact e
    · intro h
      rcases this.mpr (.inr h) with e | e
      · have := hb.1 z h; omega
      · exact e
@[simp] def gSset : W → Option (W × Bool)
  | .d (.list ds) => if ds.length < 64 then (pairsC ds).map fun cs => (.d (.list ((sortU cs).map unC)), true) else none
  | _ => none
theorem intV0 {K : PySem.W.Frag} {H : Hp} {A : Ad → Prop} {x : V} {b : Int} (h : RD K H A x (.int b)) : x = .int b := by cases h; rfl
theorem pairC_get {d : PyData} {c : Int} (h : pairC d = some c) : ∃ x y : Int, d = .tuple [.int x, .int y] ∧ (0 ≤ x ∧ x < 64) ∧ (0 ≤ y ∧ y < 64) ∧ c = x * 64 + y := by
  unfold pairC at h
  split at h
  · split at h
    · rename_i x y hl
      cases h
      exact ⟨x, y, rfl, hl.1, hl.2, rfl⟩
    · cases h
  · cases h
theorem unC_code {x y : Int} (hy : 0 ≤ y ∧ y < 64) : unC (x * 64 + y) = .tuple [.int x, .int y] := by
  unfold unC
  have e1 : (x * 64 + y) / 64 = x := by omega
  have e2 : (x * 64 + y) % 64 = y := by omega
  rw [e1, e2]
section
variable {K : PySem.W.Frag} {H : Hp} {A : Ad → Prop}
theorem pairs_sets : ∀ {ds : List PyData} {vs : List V} {cs : List Int}, RDs K H A vs ds → pairsC ds = some cs →
    ∃ ks : List (Ad × List Int), vs = ks.map (fun p => V.ref p.1) ∧ ks.map (fun p => TS.code 64 p.2) = cs ∧ ∀ p ∈ ks, SqT K H p.1 (p.2.map V.int) ∧ p.2.length = 2 ∧ TS.Bd 64 p.2 ∧ RD K H A (.ref p.1) (unC (TS.code 64 p.2)) ∧ ∃ x y, p.2 = [x, y]
  | [], _, _, .nil, e => by
    cases e
    exact ⟨[], rfl, rfl, by simp⟩
  | d :: ds, _, cs, .cons (v := v) r rs, e => by
    unfold pairsC at e
    split at e
    · rename_i c cs' e1 e2
      cases e
      obtain ⟨ks, h1, h2, h3⟩ := pairs_sets rs e2
      obtain ⟨x, y, rfl, hx, hy, rfl⟩ := pairC_get e1
      obtain ⟨a, us, rfl, sq, r2⟩ := RD.tupS r
      have eu : us = [V.int x, V.int y] := by
        cases r2 with
        | cons ra rb =>
          cases rb with
          | cons rb rc =>
            cases rc
            rw [intV0 ra, intV0 rb]
      subst eu
      have ec : TS.code 64 [x, y] = x * 64 + y := code_pair x y
      refine ⟨(a, [x, y]) :: ks, by rw [h1]; rfl, by simp [h2, ec], fun p hp => ?_⟩
      rcases List.mem_cons.mp hp with rfl | hp
      · refine ⟨sq, rfl, fun m hm => ?_, ?_, x, y, rfl⟩
        · simp at hm
          rcases hm with rfl | rfl
          · exact hx
          · exact hy
        · show RD K H A (.ref a) (unC (TS.code 64 [x, y]))
          rw [ec, unC_code hy]
          exact r
      · exact h3 p hp
    · cases e
end
theorem sqT_keep {K : PySem.W.Frag} {H H' : Hp} {a : Ad} {xs : List V} (k : ∀ b o, H b = some o → H' b = some o) (h : SqT K H a xs) : SqT K H' a xs := by
  rcases h with (h | ⟨o, h⟩) | h
  · exact .inl (.inl (k _ _ h))
  · exact .inl (.inr ⟨o, k _ _ h⟩)
  · exact .inr h
theorem rds_map {α : Type} {K : PySem.W.Frag} {H : Hp} {A : Ad → Prop} (f : α → V) (g : α → PyData) : ∀ {l : List α}, (∀ x ∈ l, RD K H A (f x) (g x)) → RDs K H A (l.map f) (l.map g)
  | [], _ => .nil
  | x :: r, h => .cons (h x List.mem_cons_self) (rds_map f g fun y hy => h y (List.mem_cons_of_mem _ hy))
theorem sset_cont {X : Cx} {H : Hp} {A : Ad → Prop} {cs : List Int} {ks : List (Ad × List Int)} (hcs : ks.map (fun p => TS.code 64 p.2) = cs) (hk : ∀ p ∈ ks, SqT X.K H p.1 (p.2.map V.int) ∧ p.2.length = 2 ∧ TS.Bd 64 p.2 ∧ RD X.K H A (.ref p.1) (unC (TS.code 64 p.2)) ∧ ∃ x y, p.2 = [x, y]) {Q : VK}
    (q : ∀ v H', Done X.K H A (.d (.list ((sortU cs).map unC)), true) v H' → Q v H') {b : Ad} {L : List (Ad × List Int)} (hb : H b = none) (hsub : ∀ p ∈ L, p ∈ ks) (hall : ∀ p ∈ ks, p.2 ∈ L.map (·.2)) :
    rSortedT X.K X.prog X.w [V.ref b] (upd H b (SetTO X.prog X.w b L)) Q := by
  have kp : ∀ c o, H c = some o → upd H b (SetTO X.prog X.w b L) c = some o := keep_laid hb
  refine ⟨b, L, 2, 64, rfl, upd_same, fun p hp => sqT_keep kp (hk p (hsub p hp)).1, by decide, fun p hp => ⟨(hk p (hsub p hp)).2.1, (hk p (hsub p hp)).2.2.1⟩, fun L' c hperm hnd hlt hpw hc => ?_⟩
  have hcb : c ≠ b := fun z => by rw [z, upd_same] at hc; cases hc
  have hc0 : H c = none := by rw [upd_ne hcb] at hc; exact hc
  have hin : ∀ q ∈ L', q ∈ ks := fun q hq => hsub q (hperm.mem_iff.mp hq)
  have hcode : L'.map (fun q => TS.code 64 q.2) = sortU cs := by
    refine strict_unique (fun z => ?_) ?_ (sortU_sorted cs)
    · rw [sortU_mem, ← hcs, List.mem_map, List.mem_map]
      constructor
      · rintro ⟨q, hq, rfl⟩
        exact ⟨q, hin q hq, rfl⟩
      · rintro ⟨q, hq, rfl⟩
        obtain ⟨q2, h2, e2⟩ := List.mem_map.mp (hall q hq)
        exact ⟨q2, hperm.mem_iff.mpr h2, by rw [e2]⟩
    · rw [List.pairwise_map]
      have hnd' : L'.Pairwise fun q r => q.2 ≠ r.2 := by
        have := hnd
        unfold List.Nodup at this
        rw [List.pairwise_map] at this
        exact this
      refine List.Pairwise.imp_of_mem (fun {q r} hq hr h => ?_) (hpw.and hnd')
      obtain ⟨h1, h2⟩ := h
      obtain ⟨_, _, b1, _, x1, y1, e1⟩ := hk q (hin q hq)
      obtain ⟨_, _, b2, _, x2, y2, e2⟩ := hk r (hin r hr)
      rw [e1, e2] at h1 h2 ⊢
      rw [e1] at b1
      rw [e2] at b2
      have := pair_lt h1 h2 (b1 x1 (by simp)) (b1 y1 (by simp)) (b2 x2 (by simp)) (b2 y2 (by simp))
      rw [code_pair, code_pair] at *
      have z1 := b1 y1 (by simp)
      have z2 := b2 y2 (by simp)
      omega
  have rr : RDs X.K H A (L'.map fun q => V.ref q.1) ((sortU cs).map unC) := by
    rw [← hcode, List.map_map]
    exact rds_map _ _ fun q hq => (hk q (hin q hq)).2.2.2.1
  refine q _ _ ⟨fun d o ed => ?_, c, rfl, hc0, _, upd_same, (rr.laid0 hb).laid hc⟩
  rw [upd_ne (fun z => by rw [z, hc0] at ed; cases ed)]
  exact kp d o ed
theorem rG1_sset {X : Cx} {x : V} {H : Hp} {Q : VK} (h : rG1 X.K gSset x H Q) : rSetOfT X.K X.prog X.w [x] H fun z H2 => rSortedT X.K X.prog X.w [z] H2 Q := by
  obtain ⟨A, w, r, tk, p, e, q⟩ := h
  unfold gSset at e
  split at e
  · rename_i ds
    split at e
    · rename_i hlen
      cases q' : pairsC ds with
      | none => rw [q'] at e; cases e
      | some cs =>
        rw [q'] at e
        cases e
        obtain ⟨a, vs, rfl, e1, r1⟩ := p.lst
        obtain ⟨ks, rfl, hcs, hk⟩ := pairs_sets r1 q'
        have hkl : ks.length < 64 := by
          have := r1.length
          rw [List.length_map] at this
          omega
        exact ⟨a, ks, rfl, SqL.of e1, fun p hp => (hk p hp).1, hkl, fun b L hb hsub hall => sset_cont hcs hk q hb hsub hall⟩
    · cases e
  · cases e
end Hil
/-! HilD: sorted of tuples of pairs, of a dict's keys. -/
namespace Hil
open PySem PySem.Spec PyProof.Rows L2
section
variable {prog : Program} {w : World} {A : Around} {E : Value → Shared → Prop} {s : Shared}
def Kp (h h' : Heap) : Prop := (∀ b o, h.get? b = some o → h'.get? b = some o) ∧ h.objs.size ≤ h'.objs.size
/-- what a new list is once the items of a sequence stand in it -/
theorem all_of {R : List Value → Shared → Prop} {xs : Array Value} {c : Nat} {h1 : Heap} {p : Addr} {k : Nat} (e : h1.get? p = some { cls := .type "list", data := .seq xs c }) (q : R xs.toList { s with heap := h1, toks := k }) :
    wpAny (model prog w) A (do
      match (← load p).data with
      | .seq ys _ => pure ys.toList
      | _ => unsupported "internal:collect") R E { s with heap := h1, toks := k } := wpAny_bind (wpAny_load e (wpAny_pure q))
theorem collect_tup {R : List Value → Shared → Prop} (l : Addr) {o : Obj} {xs : Array Value} {n : Nat} (e0 : s.heap.get? l = some o) (e1 : o.cls = .type "tuple") (e2 : o.data = .seq xs n)
    (q : ∀ h1, Kp s.heap h1 → R xs.toList { s with heap := h1 }) (hz : xs.size ≤ sizeLine) : wpAny (model prog w) A (collect (.ref l)) R E s := by
  unfold collect
  refine wpAny_bind (wpAny_runValue (codeAny_builtin (id := "proto.collect") F.entry_proto_collect ?_))
  rw [Around.under_plainId (id := "proto.collect") F.plain_proto_collect _]
  show wpAny _ A.in1 (do let z ← newList []; again (.builtin "list.__iadd__" ⟨[z, .ref l], []⟩)) _ _ s
  refine wpAny_bind (wpAny_newObj_type (wpAny_pure ⟨plainId_quiet (id := "list.__iadd__") F.plain_list_iadd _, codeAny_builtin F.entry_list_iadd ?_⟩))
  rw [Around.under_plainId (id := "list.__iadd__") F.plain_list_iadd _]
  generalize hm : s.heap.push { cls := .type "list", data := .seq ([] : List Value).toArray } = m
  have sz : m.objs.size = s.heap.objs.size + 1 := by rw [← hm]; exact Heap.size_push ..
  have at0 : m.get? s.heap.objs.size = some { cls := .type "list", data := .seq #[] 0 } := by rw [← hm]; exact Heap.get?_push_size _ rfl
  have old : ∀ b u, s.heap.get? b = some u → m.get? b = some u := fun b u z => by rw [← hm]; exact Heap.get?_push_of_some _ z
  show wpAny _ A.in1 (Builtin.List.listExtendWith (.ref s.heap.objs.size) (.ref l) (.ref s.heap.objs.size)) _ _ { s with heap := m }
  have at1 := Heap.get?_update_self (Obj.mapSeq (· ++ xs)) at0 rfl
  have fin : R xs.toList { s with heap := m.update s.heap.objs.size (Obj.mapSeq (· ++ xs)) } := q _ ⟨fun b u z => (Heap.get?_update_other _ _ (Nat.ne_of_gt (Heap.lt_size z))).trans (old b u z), by rw [Heap.size_update, sz]; exact Nat.le_succ _⟩
  have ea : ((#[] : Array Value) ++ xs).toList = xs.toList := by simp
  refine wpAny_mono (wpAny_extend_seq (hsz := hz) (A := A) (s := { s with heap := m }) (R := fun r s' => r = .ok (.ret (.ref s.heap.objs.size)) ∧ s' = { s with heap := m.update s.heap.objs.size (Obj.mapSeq (· ++ xs)) }) _ l _ 0 (.inr rfl) at0 (old l o e0) e1 e2 ⟨rfl, rfl⟩) (fun f s' z => ?_) (fun f s' z => absurd z.1 (by simp))
  have done1 : wpAny (model prog w) A (do
      match (← load s.heap.objs.size).data with
      | .seq ys _ => pure ys.toList
      | _ => unsupported "internal:collect") R E { s with heap := m.update s.heap.objs.size (Obj.mapSeq (· ++ xs)) } := wpAny_bind (wpAny_load at1 (wpAny_pure (by
        show R ((#[] : Array Value) ++ xs).toList _
        rw [ea]
        exact fin)))
  cases f with
  | done f =>
    obtain ⟨z1, rfl⟩ := z
    cases z1
    exact done1
  | again c =>
    refine ⟨z.1, codeAny_mono z.2 fun r s2 y => ?_⟩
    obtain ⟨rfl, rfl⟩ := y
    exact done1
/-- the items of what a source walks -/
theorem collect_src {R : List Value → Shared → Prop} {T : String} {r d : Addr} {n : Nat} {P : Nat → Value → Prop} {OK : Heap → Prop} (S : PySem.W.KdlSrc prog w T r d n P OK) (hh : A.handled = none) (hok : OK s.heap) (hn : n ≤ sizeLine)
    (q : ∀ h1 tk (xs : Array Value), Kp s.heap h1 → PySem.ItemsOf P xs n → R xs.toList { s with heap := h1, toks := tk }) : wpAny (model prog w) A (collect (.ref r)) R E s := by
  obtain ⟨lr, ld⟩ := S.there _ hok
  unfold collect
  refine wpAny_bind (wpAny_runValue (codeAny_builtin (id := "proto.collect") F.entry_proto_collect ?_))
  rw [Around.under_plainId (id := "proto.collect") F.plain_proto_collect _]
  show wpAny _ A.in1 (do let z ← newList []; again (.builtin "list.__iadd__" ⟨[z, .ref r], []⟩)) _ _ s
  refine wpAny_bind (wpAny_newObj_type (wpAny_pure ⟨plainId_quiet (id := "list.__iadd__") F.plain_list_iadd _, codeAny_builtin F.entry_list_iadd ?_⟩))
  rw [Around.under_plainId (id := "list.__iadd__") F.plain_list_iadd _]
  generalize hm : s.heap.push { cls := .type "list", data := .seq ([] : List Value).toArray } = m
  have at0 : m.get? s.heap.objs.size = some { cls := .type "list", data := .seq #[] 0 } := by rw [← hm]; exact Heap.get?_push_size _ rfl
  have old : ∀ b u, s.heap.get? b = some u → m.get? b = some u := fun b u z => by rw [← hm]; exact Heap.get?_push_of_some _ z
  show wpAny _ A.in1 (Builtin.List.listExtendWith (.ref s.heap.objs.size) (.ref r) (.ref s.heap.objs.size)) _ _ { s with heap := m }
  have fin : ∀ h1 tk (xs : Array Value) c, (∀ b o, b ≠ s.heap.objs.size → m.get? b = some o → h1.get? b = some o) → h1.get? s.heap.objs.size = some { cls := .type "list", dict := none, data := .seq xs c, slots := #[] } → PySem.ItemsOf P xs n →
      wpAny (model prog w) A (do
      match (← load s.heap.objs.size).data with
      | .seq ys _ => pure ys.toList
      | _ => unsupported "internal:collect") R E { s with heap := h1, toks := tk } := fun h1 tk xs c k1 e1 i1 => wpAny_bind (wpAny_load e1 (wpAny_pure (q h1 tk xs ⟨fun b o z => k1 b o (Nat.ne_of_lt (Heap.lt_size z)) (old b o z), Nat.le_of_lt (Heap.lt_size e1)⟩ i1)))
  have key := PySem.W.kdl_extend (A := A) (s := { s with heap := m }) (R := fun (y : Result) (s' : Shared) => ∃ h1 tk xs c, y = .ok (.ret (.ref s.heap.objs.size)) ∧ s' = { s with heap := h1, toks := tk } ∧ (∀ b o, b ≠ s.heap.objs.size → m.get? b = some o → h1.get? b = some o) ∧ h1.get? s.heap.objs.size = some { cls := .type "list", dict := none, data := .seq xs c, slots := #[] } ∧ PySem.ItemsOf P xs n)
    S hh (S.keep _ _ hok fun b _ o z => old b o z) s.heap.objs.size (Nat.ne_of_gt lr) (Nat.ne_of_gt ld) (.ref s.heap.objs.size) 0 at0 (fun h1 tk xs c k1 e1 i1 => ⟨h1, tk, xs, c, rfl, rfl, k1, e1, i1⟩) hn
  refine wpAny_mono key (fun f s' z => ?_) (fun f s' z => by obtain ⟨_, _, _, _, z, _⟩ := z; cases z)
  cases f with
  | done f =>
    obtain ⟨h1, tk, xs, c, z1, rfl, k1, e1, i1⟩ := z
    cases z1
    exact fin h1 tk xs c k1 e1 i1
  | again c =>
    refine ⟨z.1, codeAny_mono z.2 fun y s2 z2 => ?_⟩
    obtain ⟨h1, tk, xs, c, rfl, rfl, k1, e1, i1⟩ := z2
    exact fin h1 tk xs c k1 e1 i1
/-- sorted of what gives these values -/
theorem sorted_any {u : Value} {vs : List Value} {d : Nat} {B : Int} {Q : Value → Shared → Prop} (hc : ∀ R : List Value → Shared → Prop, (∀ h1 tk, Kp s.heap h1 → R vs { s with heap := h1, toks := tk }) → wpAny (model prog w) A.in1 (collect u) R E s)
    (h64 : vs.length < 64) (hd : 1 ≤ d) (x : TS.TupsOk s.heap d B vs)
    (h : ∀ h' tk p out c, Kp s.heap h' → s.heap.objs.size ≤ p → h'.get? p = some (seqObj "list" out c) → out.toList.Perm vs → out.toList.Pairwise (fun u v => TS.code B (TS.intsOf s.heap u) ≤ TS.code B (TS.intsOf s.heap v)) → Q (.ref p) { s with heap := h', toks := tk }) :
    wpAny (model prog w) A (call (.builtin "sorted") [u]) Q E s := by
  refine Calls.call_function_entry (id := "sorted") kind_sorted plain_sorted entry_sorted (args_sorted1 _) ?_
  unfold Builtin.«sorted»
  refine wpAny_bind (m := checkCount "sorted" 1 1 [u].length) (wpAny_pure ?_)
  refine wpAny_bind (hc _ fun h1 tk k1 => wpAny_bind (wpAny_newList ?_ (Nat.le_trans (Nat.le_of_lt h64) (by decide))))
  have hoL : (h1.push (seqObj "list" vs.toArray 0)).get? h1.objs.size = some (seqObj "list" vs.toArray 0) := Heap.get?_push_size _ rfl
  have k2 : ∀ b o, s.heap.get? b = some o → (h1.push (seqObj "list" vs.toArray 0)).get? b = some o := fun b o e => Heap.get?_push_of_some _ (k1.1 b o e)
  refine wpAny_bind (wpAny_holding (TS.call_sort_tups (s := { s with heap := h1.push (seqObj "list" vs.toArray 0), toks := tk }) hoL h64 hd (x.keeps fun b o e _ => k2 b o e) fun out a1 a2 => ?_))
  obtain ⟨c, e1⟩ := sortedHeap_at (vs := vs) (out := out) hoL
  have k3 : ∀ b o, s.heap.get? b = some o → (sortedHeap (h1.push (seqObj "list" vs.toArray 0)) h1.objs.size vs out).get? b = some o := fun b o e => by
    have lt := Heap.lt_size (k1.1 b o e)
    rw [sortedHeap_old (Nat.ne_of_lt lt) (by rw [size_push']; exact Nat.lt_succ_of_lt lt)]
    exact k2 b o e
  refine wpAny_pure ⟨_, rfl, h _ tk h1.objs.size out c ⟨k3, ?_⟩ k1.2 e1 a1 (a2.imp_of_mem fun {p q} hp hq hle => ?_)⟩
  · exact Nat.le_trans k1.2 (Nat.le_of_lt (Heap.lt_size e1))
  · obtain ⟨_, t1, _⟩ := x p (a1.mem_iff.mp hp)
    obtain ⟨_, t2, _⟩ := x q (a1.mem_iff.mp hq)
    have f1 := (t1.keeps (h' := h1.push (seqObj "list" vs.toArray 0)) fun b o e _ => k2 b o e).ints
    have f2 := (t2.keeps (h' := h1.push (seqObj "list" vs.toArray 0)) fun b o e _ => k2 b o e).ints
    rw [t1.ints, t2.ints]
    have hle : TS.code B (TS.intsOf (h1.push (seqObj "list" vs.toArray 0)) p) ≤ TS.code B (TS.intsOf (h1.push (seqObj "list" vs.toArray 0)) q) := hle
    rw [f1, f2] at hle
    exact hle
end

theorem perm_map_inv {α β : Type} (f : α → β) {ys zs : List β} (h : ys.Perm zs) : ∀ l : List α, zs = l.map f → ∃ l' : List α, l'.Perm l ∧ ys = l'.map f := by
  induction h with
  | nil =>
    intro l e
    cases l with
    | nil => exact ⟨[], .refl _, rfl⟩
    | cons _ _ => cases e
  | cons x p ih =>
    intro l e
    cases l with
    | nil => cases e
    | cons a l =>
      simp only [List.map_cons, List.cons.injEq] at e
      obtain ⟨l', p', e'⟩ := ih l e.2
      exact ⟨a :: l', p'.cons a, by rw [e.1, e', List.map_cons]⟩
  | swap x y l0 =>
    intro l e
    match l, e with
    | a :: b :: l, e =>
      simp only [List.map_cons, List.cons.injEq] at e
      exact ⟨b :: a :: l, .swap _ _ _, by simp [e.1, e.2.1, e.2.2]⟩
  | trans p q ihp ihq =>
    intro l e
    obtain ⟨l2, p2, e2⟩ := ihq l e
    obtain ⟨l1, p1, e1⟩ := ihp l2 e2
    exact ⟨l1, p1.trans p2, e1⟩
section
variable {K : PySem.W.Frag} {H : Hp} {A : Ad → Prop}
theorem sortP_rds {ds : List PyData} {vs ys : List V} {cs : List Int} (r : RDs K H A vs ds) (e : pairsC ds = some cs) (hp : ys.Perm vs) (hw : ys.Pairwise fun x y => ∀ n m, TupI K H x n → TupI K H y m → TS.code 64 n ≤ TS.code 64 m) : RDs K H A ys ((sortI cs).map unC) := by
  obtain ⟨ks, rfl, hcs, hk⟩ := pairs_sets r e
  obtain ⟨L, pL, rfl⟩ := perm_map_inv _ hp ks rfl
  have hc : L.map (fun p => TS.code 64 p.2) = sortI cs := by
    refine sorted_unique ((pL.map _).trans (by rw [hcs]; exact (sortI_perm cs).symm)) ?_ (sortI_sorted cs)
    rw [List.pairwise_map] at hw ⊢
    exact hw.imp_of_mem fun {p q} hp hq h => h _ _ ⟨_, rfl, (hk p (pL.mem_iff.mp hp)).1⟩ ⟨_, rfl, (hk q (pL.mem_iff.mp hq)).1⟩
  rw [← hc, List.map_map]
  exact rds_map _ _ fun q hq => (hk q (pL.mem_iff.mp hq)).2.2.2.1
theorem pairs_bd {ds : List PyData} {vs : List V} {cs : List Int} (r : RDs K H A vs ds) (e : pairsC ds = some cs) : ∀ x ∈ vs, ∃ ns, TupI K H x ns ∧ ns.length = 2 ∧ TS.Bd 64 ns := by
  obtain ⟨ks, rfl, hcs, hk⟩ := pairs_sets r e
  intro x hx
  obtain ⟨q, hq, rfl⟩ := List.mem_map.mp hx
  exact ⟨q.2, ⟨_, rfl, (hk q hq).1⟩, (hk q hq).2.1, (hk q hq).2.2.1⟩
end
section
variable {X : Cx}
/-- sorted(t), t a tuple of tuples of ints -/
def rSortTT (K : PySem.W.Frag) (d : Nat) (B : Int) : List V → Hp → VK → Prop := fun vs H Q => ∃ (a : Ad) (xs : List V), vs = [V.ref a] ∧ SqT K H a xs ∧ xs.length < 64 ∧ (∀ x ∈ xs, ∃ ns, TupI K H x ns ∧ ns.length = d ∧ TS.Bd B ns) ∧
  ∀ (ys : List V) (p : Ad), ys.Perm xs → (ys.Pairwise fun x y => ∀ n m, TupI K H x n → TupI K H y m → TS.code B n ≤ TS.code B m) → H p = none → Q (.ref p) (upd H p (.lst ys))
theorem refs_in {xs : List V} {us : List Value} (r : Vals xs us) (h : ∀ x ∈ xs, ∃ a, x = V.ref a) {v : Value} (hv : v ∈ us) : ∃ t, v = .ref t ∧ V.ref t ∈ xs := by
  obtain ⟨e1, e2⟩ := bkV_refs r h
  obtain ⟨t, rfl⟩ := e2 v hv
  exact ⟨t, rfl, by rw [e1]; exact List.mem_map.mpr ⟨_, hv, rfl⟩⟩
theorem cr_sortTT {d : Nat} {B : Int} (hd : 1 ≤ d) : CallR X (.builtin "sorted") (rSortTT X.K d B) := by
  intro pins s σ H vs us Q I r h
  obtain ⟨a, xs, rfl, hs, h64, hx, q⟩ := h
  obtain ⟨its, rv, ⟨o, ho, hc, n, hd'⟩, hz⟩ := I.tuple hs
  rw [Vals.ref1 r]
  have hr : ∀ x ∈ xs, ∃ a, x = V.ref a := fun x m => by
    obtain ⟨ns, ⟨t, e, _⟩, _⟩ := hx x m
    exact ⟨t, e⟩
  obtain ⟨e1, e2⟩ := bkV_refs rv hr
  have hl := rv.length
  refine sorted_any (d := d) (B := B) (vs := its) (fun R q => collect_tup a ho hc hd' (fun h1 k => by simpa using q h1 s.toks k) (by rw [List.size_toArray, ← hl]; exact hz)) (by rw [← hl]; exact h64) hd (fun v hv => ?_) fun h' tk p out c k hp hg h1 h2 => ?_
  · obtain ⟨t, rfl, hm⟩ := refs_in rv hr hv
    obtain ⟨ns, ⟨t', e, ht⟩, hn, hb⟩ := hx _ hm
    cases e
    exact ⟨ns, tupI_raw I ht, hn, hb⟩
  · have h3 : ∀ u ∈ out.toList, ∃ a, u = Value.ref a := fun u hu => e2 u (h1.mem_iff.mp hu)
    have hp' : (out.toList.map bkV).Perm xs := by rw [e1]; exact h1.map bkV
    refine ⟨.ref p, upd H p (.lst (out.toList.map bkV)), I.laid (t' := tk) k.1 hp ⟨by rw [hp'.length_eq]; exact hz, out.toList, c, bkV_vals h3, hg⟩, rfl, q _ p hp' ?_ (I.hok.fresh hp)⟩
    rw [List.pairwise_map]
    refine h2.imp fun {u v} huv n m hn hm => ?_
    obtain ⟨t, et, ht⟩ := hn
    obtain ⟨t', et', ht'⟩ := hm
    have eu := bkV_ref et
    have ev := bkV_ref et'
    subst eu ev
    rw [(tupI_raw I ht).ints, (tupI_raw I ht').ints] at huv
    exact huv
/-- sorted: of whole numbers, of pairs -/
@[simp] def gSortedD : W → Option (W × Bool)
  | .d (.list ds) => match intsOf ds with
    | some bs => some (.d (.list ((sortI bs).map .int)), true)
    | none => if ds.length < 64 then (pairsC ds).map fun cs => (.d (.list ((sortI cs).map unC)), true) else none
  | .d (.tuple ds) => if ds.length < 64 then (pairsC ds).map fun cs => (.d (.list ((sortI cs).map unC)), true) else none
  | _ => none
theorem og_sortedD : CallR X (.builtin "sorted") (rC1 X.K gSortedD) := by
  intro pins s σ H xs us Q I r h
  obtain ⟨x, rfl, A, w, r', tk, p, e, q⟩ := id h
  unfold gSortedD at e
  split at e
  · rename_i ds
    split at e
    · rename_i bs hb
      refine og_sorted pins s σ H _ us Q I r ⟨x, rfl, A, _, r', tk, p, ?_, q⟩
      show (intsOf ds).map _ = _
      rw [hb]
      exact e
    · split at e
      · rename_i hl
        cases hc : pairsC ds with
        | none => rw [hc] at e; cases e
        | some cs =>
          rw [hc] at e
          cases e
          obtain ⟨a, vs, rfl, e1, r1⟩ := p.lst
          refine cr_sortT (d := 2) (B := 64) (by decide) pins s σ H _ us Q I r ⟨a, vs, rfl, SqL.of e1, by rw [r1.length]; exact hl, pairs_bd r1 hc, fun ys b h1 h2 hb => ?_⟩
          exact q _ _ (.lst hb (sortP_rds r1 hc h1 h2))
      · cases e
  · rename_i ds
    split at e
    · rename_i hl
      cases hc : pairsC ds with
      | none => rw [hc] at e; cases e
      | some cs =>
        rw [hc] at e
        cases e
        obtain ⟨a, vs, rfl, e1, r1⟩ := p.tup
        refine cr_sortTT (d := 2) (B := 64) (by decide) pins s σ H _ us Q I r ⟨a, vs, rfl, e1, by rw [r1.length]; exact hl, pairs_bd r1 hc, fun ys b h1 h2 hb => ?_⟩
        exact q _ _ (.lst hb (sortP_rds r1 hc h1 h2))
    · cases e
  · cases e
/-! ### sorted(d.keys()) -/
/-- a key of two small numbers, by one number -/
def keyC : List Key → Option Int
  | [.inl x, .inl y] => if (0 ≤ x ∧ x < 64) ∧ (0 ≤ y ∧ y < 64) then some (x * 64 + y) else none
  | _ => none
def keysC : List (List Key) → Option (List Int)
  | [] => some []
  | d :: r => match keyC d, keysC r with
    | some c, some cs => some (c :: cs)
    | _, _ => none
theorem keyC_get {d : List Key} {c : Int} (h : keyC d = some c) : ∃ x y : Int, d = [.inl x, .inl y] ∧ (0 ≤ x ∧ x < 64) ∧ (0 ≤ y ∧ y < 64) ∧ c = x * 64 + y := by
  unfold keyC at h
  split at h
  · split at h
    · rename_i x y hl
      cases h
      exact ⟨x, y, rfl, hl.1, hl.2, rfl⟩
    · cases h
  · cases h
theorem keysC_mem : ∀ {ds : List (List Key)} {cs : List Int}, keysC ds = some cs → (∀ d ∈ ds, ∃ c, keyC d = some c) ∧ cs = ds.map fun d => (keyC d).getD 0
  | [], _, e => by cases e; exact ⟨by simp, rfl⟩
  | d :: ds, cs, e => by
    unfold keysC at e
    split at e
    · rename_i c cs' e1 e2
      cases e
      obtain ⟨h1, h2⟩ := keysC_mem e2
      refine ⟨fun x hx => ?_, by rw [List.map_cons, e1, h2]; rfl⟩
      rcases List.mem_cons.mp hx with rfl | hx
      · exact ⟨c, e1⟩
      · exact h1 x hx
    · cases e
def tSKeys (ta : TE) : TE := fun σ H Q => ta σ H fun x H1 => ∃ (a : Ad) (kvs : List (List Key × V)) (cs : List Int), x = .ref a ∧ Rd H1 a (.dT kvs) ∧ kvs.length < 64 ∧ keysC (kvs.map (·.1)) = some cs ∧
  ∀ (L : List (Ad × Int)) (p : Ad), L.map (·.2) = sortI cs → (∀ q ∈ L, ∃ i j : Int, H1 q.1 = some (.tup [.int i, .int j]) ∧ q.2 = i * 64 + j ∧ (0 ≤ j ∧ j < 64)) → H1 p = none → Q (.ref p) (upd H1 p (.lst (L.map fun q => V.ref q.1)))
theorem meets_keysT {prog : Program} {w : World} {d : Ad} {es : Array DictEntry} {ep : Nat} (hd : (d == sysModules) = false) :
    MeetsIn prog w (Builtin.«dict.keys» ⟨[.ref d], []⟩) (fun _ R s => DT.Raw s.heap d es ep ∧ R (.ok (.ret (.ref s.heap.objs.size))) { s with heap := s.heap.push { cls := .type "dict_keys", data := .fields #[.ref d] } }) :=
  .of_wp fun A R s ⟨hm, h⟩ => by
    unfold Builtin.«dict.keys»
    refine wpAny_bind ?_
    unfold Builtin.Dict.noArgs
    refine wpAny_bind (wpAny_notOrdered_dict hm.typeIs (wpAny_pure ?_))
    show wpAny _ A.in1 (Builtin.Dict.showsAll d >>= _) _ _ s
    unfold Builtin.Dict.showsAll
    rw [hd, if_neg (by decide)]
    exact wpAny_bind (wpAny_pure (wpAny_bind (wpAny_newObj_type (wpAny_pure ⟨_, rfl, h⟩))))
/-- sorted(d.keys()), the keys pairs of small numbers -/
@[simp] def gSkeys : W → Option (W × Bool)
  | .dt kvs => if kvs.length < 64 then (keysC (kvs.map (·.1))).map fun cs => (.d (.list ((sortI cs).map unC)), true) else none
  | _ => none
theorem boot_srt : bootBuiltins "sorted" = some (.builtin "sorted") := by decide +kernel
theorem paired_mem {α β : Type} {F : α → β → Prop} : ∀ {l : List α} {m : List β}, Paired F l m → ∀ y ∈ m, ∃ x ∈ l, F x y
  | _, _, .nil, y, hy => by cases hy
  | _, _, .cons r t, y, hy => by
    rcases List.mem_cons.mp hy with rfl | hy
    · exact ⟨_, List.mem_cons_self, r⟩
    · obtain ⟨x, hx, q⟩ := paired_mem t y hy
      exact ⟨x, List.mem_cons_of_mem _ hx, q⟩
theorem paired_map {α β γ : Type} {F : α → β → Prop} {f : α → γ} {g : β → γ} (h : ∀ a b, F a b → f a = g b) : ∀ {l : List α} {m : List β}, Paired F l m → l.map f = m.map g
  | _, _, .nil => rfl
  | _, _, .cons r t => by rw [List.map_cons, List.map_cons, h _ _ r, paired_map h t]
theorem pe_skeys {a : Expr} {ta : TE} {p ap q pos : Pos} (hcalm : X.calm = true) (hg : Gl X "sorted") (hm : X.mg "sorted" = none) (ha : PE X a ta) (hbase : attributeBase a "keys" X.env (eval a X.env) = eval a X.env) (hline : (ap.endLine == q.line) = true) :
    PE X (.Call (.Name "sorted" p) [.Call (.Attribute a "keys" ap) [] [] q] [] pos) (tSKeys ta) := by
  refine ⟨fun pins s σ H Q I h => ?_⟩
  refine Call_ (ld_blt I hg hm boot_srt ?_)
  refine PyProof.Rows.callWith_builtin1 (PyProof.Rows.args_cons ?_ rfl) rfl rfl
  refine wpAny_Call_method (T := "dict") (id := "dict.keys") hbase rfl hline F.plainAttrs_dict F.slot_dict_keys F.type_dict_keys (thn (ha.run pins s σ H _ I h) fun u s1 ⟨x, H1, I1, rx, d, kvs, cs, ex, hd, h64, hcs, k⟩ => ?_)
  subst ex
  obtain rfl : u = Value.ref d := rx
  obtain ⟨hz, hs, xs, rel, o, es, ep, ho, hx, hdat, hes, hks, hnd⟩ := dt_rd I1.hok hd
  refine ⟨⟨o, ho, hx.1⟩, fun b q' => ?_, ?_⟩
  · cases q'
    exact ⟨o, ho, hx.2.1⟩
  show wpAny _ _ (callWith q (.builtin "dict.keys") [.ref d] [] []) _ X.xe s1
  refine method_meetsIn F.slot_dict_keys F.entry_dict_keys rfl (PySem.evalArgs_none ⟨rfl, ⟨o, ho, hx.1⟩, F.args_dict_keys_1 _, _, meets_keysT (es := es) (ep := ep) hs, ⟨⟨o, ho, hx, hdat⟩, ?_⟩⟩)
  refine PyProof.Rows.args_nil ?_
  have hh : X.A.handled = none := I1.ok.hd hcalm
  have l1 : kvs.length = xs.length := Paired.length rel
  have l2 : es.size = xs.length := by rw [← Array.length_toList, hes, List.length_map]
  obtain ⟨hk1, hk2⟩ := keysC_mem hcs
  -- the keys, as they are tracked
  have key : ∀ y ∈ xs, ∃ i j : Int, H1 y.2.1 = some (.tup [.int i, .int j]) ∧ (keyC y.1).getD 0 = i * 64 + j ∧ (0 ≤ i ∧ i < 64) ∧ (0 ≤ j ∧ j < 64) := by
    intro y hy
    obtain ⟨kv, hkv, r1, r2, _⟩ := paired_mem rel y hy
    obtain ⟨c, hc⟩ := hk1 kv.1 (List.mem_map_of_mem hkv)
    obtain ⟨i, j, e, hi, hj, rfl⟩ := keyC_get hc
    refine ⟨i, j, ?_, by rw [← r1, hc]; rfl, hi, hj⟩
    rw [r2, e]
    rfl
  generalize hm2 : s1.heap.push { cls := .type "dict_keys", data := .fields #[.ref d] } = m
  have old : ∀ b u, s1.heap.get? b = some u → m.get? b = some u := fun b u z => by rw [← hm2]; exact Heap.get?_push_of_some _ z
  have vw : m.get? s1.heap.objs.size = some { cls := .type "dict_keys", data := .fields #[.ref d] } := by rw [← hm2]; exact Heap.get?_push_size _ rfl
  have I2 : L2.Inv X pins σ H1 { s1 with heap := m } := I1.kept (t' := s1.toks) old
  have raw : ∀ y ∈ xs, ∀ i j : Int, H1 y.2.1 = some (.tup [.int i, .int j]) → TS.TupInts m (.ref y.2.1) [i, j] := fun y _ i j e => tupI_raw (ns := [i, j]) I2 (.inl (.inl e))
  refine sorted_any (s := { s1 with heap := m }) (d := 2) (B := 64) (vs := xs.map fun y => Value.ref y.2.1) (fun R q' => ?_) (by rw [List.length_map, ← l1]; exact h64) (by decide) (fun v hv => ?_) fun h' tk p' out c k' hp hg' h1 h2 => ?_
  · refine collect_src (s := { s1 with heap := m }) (PySem.KdlSrc.rawKeys (es := es) (ep := ep)) hh ⟨⟨_, vw, rfl, rfl⟩, o, old _ _ ho, hx, hdat⟩ (by rw [l2, ← l1]; exact Nat.le_trans (Nat.le_of_lt h64) (by decide)) fun h1 tk acc kp it => ?_
    have e : acc.toList = xs.map fun y => Value.ref y.2.1 := by
      apply List.ext_getElem?
      intro i
      by_cases hi : i < xs.length
      · have hi2 : i < acc.size := by rw [it.1, l2]; exact hi
        obtain ⟨h3, h4⟩ := it.2 i acc[i] (Array.getElem?_eq_getElem hi2)
        have h5 : es[i] = entryOfKey (tupleKind (mixKind X.prog X.w)) xs[i] := by
          have : es.toList[i]'(by simpa using h3) = (xs.map (entryOfKey (tupleKind (mixKind X.prog X.w))))[i]'(by simpa using hi) := List.getElem_of_eq hes _
          rw [List.getElem_map] at this
          rw [← this]
          simp
        rw [Array.getElem?_toList, Array.getElem?_eq_getElem hi2, h4, h5, List.getElem?_map, List.getElem?_eq_getElem hi]
        rfl
      · rw [List.getElem?_eq_none (by rw [Array.length_toList, it.1, l2]; omega), List.getElem?_eq_none (by rw [List.length_map]; omega)]
    rw [e]
    exact q' h1 tk kp
  · obtain ⟨y, hy, rfl⟩ := List.mem_map.mp hv
    obtain ⟨i, j, e1, _, bi, bj⟩ := key y hy
    refine ⟨[i, j], raw y hy i j e1, rfl, fun z hz => ?_⟩
    simp only [List.mem_cons, List.not_mem_nil, or_false] at hz
    rcases hz with rfl | rfl
    · exact bi
    · exact bj
  · obtain ⟨L, pL, eL⟩ := perm_map_inv _ h1 xs rfl
    have code : ∀ y ∈ xs, TS.code 64 (TS.intsOf m (.ref y.2.1)) = (keyC y.1).getD 0 := fun y hy => by
      obtain ⟨i, j, e1, e2, _⟩ := key y hy
      rw [(raw y hy i j e1).ints, code_pair, e2]
    have hn : H1 p' = none := I2.hok.fresh hp
    have hsort : (L.map fun y => (keyC y.1).getD 0) = sortI cs := by
      refine sorted_unique ?_ ?_ (sortI_sorted cs)
      · refine (pL.map _).trans ?_
        have : (xs.map fun y => (keyC y.1).getD 0) = cs := by
          rw [hk2, List.map_map]
          exact (paired_map (fun a b r => by rw [Function.comp, r.1]) rel).symm
        rw [this]
        exact (sortI_perm cs).symm
      · rw [eL, List.pairwise_map] at h2
        rw [List.pairwise_map]
        refine h2.imp_of_mem fun {u v} hu hv hle => ?_
        rw [← code u (pL.mem_iff.mp hu), ← code v (pL.mem_iff.mp hv)]
        exact hle
    refine ⟨.ref p', upd H1 p' (.lst (L.map fun y => V.ref y.2.1)), I2.laid (t' := tk) k'.1 hp ⟨by rw [List.length_map, pL.length_eq, ← l1]; exact Nat.le_trans (Nat.le_of_lt h64) (by decide), out.toList, c, ?_, hg'⟩, rfl, ?_⟩
    · rw [eL]
      clear hsort eL pL
      induction L with
      | nil => exact .nil
      | cons a L ih => exact .cons rfl ih
    · have := k (L.map fun y => (y.2.1, (keyC y.1).getD 0)) p' (by rw [List.map_map]; exact hsort) (fun q' hq' => ?_) hn
      · rw [List.map_map] at this
        exact this
      · obtain ⟨y, hy, rfl⟩ := List.mem_map.mp hq'
        obtain ⟨i, j, e1, e2, _, bj⟩ := key y (pL.mem_iff.mp hy)
        exact ⟨i, j, e1, e2, bj⟩
theorem rG1_skeys {x : V} {H : Hp} {Q : VK} (h : rG1 X.K gSkeys x H Q) : ∃ (a : Ad) (kvs : List (List Key × V)) (cs : List Int), x = .ref a ∧ Rd H a (.dT kvs) ∧ kvs.length < 64 ∧ keysC (kvs.map (·.1)) = some cs ∧
    ∀ (L : List (Ad × Int)) (p : Ad), L.map (·.2) = sortI cs → (∀ q ∈ L, ∃ i j : Int, H q.1 = some (.tup [.int i, .int j]) ∧ q.2 = i * 64 + j ∧ (0 ≤ j ∧ j < 64)) → H p = none → Q (.ref p) (upd H p (.lst (L.map fun q => V.ref q.1))) := by
  obtain ⟨A, w, r, tk, p, e, q⟩ := h
  unfold gSkeys at e
  split at e
  · rename_i kvs
    split at e
    · rename_i hl
      cases hc : keysC (kvs.map (·.1)) with
      | none => rw [hc] at e; cases e
      | some cs =>
        rw [hc] at e
        cases e
        obtain ⟨a, rfl, l, e1, e2, _⟩ := p.dt
        have ll : l.length = kvs.length := by have := congrArg List.length e2; simpa using this
        refine ⟨a, l, cs, rfl, .inl e1, by rw [ll]; exact hl, by rw [e2]; exact hc, fun L b h1 h2 hb => q _ _ (.lst hb ?_)⟩
        rw [← h1, List.map_map]
        refine rds_map _ _ fun z hz => ?_
        obtain ⟨i, j, e3, e4, bj⟩ := h2 z hz
        show RD X.K H A (.ref z.1) (unC z.2)
        rw [e4, unC_code bj]
        exact .tup e3 (tk.notup e3) (.cons (.int i) (.cons (.int j) .nil)) rfl
    · cases e
  · cases e
/-! ### dict(pairs), the keys tuples -/
theorem pairsT_of {pins : List (Ad × Obj)} {σ : L2.St} {H : Hp} {s : Shared} (I : L2.Inv X pins σ H s) : ∀ {ps : List Ad} {kvs : List (List Key × V)}, Paired (fun p kv => ∃ b, SqT X.K H p [.ref b, kv.2] ∧ H b = some (.tup (kv.1.map kV))) ps kvs →
    ∃ qs : List (List Key × Ad × Value), KT H kvs qs ∧ qs.length = ps.length ∧ ∀ (j : Nat) q, qs[j]? = some q → ∃ p, ps[j]? = some p ∧ s.heap.IsTuple p #[.ref q.2.1, q.2.2]
  | _, _, .nil => ⟨[], .nil, rfl, fun j q e => by simp at e⟩
  | _, _, .cons (a := p) (b := kv) h t => by
    obtain ⟨qs, r, hl, hp⟩ := pairsT_of I t
    obtain ⟨b, hs, hb⟩ := h
    obtain ⟨its, rv, ht, _⟩ := I.tuple hs
    obtain ⟨u, y, ei, ru, ry⟩ := vals2 rv
    subst ei
    cases ru
    refine ⟨(kv.1, b, y) :: qs, .cons ⟨rfl, hb, ry⟩ r, by simp [hl], fun j q e => ?_⟩
    cases j with
    | zero =>
      cases e
      exact ⟨p, rfl, ht⟩
    | succ j =>
      obtain ⟨p', e1, e2⟩ := hp j q (by simpa using e)
      exact ⟨p', by simpa using e1, e2⟩
theorem call_dictT (hcalm : X.calm = true) (hu : X.A.units + 64 < cLine) : CallR X (.type "dict") (fun xs H Q => ∃ (a : Ad) (ps : List Ad) (kvs : List (List Key × V)), xs = [.ref a] ∧ SqL X.K H a (ps.map V.ref) ∧ Paired (fun p kv => ∃ b, SqT X.K H p [.ref b, kv.2] ∧ H b = some (.tup (kv.1.map kV))) ps kvs ∧
    (kvs.map (·.1)).Nodup ∧ ∀ p, H p = none → Q (.ref p) (upd H p (.dT kvs))) := by
  intro pins s σ H xs us Q I r q
  obtain ⟨a, ps, kvs, rfl, hq, hp, hn, q⟩ := q
  obtain ⟨u, rfl, rx⟩ := vals1 r
  cases rx
  obtain ⟨its, rv, pl, hz⟩ := I.list hq
  have ei := refs_at rv
  subst ei
  rw [List.length_map] at hz
  obtain ⟨qs, rel, hl, hpr⟩ := pairsT_of I hp
  have hkl : kvs.length = qs.length := Paired.length rel
  have hk : (qs.map (·.1)).Nodup := by
    have := paired_map (f := fun p : List Key × V => p.1) (g := fun q : List Key × Ad × Value => q.1) (fun a b r => r.1) rel
    rw [← this]
    exact hn
  have key : ∀ y ∈ qs, H y.2.1 = some (.tup (y.1.map kV)) := fun y hy => by
    obtain ⟨kv, _, e1, e2, _⟩ := paired_mem rel y hy
    rw [← e1]
    exact e2
  let T : Nat → Ad := fun j => ps.getD j 0
  have hT : ∀ j p, ps[j]? = some p → T j = p := fun j p e => by show ps.getD j 0 = p; rw [List.getD_eq_getElem?_getD, e]; rfl
  have PA := PySem.PairArg.list (prog := X.prog) (w := X.w) a (ps.map Value.ref).toArray T (qs.map fun y => (Value.ref y.2.1, y.2.2))
  have hm : (s.heap.objs.size == sysModules) = false := beq_eq_false_iff_ne.mpr (Nat.ne_of_gt I.big)
  obtain ⟨o, n, ho, hc, hd, hdat⟩ := pl
  refine PySem.call_dict_pairsH (knd := tupleKind (mixKind X.prog X.w)) (ps := qs) PA (I.ok.hd hcalm) (by show X.A.units + 1 + 1 < cLine; omega) ⟨⟨o, n, ho, hc, hd, hdat⟩, by simp [hl], fun j k v e => ?_⟩ ⟨by simp, fun i k v e => ?_⟩ (fun h' hk' y hy => ?_) (by rw [List.length_map, hl]; exact hz) fun h' tk hd' k => ?_
  · rw [List.getElem?_map] at e
    cases hj : qs[j]? with
    | none => rw [hj] at e; cases e
    | some y =>
      rw [hj] at e
      cases e
      obtain ⟨p, e1, e2⟩ := hpr j y hj
      rw [hT j p e1]
      exact ⟨by simp [e1], .inl e2⟩
  · have e : (qs.map fun y => (Value.ref y.2.1, y.2.2))[i]? = some (k, v) := e
    rw [List.getElem?_map] at e
    cases hj : qs[i]? with
    | none => rw [hj] at e; cases e
    | some y =>
      rw [hj] at e
      cases e
      exact ⟨y.1, y.2.1, rfl, rfl⟩
  · obtain ⟨o2, i2, n2, h1, h2⟩ := key_of (P := X.prog) (w := X.w) I.hok (key y hy)
    exact ⟨o2, i2, n2, hk' _ _ (Nat.ne_of_lt (Heap.lt_size h1)) (by simp) h1, h2⟩
  · rw [PySem.storedAllH_nil_of_nodup qs hk] at hd'
    obtain ⟨o2, es, ep, h1, h2, h3, h4, _, h5⟩ := hd'
    have hf := I.hok.fresh (Nat.le_refl s.heap.objs.size)
    refine ⟨.ref s.heap.objs.size, upd H s.heap.objs.size (.dT kvs), I.laid (t' := tk) (fun b u e => k b u (by simp) e) (Nat.le_refl _) ?_, rfl, q _ hf⟩
    refine ⟨by rw [hkl, hl]; exact hz, hm, qs, rel.keeps (fun b ys e => ?_), o2, es, ep, h1, h2, h3, h4, h5⟩
    rw [upd_ne (ne_of_none e hf)]
    exact e
/-- pairs of a key, a tuple of whole numbers, and a thing -/
@[simp] def pairsT : List PyData → Option (List (List Key × PyData))
  | [] => some []
  | .tuple [.tuple k, v] :: r => match intsOf k, pairsT r with
    | some k, some q => some ((k.map .inl, v) :: q)
    | _, _ => none
  | _ :: _ => none
@[simp] def gDictT : W → Option (W × Bool)
  | .d (.list ds) => match pairsT ds with
    | some kvs => if (kvs.map (·.1)).Nodup then some (.dt kvs, true) else none
    | none => none
  | _ => none
theorem pairsT_get {K : PySem.W.Frag} {H : Hp} {A : Ad → Prop} : ∀ {ds : List PyData} {vs : List V} {kvs : List (List Key × PyData)}, RDs K H A vs ds → pairsT ds = some kvs →
    ∃ (ps : List Ad) (l : List (List Key × V)), vs = ps.map V.ref ∧ Paired (fun p kv => ∃ b, SqT K H p [.ref b, kv.2] ∧ H b = some (.tup (kv.1.map kV))) ps l ∧ l.map (·.1) = kvs.map (·.1) ∧ RDs K H A (l.map (·.2)) (kvs.map (·.2))
  | [], _, _, .nil, e => by
    cases e
    exact ⟨[], [], rfl, .nil, rfl, .nil⟩
  | d :: ds, _, _, .cons (v := v) r rs, e => by
    unfold pairsT at e
    split at e
    · cases ‹_ :: _ = []›
    · rename_i dk dv ds' q
      cases q
      split at e
      · rename_i k q ek eq
        cases e
        obtain ⟨ps, l, rfl, h1, h2, h3⟩ := pairsT_get rs eq
        obtain ⟨a, us, rfl, hs, r2⟩ := RD.tupS r
        cases r2 with
        | cons ra rb =>
          cases rb with
          | cons rb rc =>
            cases rc
            obtain ⟨b, rfl, hb⟩ := RD.keyT ra ek
            exact ⟨a :: ps, (k.map .inl, _) :: l, rfl, .cons ⟨b, hs, hb⟩ h1, by simp [h2], .cons rb h3⟩
      · cases e
    · cases e
theorem og_dictT (hc : X.calm = true) (hu : X.A.units + 64 < cLine) : CallR X (.type "dict") (rC1 X.K gDictT) := by
  intro pins s σ H xs us Q I r h
  obtain ⟨x, rfl, A, w, r', tk, p, e, q⟩ := h
  unfold gDictT at e
  split at e
  · split at e
    · rename_i ds kvs hk
      split at e
      · rename_i hn
        cases e
        obtain ⟨a, vs, rfl, e1, r1⟩ := p.lst
        obtain ⟨ps, l, rfl, h1, h2, h3⟩ := pairsT_get r1 hk
        refine call_dictT hc hu pins s σ H _ us Q I r ⟨a, ps, l, rfl, SqL.of e1, h1, by rw [h2]; exact hn, fun b hb => q _ _ ?_⟩
        exact ⟨keep_laid hb, b, rfl, hb, l, upd_same, h2, h3.laid hb, hn⟩
      · cases e
    · cases e
  · cases e
end
end Hil
/-! HilE: every second of a list; the least of triples. -/
namespace Hil
open PySem PySem.Spec PyProof.Rows L2 PySem.W
/-- which ones: from 0 or from 1 on, every second -/
def stpIx (b : Bool) (n : Nat) : List Nat := sliceRange (if b = true then ((min 1 n : Nat) : Int) else 0) n 2
def stpD {α : Type} (b : Bool) (xs : List α) : List α := (stpIx b xs.length).filterMap fun i => xs[i]?
@[simp] def gStp (b : Bool) : W → Option (W × Bool)
  | .d (.list ds) => some (.d (.list (stpD b ds)), true)
  | _ => none
theorem pick_vals {xs : List V} {us : List Value} (r : Vals xs us) : ∀ l : List Nat, Vals (l.filterMap fun i => xs[i]?) (l.filterMap fun i => us[i]?)
  | [] => .nil
  | i :: l => by
    have ih := pick_vals r l
    rw [List.filterMap_cons, List.filterMap_cons]
    cases e : xs[i]? with
    | none =>
      have : us[i]? = none := by
        rw [List.getElem?_eq_none_iff] at e ⊢
        rw [← r.length]
        exact e
      rw [this]
      exact ih
    | some x =>
      obtain ⟨u, h1, h2⟩ := r.get e
      rw [h1]
      exact .cons h2 ih
theorem pick_rds {K : PySem.W.Frag} {H : Hp} {A : Ad → Prop} {vs : List V} {ds : List PD} (r : RDs K H A vs ds) : ∀ l : List Nat, RDs K H A (l.filterMap fun i => vs[i]?) (l.filterMap fun i => ds[i]?)
  | [] => .nil
  | i :: l => by
    have ih := pick_rds r l
    have key : ∀ {vs : List V} {ds : List PD} (i : Nat), RDs K H A vs ds → (vs[i]? = none ∧ ds[i]? = none) ∨ ∃ v d, vs[i]? = some v ∧ ds[i]? = some d ∧ RD K H A v d := by
      intro vs ds i r
      induction i generalizing vs ds with
      | zero => cases r with
        | nil => exact .inl ⟨rfl, rfl⟩
        | cons a b => exact .inr ⟨_, _, rfl, rfl, a⟩
      | succ i ih => cases r with
        | nil => exact .inl ⟨rfl, rfl⟩
        | cons a b => simpa using ih b
    rw [List.filterMap_cons, List.filterMap_cons]
    rcases key i r with ⟨h1, h2⟩ | ⟨v, d, h1, h2, h3⟩
    · rw [h1, h2]
      exact ih
    · rw [h1, h2]
      exact .cons h3 ih
theorem stp_pick (b : Bool) (items : Array Value) : slicePick items (if b = true then some 1 else none) none (some 2) = (stpD b items.toList).toArray := by
  unfold slicePick stpD stpIx
  have h : sliceBounds (if b = true then some 1 else none) none (some 2) items.size = ((if b = true then ((min 1 items.size : Nat) : Int) else 0), (items.size : Int), 2) := by
    cases b with
    | false => simp [sliceBounds]
    | true =>
      simp [sliceBounds]
      omega
  rw [h, Array.length_toList]
  simp
def tStpL (K : PySem.W.Frag) (b : Bool) (te : TE) : TE := fun σ H Q => te σ H fun x H1 => ∃ a xs, x = .ref a ∧ SqL K H1 a xs ∧ ∀ p, H1 p = none → Q (.ref p) (upd H1 p (.lst (stpD b xs)))
def loE (b : Bool) (p : Pos) (k : Nat) : Option Expr := if b = true then some (.Constant (.int 1) k p) else none
theorem stpD_le {α : Type} (b : Bool) (xs : List α) : (stpD b xs).length ≤ xs.length := by
  unfold stpD stpIx
  refine Nat.le_trans (List.length_filterMap_le _ _) ?_
  have := sliceRange_len_le (if b = true then ((min 1 xs.length : Nat) : Int) else 0) xs.length 2 (by decide)
  have h2 : (2 : Int) > 0 := by decide
  simp only [h2, if_true] at this
  cases b <;> simp at this ⊢ <;> omega
section
variable {X : Cx}
theorem pe_stpL {b : Bool} {e : Expr} {te : TE} {k k2 : Nat} {p1 p2 p3 pos : Pos} (he : PE X e te) : PE X (.Subscript e (.Slice (loE b p1 k) none (some (.Constant (.int 2) k2 p2)) p3) pos) (tStpL X.K b te) := by
  refine ⟨fun pins s σ H Q I h => ?_⟩
  refine Subscript_ (thn (he.run pins s σ H _ I h) fun v s1 ⟨x, H1, I1, r1, a, xs, ex, hx, q⟩ => ?_)
  subst ex
  cases r1
  have hlo : ∀ s1 H1, Inv X pins σ H1 s1 → wpAny (model X.prog X.w) X.A (evalPart (loE b p1 k) X.env) (fun vl s2 => IsPart vl (if b = true then some 1 else none) ∧ Inv X pins σ H1 s2) X.xe s1 := fun s1 H1 I1 => by
    cases b with
    | false => exact thn (po_none.run pins s1 σ H1 (fun o H2 => o = none ∧ H2 = H1) I1 ⟨rfl, rfl⟩) fun vl s2 ⟨l, H2, I2, pl, el, e2⟩ => by subst el e2; exact ⟨pl, I2⟩
    | true => exact thn ((po_some pe_int : PO X (some (.Constant (.int 1) k p1)) (tPart (tC (.int 1)))).run pins s1 σ H1 (fun o H2 => o = some 1 ∧ H2 = H1) I1 ⟨1, rfl, rfl, rfl⟩) fun vl s2 ⟨l, H2, I2, pl, el, e2⟩ => by subst el e2; exact ⟨pl, I2⟩
  refine wpAny_Slice (thn (hlo s1 H1 I1) fun vl s2 ⟨pl, I2⟩ => ?_)
  refine thn (po_none.run pins s2 σ H1 (fun o H3 => o = none ∧ H3 = H1) I2 ⟨rfl, rfl⟩) fun vu s3 ⟨u, H3, I3, pu, eu, e3⟩ => ?_
  subst eu e3
  refine thn ((po_some pe_int : PO X (some (.Constant (.int 2) k2 p2)) (tPart (tC (.int 2)))).run pins s3 σ _ (fun o H4 => o = some 2 ∧ H4 = _) I3 ⟨2, rfl, rfl, rfl⟩) fun vs s4 ⟨o, H4, I4, ps, eo, e4⟩ => ?_
  subst eo e4
  have I5 : Inv X pins σ _ { s4 with heap := s4.heap.push { cls := .type "slice", data := .fields #[vl, vu, vs] } } := I4.kept (t' := s4.toks) fun b ob q => Heap.get?_push_of_some _ q
  obtain ⟨its, r, ht, hz⟩ := I5.list hx
  have hlen := r.length
  show wpAny (model X.prog X.w) X.A (subscriptTail e (.Slice (loE b p1 k) none (some (.Constant (.int 2) k2 p2)) p3) (.ref a) (.ref s4.heap.objs.size)) (EP X pins σ Q) X.xe { s4 with heap := s4.heap.push { cls := .type "slice", data := .fields #[vl, vu, vs] } }
  refine tail_any (ops := [.ref a, .ref s4.heap.objs.size])
    ht.isList.typeIs (PySem.slot_list_getitem.lookup)
    ?_ (by with_unfolding_all rfl)
  refine wpAny_getItem_list_slice ht.isList
    (Heap.IsSliceOf.new _ vl vu vs) pl pu ps
    (by decide) ?_ (by rw [List.size_toArray]; omega)
  rw [stp_pick]
  refine ⟨.ref _, _, I5.laid (t' := s4.toks) (o := .lst (stpD b xs)) (fun b ob q => Heap.get?_push_of_some _ q) (Nat.le_refl _) ?_, rfl, q _ (I5.hok.fresh (Nat.le_refl _))⟩
  refine ⟨Nat.le_trans (stpD_le b xs) hz, _, 0, ?_, Heap.get?_push_size _ rfl⟩
  show Vals (stpD b xs) (stpD b its)
  unfold stpD
  rw [hlen]
  exact pick_vals r _
end
/-! ### the least of triples -/
def isTrip : PD → Bool
  | .tuple [.int _, .int _, .int _] => true
  | _ => false
theorem isTrip_get {x : PD} (h : isTrip x = true) : ∃ a b c : Int, x = .tuple [.int a, .int b, .int c] := by
  unfold isTrip at h
  split at h
  · exact ⟨_, _, _, rfl⟩
  · cases h
def minT : List PD → Option PD
  | [] => none
  | d :: r => if (d :: r).all isTrip = true then some (minD d r) else none
theorem minT_cons (d : PD) (r : List PD) : minT (d :: r) = if (d :: r).all isTrip = true then some (minD d r) else none := rfl
@[simp] def gMinD : W → Option (W × Bool)
  | .d (.list ds) => match intsOf ds with
    | some (n :: ns) => some (.d (.int (minI (n :: ns))), false)
    | _ => (minT ds).map fun d => (.d d, false)
  | _ => none
theorem trip_depth : ∀ {ds : List PD}, ds.all isTrip = true → PyData.depthAll ds ≤ 1
  | [], _ => Nat.zero_le _
  | d :: r, h => by
    rw [List.all_cons, Bool.and_eq_true] at h
    obtain ⟨a, b, c, rfl⟩ := isTrip_get h.1
    have ih := trip_depth h.2
    simp only [PyData.depthAll, PyData.depth]
    simp
    omega
section
variable {X : Cx}
theorem og_minD (hc : X.calm = true) (hu : X.A.units + 64 < cLine) : CallR X (.builtin "min") (rC1 X.K gMinD) := by
  intro pins s σ H xs us Q I r h
  obtain ⟨x, rfl, A, w, r', tk, p, e, q⟩ := id h
  unfold gMinD at e
  split at e
  · rename_i ds
    split at e
    · rename_i n ns hn
      refine og_min hc pins s σ H _ us Q I r ⟨x, rfl, A, _, r', tk, p, ?_, q⟩
      show (match intsOf ds with | some (n :: ns) => _ | _ => none) = _
      rw [hn]
      exact e
    · obtain ⟨m, hm, rfl⟩ := Option.map_eq_some_iff.mp e
      cases ds with
      | nil => cases hm
      | cons d ds =>
        rw [minT_cons] at hm
        by_cases ht : (d :: ds).all isTrip = true
        · rw [if_pos ht] at hm
          cases hm
          obtain ⟨a, vs, rfl, e1, r1⟩ := p.lst
          obtain ⟨d1, -⟩ := p.dp
          rw [Vals.ref1 r]
          obtain ⟨as, rr⟩ := Dp.reads I _ _ _ d1 rfl
          cases rr with
          | list h1 h2 h3 h4 =>
            rename_i o its n as
            obtain ⟨its', rv, hl, _⟩ := I.list (SqL.of e1)
            have ei : its = its'.toArray := by
              obtain ⟨o', k1, k2, n', k3⟩ := hl.isList
              rw [h1] at k1
              cases k1
              rw [h3] at k3
              cases k3
              rfl
            subst ei
            have al : AlikeAll (d :: ds) := by
              constructor
              · intro x hx y hy
                obtain ⟨a, b, c, rfl⟩ := isTrip_get (List.all_eq_true.mp ht x hx)
                obtain ⟨a', b', c', rfl⟩ := isTrip_get (List.all_eq_true.mp ht y hy)
                rfl
              · intro x hx e
                obtain ⟨a, b, c, rfl⟩ := isTrip_get (List.all_eq_true.mp ht x hx)
                cases e
            have hd := trip_depth ht
            refine min_list_data (I.ok.hd hc) hl.isList h4 al (by show X.A.units + 1 + _ < _; omega) fun i v h' tk' bs hv hR hk => ?_
            have hv' : its'[i]? = some v := by simpa using hv
            obtain ⟨x, hx, rx⟩ : ∃ x, vs[i]? = some x ∧ RelV x v := by
              have hi : i < vs.length := by
                rw [rv.length]
                exact (List.getElem?_eq_some_iff.mp hv').1
              obtain ⟨u, h1, h2⟩ := rv.get (List.getElem?_eq_getElem hi)
              rw [hv'] at h1
              cases h1
              exact ⟨_, List.getElem?_eq_getElem hi, h2⟩
            obtain ⟨y, hy, ry⟩ : ∃ y, (d :: ds)[i]? = some y ∧ RD X.K H A x y := by
              have hi : i < vs.length := (List.getElem?_eq_some_iff.mp hx).1
              have := pick_rds r1 [i]
              simp only [List.filterMap_cons, List.filterMap_nil, hx] at this
              cases e3 : (d :: ds)[i]? with
              | none => rw [e3] at this; cases this
              | some y => rw [e3] at this; cases this with | cons a b => exact ⟨y, rfl, a⟩
            obtain ⟨bs', rR⟩ := Dp.reads I _ x v (RD.dp ry) rx
            obtain ⟨e4, -⟩ := reads_det (fun b o z _ => hk b o z) rR hR
            rw [e4] at q
            exact ⟨x, H, I.kept hk, rx, q _ _ (.val ry)⟩
        · rw [if_neg ht] at hm
          cases hm
  · cases e
end
end Hil
/-! HilF: set of a tuple of pairs; chains of three. -/
namespace L2
open PySem PySem.Spec PyProof.Rows
section
variable {P : Program} {w : World} {A : Around}
variable {E : Value → Shared → Prop} {s : Shared}
theorem set_of_tuple {l : Addr} {items : Array Value} (ks : List (Addr × List Int)) {Q : Value → Shared → Prop} (hdl0 : A.handled = none) (tp0 : s.heap.IsTuple l items) (itE : items.toList = ks.map fun p => Value.ref p.1)
    (kE : ∀ p ∈ ks, IsT P w s.heap p.2 p.1) (few : ks.length < 64) (uE : A.units + 3 < cLine)
    (h : ∀ (hp : Heap) (tok : Nat) L es e0 t, SetTR P w hp s.heap.objs.size L es e0 t → Got ks ks.length L → (∀ b o, s.heap.get? b = some o → hp.get? b = some o) → Q (.ref s.heap.objs.size) { s with heap := hp, toks := tok }) :
      wpAny (model P w) A (call (.type "set") [.ref l])
        Q E s := by
  have lenI : items.size = ks.length := by
    have qq := congrArg List.length itE
    rwa [Array.length_toList, List.length_map] at qq
  obtain ⟨c, tl, mr⟩ := F.called_set.mro
  have md := F.called_set.made
  have sbs := F.called_set.sub
  refine wpAny_call (codeAny_of_tree
    (?_ : wpAny _ _ (callAny (.type "set") _) _ _ _))
  refine wpAny_pure
    ⟨Code.quiet_builtin _ (by decide +kernel),
      codeAny_builtin F.entry_type_call ?_⟩
  have wt := weight_type_call_type "set" [.ref l] []
  rw [Around.under_plain wt rfl]
  have nt1 := F.called_set.notType
  have cc2 := F.called_set.canCreate
  have ctl := F.typeCall_set_1 (.ref l)
  repeat
    any_goals first
      | assumption
      | wp_step

  refine codeAny_mono (code_set_led1 (.ref l) (E := E) (Q₁ := fun ob sA => ob = .ref s.heap.objs.size ∧ sA = { s with heap := s.heap.push { cls := .type "set", dict := none, data := .set #[] 0 (.fresh 0 0 (!w.params.followText "set-order")) } }) ⟨rfl, rfl⟩) fun r sA rr => ?_
  cases r with
  | error e => exact rr
  | ok f1 =>
    cases f1 with
    | ret ob =>
      obtain ⟨rfl, rfl⟩ := rr
      have oS : (s.heap.push { cls := .type "set", dict := none, data := .set #[] 0 (.fresh 0 0 (!w.params.followText "set-order")) }).get? s.heap.objs.size = some { cls := .type "set", dict := none, data := .set #[] 0 (.fresh 0 0 (!w.params.followText "set-order")) } := Heap.get?_push_size _ rfl
      have tS : Shared.TypeIs { s with heap := s.heap.push { cls := .type "set", dict := none, data := .set #[] 0 (.fresh 0 0 (!w.params.followText "set-order")) } } (.ref s.heap.objs.size) "set" := ⟨_, oS, rfl⟩
      have lin := F.called_set.init.lookup
      have bin := F.called_set.init.bind (.ref s.heap.objs.size)
      repeat
        any_goals first
          | assumption
          | wp_step

      refine codeAny_mono (codeAny_call_builtin (R := wants (fun r sB => r = .none ∧ ∃ hp tok L es e0 t, sB = { s with heap := hp, toks := tok } ∧ SetTR P w hp s.heap.objs.size L es e0 t ∧ Got ks ks.length L ∧
          (∀ b o, s.heap.get? b = some o → hp.get? b = some o)) E) F.called_set.init.plain F.entry_set_init (check_set_init_1 tS ?_)) fun rB sB rr2 => ?_
      · obtain ⟨oo, ob1, cl1, nn, dt1⟩ := tp0
        obtain ⟨k1, k2, k3, k4⟩ := oo
        simp only at cl1 dt1
        subst cl1; subst dt1
        have ob2 : (s.heap.push { cls := .type "set", dict := none, data := .set #[] 0 (.fresh 0 0 (!w.params.followText "set-order")) }).get? l = some { cls := .type "tuple", dict := k2, data := .seq items nn, slots := k4 } := Heap.get?_push_of_some _ ob1
        have sl1 := F.sub_tuple_set
        have sl2 := F.sub_tuple_frozenset
        have nq : (Value.type "tuple" == Value.type "dict") = false := by decide
        have tp1 : (s.heap.push { cls := .type "set", dict := none, data := .set #[] 0 (.fresh 0 0 (!w.params.followText "set-order")) }).IsTuple l items := ⟨_, ob2, rfl, nn, rfl⟩
        unfold Builtin.«set.__init__»
        unfold noKeywords
        unfold Builtin.Frozenset.updateFrom
        generalize pIe : pyIter = pIt
        wp_walk
        subst pIe

        refine wpAny_pyIter_tuple tp1
          (wpAny_bind (wpAny_runValue ?_))
        have ltS : l < s.heap.objs.size := Heap.lt_size ob1
        have hd3 : A.in1.in1.in1.handled = none := by simp [hdl0]
        have zz1 : (s.heap.push { cls := .type "set", dict := none, data := .set #[] 0 (.fresh 0 0 (!w.params.followText "set-order")) }).objs.size = s.heap.objs.size + 1 := Heap.size_push ..
        have nqI : l ≠ (s.heap.push { cls := .type "set", dict := none, data := .set #[] 0 (.fresh 0 0 (!w.params.followText "set-order")) }).objs.size := by
          rw [Heap.size_push]; exact Nat.ne_of_lt (Nat.lt_succ_of_lt ltS)
        have nfS : s.heap.objs.size ∉ [(s.heap.push { cls := .type "set", dict := none, data := .set #[] 0 (.fresh 0 0 (!w.params.followText "set-order")) }).objs.size, l] := by
          rw [Heap.size_push]
          simp only [List.mem_cons, List.not_mem_nil]
          simp only [or_false, not_or]
          exact ⟨Nat.ne_of_lt (Nat.lt_succ_self _), Nat.ne_of_gt ltS⟩
        have vals : ∀ (i : Nat) (v : Value), items[i]? = some v → ∃ p, ks[i]? = some p ∧ v = .ref p.1 := fun i v vv => by
          have qq : items.toList[i]? = some v := by rw [Array.getElem?_toList]; exact vv
          rw [itE, List.getElem?_map] at qq
          cases qe : ks[i]? with
          | none => rw [qe] at qq; cases qq
          | some p =>
            rw [qe] at qq
            exact ⟨p, rfl, (Option.some.inj qq).symm⟩
        have noneA : ∀ b, s.heap.objs.size ≤ b → s.heap.get? b = none := fun b bb => by
          cases qq : s.heap.get? b with
          | none => rfl
          | some o => exact absurd (Nat.lt_of_lt_of_le (Heap.lt_size qq) bb) (Nat.lt_irrefl _)
        refine set_update_tups ((Walks.tuple hd3 _ l nqI items).toS) s.heap.objs.size
          nfS ks lenI few vals s.heap kE (noneA _ (Nat.le_refl _)) (fun b bb => noneA b (by
            rw [List.mem_singleton.mp bb, Heap.size_push]
            exact Nat.le_succ _)) uE (items.size - 0) 0 _ (by omega) (Nat.zero_le _)
          ⟨⟨_, Heap.get?_push_size _ rfl, rfl, rfl⟩, (tp1.push _)⟩ (fun b o e => Heap.get?_push_of_some _ (Heap.get?_push_of_some _ e)) ?hS0 ?hR
        case hS0 =>
          have got1 : ((s.heap.push { cls := .type "set", dict := none, data := .set #[] 0 (.fresh 0 0 (!w.params.followText "set-order")) }).push { cls := .type "tuple_iterator", data := .fields #[.ref l, .int 0 0] }).get? s.heap.objs.size
              = some { cls := .type "set", dict := none, data := .set #[] 0 (.fresh 0 0 (!w.params.followText "set-order")) } := Heap.get?_push_of_some _ oS
          exact ⟨[], #[], 0, _, setTR_fresh got1, Got.zero ks⟩
        case hR =>
          intro sC L es e0 t mv oS1 gt1 keep2
          obtain ⟨hp, gg, dd, tok1, osC⟩ := sC
          have e_g : gg = s.gens := mv.gens
          have e_d : dd = s.drawn := mv.drawn
          have e_o : osC = s.os := mv.os
          subst e_g; subst e_d; subst e_o
          show wpAny _ _ _ _ _ _
          refine wpAny_pure
            (?_ : wpAny _ _ (ret Value.none) _ _ _)
          rw [lenI] at gt1
          exact wpAny_pure ⟨rfl, hp, tok1, L, es, e0, t, rfl, oS1, gt1, keep2⟩

      · cases rB with
        | error e => exact rr2
        | ok f2 =>
          cases f2 with
          | ret r =>
            obtain ⟨rfl, hp, tok, L, es, e0, t, rfl, oS1, gt1, keep1⟩ := rr2
            repeat
              any_goals first
                | assumption
                | wp_step
            exact h _ _ _ _ _ _ oS1 gt1 keep1
          | _ => exact rr2.elim
    | _ => exact rr.elim
end
section
variable {X : Cx}
/-- set(t), t a tuple of tuples of ints -/
def rSetOfU (K : PySem.W.Frag) (P : Program) (w : World) : List V → Hp → VK → Prop := fun xs H Q => ∃ (l : Addr) (ks : List (Addr × List Int)), xs = [V.ref l] ∧ SqT K H l (ks.map fun p => V.ref p.1) ∧
  (∀ p ∈ ks, SqT K H p.1 (p.2.map V.int)) ∧ ks.length < 64 ∧ ∀ a L, H a = none → (∀ p ∈ L, p ∈ ks) → (∀ p ∈ ks, p.2 ∈ L.map (·.2)) → Q (.ref a) (upd H a (SetTO P w a L))
theorem cr_setOfU (hc : X.calm = true) (hu : X.A.units + 64 < cLine) : CallR X (.type "set") (rSetOfU X.K X.prog X.w) := by
  intro pn s σ H vs us Q I r h
  obtain ⟨l, ks, rfl, tl, kk, few, q⟩ := h
  rw [Vals.ref1 r]
  obtain ⟨its, rv, ⟨o, ho, oc, n, od⟩, -⟩ := I.tuple tl
  refine set_of_tuple (P := X.prog) (w := X.w) (items := its.toArray) ks (I.ok.hd hc) ⟨o, ho, oc, n, od⟩ (by simpa using refs_of_vals rv) (fun p hp => I.isT (kk p hp)) few (by omega) fun hp tok L es e0 t R g k => ?_
  exact ⟨.ref s.heap.objs.size, upd H s.heap.objs.size (SetTO X.prog X.w s.heap.objs.size L), I.laid (t' := tok) k (Nat.le_refl _) (setTO_new R.t0), rfl, q _ L (I.hok.fresh (Nat.le_refl _)) (fun p hp => List.mem_of_mem_take (g.sub p hp)) fun p hp => g.all p (by rw [List.take_length]; exact hp)⟩
/-- a list or a tuple of them -/
theorem cr_setOfB (hc : X.calm = true) (hu : X.A.units + 64 < cLine) : CallR X (.type "set") (fun xs H Q => rSetOfT X.K X.prog X.w xs H Q ∨ rSetOfU X.K X.prog X.w xs H Q) := by
  intro pn s σ H vs us Q I r h
  rcases h with h | h
  · exact cr_setOfT hc hu pn s σ H vs us Q I r h
  · exact cr_setOfU hc hu pn s σ H vs us Q I r h
/-! ### a op1 b op2 c op3 d -/
variable {a b c d : Expr} {ta tb tc td : TE} {pos : Pos}
def tChain3 (r1 r2 r3 : R2) (ta tb tc td : TE) : TE := fun σ H Q => ta σ H fun x H1 => tb σ H1 fun y H2 => r1 x y H2 fun z H3 => ∃ k, z = .bl k ∧
  (if k = true then tc σ H3 fun u H4 => r2 y u H4 fun z2 H5 => ∃ k2, z2 = .bl k2 ∧ (if k2 = true then td σ H5 fun v H6 => r3 u v H6 Q else Q (.bl false) H5) else Q (.bl false) H3)
theorem pe_chain3 {p q m : CmpOp} {r1 r2 r3 : R2} (h1 : OpR X (compareOp p) r1) (h2 : OpR X (compareOp q) r2) (h3 : OpR X (compareOp m) r3) (ha : PE X a ta) (hb : PE X b tb) (hc : PE X c tc) (hd : PE X d td)
    (hm : lastMarks [p, q, m] [b, c, d] = false) : PE X (.Compare a [p, q, m] [b, c, d] pos) (tChain3 r1 r2 r3 ta tb tc td) := by
  refine ⟨fun pn s σ H Q I h => ?_⟩
  refine Compare_chain (thn (ha.run pn s σ H _ I h) fun v s1 ⟨x, H1, I1, rx, q1⟩ => chain_link (thn (hb.run pn s1 σ H1 _ I1 q1) fun u s2 ⟨y, H2, I2, ry, q2⟩ => thn (h1 pn s2 σ H2 x y v u _ I2 rx ry q2) fun e s3 ⟨z, H3, I3, rz, k, ez, z3⟩ => ?_)) hm
  subst ez
  cases rz
  refine wpAny_truthy_bool ?_
  cases k with
  | false => exact ite_ff ⟨.bl false, H3, I3, rfl, z3⟩
  | true =>
    refine ite_tt (chain_link (thn (hc.run pn s3 σ H3 _ I3 z3) fun w' s4 ⟨z', H4, I4, rw', q4⟩ => thn (h2 pn s4 σ H4 y z' u w' _ I4 ry rw' q4) fun e2 s5 ⟨z2, H5, I5, rz2, k2, ez2, q5⟩ => ?_))
    subst ez2
    cases rz2
    refine wpAny_truthy_bool ?_
    cases k2 with
    | false => exact ite_ff ⟨.bl false, H5, I5, rfl, q5⟩
    | true => exact ite_tt (chain_last (thn (hd.run pn s5 σ H5 _ I5 q5) fun v' s6 ⟨z6, H6, I6, r6, q6⟩ => h3 pn s6 σ H6 z' z6 w' v' Q I6 rw' r6 q6))
theorem pt_chain3 {p q m : CmpOp} {r1 r2 r3 : R2} (h1 : OpR X (compareOp p) r1) (h2 : OpR X (compareOp q) r2) (h3 : OpR X (compareOp m) r3) (ha : PE X a ta) (hb : PE X b tb) (hc : PE X c tc) (hd : PE X d td)
    (hm : lastMarks [p, q, m] [b, c, d] = false) : PT X (.Compare a [p, q, m] [b, c, d] pos) (tTest (tChain3 r1 r2 r3 ta tb tc td)) := by
  refine ⟨fun pn s σ H Q I h => ?_⟩
  refine isTrue_chain (thn (ha.run pn s σ H _ I h) fun v s1 ⟨x, H1, I1, rx, q1⟩ => test_link (thn (hb.run pn s1 σ H1 _ I1 q1) fun u s2 ⟨y, H2, I2, ry, q2⟩ => thn (h1 pn s2 σ H2 x y v u _ I2 rx ry q2) fun e s3 ⟨z, H3, I3, rz, k, ez, z3⟩ => ?_)) hm
  subst ez
  cases rz
  refine wpAny_truthy_bool ?_
  cases k with
  | false =>
    obtain ⟨k', e', q'⟩ := z3
    cases e'
    exact ite_ff ⟨H3, I3, q'⟩
  | true =>
    refine ite_tt (test_link (thn (hc.run pn s3 σ H3 _ I3 z3) fun w' s4 ⟨z', H4, I4, rw', q4⟩ => thn (h2 pn s4 σ H4 y z' u w' _ I4 ry rw' q4) fun e2 s5 ⟨z2, H5, I5, rz2, k2, ez2, q5⟩ => ?_))
    subst ez2
    cases rz2
    refine wpAny_truthy_bool ?_
    cases k2 with
    | false =>
      obtain ⟨k', e', q'⟩ := q5
      cases e'
      exact ite_ff ⟨H5, I5, q'⟩
    | true =>
      refine ite_tt (test_last (thn (hd.run pn s5 σ H5 _ I5 q5) fun v' s6 ⟨z6, H6, I6, r6, q6⟩ => thn (h3 pn s6 σ H6 z' z6 w' v' _ I6 rw' r6 q6) fun e3 s7 ⟨z7, H7, I7, r7, k7, e7, q7⟩ => ?_))
      subst e7
      cases r7
      exact wpAny_truthy_bool ⟨H7, I7, q7⟩
end
end L2
namespace Hil
open PySem PySem.Spec PyProof.Rows L2
@[simp] def gSsetB : W → Option (W × Bool)
  | .d (.list ds) => if ds.length < 64 then (pairsC ds).map fun cs => (.d (.list ((sortU cs).map unC)), true) else none
  | .d (.tuple ds) => if ds.length < 64 then (pairsC ds).map fun cs => (.d (.list ((sortU cs).map unC)), true) else none
  | _ => none
theorem rG1_ssetB {X : Cx} {x : V} {H : Hp} {Q : VK} (h : rG1 X.K gSsetB x H Q) : (fun xs H Q => rSetOfT X.K X.prog X.w xs H Q ∨ rSetOfU X.K X.prog X.w xs H Q) [x] H fun z H2 => rSortedT X.K X.prog X.w [z] H2 Q := by
  obtain ⟨A, w, r, tk, p, e, q⟩ := h
  unfold gSsetB at e
  split at e
  · rename_i ds
    exact .inl (rG1_sset ⟨A, _, r, tk, p, e, q⟩)
  · rename_i ds
    split at e
    · rename_i hlen
      cases q' : pairsC ds with
      | none => rw [q'] at e; cases e
      | some cs =>
        rw [q'] at e
        cases e
        obtain ⟨a, vs, rfl, sq, r1⟩ := p.tup
        obtain ⟨ks, rfl, hcs, hk⟩ := pairs_sets r1 q'
        have hkl : ks.length < 64 := by
          have := r1.length
          rw [List.length_map] at this
          omega
        exact .inr ⟨a, ks, rfl, sq, fun p hp => (hk p hp).1, hkl, fun b L hb hsub hall => sset_cont hcs hk q hb hsub hall⟩
    · cases e
  · cases e
end Hil
/-! HilG: set of a list of ints. -/
namespace L2
open PySem PySem.Spec PyProof.Rows
section
variable {P : Program} {w : World} {A : Around}
variable {E : Value → Shared → Prop} {s : Shared}
theorem set_of_ints {l : Addr} {items : Array Value} (ns : List Int) {Q : Value → Shared → Prop} (hdl0 : A.handled = none) (tp0 : s.heap.IsList l items) (itE : IntsAre items.toList ns) (roomE : ns.length + 1 < scanBound)
    (h : ∀ (hp : Heap) (tok c : Nat), SetR w hp s.heap.objs.size (fun j => decide (j ∈ ns)) c → c ≤ ns.length → (∀ b o, s.heap.get? b = some o → hp.get? b = some o) → Q (.ref s.heap.objs.size) { s with heap := hp, toks := tok }) :
      wpAny (model P w) A (call (.type "set") [.ref l])
        Q E s := by
  have lenI : items.size = ns.length := by
    have qq := IntsAre.length itE
    rw [Array.length_toList] at qq
    exact qq
  obtain ⟨c, tl, mr⟩ := F.called_set.mro
  have md := F.called_set.made
  have sbs := F.called_set.sub
  refine wpAny_call (codeAny_of_tree
    (?_ : wpAny _ _ (callAny (.type "set") _) _ _ _))
  refine wpAny_pure
    ⟨Code.quiet_builtin _ (by decide +kernel),
      codeAny_builtin F.entry_type_call ?_⟩
  have wt := weight_type_call_type "set" [.ref l] []
  rw [Around.under_plain wt rfl]
  have nt1 := F.called_set.notType
  have cc2 := F.called_set.canCreate
  have ctl := F.typeCall_set_1 (.ref l)
  repeat
    any_goals first
      | assumption
      | wp_step

  refine codeAny_mono (code_set_led1 (.ref l) (E := E) (Q₁ := fun ob sA => ob = .ref s.heap.objs.size ∧ sA = { s with heap := s.heap.push { cls := .type "set", dict := none, data := .set #[] 0 (.fresh 0 0 (!w.params.followText "set-order")) } }) ⟨rfl, rfl⟩) fun r sA rr => ?_
  cases r with
  | error e => exact rr
  | ok f1 =>
    cases f1 with
    | ret ob =>
      obtain ⟨rfl, rfl⟩ := rr
      have oS : (s.heap.push { cls := .type "set", dict := none, data := .set #[] 0 (.fresh 0 0 (!w.params.followText "set-order")) }).get? s.heap.objs.size = some { cls := .type "set", dict := none, data := .set #[] 0 (.fresh 0 0 (!w.params.followText "set-order")) } := Heap.get?_push_size _ rfl
      have tS : Shared.TypeIs { s with heap := s.heap.push { cls := .type "set", dict := none, data := .set #[] 0 (.fresh 0 0 (!w.params.followText "set-order")) } } (.ref s.heap.objs.size) "set" := ⟨_, oS, rfl⟩
      have lin := F.called_set.init.lookup
      have bin := F.called_set.init.bind (.ref s.heap.objs.size)
      repeat
        any_goals first
          | assumption
          | wp_step

      refine codeAny_mono (codeAny_call_builtin (R := wants (fun r sB => r = .none ∧ ∃ hp tok c, sB = { s with heap := hp, toks := tok } ∧ SetR w hp s.heap.objs.size (fun j => decide (j ∈ ns)) c ∧ c ≤ ns.length ∧
          (∀ b o, s.heap.get? b = some o → hp.get? b = some o)) E) F.called_set.init.plain F.entry_set_init (check_set_init_1 tS ?_)) fun rB sB rr2 => ?_
      · obtain ⟨oo, ob1, cl1, nn, dt1⟩ := tp0
        obtain ⟨k1, k2, k3, k4⟩ := oo
        simp only at cl1 dt1
        subst cl1; subst dt1
        have ob2 : (s.heap.push { cls := .type "set", dict := none, data := .set #[] 0 (.fresh 0 0 (!w.params.followText "set-order")) }).get? l = some { cls := .type "list", dict := k2, data := .seq items nn, slots := k4 } := Heap.get?_push_of_some _ ob1
        have sl1 := F.sub_list_set
        have sl2 := F.sub_list_frozenset
        have nq : (Value.type "list" == Value.type "dict") = false := by decide
        have tp1 : (s.heap.push { cls := .type "set", dict := none, data := .set #[] 0 (.fresh 0 0 (!w.params.followText "set-order")) }).IsList l items := ⟨_, ob2, rfl, nn, rfl⟩
        unfold Builtin.«set.__init__»
        unfold noKeywords
        unfold Builtin.Frozenset.updateFrom
        generalize pIe : pyIter = pIt
        wp_walk
        subst pIe

        refine wpAny_pyIter_list tp1
          (wpAny_bind (wpAny_runValue ?_))
        have ltS : l < s.heap.objs.size := Heap.lt_size ob1
        have hd3 : A.in1.in1.in1.handled = none := by simp [hdl0]
        have zz1 : (s.heap.push { cls := .type "set", dict := none, data := .set #[] 0 (.fresh 0 0 (!w.params.followText "set-order")) }).objs.size = s.heap.objs.size + 1 := Heap.size_push ..
        have nqI : l ≠ (s.heap.push { cls := .type "set", dict := none, data := .set #[] 0 (.fresh 0 0 (!w.params.followText "set-order")) }).objs.size := by
          rw [Heap.size_push]; exact Nat.ne_of_lt (Nat.lt_succ_of_lt ltS)
        have nfS : s.heap.objs.size ∉ [(s.heap.push { cls := .type "set", dict := none, data := .set #[] 0 (.fresh 0 0 (!w.params.followText "set-order")) }).objs.size, l] := by
          rw [Heap.size_push]
          simp only [List.mem_cons, List.not_mem_nil]
          simp only [or_false, not_or]
          exact ⟨Nat.ne_of_lt (Nat.lt_succ_self _), Nat.ne_of_gt ltS⟩
        have vals : ∀ (i : Nat) (v : Value), items[i]? = some v → ∃ k t, ns[i]? = some k ∧ v = .int k t := fun i v vv => by
          have iE : i < ns.length := by rw [← lenI]; exact (Array.getElem?_eq_some_iff.mp vv).1
          obtain ⟨t, e⟩ := PyProof.Rows.IntsAre.int_at itE i v (by rw [Array.getElem?_toList]; exact vv)
          refine ⟨ns[i], t, List.getElem?_eq_getElem iE, ?_⟩
          rw [e, List.getD_eq_getElem?_getD, List.getElem?_eq_getElem iE] <;> rfl
        refine set_update_ints ((Walks.list hd3 _ l nqI items).toS) s.heap.objs.size
          nfS ns lenI roomE vals (items.size - 0) 0 _ (by omega) (Nat.zero_le _)
          ⟨⟨_, Heap.get?_push_size _ rfl, rfl, rfl⟩, (tp1.push _)⟩ ?hS0 ?hR
        case hS0 =>
          have got1 : ((s.heap.push { cls := .type "set", dict := none, data := .set #[] 0 (.fresh 0 0 (!w.params.followText "set-order")) }).push { cls := .type "list_iterator", data := .fields #[.ref l, .int 0 0] }).get? s.heap.objs.size
              = some { cls := .type "set", dict := none, data := .set #[] 0 (.fresh 0 0 (!w.params.followText "set-order")) } := Heap.get?_push_of_some _ oS
          exact ⟨0, Nat.le_refl 0, setR_new_at got1⟩
        case hR =>
          intro sC cc mv ccE oS1
          obtain ⟨hp, gg, dd, tok1, osC⟩ := sC
          have e_g : gg = s.gens := mv.gens
          have e_d : dd = s.drawn := mv.drawn
          have e_o : osC = s.os := mv.os
          subst e_g; subst e_d; subst e_o
          show wpAny _ _ _ _ _ _
          refine wpAny_pure
            (?_ : wpAny _ _ (ret Value.none) _ _ _)
          rw [lenI] at ccE
          refine wpAny_pure ⟨rfl, hp, tok1, cc, rfl, oS1, ccE, fun b o e => ?_⟩
          have b0E : b < s.heap.objs.size := Heap.lt_size e
          have b1E : b ≠ s.heap.objs.size := Nat.ne_of_lt b0E
          have b2E : b ≠ (s.heap.push { cls := .type "set", dict := none, data := .set #[] 0 (.fresh 0 0 (!w.params.followText "set-order")) }).objs.size := by
            rw [Heap.size_push]; exact Nat.ne_of_lt (Nat.lt_succ_of_lt b0E)
          exact mv.heap b o (by simp only [List.mem_cons, List.mem_singleton, List.not_mem_nil, or_false, not_or]; exact ⟨b1E, b2E⟩) (Heap.get?_push_of_some _ (Heap.get?_push_of_some _ e))

      · cases rB with
        | error e => exact rr2
        | ok f2 =>
          cases f2 with
          | ret r =>
            obtain ⟨rfl, hp, tok, cc, rfl, oS1, ccE, keep1⟩ := rr2
            repeat
              any_goals first
                | assumption
                | wp_step
            exact h _ _ _ oS1 ccE keep1
          | _ => exact rr2.elim
    | _ => exact rr.elim
end
section
variable {X : Cx}
/-- set(l), l a list of ints -/
def rSetI (K : PySem.W.Frag) (w : World) : List V → Hp → VK → Prop := fun xs H Q => ∃ (l : Addr) (ns : List Int), xs = [V.ref l] ∧ SqL K H l (ns.map V.int) ∧ ns.length < 64 ∧ ∀ a c, H a = none → c ≤ ns.length → Q (.ref a) (upd H a (SetO w a (fun j => decide (j ∈ ns)) c))
theorem cr_setI (hc : X.calm = true) : CallR X (.type "set") (rSetI X.K X.w) := by
  intro pn s σ H vs us Q I r h
  obtain ⟨l, ns, rfl, tl, few, q⟩ := h
  rw [Vals.ref1 r]
  obtain ⟨its, rv, pl, -⟩ := I.list tl
  refine set_of_ints (P := X.prog) (w := X.w) ns (I.ok.hd hc) pl.isList (by simpa using rv.ints) (by unfold scanBound; omega) fun hp tok c R hcn k => ?_
  exact ⟨.ref s.heap.objs.size, upd H s.heap.objs.size (SetO X.w s.heap.objs.size (fun j => decide (j ∈ ns)) c), I.laid (t' := tok) k (Nat.le_refl _) (setO_new R), rfl, q _ c (I.hok.fresh (Nat.le_refl _)) hcn⟩
theorem cr_setOfC (hc : X.calm = true) (hu : X.A.units + 64 < cLine) : CallR X (.type "set") (fun xs H Q => (rSetOfT X.K X.prog X.w xs H Q ∨ rSetOfU X.K X.prog X.w xs H Q) ∨ rSetI X.K X.w xs H Q) := by
  intro pn s σ H vs us Q I r h
  rcases h with h | h
  · exact cr_setOfB hc hu pn s σ H vs us Q I r h
  · exact cr_setI hc pn s σ H vs us Q I r h
theorem cr_sortedC (hc : X.calm = true) : CallR X (.builtin "sorted") (fun vs H Q => rSortedT X.K X.prog X.w vs H Q ∨ rSortedSet X.w vs H Q) := by
  intro pn s σ H vs us Q I r h
  rcases h with h | h
  · exact cr_sortedT hc pn s σ H vs us Q I r h
  · exact cr_sortedSet hc pn s σ H vs us Q I r h
end
end L2
namespace Hil
open PySem PySem.Spec PyProof.Rows L2
@[simp] def gSsetC : W → Option (W × Bool)
  | .d (.list ds) => if ds.length < 64 then (match pairsC ds with
    | some cs => some (.d (.list ((sortU cs).map unC)), true)
    | none => (intsOf ds).map fun ns => (.d (.list ((sortU ns).map .int)), true)) else none
  | .d (.tuple ds) => if ds.length < 64 then (pairsC ds).map fun cs => (.d (.list ((sortU cs).map unC)), true) else none
  | _ => none
theorem rG1_ssetC {X : Cx} {x : V} {H : Hp} {Q : VK} (h : rG1 X.K gSsetC x H Q) : (fun xs H Q => (rSetOfT X.K X.prog X.w xs H Q ∨ rSetOfU X.K X.prog X.w xs H Q) ∨ rSetI X.K X.w xs H Q) [x] H fun z H2 => rSortedT X.K X.prog X.w [z] H2 Q ∨ rSortedSet X.w [z] H2 Q := by
  have up : ∀ {x : V} {H : Hp}, ((fun xs H Q => rSetOfT X.K X.prog X.w xs H Q ∨ rSetOfU X.K X.prog X.w xs H Q) [x] H fun z H2 => rSortedT X.K X.prog X.w [z] H2 Q) → (fun xs H Q => rSetOfT X.K X.prog X.w xs H Q ∨ rSetOfU X.K X.prog X.w xs H Q) [x] H fun z H2 => rSortedT X.K X.prog X.w [z] H2 Q ∨ rSortedSet X.w [z] H2 Q := by
    intro x H h
    rcases h with ⟨l, ks, h1, h2, h3, h4, h5⟩ | ⟨l, ks, h1, h2, h3, h4, h5⟩
    · exact .inl ⟨l, ks, h1, h2, h3, h4, fun a L z1 z2 z3 => .inl (h5 a L z1 z2 z3)⟩
    · exact .inr ⟨l, ks, h1, h2, h3, h4, fun a L z1 z2 z3 => .inl (h5 a L z1 z2 z3)⟩
  obtain ⟨A, w, r, tk, p, e, q⟩ := h
  unfold gSsetC at e
  split at e
  · rename_i ds
    split at e
    · rename_i hlen
      split at e
      · rename_i cs hcs
        refine .inl (up (rG1_ssetB ⟨A, _, r, tk, p, ?_, q⟩))
        show (if ds.length < 64 then (pairsC ds).map fun cs => (W.d (.list ((sortU cs).map unC)), true) else none) = _
        rw [if_pos hlen, hcs]
        first
          | exact e
          | done
      · obtain ⟨ns, hn, rfl⟩ := Option.map_eq_some_iff.mp e
        obtain ⟨a, vs, rfl, e1, r1⟩ := p.lst
        rw [intsOf_eq hn] at r1
        have hl : ns.length < 64 := by
          have := congrArg List.length (intsOf_eq hn)
          rw [List.length_map] at this
          omega
        rw [r1.ints] at e1
        refine .inr ⟨a, ns, rfl, SqL.of e1, hl, fun b c hb hc => .inr ⟨b, _, c, rfl, upd_same, by omega, fun ms p' hs hm hml hp' => ?_⟩⟩
        have hpb : p' ≠ b := fun z => by rw [z, upd_same] at hp'; cases hp'
        have hp0 : H p' = none := by rw [upd_ne hpb] at hp'; exact hp'
        have em : ms = sortU ns := strict_unique (fun z => by rw [hm, sortU_mem]; simp) hs (sortU_sorted ns)
        subst em
        have rr : RDs X.K H A ((sortU ns).map V.int) ((sortU ns).map PyData.int) := rds_map _ _ fun z _ => .int z
        have kp : ∀ c' o, H c' = some o → upd H b (SetO X.w b (fun j => decide (j ∈ ns)) c) c' = some o := keep_laid hb
        refine q _ _ ⟨fun d o ed => ?_, p', rfl, hp0, _, upd_same, (rr.laid0 hb).laid hp'⟩
        rw [upd_ne (fun z => by rw [z, hp0] at ed; cases ed)]
        exact kp d o ed
    · cases e
  · rename_i ds
    exact .inl (up (rG1_ssetB ⟨A, _, r, tk, p, e, q⟩))
  · cases e
end Hil
/-! Hil4: a small syntax, what it is worth, how it is read off the text. -/
namespace Hil
open PySem PySem.Spec PyProof.Rows L2

inductive O1 where
  | len | list | tuple | all | any | sum | max | min | int | isi (t : Ty) | non | nnon | not | neg | rev | dict | sorted | sset | skeys | dictT | stp (b : Bool)
inductive O2 where
  | add | sub | mul | div | mod | pow | eq | ne | lt | le | gt | ge | isB | isntB | inn | nin | ix | max2 | min2 | lrg
@[simp] def gNon : W → Option (W × Bool)
  | .d .none => some (.d (.bool true), false)
  | .d _ => some (.d (.bool false), false)
  | _ => none
@[simp] def gNnon : W → Option (W × Bool)
  | .d .none => some (.d (.bool false), false)
  | .d _ => some (.d (.bool true), false)
  | _ => none
@[simp] def gNot : W → Option (W × Bool)
  | .d (.bool b) => some (.d (.bool (!b)), false)
  | _ => none
@[simp] def gNeg : W → Option (W × Bool)
  | .d (.int i) => some (.d (.int (-i)), false)
  | _ => none
@[simp] def op1 : O1 → W → Option (W × Bool)
  | .len => gLen
  | .list => gList
  | .tuple => gTup
  | .all => gAll
  | .any => gAny
  | .sum => gSum
  | .max => gMax
  | .min => gMinD
  | .int => gInt
  | .isi t => gIsi t
  | .non => gNon
  | .nnon => gNnon
  | .not => gNot
  | .neg => gNeg
  | .rev => gRev
  | .dict => gDict
  | .sorted => gSortedD
  | .sset => gSsetC
  | .skeys => gSkeys
  | .dictT => gDictT
  | .stp b => gStp b
@[simp] def op2 : O2 → W → W → Option (W × Bool)
  | .add => gAdd
  | .sub => gSub
  | .mul => gMul
  | .div => gDiv
  | .mod => gMod
  | .pow => gPow
  | .eq => gEq
  | .ne => gNe
  | .lt => gLt
  | .le => gLe
  | .gt => gGt
  | .ge => gGe
  | .isB => gIsB
  | .isntB => gIsntB
  | .inn => gIn
  | .nin => gNin
  | .ix => gIx
  | .max2 => gMax2
  | .min2 => gMin2
  | .lrg => gLrg

/-! ### the syntax -/
mutual
inductive Tg where
  | n (i : Nat) | t (l : Tgs)
inductive Tgs where
  | nil | cons (a : Tg) (r : Tgs)
end
mutual
inductive E where
  | var (i : Nat) | cst (x : PD) | glo (i : Nat)
  | o1 (o : O1) (a : E) | o2 (o : O2) (a b : E)
  | bop (c : Bool) (es : Es) | ite (c a b : E) | ch (p q : O2) (a b c : E) | ch3 (p q m : O2) (a b c d : E)
  | sl (a : E) (lo hi : E) | tup (es : Es) | lst (es : Es) | dic (t : Bool)
  | call (i : Nat) (es : Es) | popL (i : Nat) (a : E) | menu (is : List Nat) (ix : E) (es : Es) | dic1 (i : Nat) (c : Int) | dget (d k x : E)
  | lc (tg : Tg) (it : It) (ft elt : E)
inductive Es where
  | nil | cons (e : E) (r : Es)
inductive It where
  | ex (a : E) | r1 (a : E) | r2 (a b : E) | en (a : E) | zp (a b : E)
end
mutual
inductive S where
  | asg (i : Nat) (e : E) | asgT (tg : Tg) (e : E) | par (is : List Nat) (es : Es)
  | six (i : Nat) (k v : E) | app (i : Nat) (e : E) | ext (i : Nat) (e : E) | ex (e : E)
  | ife (c : E) (a b : Ss) | whl (c : E) (b : Ss) | fr (tg : Tg) (it : It) (b : Ss)
  | ret (e : E) | retN | rai (c : Nat)
inductive Ss where
  | nil | cons (s : S) (r : Ss)
end

/-! ### what it is worth -/
inductive Out (α : Type) where
  | bad | exc (c : Nat) | ok (a : α) (ρ : Env')
def Out.bind {α β : Type} (o : Out α) (f : α → Env' → Out β) : Out β := match o with
  | .bad => .bad
  | .exc c => .exc c
  | .ok a ρ => f a ρ
/-- what a called def hands back: its value (a new one of its own?), what stands in the argument that it may change -/
inductive Res where
  | exc (c : Nat) | ret (w : W) (fr : Bool) (out : W)
structure Fn where
  nm : Str
  ar : Nat
  mu : Option Nat
  f : List W → Option Res
@[simp] def Sl.w : Sl → Option W
  | .un => none
  | .sh w => some w
  | .ow w => some w
  | .mu w => some w
@[simp] def rd (ρ : Env') : Vl → Option W
  | .val w => some w
  | .fre w => some w
  | .loc i => (ρ[i]?).bind Sl.w
/-- an operand is given up: shared from now on -/
@[simp] def give (ρ : Env') : Vl → Option (W × Env')
  | .val w => some (w, ρ)
  | .fre w => some (w, ρ)
  | .loc i => match ρ[i]? with
    | some (.sh w) => some (w, ρ)
    | some (.ow w) => some (w, ρ.set i (.sh w))
    | _ => none
@[simp] def mkV (r : W × Bool) : Vl := if r.2 = true then .fre r.1 else .val r.1
@[simp] def asgN (ρ : Env') (i : Nat) (x : Sl) : Option Env' := match ρ[i]? with
  | some (.mu _) => none
  | some _ => some (ρ.set i x)
  | none => none
mutual
@[simp] def asgP (ρ : Env') : Tg → PD → Option Env'
  | .n i, d => asgN ρ i (.sh (.d d))
  | .t ts, .tuple ds => asgPs ρ ts ds
  | .t _, _ => none
@[simp] def asgPs (ρ : Env') : Tgs → List PD → Option Env'
  | .nil, [] => some ρ
  | .cons t ts, d :: ds => match asgP ρ t d with
    | some ρ1 => asgPs ρ1 ts ds
    | none => none
  | _, _ => none
end
/-- what a loop walks: single things, pairs -/
inductive Im where
  | one (d : PD) | two (a b : PD)
@[simp] def asgI (ρ : Env') (tg : Tg) : Im → Option Env'
  | .one d => asgP ρ tg d
  | .two a b => match tg with
    | .t (.cons t1 (.cons t2 .nil)) => match asgP ρ t1 a with
      | some ρ1 => asgP ρ1 t2 b
      | none => none
    | _ => none
mutual
@[simp] def Tg.slots : Tg → List Nat
  | .n i => [i]
  | .t l => l.slots
@[simp] def Tgs.slots : Tgs → List Nat
  | .nil => []
  | .cons a r => a.slots ++ r.slots
end
@[simp] def wipeE (ρ : Env') : List Nat → Env'
  | [] => ρ
  | v :: vs => (wipeE ρ vs).set v .un
/-- the slots vs of ρ0 put back -/
@[simp] def backE (ρ0 ρ : Env') : List Nat → Env'
  | [] => ρ
  | v :: vs => (backE ρ0 ρ vs).set v (ρ0.getD v .un)
@[simp] def freeE (ρ : Env') (vs : List Nat) : Bool := vs.all fun v => match ρ[v]? with
  | some .un => true
  | some (.sh _) => true
  | _ => false
def lcRun (t e : Env' → Out Vl) (tg : Tg) : List Im → Env' → List PD → Out (List PD)
  | [], ρ, acc => .ok acc ρ
  | m :: r, ρ, acc => match asgI ρ tg m with
    | none => .bad
    | some ρ1 => match t ρ1 with
      | .ok (.val (.d (.bool true))) ρ2 => (match e ρ2 with
        | .ok v ρ3 => (match give ρ3 v with
          | some (.d d, ρ4) => lcRun t e tg r (wipeE ρ4 tg.slots) (acc ++ [d])
          | _ => .bad)
        | _ => .bad)
      | .ok (.val (.d (.bool false))) ρ2 => lcRun t e tg r (wipeE ρ2 tg.slots) acc
      | _ => .bad
def chars (z : Str) : List Im := z.cps.toList.map fun c => .one (.str ⟨#[c]⟩)
def enumI : Nat → List PD → List Im
  | _, [] => []
  | k, d :: r => .two (.int k) d :: enumI (k + 1) r
def rangeI (lo : Int) (n : Nat) : List Im := (List.range n).map fun (k : Nat) => .one (.int (lo + (k : Int)))
@[simp] def zpG : W → W → Option (List Im)
  | .d (.list ds), .d (.list es) => some (List.zipWith Im.two ds es)
  | .d (.tuple ds), .d (.tuple es) => some (List.zipWith Im.two ds es)
  | _, _ => none
@[simp] def E.absent : E → Bool
  | .cst .none => true
  | _ => false
@[simp] def optI (b : Bool) : W → Option (Option Int)
  | .d .none => if b = true then some none else none
  | .d (.int i) => some (some i)
  | _ => none
def cutD {α : Type} (xs : List α) (lo hi : Option Int) : List α := (xs.drop (HT.sIx xs.length 0 lo)).take (HT.sIx xs.length xs.length hi - HT.sIx xs.length 0 lo)
@[simp] def gSl (lo hi : Option Int) : W → Option (W × Bool)
  | .d (.list ds) => some (.d (.list (cutD ds lo hi)), true)
  | .d (.tuple ds) => if isSs (cutD ds lo hi) = false then some (.d (.tuple (cutD ds lo hi)), false) else none
  | .d (.str z) => if z.length ≤ 1000000 ∧ PyData.strOk (cutS z lo hi) = true then some (.d (.str (cutS z lo hi)), false) else none
  | _ => none
@[simp] def muAt (mu : Option Nat) (k : Nat) : Bool := match mu with
  | some j => j == k
  | none => false
def dataW : W → Option PD
  | .d x => some x
  | _ => none
@[simp] def dataAll : List W → Option (List PD)
  | [] => some []
  | w :: r => match w, dataAll r with
    | .d x, some xs => some (x :: xs)
    | _, _ => none
/-- the slot that a call may change -/
def Fn.fits (fn : Fn) (n : Nat) : Bool := decide (n = fn.ar) && (match fn.mu with
  | some k => decide (k < fn.ar)
  | none => true)
def Fn.go (fn : Fn) (ρ : Env') (ws : List W) (j : Option Nat) : Out Vl := if fn.fits ws.length = true then match fn.f ws with
  | none => .bad
  | some (.exc c) => if fn.mu.isNone = true then .exc c else .bad
  | some (.ret w fr out) => match j with
    | none => .ok (mkV (w, fr)) ρ
    | some j => match ρ[j]? with
      | some (.ow _) => .ok (mkV (w, fr)) (ρ.set j (.ow out))
      | some (.mu _) => .ok (mkV (w, fr)) (ρ.set j (.mu out))
      | _ => .bad
  else .bad

@[simp] def ownL (x : Sl) : Option (List PD) := match x with
  | .ow (.d (.list ds)) => some ds
  | .mu (.d (.list ds)) => some ds
  | _ => none
@[simp] def reL (x : Sl) (w : W) : Sl := match x with
  | .mu _ => .mu w
  | _ => .ow w
def menuOk (Γ : List Fn) (is : List Nat) : Bool := (is.all fun i => decide (i < Γ.length)) && decide (is.length ≤ 1000)
@[simp] def isDic : W → Bool
  | .dk _ => true
  | .dt _ => true
  | _ => false
/-- d.get(k, x) -/
@[simp] def gGet : W → W → W → Option W
  | .dk kvs, .d (.int i), y => some (((kvs.find? fun kv => decide (kv.1 = .inl i)).map fun kv => W.d kv.2).getD y)
  | .dk kvs, .d (.str i), y => some (((kvs.find? fun kv => decide (kv.1 = .inr i)).map fun kv => W.d kv.2).getD y)
  | .dt kvs, .d (.tuple k), y => (intsOf k).map fun k => ((kvs.find? fun kv => decide (kv.1 = k.map .inl)).map fun kv => W.d kv.2).getD y
  | _, _, _ => none
section
variable (Γ : List Fn) (G : List PD)
mutual
def ev : E → Env' → Out Vl
  | .var i, ρ => match ρ[i]? with
    | some (.sh w) => .ok (.val w) ρ
    | some (.ow _) => .ok (.loc i) ρ
    | some (.mu _) => .ok (.loc i) ρ
    | _ => .bad
  | .cst x, ρ => .ok (.val (.d x)) ρ
  | .glo i, ρ => match G[i]? with
    | some x => .ok (.val (.d x)) ρ
    | none => .bad
  | .o1 o a, ρ => (ev a ρ).bind fun v ρ1 => match (rd ρ1 v).bind (op1 o) with
    | some r => .ok (mkV r) ρ1
    | none => .bad
  | .o2 o a b, ρ => (ev a ρ).bind fun v ρ1 => (ev b ρ1).bind fun u ρ2 => match rd ρ2 v, rd ρ2 u with
    | some x, some y => (match op2 o x y with
      | some r => .ok (mkV r) ρ2
      | none => .bad)
    | _, _ => .bad
  | .bop c es, ρ => evb c es ρ
  | .ite c a b, ρ => (ev c ρ).bind fun v ρ1 => match v with
    | .val (.d (.bool true)) => ev a ρ1
    | .val (.d (.bool false)) => ev b ρ1
    | _ => .bad
  | .ch p q a b c, ρ => (ev a ρ).bind fun v ρ1 => (ev b ρ1).bind fun u ρ2 => match rd ρ2 v, rd ρ2 u with
    | some x, some y => (match op2 p x y with
      | some (.d (.bool true), false) => (ev c ρ2).bind fun z ρ3 => (match rd ρ3 u, rd ρ3 z with
        | some y', some z' => (match op2 q y' z' with
          | some r => .ok (mkV r) ρ3
          | none => .bad)
        | _, _ => .bad)
      | some (.d (.bool false), false) => .ok (.val (.d (.bool false))) ρ2
      | _ => .bad)
    | _, _ => .bad
  | .ch3 p q m a b c d, ρ => (ev a ρ).bind fun v ρ1 => (ev b ρ1).bind fun u ρ2 => match rd ρ2 v, rd ρ2 u with
    | some x, some y => (match op2 p x y with
      | some (.d (.bool true), false) => (ev c ρ2).bind fun z ρ3 => (match rd ρ3 u, rd ρ3 z with
        | some y', some z' => (match op2 q y' z' with
          | some (.d (.bool true), false) => (ev d ρ3).bind fun e ρ4 => (match rd ρ4 z, rd ρ4 e with
            | some z2, some e2 => (match op2 m z2 e2 with
              | some r => .ok (mkV r) ρ4
              | none => .bad)
            | _, _ => .bad)
          | some (.d (.bool false), false) => .ok (.val (.d (.bool false))) ρ3
          | _ => .bad)
        | _, _ => .bad)
      | some (.d (.bool false), false) => .ok (.val (.d (.bool false))) ρ2
      | _ => .bad)
    | _, _ => .bad
  | .sl a lo hi, ρ => (ev a ρ).bind fun v ρ1 => (ev lo ρ1).bind fun l ρ2 => match (rd ρ2 l).bind (optI lo.absent) with
    | none => .bad
    | some lo' => (ev hi ρ2).bind fun h ρ3 => match (rd ρ3 h).bind (optI hi.absent) with
      | none => .bad
      | some hi' => (match (rd ρ3 v).bind (gSl lo' hi') with
        | some r => .ok (mkV r) ρ3
        | none => .bad)
  | .tup es, ρ => (evs none 0 es ρ).bind fun r ρ1 => match dataAll r.1 with
    | some ds => if ds.length ≤ 1000000 then .ok (.val (.d (.tuple ds))) ρ1 else .bad
    | none => .bad
  | .lst es, ρ => (evs none 0 es ρ).bind fun r ρ1 => match dataAll r.1 with
    | some ds => if ds.length ≤ 1000000 then .ok (.fre (.d (.list ds))) ρ1 else .bad
    | none => .bad
  | .dic t, ρ => .ok (.fre (if t = true then .dt [] else .dk [])) ρ
  | .dic1 i c, ρ => match ρ[i]? with
    | some (.sh (.d (.int k))) => .ok (.fre (.dk [(.inl k, .int c)])) ρ
    | _ => .bad
  | .call i es, ρ => match Γ[i]? with
    | none => .bad
    | some fn => (evs fn.mu 0 es ρ).bind fun r ρ1 => match fn.mu, r.2 with
      | some k, some j => (match (ρ1[j]?).bind Sl.w with
        | some w => fn.go ρ1 (r.1.set k w) (some j)
        | none => .bad)
      | none, _ => fn.go ρ1 r.1 none
      | _, _ => .bad
  | .menu is ix es, ρ => if menuOk Γ is = true then (ev ix ρ).bind fun v ρ1 => match rd ρ1 v with
    | some (.d (.int k)) => (match atI is k with
      | some i => (match Γ[i]? with
        | none => .bad
        | some fn => (evs fn.mu 0 es ρ1).bind fun r ρ2 => match fn.mu, r.2 with
          | some k, some j => (match (ρ2[j]?).bind Sl.w with
            | some w => fn.go ρ2 (r.1.set k w) (some j)
            | none => .bad)
          | none, _ => fn.go ρ2 r.1 none
          | _, _ => .bad)
      | none => .bad)
    | _ => .bad
    else .bad
  | .popL i a, ρ => match (ρ[i]?).bind ownL with
    | none => .bad
    | some _ => (ev a ρ).bind fun v ρ1 => match rd ρ1 v, ρ1[i]? with
      | some (.d (.int k)), some x => (match ownL x with
        | some ds => (match (if ds.length ≤ 1000000 then ixN ds.length k else none) with
          | some j => (match ds[j]? with
            | some d => .ok (.val (.d d)) (ρ1.set i (reL x (.d (.list (ds.eraseIdx j)))))
            | none => .bad)
          | none => .bad)
        | none => .bad)
      | _, _ => .bad
  | .dget d k x, ρ => (ev d ρ).bind fun c ρ0 => match (rd ρ0 c).map isDic with
    | some true => (ev k ρ0).bind fun v ρ1 => (match give ρ1 v with
      | none => .bad
      | some (kw, ρ2) => (ev x ρ2).bind fun u ρ3 => (match give ρ3 u with
        | none => .bad
        | some (xw, ρ4) => (match (rd ρ4 c).bind fun d => gGet d kw xw with
          | some r => .ok (.val r) ρ4
          | none => .bad)))
    | _ => .bad
  | .lc tg it ft elt, ρ => (evi it ρ).bind fun ms ρ1 =>
      if freeE ρ1 tg.slots = true ∧ ms.length ≤ 1000000 then
        (lcRun (fun r => ev ft r) (fun r => ev elt r) tg ms (wipeE ρ1 tg.slots) []).bind fun ds ρ2 => .ok (.fre (.d (.list ds))) (backE ρ1 ρ2 tg.slots)
      else .bad
/-- arguments: each given up, but the one at mu, which must be a slot's -/
def evs (mu : Option Nat) (k : Nat) : Es → Env' → Out (List W × Option Nat)
  | .nil, ρ => .ok ([], none) ρ
  | .cons e r, ρ => (ev e ρ).bind fun v ρ1 => match muAt mu k with
    | true => (match v with
      | .loc j => (evs mu (k + 1) r ρ1).bind fun q ρ2 => .ok (.opq .non :: q.1, some j) ρ2
      | _ => .bad)
    | false => (match give ρ1 v with
      | some (w, ρ2) => (evs mu (k + 1) r ρ2).bind fun q ρ3 => .ok (w :: q.1, q.2) ρ3
      | none => .bad)
def evb (c : Bool) : Es → Env' → Out Vl
  | .nil, _ => .bad
  | .cons e .nil, ρ => ev e ρ
  | .cons e (.cons e' r), ρ => (ev e ρ).bind fun v ρ1 => match v with
    | .val (.d (.bool b)) => if b = c then evb c (.cons e' r) ρ1 else .ok (.val (.d (.bool b))) ρ1
    | _ => .bad
def evi : It → Env' → Out (List Im)
  | .ex a, ρ => (ev a ρ).bind fun v ρ1 => match give ρ1 v with
    | some (.d (.list ds), ρ2) => .ok (ds.map .one) ρ2
    | some (.d (.tuple ds), ρ2) => .ok (ds.map .one) ρ2
    | some (.d (.str z), ρ2) => .ok (chars z) ρ2
    | _ => .bad
  | .r1 a, ρ => (ev a ρ).bind fun v ρ1 => match rd ρ1 v with
    | some (.d (.int n)) => if n ≤ 1000000 ∧ -1000000 ≤ n then .ok (rangeI 0 n.toNat) ρ1 else .bad
    | _ => .bad
  | .r2 a b, ρ => (ev a ρ).bind fun v ρ1 => (ev b ρ1).bind fun u ρ2 => match rd ρ2 v, rd ρ2 u with
    | some (.d (.int m)), some (.d (.int n)) => if (m ≤ 1000000 ∧ -1000000 ≤ m) ∧ (n ≤ 1000000 ∧ -1000000 ≤ n) then .ok (rangeI m (n - m).toNat) ρ2 else .bad
    | _, _ => .bad
  | .en a, ρ => (ev a ρ).bind fun v ρ1 => match give ρ1 v with
    | some (.d (.list ds), ρ2) => .ok (enumI 0 ds) ρ2
    | some (.d (.tuple ds), ρ2) => .ok (enumI 0 ds) ρ2
    | _ => .bad
  | .zp a b, ρ => (ev a ρ).bind fun v ρ1 => match give ρ1 v with
    | some (x, ρ2) => (ev b ρ2).bind fun u ρ3 => (match give ρ3 u with
      | some (y, ρ4) => (match zpG x y with
        | some ms => .ok ms ρ4
        | none => .bad)
      | none => .bad)
    | none => .bad
end
end
inductive SO where
  | bad | nx (ρ : Env') | rt (v : Vl) (ρ : Env') | exc (c : Nat)
def SO.of {α : Type} (o : Out α) (f : α → Env' → SO) : SO := match o with
  | .bad => .bad
  | .exc c => .exc c
  | .ok a ρ => f a ρ
def whlRun (t : Env' → Out Vl) (b : Env' → SO) : Nat → Env' → SO
  | 0, _ => .bad
  | n + 1, ρ => match t ρ with
    | .ok (.val (.d (.bool true))) ρ1 => (match b ρ1 with
      | .nx ρ2 => whlRun t b n ρ2
      | o => o)
    | .ok (.val (.d (.bool false))) ρ1 => .nx ρ1
    | .exc c => .exc c
    | _ => .bad
def forRun (b : Env' → SO) (tg : Tg) : List Im → Env' → SO
  | [], ρ => .nx ρ
  | m :: r, ρ => match asgI ρ tg m with
    | none => .bad
    | some ρ1 => match b ρ1 with
      | .nx ρ2 => forRun b tg r ρ2
      | o => o
/-- several values kept as they are, new ones still new -/
@[simp] def parSet : List Nat → List Vl → Env' → Option Env'
  | [], [], ρ => some ρ
  | i :: is, .val w :: vs, ρ => (asgN ρ i (.sh w)).bind (parSet is vs)
  | i :: is, .fre w :: vs, ρ => (asgN ρ i (.ow w)).bind (parSet is vs)
  | _, _, _ => none
section
variable (Γ : List Fn) (G : List PD) (fu : Nat)
def evp : Es → Env' → Out (List Vl)
  | .nil, ρ => .ok [] ρ
  | .cons e r, ρ => (ev Γ G e ρ).bind fun v ρ1 => match v with
    | .fre w => (evp r ρ1).bind fun q ρ2 => .ok (.fre w :: q) ρ2
    | v => (match give ρ1 v with
      | some (w, ρ2) => (evp r ρ2).bind fun q ρ3 => .ok (.val w :: q) ρ3
      | none => .bad)
def keyW : W → Option (Key ⊕ List Key)
  | .d (.int i) => some (.inl (.inl i))
  | .d (.str z) => some (.inl (.inr z))
  | .d (.tuple ds) => (intsOf ds).map fun k => .inr (k.map .inl)
  | _ => none
/-- x[k] = v: the slot behind it -/
def sixW (x : Sl) (k v : W) : Option Sl := match x, k, v with
  | .ow (.d (.list ds)), .d (.int i), .d d => (ixN ds.length i).map fun j => .ow (.d (.list (ds.set j d)))
  | .ow (.dk kvs), k, .d d => (match keyW k with
    | some (.inl k) => if kvs.length < 1000000 then some (.ow (.dk (putD kvs k d))) else none
    | _ => none)
  | .ow (.dt kvs), k, .d d => (match keyW k with
    | some (.inr k) => if kvs.length < 1000000 then some (.ow (.dt (putD kvs k d))) else none
    | _ => none)
  | _, _, _ => none
mutual
def run : S → Env' → SO
  | .asg i e, ρ => .of (ev Γ G e ρ) fun v ρ1 => match v with
    | .fre w => (match asgN ρ1 i (.ow w) with
      | some ρ2 => .nx ρ2
      | none => .bad)
    | v => (match give ρ1 v with
      | some (w, ρ2) => (match asgN ρ2 i (.sh w) with
        | some ρ3 => .nx ρ3
        | none => .bad)
      | none => .bad)
  | .asgT tg e, ρ => .of (ev Γ G e ρ) fun v ρ1 => match give ρ1 v with
    | some (.d d, ρ2) => (match asgP ρ2 tg d with
      | some ρ3 => .nx ρ3
      | none => .bad)
    | _ => .bad
  | .par is es, ρ => .of (evp Γ G es ρ) fun vs ρ1 => match parSet is vs ρ1 with
    | some ρ2 => .nx ρ2
    | none => .bad
  | .six i k v, ρ => .of (ev Γ G v ρ) fun v' ρ1 => match give ρ1 v' with
    | some (w, ρ2) => (match ρ2[i]? with
      | some (.ow _) => .of (ev Γ G k ρ2) fun k' ρ3 => (match give ρ3 k' with
        | some (kw, ρ4) => (match (ρ4[i]?).bind fun x => sixW x kw w with
          | some x' => .nx (ρ4.set i x')
          | none => .bad)
        | none => .bad)
      | _ => .bad)
    | none => .bad
  | .app i e, ρ => match (ρ[i]?).bind ownL with
    | none => .bad
    | some _ => .of (ev Γ G e ρ) fun v ρ1 => match give ρ1 v with
      | some (.d d, ρ2) => (match ρ2[i]? with
        | some x => (match ownL x with
          | some ds => if ds.length < 1000000 then .nx (ρ2.set i (reL x (.d (.list (ds ++ [d]))))) else .bad
          | none => .bad)
        | none => .bad)
      | _ => .bad
  | .ext i e, ρ => match (ρ[i]?).bind ownL with
    | none => .bad
    | some _ => .of (ev Γ G e ρ) fun v ρ1 => match give ρ1 v with
      | some (.d (.list es), ρ2) => (match ρ2[i]? with
        | some x => (match ownL x with
          | some ds => if ds.length + es.length ≤ 1000000 then .nx (ρ2.set i (reL x (.d (.list (ds ++ es))))) else .bad
          | none => .bad)
        | none => .bad)
      | _ => .bad
  | .ex e, ρ => .of (ev Γ G e ρ) fun _ ρ1 => .nx ρ1
  | .ife c a b, ρ => .of (ev Γ G c ρ) fun v ρ1 => match v with
    | .val (.d (.bool true)) => runs a ρ1
    | .val (.d (.bool false)) => runs b ρ1
    | _ => .bad
  | .whl c b, ρ => whlRun (fun r => ev Γ G c r) (fun r => runs b r) fu ρ
  | .fr tg it b, ρ => .of (evi Γ G it ρ) fun ms ρ1 => forRun (fun r => runs b r) tg ms ρ1
  | .ret e, ρ => .of (ev Γ G e ρ) fun v ρ1 => .rt v ρ1
  | .retN, ρ => .rt (.val (.d .none)) ρ
  | .rai c, _ => .exc c
def runs : Ss → Env' → SO
  | .nil, ρ => .nx ρ
  | .cons s r, ρ => match run s ρ with
    | .nx ρ1 => runs r ρ1
    | o => o
end
end
end Hil
/-! Hil5: the state through an evaluation. -/
namespace Hil
open PySem PySem.Spec PyProof.Rows L2
section
variable {K : PySem.W.Frag} {σ : L2.St} {H H' : Hp} {Oc M M' : Ad → Prop} {ma : Nat → Ad} {ρ ρ' : Env'}
/-- a value that is kept while others are reckoned -/
def RS (K : PySem.W.Frag) (σ : L2.St) (H : Hp) (Oc M : Ad → Prop) (x : V) : Vl → Prop
  | .val w => RW K H (fun b => Oc b ∨ M b) x w
  | .fre w => RW K H (fun b => Oc b ∨ M b) x w
  | .loc i => σ[i]? = some (some x)
theorem RS.tr {x : V} {v : Vl} (t : Tr H M H' M') (h : RS K σ H Oc M x v) : RS K σ H' Oc M' x v := by
  cases v with
  | val w => exact RW.tr t h
  | fre w => exact RW.tr t h
  | loc i => exact h
theorem SlOk.mono {i : Nat} {x : Sl} (t : Tr H M H' M') (hm : ∀ a, x.owned = true → σ[i]? = some (some (.ref a)) → M a → M' a ∧ ∀ o, H a = some o → H' a = some o) (h : SlOk K σ H Oc M ma i x) : SlOk K σ H' Oc M' ma i x := by
  cases x with
  | un => trivial
  | sh w => obtain ⟨v, e, r⟩ := h; exact ⟨v, e, r.tr t⟩
  | ow w =>
    obtain ⟨a, e, m, r⟩ := h
    obtain ⟨m', k⟩ := hm a rfl e m
    exact ⟨a, e, m', r.mono t.h1 t.h2 k⟩
  | mu w =>
    obtain ⟨e, m, r⟩ := h
    obtain ⟨m', k⟩ := hm _ rfl e m
    exact ⟨e, m', r.mono t.h1 t.h2 k⟩
theorem SlOk.ownAd {i : Nat} {x : Sl} (h : SlOk K σ H Oc M ma i x) (ho : x.owned = true) : ∃ a w, σ[i]? = some (some (.ref a)) ∧ M a ∧ OW K H (fun b => Oc b ∨ M b) a w ∧ x.w = some w := by
  cases x with
  | un => cases ho
  | sh w => cases ho
  | ow w => obtain ⟨a, e, m, r⟩ := h; exact ⟨a, w, e, m, r, rfl⟩
  | mu w => obtain ⟨e, m, r⟩ := h; exact ⟨_, w, e, m, r, rfl⟩
/-- the heap grows -/
theorem Sta.keep (S : Sta K σ H Oc M ma ρ) (k : ∀ b o, H b = some o → H' b = some o) : Sta K σ H' Oc M ma ρ := by
  have t : Tr H M H' M := ⟨fun b o e _ => k b o e, fun b m => .inl m⟩
  refine ⟨S.len, fun i x e => (S.sl i x e).mono t fun a _ _ m => ⟨m, k a⟩, S.inj, S.dis, fun b m => ?_⟩
  obtain ⟨o, e⟩ := S.trk b m
  exact ⟨o, k b o e⟩
/-- less is held -/
theorem Sta.less (S : Sta K σ H Oc M ma ρ) (h : ∀ b, M' b → M b) (hs : ∀ (i : Nat) x a, ρ[i]? = some x → x.owned = true → σ[i]? = some (some (.ref a)) → M' a) : Sta K σ H Oc M' ma ρ := by
  refine ⟨S.len, fun i x e => (S.sl i x e).mono (Tr.less h) fun a ho ha _ => ⟨hs i x a e ho ha, fun _ q => q⟩, S.inj, fun b m => S.dis b (h b m), fun b m => S.trk b (m.imp id (h b))⟩
/-- a new object of one's own -/
theorem Sta.more {p : Ad} (S : Sta K σ H Oc M ma ρ) (hp : H p = none) (k : ∀ b o, H b = some o → H' b = some o) (hp' : ∃ o : MHO, H' p = some o.1) : Sta K σ H' Oc (fun b => M b ∨ b = p) ma ρ := by
  have t : Tr H M H' (fun b => M b ∨ b = p) := ⟨fun b o e _ => k b o e, fun b m => m.imp id fun e => by rw [e]; exact hp⟩
  refine ⟨S.len, fun i x e => (S.sl i x e).mono t fun a _ _ m => ⟨.inl m, k a⟩, S.inj, fun b m => ?_, fun b m => ?_⟩
  · rcases m with m | m
    · exact S.dis b m
    · intro o
      obtain ⟨q, e⟩ := S.trk b (.inl o)
      rw [m, hp] at e; cases e
  · rcases m with m | m | m
    · obtain ⟨o, e⟩ := S.trk b (.inl m); exact ⟨o, k b o e⟩
    · obtain ⟨o, e⟩ := S.trk b (.inr m); exact ⟨o, k b o e⟩
    · rw [m]; exact hp'
/-- what an operation hands back, in the state -/
theorem Sta.done {r : W × Bool} {x : V} (S : Sta K σ H Oc M ma ρ) (d : Done K H (fun b => Oc b ∨ M b) r x H') : ∃ M', Tr H M H' M' ∧ Sta K σ H' Oc M' ma ρ ∧ RV K σ H' Oc M' ρ x (mkV r) := by
  obtain ⟨k, d⟩ := d
  obtain ⟨w, fr⟩ := r
  cases fr with
  | false => exact ⟨M, ⟨fun b o e _ => k b o e, fun b m => .inl m⟩, S.keep k, d⟩
  | true =>
    obtain ⟨p, rfl, hp, o⟩ := d
    refine ⟨fun b => M b ∨ b = p, ⟨fun b o e _ => k b o e, fun b m => m.imp id fun e => by rw [e]; exact hp⟩, S.more hp k o.some_, p, rfl, .inr rfl, ?_, fun i x e ho ea => ?_⟩
    · have e : (fun b => (Oc b ∨ M b) ∨ b = p) = (fun b => Oc b ∨ M b ∨ b = p) := by funext b; rw [or_assoc]
      rw [← e]; exact o
    · obtain ⟨a, w', e1, m, _⟩ := (S.sl i x e).ownAd ho
      rw [e1] at ea
      cases ea
      obtain ⟨q, e2⟩ := S.trk p (.inr m)
      rw [hp] at e2; cases e2
/-- a value is put aside, a new one given up -/
theorem Sta.soft {x : V} {v : Vl} (S : Sta K σ H Oc M ma ρ) (h : RV K σ H Oc M ρ x v) : ∃ M', (∀ b, M' b → M b) ∧ Sta K σ H Oc M' ma ρ ∧ RS K σ H Oc M' x v := by
  cases v with
  | val w => exact ⟨M, fun _ m => m, S, h⟩
  | fre w =>
    obtain ⟨a, rfl, m, o, n⟩ := h
    have l : ∀ b, (M b ∧ b ≠ a) → M b := fun _ m => m.1
    refine ⟨fun b => M b ∧ b ≠ a, l, S.less l fun i x c e ho ea => ?_, ?_⟩
    · obtain ⟨a', w', e1, m', _⟩ := (S.sl i x e).ownAd ho
      rw [ea] at e1
      cases e1
      exact ⟨m', fun z => n i x e ho (z ▸ ea)⟩
    · have t : Tr H M H (fun b => M b ∧ b ≠ a) := Tr.less l
      refine OW.share (fun z => ?_) (o.mono t.h1 t.h2 fun _ q => q)
      rcases z with z | z
      · exact S.dis a m z
      · exact z.2 rfl
  | loc i =>
    obtain ⟨y, e, _, ea⟩ := h
    exact ⟨M, fun _ m => m, S, ea⟩
/-- it is looked at -/
theorem Sta.peek {x : V} {v : Vl} {w : W} (S : Sta K σ H Oc M ma ρ) (h : RS K σ H Oc M x v) (e : rd ρ v = some w) : PW K H (fun b => Oc b ∨ M b) x w := by
  cases v with
  | val w' => cases e; exact .inl h
  | fre w' => cases e; exact .inl h
  | loc i =>
    have e' : (ρ[i]?).bind Sl.w = some w := e
    have h' : σ[i]? = some (some x) := h
    cases q : ρ[i]? with
    | none => rw [q] at e'; cases e'
    | some y =>
      rw [q] at e'
      have so := S.sl i y q
      cases y with
      | un => cases e'
      | sh w' =>
        cases e'
        obtain ⟨v, ev, r⟩ := so
        rw [h'] at ev; cases ev
        exact .inl r
      | ow w' =>
        cases e'
        obtain ⟨a, ev, m, r⟩ := so
        rw [h'] at ev; cases ev
        exact .inr ⟨a, rfl, r⟩
      | mu w' =>
        cases e'
        obtain ⟨ev, m, r⟩ := so
        rw [h'] at ev; cases ev
        exact .inr ⟨_, rfl, r⟩
theorem getE_set {ρ : Env'} {i j : Nat} {x y : Sl} (h : (ρ.set i x)[j]? = some y) : (i = j ∧ y = x) ∨ (i ≠ j ∧ ρ[j]? = some y) := by
  by_cases e : i = j
  · subst e
    by_cases l : i < ρ.length
    · rw [List.getElem?_set_self l] at h; cases h; exact .inl ⟨rfl, rfl⟩
    · rw [List.getElem?_eq_none (by simpa using l)] at h; cases h
  · rw [List.getElem?_set_ne e] at h
    exact .inr ⟨e, h⟩
/-- it is given up -/
theorem Sta.give {x : V} {v : Vl} {w : W} (S : Sta K σ H Oc M ma ρ) (h : RV K σ H Oc M ρ x v) (e : give ρ v = some (w, ρ')) : ∃ M', (∀ b, M' b → M b) ∧ Sta K σ H Oc M' ma ρ' ∧ RW K H (fun b => Oc b ∨ M' b) x w := by
  cases v with
  | val w' =>
    cases e
    exact ⟨M, fun _ m => m, S, h⟩
  | fre w' =>
    cases e
    exact S.soft h
  | loc i =>
    obtain ⟨y, q, ho, ea⟩ := h
    have e' : (match ρ[i]? with
      | some (.sh w) => some (w, ρ)
      | some (.ow w) => some (w, ρ.set i (.sh w))
      | _ => none) = some (w, ρ') := e
    rw [q] at e'
    cases y with
    | un => cases ho
    | sh _ => cases ho
    | mu _ => cases e'
    | ow w' =>
      cases e'
      obtain ⟨a, ev, m, o⟩ := S.sl i _ q
      rw [ea] at ev; cases ev
      have l : ∀ b, (M b ∧ b ≠ a) → M b := fun _ m => m.1
      have t : Tr H M H (fun b => M b ∧ b ≠ a) := Tr.less l
      have na : ¬ (Oc a ∨ (M a ∧ a ≠ a)) := fun z => by
        rcases z with z | z
        · exact S.dis a m z
        · exact z.2 rfl
      have rw' : RW K H (fun b => Oc b ∨ (M b ∧ b ≠ a)) (.ref a) w := OW.share na (o.mono t.h1 t.h2 fun _ q => q)
      refine ⟨fun b => M b ∧ b ≠ a, l, ⟨by rw [List.length_set]; exact S.len, fun j y e1 => ?_, fun j k y z c e1 e2 h1 h2 a1 a2 => ?_, fun b m => S.dis b m.1, fun b m => S.trk b (m.imp id fun z => z.1)⟩, rw'⟩
      · rcases getE_set e1 with ⟨rfl, rfl⟩ | ⟨ne, e1⟩
        · exact ⟨.ref a, ea, rw'⟩
        · refine (S.sl j y e1).mono t fun c hc ec mc => ⟨⟨mc, fun z => ?_⟩, fun _ q => q⟩
          subst z
          exact ne (S.inj i j _ _ _ q e1 rfl hc ea ec)
      · rcases getE_set e1 with ⟨rfl, rfl⟩ | ⟨ne, e1⟩
        · cases h1
        · rcases getE_set e2 with ⟨rfl, rfl⟩ | ⟨ne', e2⟩
          · cases h2
          · exact S.inj j k y z c e1 e2 h1 h2 a1 a2
end

/-! ### readings -/
section
variable (Wx : WX) (xc : Nat → Value) (σ : L2.St)
/-- what an evaluation is to reach -/
def Pst {α : Type} (o : Out α) (H : Hp) (M : Ad → Prop) (k : α → Env' → Hp → (Ad → Prop) → Prop) : Prop := match o with
  | .bad => False
  | .exc c => ∀ H' M', Tr H M H' M' → Wx (xc c) none σ H'
  | .ok a ρ => ∀ H' M', Tr H M H' M' → k a ρ H' M'
end
section
variable {Wx : WX} {xc : Nat → Value} {σ : L2.St} {α β : Type} {H H' : Hp} {M M' : Ad → Prop}
theorem Pst.bind {o : Out α} {f : α → Env' → Out β} {k : β → Env' → Hp → (Ad → Prop) → Prop} (h : Pst Wx xc σ (o.bind f) H M k) :
    Pst Wx xc σ o H M fun a ρ H1 M1 => Pst Wx xc σ (f a ρ) H1 M1 k := by
  cases o with
  | bad => exact h
  | exc c => exact h
  | ok a ρ =>
    intro H1 M1 t
    have h' : Pst Wx xc σ (f a ρ) H M k := h
    show Pst Wx xc σ (f a ρ) H1 M1 k
    generalize hq : f a ρ = q at h' ⊢
    cases q with
    | bad => exact h'
    | exc c => exact fun H2 M2 t2 => h' H2 M2 (t.trans t2)
    | ok b ρ' => exact fun H2 M2 t2 => h' H2 M2 (t.trans t2)
theorem Pst.imp {o : Out α} {k k' : α → Env' → Hp → (Ad → Prop) → Prop} (h : Pst Wx xc σ o H M k) (i : ∀ a ρ H' M', Tr H M H' M' → k a ρ H' M' → k' a ρ H' M') : Pst Wx xc σ o H M k' := by
  cases o with
  | bad => exact h
  | exc c => exact h
  | ok a ρ => exact fun H' M' t => i a ρ H' M' t (h H' M' t)
theorem Pst.tr {o : Out α} {k : α → Env' → Hp → (Ad → Prop) → Prop} (t : Tr H M H' M') (h : Pst Wx xc σ o H M k) : Pst Wx xc σ o H' M' k := by
  cases o with
  | bad => exact h
  | exc c => exact fun H2 M2 t2 => h H2 M2 (t.trans t2)
  | ok a ρ => exact fun H2 M2 t2 => h H2 M2 (t.trans t2)
end
section
variable (K : PySem.W.Frag) (Wx : WX) (xc : Nat → Value)
def rV (o : Out Vl) (σ : L2.St) (H : Hp) (Oc M : Ad → Prop) (ma : Nat → Ad) (Q : VK) : Prop :=
  Pst Wx xc σ o H M fun v ρ' H' M' => Sta K σ H' Oc M' ma ρ' → ∀ x, RV K σ H' Oc M' ρ' x v → Q x H'
/-- the reading of an expression's worth -/
def tV (f : Env' → Out Vl) : TE := fun σ H Q => ∃ ρ Oc M ma, Sta K σ H Oc M ma ρ ∧ rV K Wx xc (f ρ) σ H Oc M ma Q
/-- of a test's -/
def tT (f : Env' → Out Vl) : TT := fun σ H Q => ∃ ρ Oc M ma, Sta K σ H Oc M ma ρ ∧
  Pst Wx xc σ (f ρ) H M fun v ρ' H' M' => match v with
    | .val (.d (.bool b)) => Sta K σ H' Oc M' ma ρ' → Q b H'
    | _ => False
end
end Hil
/-! Hil6: how the small syntax is read off the text; targets, arguments. -/
namespace Hil
open PySem PySem.Spec PyProof.Rows L2

/-- what the reading knows: the slots' names, the scope, the names that may be stored, the called defs, the module's constants, the exceptions -/
structure Cc where
  N : List Str
  sc : Scope
  st : Str → Bool
  fn : List Str
  gl : List Str
  xc : List Str
  top : Bool
def Cc.kind (cx : Cc) (x : Str) : Option NameKind := cx.sc.names.lookup x
def Cc.vis (cx : Cc) (x : Str) : Bool := cx.kind x == some .local || (cx.kind x == some .cell || cx.kind x == some .free)
def Cc.glob (cx : Cc) (x : Str) : Bool := cx.kind x == some .globalImplicit
def blts : List Str := ["len", "list", "tuple", "all", "any", "sum", "max", "min", "int", "str", "bool", "isinstance", "range", "enumerate", "zip", "sorted", "set", "dict"]
def okNm (x : Str) : Bool := !(x == ("__debug__" : Str)) && !(x == ("__classdict__" : Str))
def dVar (cx : Cc) (i : Nat) : Expr → Bool
  | .Name x _ => decide (cx.N[i]? = some x) && (cx.vis x && okNm x)
  | _ => false
def dGlo (cx : Cc) (i : Nat) : Expr → Bool
  | .Name x _ => decide (cx.gl[i]? = some x) && (cx.glob x && okNm x)
  | _ => false
def dCst : PD → Expr → Bool
  | .none, .Constant .none _ _ => true
  | .bool b, .Constant (.bool c) _ _ => b == c
  | .int i, .Constant (.int j) _ _ => decide (i = j)
  | .str z, .Constant (.str y) _ _ => decide (z = y) && PyData.strOk z
  | _, _ => false
def star : Expr → Bool
  | .Starred _ _ => true
  | _ => false
def slic : Expr → Bool
  | .Slice _ _ _ _ => true
  | _ => false
def isNm : Expr → Bool
  | .Name _ _ => true
  | _ => false
def setD : Expr → Bool
  | .Set _ _ _ => true
  | _ => false
/-- f(a, ..), f a built-in name -/
def dBlt (cx : Cc) (nm : Str) : Expr → Option (List Expr)
  | .Call (.Name x _) es [] _ => if x = nm ∧ cx.glob x = true then some es else none
  | _ => none
def dB1 (cx : Cc) (nm : Str) (x : Expr) : Option Expr := match dBlt cx nm x with
  | some [a] => some a
  | _ => none
def dB2 (cx : Cc) (nm : Str) (x : Expr) : Option (Expr × Expr) := match dBlt cx nm x with
  | some [a, b] => some (a, b)
  | _ => none
def dBin (o : Operator) : Expr → Option (Expr × Expr)
  | .BinOp a p b _ => if p = o then some (a, b) else none
  | _ => none
def dCmp (o : CmpOp) : Expr → Option (Expr × Expr)
  | .Compare a [p] [b] _ => if p = o ∧ behindInMarks p b = false then some (a, b) else none
  | _ => none
def dIx : Expr → Option (Expr × Expr)
  | .Subscript a b _ => if slic b = true then none else some (a, b)
  | _ => none
def dO1 (cx : Cc) : O1 → Expr → Option Expr
  | .len, x => dB1 cx "len" x
  | .list, x => dB1 cx "list" x
  | .tuple, x => dB1 cx "tuple" x
  | .all, x => dB1 cx "all" x
  | .any, x => dB1 cx "any" x
  | .sum, x => dB1 cx "sum" x
  | .max, x => dB1 cx "max" x
  | .min, x => dB1 cx "min" x
  | .int, x => dB1 cx "int" x
  | .isi t, x => match dBlt cx "isinstance" x with
    | some [a, .Name y _] => if y = (t.nm : Str) ∧ cx.glob y = true then some a else none
    | _ => none
  | .non, x => match x with
    | .Compare a [.Is] [.Constant .none _ _] _ => some a
    | _ => none
  | .nnon, x => match x with
    | .Compare a [.IsNot] [.Constant .none _ _] _ => some a
    | _ => none
  | .not, x => match x with
    | .UnaryOp .Not a _ => some a
    | _ => none
  | .neg, x => match x with
    | .UnaryOp .USub a _ => some a
    | _ => none
  | .rev, x => match x with
    | .Subscript a (.Slice none none (some (.UnaryOp .USub (.Constant (.int k) _ _) _)) _) _ => if k = 1 then some a else none
    | _ => none
  | .dict, x => dB1 cx "dict" x
  | .dictT, x => dB1 cx "dict" x
  | .sorted, x => dB1 cx "sorted" x
  | .skeys, x => match dB1 cx "sorted" x with
    | some (.Call (.Attribute o m ap) [] [] cp) => if m = ("keys" : Str) ∧ (isNm o = true ∧ ap.endLine = cp.line) then some o else none
    | _ => none
  | .stp b, x => match x with
    | .Subscript a (.Slice lo none (some (.Constant (.int k) _ _)) _) _ => if k = 2 then (match lo with
      | none => if b = false then some a else none
      | some (.Constant (.int j) _ _) => if b = true ∧ j = 1 then some a else none
      | _ => none) else none
    | _ => none
  | .sset, x => match dB1 cx "sorted" x with
    | some y => dB1 cx "set" y
    | none => none
def O2.cmp : O2 → Option CmpOp
  | .eq => some .Eq
  | .ne => some .NotEq
  | .lt => some .Lt
  | .le => some .LtE
  | .gt => some .Gt
  | .ge => some .GtE
  | .isB => some .Is
  | .isntB => some .IsNot
  | .inn => some .In
  | .nin => some .NotIn
  | _ => none
def dO2 (cx : Cc) : O2 → Expr → Option (Expr × Expr)
  | .add, x => dBin .Add x
  | .sub, x => dBin .Sub x
  | .mul, x => dBin .Mult x
  | .div, x => dBin .FloorDiv x
  | .mod, x => dBin .Mod x
  | .pow, x => dBin .Pow x
  | .ix, x => dIx x
  | .max2, x => dB2 cx "max" x
  | .min2, x => dB2 cx "min" x
  | .lrg, x => match dB1 cx "list" x with
    | some y => dB2 cx "range" y
    | none => none
  | o, x => match o.cmp with
    | some c => dCmp c x
    | none => none
mutual
def chkTg (cx : Cc) : Tg → Expr → Bool
  | .n i, x => match x with
    | .Name id _ => decide (cx.N[i]? = some id) && cx.st id
    | _ => false
  | .t ts, x => match x with
    | .Tuple es _ _ => chkTgs cx ts es
    | _ => false
def chkTgs (cx : Cc) : Tgs → List Expr → Bool
  | .nil, [] => true
  | .cons t ts, e :: es => chkTg cx t e && chkTgs cx ts es
  | _, _ => false
end
def isTup : Expr → Bool
  | .Tuple _ _ _ => true
  | _ => false
mutual
/-- the comprehension's own names, with their slots -/
def tgOwn : Tg → Expr → List (Str × Nat)
  | .n i, x => match x with
    | .Name id _ => [(id, i)]
    | _ => []
  | .t ts, x => match x with
    | .Tuple es _ _ => tgOwns ts es
    | _ => []
def tgOwns : Tgs → List Expr → List (Str × Nat)
  | .cons t ts, e :: es => tgOwn t e ++ tgOwns ts es
  | _, _ => []
end
/-- within a comprehension -/
def Cc.blk (cx : Cc) (scope : Scope) : Cc :=
  { cx with sc := relS scope cx.sc, st := fun x => (relS scope cx.sc).names.lookup x == some .local || (scope.names.lookup x == some .cell && (relS scope cx.sc).names.lookup x == some .cell), top := false }
/-- the names of defs, one for each -/
def chkNs (cx : Cc) : List Nat → List Expr → Bool
  | [], [] => true
  | i :: is, .Name nm _ :: r => decide (cx.fn[i]? = some nm) && (cx.glob nm && (okNm nm && chkNs cx is r))
  | _, _ => false
mutual
def chkE (cx : Cc) : E → Expr → Bool
  | .var i, x => dVar cx i x
  | .cst c, x => dCst c x
  | .glo i, x => dGlo cx i x
  | .o1 o a, x => match dO1 cx o x with
    | some y => chkE cx a y && !star y
    | none => false
  | .o2 o a b, x => match dO2 cx o x with
    | some (y, z) => chkE cx a y && (chkE cx b z && (!star y && !star z))
    | none => false
  | .bop c es, x => match x with
    | .BoolOp o xs _ => decide (o = if c = true then .And else .Or) && chkEs cx es xs
    | _ => false
  | .ite c a b, x => match x with
    | .IfExp x1 x2 x3 _ => chkE cx c x1 && (chkE cx a x2 && chkE cx b x3)
    | _ => false
  | .ch p q a b c, x => match x with
    | .Compare x1 [o1, o2] [x2, x3] _ => decide (p.cmp = some o1) && (decide (q.cmp = some o2) && (chkE cx a x1 && (chkE cx b x2 && (chkE cx c x3 && !lastMarks [o1, o2] [x2, x3]))))
    | _ => false
  | .ch3 p q m a b c d, x => match x with
    | .Compare x1 [o1, o2, o3] [x2, x3, x4] _ => decide (p.cmp = some o1) && (decide (q.cmp = some o2) && (decide (m.cmp = some o3) && (chkE cx a x1 && (chkE cx b x2 && (chkE cx c x3 && (chkE cx d x4 && !lastMarks [o1, o2, o3] [x2, x3, x4]))))))
    | _ => false
  | .sl a lo hi, x => match x with
    | .Subscript x1 (.Slice l h none _) _ => chkE cx a x1 && ((match l with
      | some y => chkE cx lo y && !lo.absent
      | none => lo.absent) && (match h with
      | some y => chkE cx hi y && !hi.absent
      | none => hi.absent))
    | _ => false
  | .tup es, x => match x with
    | .Tuple xs _ _ => chkEs cx es xs
    | _ => false
  | .lst es, x => match x with
    | .List xs _ => chkEs cx es xs
    | _ => false
  | .dic _, x => match x with
    | .Dict [] [] _ => true
    | _ => false
  | .dic1 i c, x => match x with
    | .Dict [some k] [v] _ => dVar cx i k && dCst (.int c) v
    | _ => false
  | .call i es, x => match x with
    | .Call (.Name nm _) (y :: ys) [] _ => decide (cx.fn[i]? = some nm) && (cx.glob nm && (okNm nm && chkEs cx es (y :: ys)))
    | _ => false
  | .menu is ix es, x => match x with
    | .Call (.Subscript (.List ns _) y3 _) (y :: ys) [] _ => chkNs cx is ns && (chkE cx ix y3 && (!slic y3 && chkEs cx es (y :: ys)))
    | _ => false
  | .popL i a, x => match x with
    | .Call (.Attribute o at_ apos) [y] [] cpos => decide (at_ = ("pop" : Str)) && (dVar cx i o && (chkE cx a y && (!star y && decide (apos.endLine = cpos.line))))
    | _ => false
  | .dget d k a, x => match x with
    | .Call (.Attribute o at_ apos) [y, z] [] cpos => decide (at_ = ("get" : Str)) && (isNm o && (chkE cx d o && (chkE cx k y && (chkE cx a z && (!star y && (!star z && decide (apos.endLine = cpos.line)))))))
    | _ => false
  | .lc tg it ft elt, x => match x with
    | .ListComp x4 [⟨x1, x2, fs, 0⟩] scope _ => chkI cx it x2 (isTup x1) && (!setD x2 && (chkTg (cx.blk scope) tg x1 && (blkC cx.N cx.sc scope (tgOwn tg x1) && ((match fs with
      | [] => (match ft with
        | .cst (.bool true) => true
        | _ => false)
      | [y] => chkE (cx.blk scope) ft y
      | _ => false) && chkE (cx.blk scope) elt x4))))
    | _ => false
def chkEs (cx : Cc) : Es → List Expr → Bool
  | .nil, xs => match xs with
    | [] => true
    | _ => false
  | .cons e r, xs => match xs with
    | y :: ys => chkE cx e y && (!star y && chkEs cx r ys)
    | _ => false
def chkI (cx : Cc) : It → Expr → Bool → Bool
  | .ex a, x, _ => chkE cx a x
  | .r1 a, x, _ => match dB1 cx "range" x with
    | some y => chkE cx a y && !star y
    | none => false
  | .r2 a b, x, _ => match dB2 cx "range" x with
    | some (y, z) => chkE cx a y && (chkE cx b z && (!star y && !star z))
    | none => false
  | .en a, x, t => match dB1 cx "enumerate" x with
    | some y => t && (chkE cx a y && !star y)
    | none => false
  | .zp a b, x, t => match dB2 cx "zip" x with
    | some (y, z) => t && (chkE cx a y && (chkE cx b z && (!star y && !star z)))
    | none => false
end
/-! ### facts of the text -/
theorem starEach_cons {e : Expr} {es : List Expr} {env : Env} (h : star e = false) : starEach (e :: es) env = (false, eval e env) :: starEach es env := by
  cases e <;> first | rfl | cases h
def nostar (es : List Expr) : Bool := es.all fun e => !star e
theorem plain_args {pos : Pos} {env : Env} : ∀ {es : List Expr}, nostar es = true → (backTo pos (starEach es env)).any (·.1) = false
  | [], _ => rfl
  | e :: es, h => by
    simp only [nostar, List.all_cons, Bool.and_eq_true] at h
    rw [starEach_cons (by simpa using h.1)]
    simp only [backTo, List.map_cons, List.any_cons, Bool.false_or]
    exact plain_args (es := es) h.2
theorem nomk {op : CmpOp} {b : Expr} (h : op ≠ .In) (h2 : op ≠ .NotIn) : behindInMarks op b = false := nobehind b h h2

/-! ### the bundle -/
/-- the promise of a def that reckons f -/
def SpT (K : PySem.W.Frag) (xc : Nat → Value) (mu : Option Nat) (ar : Nat) (f : List W → Option Res) : Sp := fun vs H Q E => ∃ (ws : List W) (Oc M : Ad → Prop),
  vs.length = ar ∧ ws.length = ar ∧ (∀ b, M b → ¬ Oc b) ∧ Trk H (fun b => Oc b ∨ M b) ∧
  (∀ (i : Nat) v w, vs[i]? = some v → ws[i]? = some w → if muAt mu i = true then ∃ a, v = .ref a ∧ M a ∧ OW K H (fun b => Oc b ∨ M b) a w else RW K H (fun b => Oc b ∨ M b) v w) ∧
  match f ws with
  | none => False
  | some (.exc c) => ∀ H' M', Tr H M H' M' → E (xc c) none H'
  | some (.ret w fr out) => ∀ x H' M', Tr H M H' M' → (∀ b, M' b → ¬ Oc b) → Trk H' (fun b => Oc b ∨ M' b) →
    (∀ k a, mu = some k → vs[k]? = some (.ref a) → M' a ∧ OW K H' (fun b => Oc b ∨ M' b) a out ∧ (fr = true → x ≠ .ref a)) →
    (if fr = true then ∃ a, x = .ref a ∧ M' a ∧ OW K H' (fun b => Oc b ∨ M' b) a w else RW K H' (fun b => Oc b ∨ M' b) x w) → Q x H'
structure FnGood (X : Cx) (xc : Nat → Value) (lv : Nat) (fn : Fn) : Prop where
  ok : ∃ (f : Ad) (fd : FuncData) (ps : List Str) (k : Nat), X.mg fn.nm = some (.ref f) ∧ PySem.W.keepIn X.K (.ref f) = true ∧ FnOk X.prog X.w X.K X.mg X.base (L2.CX X.prog X.w) k f fd ps (SpT X.K xc fn.mu fn.ar fn.f) ∧ k ≤ lv ∧ Binds X.K fd ps [] ∧ ps.length = fn.ar
structure Good (X : Cx) (cx : Cc) (Γ : List Fn) (G : List PD) (Wx : WX) (xc : Nat → Value) (lv : Nat) : Prop where
  N : X.N = cx.N
  sc : X.env.scope = cx.sc
  nd : X.N.Nodup
  calm : X.calm = true
  room : Room (lv + 1) X.A
  takes : Takes X Wx
  pass : PassesOwn (model X.prog X.w) X.A X.env X.xe
  st : ∀ x, cx.st x = true → Loc X.env.scope x ∧ (X.fn x = true ∨ X.env.scope.names.lookup x = some .local)
  blt : ∀ x ∈ blts, X.mg x = none
  glo : ∀ (i : Nat) x d, cx.gl[i]? = some x → G[i]? = some d → ∃ u v, X.mg x = some u ∧ RelV v u ∧ ∀ H A, RD X.K H A v d
  fn : ∀ (i : Nat) fn, Γ[i]? = some fn → cx.fn[i]? = some fn.nm ∧ FnGood X xc lv fn
  exc : ∀ (c : Nat) x, cx.xc[c]? = some x → ∃ (C : Ad) (bmB : List Value) (B newId initId : String), ExcBaseFacts B newId initId bmB ∧ PySem.W.excIn X.K C bmB newId = true ∧ X.mg x = some (.ref C) ∧ PySem.W.keepIn X.K (.ref C) = true ∧ Raises X (.ref C) ∧ xc c = .ref C
section
variable {X : Cx} {cx : Cc} {Γ : List Fn} {G : List PD} {Wx : WX} {xc : Nat → Value} {lv : Nat}
theorem Good.u64 (g : Good X cx Γ G Wx xc lv) : X.A.units + 64 < cLine := g.room.units
theorem Good.gl (g : Good X cx Γ G Wx xc lv) {x : Str} (h : cx.glob x = true) : Gl X x := by
  show X.env.scope.names.lookup x = _
  rw [g.sc]
  simpa [Cc.glob, Cc.kind] using h
theorem okNm1 {x : Str} (h : okNm x = true) : (x == ("__debug__" : Str)) = false := by
  simp only [okNm, Bool.and_eq_true, Bool.not_eq_true'] at h; exact h.1
theorem okNm2 {x : Str} (h : okNm x = true) : (x == ("__classdict__" : Str)) = false := by
  simp only [okNm, Bool.and_eq_true, Bool.not_eq_true'] at h; exact h.2
theorem Good.visv (g : Good X cx Γ G Wx xc lv) {x : Str} (h : cx.vis x = true) : Vis X.env.scope x := by
  show X.env.scope.names.lookup x = _ ∨ _
  rw [g.sc]
  simpa [Cc.vis, Cc.kind] using h
/-- monotone readings -/
theorem PE.of {e : Expr} {t t' : TE} (h : PE X e t) (i : ∀ σ H Q, t' σ H Q → t σ H Q) : PE X e t' := ⟨fun pins s σ H Q I q => h.run pins s σ H Q I (i σ H Q q)⟩
theorem PT.of {e : Expr} {t t' : TT} (h : PT X e t) (i : ∀ σ H Q, t' σ H Q → t σ H Q) : PT X e t' := ⟨fun pins s σ H Q I q => h.run pins s σ H Q I (i σ H Q q)⟩
theorem PW.of' {e : Expr} {t t' : TT} (h : L2.PW X e t) (i : ∀ σ H Q, t' σ H Q → t σ H Q) : L2.PW X e t' := ⟨fun wh pins s σ H Q I q => h.run wh pins s σ H Q I (i σ H Q q)⟩
theorem PA.of {e : List Expr} {t t' : TA} (h : PA X e t) (i : ∀ σ H Q, t' σ H Q → t σ H Q) : PA X e t' := ⟨fun pos pins s σ H Q I q => h.run pos pins s σ H Q I (i σ H Q q)⟩
theorem PI.of {tg e : Expr} {t t' : TI} (h : PI X tg e t) (i : ∀ σ H R, t' σ H R → t σ H R) : PI X tg e t' := ⟨fun pins s σ H R I q => h.run pins s σ H R I (i σ H R q)⟩
theorem PS.of {e : Stmt} {t t' : TS} (h : PS X e t) (i : ∀ D σ H, t' D σ H → t D σ H) : PS X e t' := ⟨fun pins s σ H D I q => h.run pins s σ H D I (i D σ H q)⟩
theorem PSs.of {e : List Stmt} {t t' : TS} (h : PSs X e t) (i : ∀ D σ H, t' D σ H → t D σ H) : PSs X e t' := ⟨fun pins s σ H D I q => h.run pins s σ H D I (i D σ H q)⟩
theorem PI.or {tg e : Expr} {t t' : TI} (h : PI X tg e t) (h' : PI X tg e t') : PI X tg e (fun σ H R => t σ H R ∨ t' σ H R) := ⟨fun pins s σ H R I q => by
  rcases q with q | q
  · exact h.run pins s σ H R I q
  · exact h'.run pins s σ H R I q⟩
end
end Hil
/-! Hil7: targets; the pieces of an expression's reading. -/
namespace Hil
open PySem PySem.Spec PyProof.Rows L2
section
variable {K : PySem.W.Frag} {σ σ' : L2.St} {H H' : Hp} {Oc M M' : Ad → Prop} {ma : Nat → Ad} {ρ ρ' : Env'}
theorem asgN_some {i : Nat} {x : Sl} (e : asgN ρ i x = some ρ') : ∃ y, ρ[i]? = some y ∧ (∀ w, y ≠ .mu w) ∧ ρ' = ρ.set i x := by
  unfold asgN at e
  split at e
  · cases e
  · rename_i y hne hq
    cases e
    exact ⟨_, hq, fun w z => hne w z, rfl⟩
  · cases e
/-- a slot is stored -/
theorem Sta.put {i : Nat} {x : Sl} {v : V} (S : Sta K σ H Oc M ma ρ) (e : asgN ρ i x = some ρ') (hx : (∃ w, x = .sh w ∧ RW K H (fun b => Oc b ∨ M b) v w) ∨
    ∃ w a, x = .ow w ∧ v = .ref a ∧ M a ∧ OW K H (fun b => Oc b ∨ M b) a w ∧ ∀ (j : Nat) y, ρ[j]? = some y → y.owned = true → σ[j]? ≠ some (some (.ref a))) :
    Sta K (σ.set i (some v)) H Oc M ma ρ' := by
  obtain ⟨y, hy, hm, rfl⟩ := asgN_some e
  have hi : i < σ.length := by rw [S.len]; exact (List.getElem?_eq_some_iff.mp hy).1
  have get : ∀ j, i ≠ j → (σ.set i (some v))[j]? = σ[j]? := fun j ne => List.getElem?_set_ne ne
  have geti : (σ.set i (some v))[i]? = some (some v) := List.getElem?_set_self hi
  refine ⟨by rw [List.length_set, List.length_set]; exact S.len, fun j z ez => ?_, fun j k y1 y2 a e1 e2 h1 h2 a1 a2 => ?_, S.dis, S.trk⟩
  · rcases getE_set ez with ⟨rfl, rfl⟩ | ⟨ne, ez⟩
    · rcases hx with ⟨w, rfl, r⟩ | ⟨w, a, rfl, rfl, m, o, _⟩
      · exact ⟨v, geti, r⟩
      · exact ⟨a, geti, m, o⟩
    · have q := S.sl j z ez
      cases z with
      | un => trivial
      | sh w => obtain ⟨u, eu, r⟩ := q; exact ⟨u, by rw [get j ne]; exact eu, r⟩
      | ow w => obtain ⟨u, eu, r⟩ := q; exact ⟨u, by rw [get j ne]; exact eu, r⟩
      | mu w => obtain ⟨eu, r⟩ := q; exact ⟨by rw [get j ne]; exact eu, r⟩
  · rcases getE_set e1 with ⟨rfl, rfl⟩ | ⟨ne, f1⟩
    · rcases getE_set e2 with ⟨rfl, rfl⟩ | ⟨ne', f2⟩
      · rfl
      · rcases hx with ⟨w, rfl, _⟩ | ⟨w, b, rfl, rfl, _, _, n⟩
        · cases h1
        · rw [geti] at a1
          rw [get k ne'] at a2
          cases a1
          exact absurd a2 (n k y2 f2 h2)
    · rcases getE_set e2 with ⟨rfl, rfl⟩ | ⟨ne', f2⟩
      · rcases hx with ⟨w, rfl, _⟩ | ⟨w, b, rfl, rfl, _, _, n⟩
        · cases h2
        · rw [geti] at a2
          rw [get j ne] at a1
          cases a2
          exact absurd a1 (n j y1 f1 h1)
      · rw [get j ne] at a1
        rw [get k ne'] at a2
        exact S.inj j k y1 y2 a f1 f2 h1 h2 a1 a2
end
/-- outside of these slots nothing is stored -/
def Off (is : List Nat) (σ σ' : L2.St) : Prop := σ'.length = σ.length ∧ ∀ j, j ∉ is → σ'[j]? = σ[j]?
theorem Off.refl {is : List Nat} {σ : L2.St} : Off is σ σ := ⟨rfl, fun _ _ => rfl⟩
theorem Off.trans {is js : List Nat} {σ σ1 σ2 : L2.St} (a : Off is σ σ1) (b : Off js σ1 σ2) : Off (is ++ js) σ σ2 :=
  ⟨b.1.trans a.1, fun j h => (b.2 j fun m => h (List.mem_append_right _ m)).trans (a.2 j fun m => h (List.mem_append_left _ m))⟩
theorem Off.set {i : Nat} {σ : L2.St} {x : Option V} : Off [i] σ (σ.set i x) := ⟨List.length_set .., fun j h => List.getElem?_set_ne fun e => h (by simp [e])⟩
section
variable (K : PySem.W.Frag)
def gT (tg : Tg) : TG := fun v σ H Q => ∃ ρ Oc M ma d ρ', Sta K σ H Oc M ma ρ ∧ RD K H (fun b => Oc b ∨ M b) v d ∧ asgP ρ tg d = some ρ' ∧ ∀ σ', Sta K σ' H Oc M ma ρ' → Off tg.slots σ σ' → Q σ' H
def gTs (ts : Tgs) : TGs := fun vs σ H Q => ∃ ρ Oc M ma ds ρ', Sta K σ H Oc M ma ρ ∧ RDs K H (fun b => Oc b ∨ M b) vs ds ∧ asgPs ρ ts ds = some ρ' ∧ ∀ σ', Sta K σ' H Oc M ma ρ' → Off ts.slots σ σ' → Q σ' H
end
theorem PG.of {X : Cx} {x : Expr} {t t' : TG} (h : PG X x t) (i : ∀ v σ H Q, t' v σ H Q → t v σ H Q) : PG X x t' := ⟨fun pins s σ H v u Q I r q => h.run pins s σ H v u Q I r (i v σ H Q q)⟩
theorem PGs.of {X : Cx} {x : List Expr} {t t' : TGs} (h : PGs X x t) (i : ∀ v σ H Q, t' v σ H Q → t v σ H Q) : PGs X x t' := ⟨fun pins s σ H v u Q I r q => h.run pins s σ H v u Q I r (i v σ H Q q)⟩
theorem chkTg_form {cx : Cc} {tg : Tg} {x : Expr} (h : chkTg cx tg x = true) : (∃ id p, x = .Name id p) ∨ ∃ es k p, x = .Tuple es k p := by
  cases tg with
  | n i =>
    cases x <;> first
      | exact .inl ⟨_, _, rfl⟩
      | (simp [chkTg] at h; done)
  | t ts =>
    cases x <;> first
      | exact .inr ⟨_, _, _, rfl⟩
      | (simp [chkTg] at h; done)
theorem chkTgs_each {cx : Cc} {env : Env} : ∀ {ts : Tgs} {es : List Expr}, chkTgs cx ts es = true → (assignEach es env).length = es.length ∧ (assignEach es env).findIdx? (·.1) = none ∧
    ∀ ρ ds ρ', asgPs ρ ts ds = some ρ' → ds.length = es.length
  | .nil, [], _ => ⟨rfl, rfl, fun ρ ds ρ' e => by cases ds with
    | nil => rfl
    | cons _ _ => simp [asgPs] at e⟩
  | .nil, _ :: _, h => by simp [chkTgs] at h
  | .cons t ts, [], h => by simp [chkTgs] at h
  | .cons t ts, e :: es, h => by
    simp only [chkTgs, Bool.and_eq_true] at h
    obtain ⟨h1, h2, h3⟩ := chkTgs_each (env := env) h.2
    have he : assignEach (e :: es) env = (false, assign e env) :: assignEach es env := by
      rcases chkTg_form h.1 with ⟨id, p, rfl⟩ | ⟨l, k, p, rfl⟩ <;> rfl
    rw [he]
    refine ⟨by simp [h1], ?_, fun ρ ds ρ' q => ?_⟩
    · rw [List.findIdx?_cons]
      simp [h2]
    · cases ds with
      | nil => simp [asgPs] at q
      | cons d ds =>
        unfold asgPs at q
        split at q
        · rename_i ρ1 q1
          simp [h3 _ _ _ q]
        · cases q
section
variable {X : Cx} {cx : Cc} {Γ : List Fn} {G : List PD} {Wx : WX} {xc : Nat → Value} {lv : Nat}
mutual
theorem sound_Tg (g : Good X cx Γ G Wx xc lv) : ∀ (tg : Tg) (x : Expr), chkTg cx tg x = true → PG X x (gT X.K tg)
  | .n i, x, h => by
    cases x <;> first
      | (simp [chkTg] at h; done)
      | skip
    rename_i id p
    simp only [chkTg, Bool.and_eq_true, decide_eq_true_eq] at h
    obtain ⟨l, f⟩ := g.st id h.2
    refine PG.of (pg_name g.nd (by rw [g.N]; exact h.1) l f) fun v σ H Q q => ?_
    obtain ⟨ρ, Oc, M, ma, d, ρ', S, r, e, k⟩ := q
    exact k _ (S.put e (.inl ⟨_, rfl, r⟩)) Off.set
  | .t ts, x, h => by
    cases x <;> first
      | (simp [chkTg] at h; done)
      | skip
    rename_i es kk p
    have h : chkTgs cx ts es = true := by simpa [chkTg] using h
    obtain ⟨h1, h2, h3⟩ := chkTgs_each (env := X.env) h
    refine PG.of (pg_tup g.calm (sound_Tgs g ts es h) rfl h2) fun v σ H Q q => ?_
    obtain ⟨ρ, Oc, M, ma, d, ρ', S, r, e, k⟩ := q
    cases d with
    | tuple ds =>
      have e : asgPs ρ ts ds = some ρ' := by simpa [asgP] using e
      obtain ⟨a, vs, rfl, sq, rs⟩ := RD.tupS r
      exact ⟨a, vs, rfl, sq, by rw [h1, rs.length, h3 _ _ _ e], ρ, Oc, M, ma, ds, ρ', S, rs, e, k⟩
    | _ => simp [asgP] at e
theorem sound_Tgs (g : Good X cx Γ G Wx xc lv) : ∀ (ts : Tgs) (es : List Expr), chkTgs cx ts es = true → PGs X es (gTs X.K ts)
  | .nil, es, h => by
    cases es with
    | cons _ _ => simp [chkTgs] at h
    | nil =>
      refine PGs.of pgs_nil fun vs σ H Q q => ?_
      obtain ⟨ρ, Oc, M, ma, ds, ρ', S, r, e, k⟩ := q
      cases ds with
      | cons _ _ => simp [asgPs] at e
      | nil =>
        cases r
        simp only [asgPs, Option.some.injEq] at e
        subst e
        exact ⟨rfl, k σ S Off.refl⟩
  | .cons t ts, es, h => by
    cases es with
    | nil => simp [chkTgs] at h
    | cons x es =>
      simp only [chkTgs, Bool.and_eq_true] at h
      have hs : (assignEach (x :: es) X.env).map (·.2) = assign x X.env :: (assignEach es X.env).map (·.2) := by
        rcases chkTg_form h.1 with ⟨id, p, rfl⟩ | ⟨l, k, p, rfl⟩ <;> rfl
      refine PGs.of (pgs_cons (sound_Tg g t x h.1) (sound_Tgs g ts es h.2) hs) fun vs σ H Q q => ?_
      obtain ⟨ρ, Oc, M, ma, ds, ρ', S, r, e, k⟩ := q
      cases ds with
      | nil => simp [asgPs] at e
      | cons d ds =>
        cases r with
        | cons r rs =>
          unfold asgPs at e
          split at e
          · rename_i ρ1 e1
            exact ⟨_, _, rfl, ρ, Oc, M, ma, d, ρ1, S, r, e1, fun σ1 S1 o1 => ⟨ρ1, Oc, M, ma, ds, ρ', S1, rs, e, fun σ2 S2 o2 => k σ2 S2 (by
              show Off (t.slots ++ ts.slots) σ σ2
              exact o1.trans o2)⟩⟩
          · cases e
end
end
/-! ### an expression's pieces -/
section
variable {K : PySem.W.Frag} {Wx : WX} {xc : Nat → Value} {σ : L2.St} {H : Hp} {Q : VK}
theorem tV_1 {f : Env' → Out Vl} {op : W → Option (W × Bool)} (h : tV K Wx xc (fun ρ => (f ρ).bind fun v ρ1 => match (rd ρ1 v).bind op with
    | some r => .ok (mkV r) ρ1
    | none => .bad) σ H Q) : tV K Wx xc f σ H fun x H1 => rG1 K op x H1 Q := by
  obtain ⟨ρ, Oc, M, ma, S, P⟩ := h
  refine ⟨ρ, Oc, M, ma, S, Pst.imp (Pst.bind P) fun v ρ1 H1 M1 t1 P1 S1 x r1 => ?_⟩
  obtain ⟨M2, l, S2, r2⟩ := S1.soft r1
  have P2 := Pst.tr (Tr.less l) P1
  cases q : rd ρ1 v with
  | none => rw [q] at P2; exact P2.elim
  | some w =>
    rw [q] at P2
    have P2 : Pst Wx xc σ (match op w with
      | some r => Out.ok (mkV r) ρ1
      | none => .bad) H1 M2 _ := P2
    cases q2 : op w with
    | none => rw [q2] at P2; exact P2.elim
    | some r =>
      rw [q2] at P2
      refine ⟨_, w, r, S2.trk, S2.peek r2 q, q2, fun y H3 d => ?_⟩
      obtain ⟨M3, t3, S3, r3⟩ := S2.done d
      exact P2 H3 M3 t3 S3 y r3
theorem tV_2 {f g : Env' → Out Vl} {op : W → W → Option (W × Bool)} (h : tV K Wx xc (fun ρ => (f ρ).bind fun v ρ1 => (g ρ1).bind fun u ρ2 => match rd ρ2 v, rd ρ2 u with
    | some x, some y => (match op x y with
      | some r => .ok (mkV r) ρ2
      | none => .bad)
    | _, _ => .bad) σ H Q) : tV K Wx xc f σ H fun x H1 => tV K Wx xc g σ H1 fun y H2 => rG K op x y H2 Q := by
  obtain ⟨ρ, Oc, M, ma, S, P⟩ := h
  refine ⟨ρ, Oc, M, ma, S, Pst.imp (Pst.bind P) fun v ρ1 H1 M1 t1 P1 S1 x r1 => ?_⟩
  obtain ⟨M2, l, S2, r2⟩ := S1.soft r1
  refine ⟨ρ1, Oc, M2, ma, S2, Pst.imp (Pst.bind (Pst.tr (Tr.less l) P1)) fun u ρ3 H3 M3 t3 P3 S3 y r3 => ?_⟩
  obtain ⟨M4, l4, S4, r4⟩ := S3.soft r3
  have P4 := Pst.tr (Tr.less l4) P3
  have rx := (r2.tr t3).tr (Tr.less l4)
  cases q : rd ρ3 v with
  | none => rw [q] at P4; exact P4.elim
  | some w =>
    cases q' : rd ρ3 u with
    | none => rw [q, q'] at P4; exact P4.elim
    | some w' =>
      rw [q, q'] at P4
      have P4 : Pst Wx xc σ (match op w w' with
        | some r => Out.ok (mkV r) ρ3
        | none => .bad) H3 M4 _ := P4
      cases q2 : op w w' with
      | none => rw [q2] at P4; exact P4.elim
      | some r =>
        rw [q2] at P4
        refine ⟨_, w, w', r, S4.trk, S4.peek rx q, S4.peek r4 q', q2, fun z H5 d => ?_⟩
        obtain ⟨M5, t5, S5, r5⟩ := S4.done d
        exact P4 H5 M5 t5 S5 z r5
end
end Hil
/-! Hil8: arguments, calls, the single forms. -/
namespace Hil
open PySem PySem.Spec PyProof.Rows L2
def ArgR (K : PySem.W.Frag) (σ : L2.St) (H : Hp) (Oc M : Ad → Prop) (mu : Option Nat) : Nat → List W → Option Nat → List V → Prop
  | _, [], _, [] => True
  | k, w :: ws, j, x :: xs => (if muAt mu k = true then ∃ j', j = some j' ∧ σ[j']? = some (some x) else RW K H (fun b => Oc b ∨ M b) x w) ∧ ArgR K σ H Oc M mu (k + 1) ws j xs
  | _, _, _, _ => False
section
variable {K : PySem.W.Frag} {σ : L2.St} {H H' : Hp} {Oc M M' : Ad → Prop} {mu : Option Nat}
theorem ArgR.any {j j' : Option Nat} : ∀ {k : Nat} {ws : List W} {xs : List V}, (∀ i, k ≤ i → muAt mu i = false) → ArgR K σ H Oc M mu k ws j xs → ArgR K σ H Oc M mu k ws j' xs
  | _, [], [], _, _ => trivial
  | _, [], _ :: _, _, h => h.elim
  | _, _ :: _, [], _, h => h.elim
  | k, w :: ws, x :: xs, n, h => by
    obtain ⟨h1, h2⟩ := h
    have e := n k (Nat.le_refl _)
    refine ⟨?_, ArgR.any (fun i hi => n i (by omega)) h2⟩
    simp only [e, Bool.false_eq_true, if_false] at h1 ⊢
    exact h1
theorem ArgR.len {j : Option Nat} : ∀ {k : Nat} {ws : List W} {xs : List V}, ArgR K σ H Oc M mu k ws j xs → ws.length = xs.length
  | _, [], [], _ => rfl
  | _, [], _ :: _, h => h.elim
  | _, _ :: _, [], h => h.elim
  | k, w :: ws, x :: xs, h => by simp [ArgR.len h.2]
theorem ArgR.at {j : Option Nat} : ∀ {k : Nat} {ws : List W} {xs : List V}, ArgR K σ H Oc M mu k ws j xs → ∀ (i : Nat) v w, xs[i]? = some v → ws[i]? = some w →
    if muAt mu (k + i) = true then ∃ j', j = some j' ∧ σ[j']? = some (some v) else RW K H (fun b => Oc b ∨ M b) v w
  | _, [], [], _, i, _, _, e, _ => by simp at e
  | _, [], _ :: _, h, _, _, _, _, _ => h.elim
  | _, _ :: _, [], h, _, _, _, _, _ => h.elim
  | k, w :: ws, x :: xs, h, 0, v, w', e1, e2 => by
    simp at e1 e2
    subst e1; subst e2
    exact h.1
  | k, w :: ws, x :: xs, h, i + 1, v, w', e1, e2 => by
    have q := ArgR.at h.2 i v w' (by simpa using e1) (by simpa using e2)
    have e : k + 1 + i = k + (i + 1) := by omega
    rw [e] at q
    exact q
theorem ArgR.rds {j : Option Nat} : ∀ {k : Nat} {ws : List W} {xs : List V} {ds : List PD}, ArgR K σ H Oc M none k ws j xs → dataAll ws = some ds → RDs K H (fun b => Oc b ∨ M b) xs ds
  | _, [], [], _, _, e => by cases e; exact .nil
  | _, [], _ :: _, _, h, _ => h.elim
  | _, _ :: _, [], _, h, _ => h.elim
  | k, w :: ws, x :: xs, ds, h, e => by
    obtain ⟨h1, h2⟩ := h
    unfold dataAll at e
    split at e
    · rename_i _ _ d ds' e'
      cases e
      exact .cons h1 (ArgR.rds h2 e')
    · cases e
end
def tA (K : PySem.W.Frag) (Wx : WX) (xc : Nat → Value) (mu : Option Nat) (k : Nat) (f : Env' → Out (List W × Option Nat)) : TA := fun σ H Q => ∃ ρ Oc M ma, Sta K σ H Oc M ma ρ ∧
  Pst Wx xc σ (f ρ) H M fun r ρ' H' M' => Sta K σ H' Oc M' ma ρ' → ∀ xs, ArgR K σ H' Oc M' mu k r.1 r.2 xs → Q xs H'
theorem muAt_lt {mu : Option Nat} {k : Nat} (h : muAt mu k = true) : ∀ i, k + 1 ≤ i → muAt mu i = false := fun i hi => by
  cases mu with
  | none => rfl
  | some j =>
    have e : j = k := by simpa [muAt] using h
    have : (j == i) = false := by simp; omega
    exact this
section
variable {X : Cx} {cx : Cc} {Γ : List Fn} {G : List PD} {Wx : WX} {xc : Nat → Value} {lv : Nat}
/-! ### arguments -/
theorem s_nil {mu : Option Nat} {k : Nat} : PA X [] (tA X.K Wx xc mu k (evs Γ G mu k .nil)) :=
  PA.of pa_nil fun σ H Q h => by
    obtain ⟨ρ, Oc, M, ma, S, P⟩ := h
    exact P H M Tr.refl S [] trivial
theorem s_cons {mu : Option Nat} {k : Nat} {e : E} {r : Es} {y : Expr} {ys : List Expr} (hy : star y = false) (h1 : PE X y (tV X.K Wx xc (ev Γ G e))) (h2 : PA X ys (tA X.K Wx xc mu (k + 1) (evs Γ G mu (k + 1) r))) :
    PA X (y :: ys) (tA X.K Wx xc mu k (evs Γ G mu k (.cons e r))) := by
  refine PA.of (pa_cons h1 h2 (starEach_cons hy)) fun σ H Q h => ?_
  obtain ⟨ρ, Oc, M, ma, S, P⟩ := h
  simp only [evs] at P
  refine ⟨ρ, Oc, M, ma, S, Pst.imp (Pst.bind P) fun v ρ1 H1 M1 t1 P1 S1 x r1 => ?_⟩
  cases hm : muAt mu k with
  | true =>
    rw [hm] at P1
    cases v with
    | val w => exact P1.elim
    | fre w => exact P1.elim
    | loc j =>
      obtain ⟨y', e1, ho, ea⟩ := id r1
      refine ⟨ρ1, Oc, M1, ma, S1, Pst.imp (Pst.bind P1) fun q ρ2 H2 M2 t2 P2 S2 xs a2 => ?_⟩
      have P2 := P2 H2 M2 Tr.refl S2 (x :: xs)
      refine P2 ⟨?_, a2.any (muAt_lt hm)⟩
      rw [hm, if_pos rfl]
      exact ⟨j, rfl, ea⟩
  | false =>
    rw [hm] at P1
    have P1 : Pst Wx xc σ (match give ρ1 v with
      | some (w, ρ2) => (evs Γ G mu (k + 1) r ρ2).bind fun q ρ3 => Out.ok (w :: q.1, q.2) ρ3
      | none => .bad) H1 M1 _ := P1
    cases q : give ρ1 v with
    | none => rw [q] at P1; exact P1.elim
    | some p =>
      obtain ⟨w, ρ2⟩ := p
      rw [q] at P1
      obtain ⟨M2, l, S2, r2⟩ := S1.give r1 q
      refine ⟨ρ2, Oc, M2, ma, S2, Pst.imp (Pst.bind (Pst.tr (Tr.less l) P1)) fun q ρ3 H3 M3 t3 P3 S3 xs a3 => ?_⟩
      refine P3 H3 M3 Tr.refl S3 (x :: xs) ⟨?_, a3⟩
      rw [hm]
      simp only [Bool.false_eq_true, if_false]
      exact r2.tr t3
theorem chkEs_nostar {es : Es} : ∀ {xs : List Expr}, chkEs cx es xs = true → nostar xs = true := by
  intro xs
  induction xs generalizing es with
  | nil => intro _; rfl
  | cons x xs ih =>
    intro h
    cases es with
    | nil => simp [chkEs] at h
    | cons e r =>
      simp only [chkEs, Bool.and_eq_true, Bool.not_eq_true'] at h
      simp only [nostar, List.all_cons, Bool.and_eq_true, Bool.not_eq_true']
      exact ⟨h.2.1, ih h.2.2⟩

/-! ### the call of a def -/
theorem or_assoc' (A B C : Ad → Prop) : (fun b => (A b ∨ B b) ∨ C b) = fun b => A b ∨ B b ∨ C b := by funext b; rw [or_assoc]
/-- what a call asks of its arguments -/
theorem call_imp {i : Nat} {fn : Fn} {es : Es} (hi : Γ[i]? = some fn) {σ : L2.St} {H : Hp} {Q : VK} (h : tV X.K Wx xc (ev Γ G (.call i es)) σ H Q) :
    tCallS (SpT X.K xc fn.mu fn.ar fn.f) (WE Wx) (tA X.K Wx xc fn.mu 0 (evs Γ G fn.mu 0 es)) σ H Q := by
  obtain ⟨ρ, Oc, M, ma, S, P⟩ := h
  simp only [ev, hi] at P
  refine ⟨ρ, Oc, M, ma, S, Pst.imp (Pst.bind P) fun r ρ1 H1 M1 t1 P1 S1 xs a1 => ?_⟩
  obtain ⟨ws, jo⟩ := r
  cases hmu : fn.mu with
  | none =>
    rw [hmu] at P1 a1
    have P1 : Pst Wx xc σ (fn.go ρ1 ws none) H1 M1 _ := P1
    unfold Fn.go at P1
    by_cases hfit : fn.fits ws.length = true
    · rw [if_pos hfit] at P1
      have hl : ws.length = fn.ar := by simp only [Fn.fits, Bool.and_eq_true, decide_eq_true_eq] at hfit; exact hfit.1
      simp only [hmu] at P1
      have eA : (fun b => (Oc b ∨ M1 b) ∨ False) = fun b => Oc b ∨ M1 b := by funext b; rw [or_false]
      refine ⟨ws, fun b => Oc b ∨ M1 b, fun _ => False, a1.len.symm.trans hl, hl, fun _ h => h.elim, by rw [eA]; exact S1.trk, fun i v w e1 e2 => ?_, ?_⟩
      · have q := a1.at i v w e1 e2
        rw [eA]
        simpa [muAt] using q
      · have up : ∀ {H' : Hp} {M' : Ad → Prop}, Tr H1 (fun _ => False) H' M' → Tr H1 M1 H' (fun b => M1 b ∨ M' b) := fun {H' M'} t => ⟨fun b o e _ => t.keep b o e (fun z => z), fun b m => m.imp id fun m => (t.new b m).elim (fun z => z.elim) id⟩
        cases hf : fn.f ws with
        | none => rw [hf] at P1; exact P1
        | some res =>
          rw [hf] at P1
          cases res with
          | exc c =>
            have P1 : ∀ H' M', Tr H1 M1 H' M' → Wx (xc c) none σ H' := P1
            exact fun H' M' t => P1 H' _ (up t)
          | ret w fr out =>
            intro x H2 M2 t dis trk _ rx
            have t2 := up t
            have kp : ∀ b o, H1 b = some o → H2 b = some o := fun b o e => t.keep b o e fun z => z
            have S2 : Sta X.K σ H2 Oc (fun b => M1 b ∨ M2 b) ma ρ1 := by
              refine ⟨S1.len, fun i x e => (S1.sl i x e).mono t2 fun a _ _ m => ⟨.inl m, kp a⟩, S1.inj, fun b m => ?_, fun b m => ?_⟩
              · rcases m with m | m
                · exact S1.dis b m
                · exact fun o => dis b m (.inl o)
              · rcases m with m | m | m
                · obtain ⟨o, e⟩ := S1.trk b (.inl m); exact ⟨o, kp b o e⟩
                · obtain ⟨o, e⟩ := S1.trk b (.inr m); exact ⟨o, kp b o e⟩
                · exact trk b (.inr m)
            have P1 := P1 H2 _ t2 S2 x
            apply P1
            cases fr with
            | false =>
              simp only [Bool.false_eq_true, if_false] at rx
              rw [or_assoc'] at rx
              exact rx
            | true =>
              simp only [if_true] at rx
              obtain ⟨a, rfl, m, o⟩ := rx
              rw [or_assoc'] at o
              refine ⟨a, rfl, .inr m, o, fun i y e ho ea => ?_⟩
              obtain ⟨a', w', e1, m', _⟩ := (S1.sl i y e).ownAd ho
              rw [ea] at e1
              cases e1
              exact dis a m (.inr m')
    · rw [if_neg hfit] at P1
      exact P1.elim
  | some k' =>
    rw [hmu] at P1 a1
    cases jo with
    | none => exact P1.elim
    | some j =>
      have P1 : Pst Wx xc σ (match (ρ1[j]?).bind Sl.w with
        | some w => fn.go ρ1 (ws.set k' w) (some j)
        | none => .bad) H1 M1 _ := P1
      cases hj : ρ1[j]? with
      | none => rw [hj] at P1; exact P1.elim
      | some xj =>
        rw [hj] at P1
        cases hw : xj.w with
        | none => simp only [Option.bind_some, hw] at P1; exact P1.elim
        | some w0 =>
          simp only [Option.bind_some, hw] at P1
          unfold Fn.go at P1
          by_cases hfit : fn.fits (ws.set k' w0).length = true
          · rw [if_pos hfit] at P1
            simp only [hmu, hj] at P1
            have hl : ws.length = fn.ar ∧ k' < fn.ar := by
              simp only [Fn.fits, Bool.and_eq_true, decide_eq_true_eq, List.length_set, hmu] at hfit
              exact hfit
            obtain ⟨hl, hk'⟩ := hl
            -- the slot must be owned
            cases ho : xj.owned with
            | false =>
              exfalso
              cases hf : fn.f (ws.set k' w0) with
              | none => rw [hf] at P1; exact P1
              | some res =>
                rw [hf] at P1
                cases res with
                | exc c => exact P1
                | ret w fr out =>
                  cases xj with
                  | un => exact P1
                  | sh _ => exact P1
                  | ow _ => cases ho
                  | mu _ => cases ho
            | true =>
              obtain ⟨a, w', ea, ma1, oa, ew⟩ := (S1.sl j xj hj).ownAd ho
              rw [hw] at ew
              cases ew
              have eA : (fun b => (Oc b ∨ (M1 b ∧ b ≠ a)) ∨ b = a) = fun b => Oc b ∨ M1 b := by
                funext b
                apply propext
                constructor
                · rintro ((h | h) | h)
                  · exact .inl h
                  · exact .inr h.1
                  · exact .inr (h ▸ ma1)
                · rintro (h | h)
                  · exact .inl (.inl h)
                  · by_cases hb : b = a
                    · exact .inr hb
                    · exact .inl (.inr ⟨h, hb⟩)
              refine ⟨ws.set k' w0, fun b => Oc b ∨ (M1 b ∧ b ≠ a), fun b => b = a, a1.len.symm.trans hl, by rw [List.length_set]; exact hl, fun b e h => ?_, by rw [eA]; exact S1.trk, fun i v w e1 e2 => ?_, ?_⟩
              · rcases h with h | h
                · exact S1.dis a ma1 (e ▸ h)
                · exact h.2 e
              · rw [eA]
                by_cases hk : k' = i
                · subst hk
                  have hlt : k' < ws.length := by rw [hl, ← hl, a1.len]; exact (List.getElem?_eq_some_iff.mp e1).1
                  rw [List.getElem?_set_self hlt] at e2
                  cases e2
                  have hmt : muAt (some k') k' = true := by simp [muAt]
                  rw [if_pos hmt]
                  have q := a1.at k' v _ e1 (List.getElem?_eq_getElem hlt)
                  rw [Nat.zero_add, if_pos hmt] at q
                  obtain ⟨j', ej, ev⟩ := q
                  cases ej
                  rw [ea] at ev
                  cases ev
                  exact ⟨a, rfl, rfl, oa⟩
                · rw [List.getElem?_set_ne hk] at e2
                  have hmf : muAt (some k') i = false := by simp [muAt, hk]
                  have q := a1.at i v w e1 e2
                  rw [Nat.zero_add, hmf] at q
                  rw [hmf]
                  exact q
              · have up : ∀ {H' : Hp} {M' : Ad → Prop}, Tr H1 (fun b => b = a) H' M' → Tr H1 M1 H' (fun b => (M1 b ∧ b ≠ a) ∨ M' b) := fun {H' M'} t =>
                  ⟨fun b o e n => t.keep b o e (fun (z : b = a) => n (by rw [z]; exact ma1)), fun b m => m.elim (fun m => .inl m.1) fun m => (t.new b m).imp (fun (z : b = a) => by rw [z]; exact ma1) id⟩
                cases hf : fn.f (ws.set k' w0) with
                | none => rw [hf] at P1; exact P1
                | some res =>
                  rw [hf] at P1
                  cases res with
                  | exc c => exact P1.elim
                  | ret w fr out =>
                    intro x H2 M2 t dis trk hout rx
                    have t2 := up t
                    have kp : ∀ b o, b ≠ a → H1 b = some o → H2 b = some o := fun b o hb e => t.keep b o e hb
                    have hxk : xs[k']? = some (.ref a) := by
                      have hlt : k' < xs.length := by rw [← a1.len, hl]; exact hk'
                      have hlt2 : k' < ws.length := by rw [hl]; exact hk'
                      have q := a1.at k' _ _ (List.getElem?_eq_getElem hlt) (List.getElem?_eq_getElem hlt2)
                      have hmt : muAt (some k') k' = true := by simp [muAt]
                      rw [Nat.zero_add, if_pos hmt] at q
                      obtain ⟨j', ej, ev⟩ := q
                      cases ej
                      rw [ea] at ev
                      rw [List.getElem?_eq_getElem hlt]
                      exact (Option.some.inj ev).symm ▸ rfl
                    obtain ⟨m2a, o2a, nx⟩ := hout k' a rfl hxk
                    rw [or_assoc'] at o2a
                    have nsl : ∀ (i : Nat) y, i ≠ j → ρ1[i]? = some y → y.owned = true → σ[i]? ≠ some (some (.ref a)) := fun i y hne e ho' e' => hne (S1.inj i j y xj a e hj ho' ho e' ea)
                    -- the new state, whatever kind the slot is of
                    have S2 : ∀ xj' : Sl, SlOk X.K σ H2 Oc (fun b => (M1 b ∧ b ≠ a) ∨ M2 b) ma j xj' → xj'.owned = true → Sta X.K σ H2 Oc (fun b => (M1 b ∧ b ≠ a) ∨ M2 b) ma (ρ1.set j xj') := fun xj' hx' ho' => by
                      refine ⟨by rw [List.length_set]; exact S1.len, fun i y e => ?_, fun i i' y y' b e1 e2 h1 h2 b1 b2 => ?_, fun b m => ?_, fun b m => ?_⟩
                      · rcases getE_set e with ⟨rfl, rfl⟩ | ⟨ne, e⟩
                        · exact hx'
                        · refine (S1.sl i y e).mono t2 fun c hc ec mc => ?_
                          have hca : c ≠ a := fun z => nsl i y (Ne.symm ne) e hc (z ▸ ec)
                          exact ⟨.inl ⟨mc, hca⟩, fun o q => kp c o hca q⟩
                      · rcases getE_set e1 with ⟨rfl, rfl⟩ | ⟨ne, f1⟩
                        · rcases getE_set e2 with ⟨rfl, rfl⟩ | ⟨ne', f2⟩
                          · rfl
                          · rw [ea] at b1
                            cases b1
                            exact absurd b2 (nsl i' y' (Ne.symm ne') f2 h2)
                        · rcases getE_set e2 with ⟨rfl, rfl⟩ | ⟨ne', f2⟩
                          · rw [ea] at b2
                            cases b2
                            exact absurd b1 (nsl i y (Ne.symm ne) f1 h1)
                          · exact S1.inj i i' y y' b f1 f2 h1 h2 b1 b2
                      · rcases m with m | m
                        · exact S1.dis b m.1
                        · exact fun o => dis b m (.inl o)
                      · rcases m with m | m | m
                        · obtain ⟨o, e⟩ := S1.trk b (.inl m)
                          exact ⟨o, kp b o (fun (z : b = a) => S1.dis a ma1 (by rw [← z]; exact m)) e⟩
                        · obtain ⟨o, e⟩ := S1.trk b (.inr m.1)
                          exact ⟨o, kp b o m.2 e⟩
                        · exact trk b (.inr m)
                    have rv : ∀ xj' : Sl, RV X.K σ H2 Oc (fun b => (M1 b ∧ b ≠ a) ∨ M2 b) (ρ1.set j xj') x (mkV (w, fr)) := fun xj' => by
                      cases fr with
                      | false =>
                        simp only [Bool.false_eq_true, if_false] at rx
                        rw [or_assoc'] at rx
                        exact rx
                      | true =>
                        simp only [if_true] at rx
                        obtain ⟨b, rfl, m, o⟩ := rx
                        rw [or_assoc'] at o
                        have hba : b ≠ a := fun z => nx rfl (by rw [z])
                        refine ⟨b, rfl, .inr m, o, fun i y e ho' eb => ?_⟩
                        rcases getE_set e with ⟨rfl, rfl⟩ | ⟨ne, e⟩
                        · rw [ea] at eb
                          cases eb
                          exact hba rfl
                        · obtain ⟨b', w', e1, m', _⟩ := (S1.sl i y e).ownAd ho'
                          rw [eb] at e1
                          cases e1
                          exact dis b m (.inr ⟨m', hba⟩)
                    cases xj with
                    | un => cases ho
                    | sh _ => cases ho
                    | ow w1 => exact P1 H2 _ t2 (S2 (.ow out) ⟨a, ea, .inr m2a, o2a⟩ rfl) x (rv _)
                    | mu w1 =>
                      have e1 := (S1.sl j _ hj).1
                      rw [ea] at e1
                      cases e1
                      exact P1 H2 _ t2 (S2 (.mu out) ⟨ea, .inr m2a, o2a⟩ rfl) x (rv _)
          · rw [if_neg hfit] at P1
            exact P1.elim
theorem s_call (g : Good X cx Γ G Wx xc lv) {i : Nat} {fn : Fn} {es : Es} {nm : Str} {p pos : Pos} {y : Expr} {ys : List Expr} (hi : Γ[i]? = some fn) (hn : cx.fn[i]? = some nm) (hg : cx.glob nm = true) (ho : okNm nm = true) (hs : nostar (y :: ys) = true)
    (ha : PA X (y :: ys) (tA X.K Wx xc fn.mu 0 (evs Γ G fn.mu 0 es))) : PE X (.Call (.Name nm p) (y :: ys) [] pos) (tV X.K Wx xc (ev Γ G (.call i es))) := by
  obtain ⟨hn', F⟩ := g.fn i fn hi
  rw [hn] at hn'
  cases hn'
  obtain ⟨f, fd, ps, k, h1, h2, h3, h4, h5, h6⟩ := F.ok
  have hs' : star y = false := by simp only [nostar, List.all_cons, Bool.and_eq_true, Bool.not_eq_true'] at hs; exact hs.1
  have hs2 : nostar ys = true := by simp only [nostar, List.all_cons, Bool.and_eq_true] at hs; exact hs.2
  exact PE.of (pe_callS (E := WE Wx) h3 (g.room.mono (by omega)) (g.gl hg) h1 h2 h5 (passAt g.takes) ha (okNm1 ho) (starEach_cons hs') (plain_args hs2)) fun σ H Q h => call_imp hi h
end
end Hil
/-! Hil9: the single forms of expressions. -/
namespace Hil
open PySem PySem.Spec PyProof.Rows L2
section
variable {X : Cx} {cx : Cc} {Γ : List Fn} {G : List PD} {Wx : WX} {xc : Nat → Value} {lv : Nat}
/-! ### built-ins called by name -/
theorem dBlt_eq {nm : Str} {x : Expr} {es : List Expr} (h : dBlt cx nm x = some es) : ∃ p pos, x = .Call (.Name nm p) es [] pos ∧ cx.glob nm = true := by
  unfold dBlt at h
  split at h
  · split at h
    · rename_i y p es' pos hc
      cases h
      rw [← hc.1]
      exact ⟨p, pos, rfl, hc.1 ▸ hc.2⟩
    · cases h
  · cases h
theorem dB1_eq {nm : Str} {x y : Expr} (h : dB1 cx nm x = some y) : ∃ p pos, x = .Call (.Name nm p) [y] [] pos ∧ cx.glob nm = true := by
  unfold dB1 at h
  split at h
  · rename_i a e
    cases h
    exact dBlt_eq e
  · cases h
theorem dB2_eq {nm : Str} {x y z : Expr} (h : dB2 cx nm x = some (y, z)) : ∃ p pos, x = .Call (.Name nm p) [y, z] [] pos ∧ cx.glob nm = true := by
  unfold dB2 at h
  split at h
  · rename_i a b e
    cases h
    exact dBlt_eq e
  · cases h
theorem s_b1 (g : Good X cx Γ G Wx xc lv) {nm : Str} {id : String} {op : W → Option (W × Bool)} {y : Expr} {p pos : Pos} {f : Env' → Out Vl} (hc : CallR X (.builtin id) (rC1 X.K op)) (hb : bootBuiltins nm = some (.builtin id)) (hm : nm ∈ blts) (hg : cx.glob nm = true) (hs : star y = false)
    (hn : nm ≠ "__name__" := by decide) (hd : (nm == ("__debug__" : Str)) = false := by decide) (h : PE X y (tV X.K Wx xc f)) : PE X (.Call (.Name nm p) [y] [] pos) (tV X.K Wx xc fun ρ => (f ρ).bind fun v ρ1 => match (rd ρ1 v).bind op with
      | some r => .ok (mkV r) ρ1
      | none => .bad) :=
  PE.of (pe_callB hc (g.gl hg) (g.blt nm hm) hb (pa_cons h pa_nil (starEach_cons hs)) hn hd (starEach_cons hs) rfl) fun σ H Q q => by
    obtain ⟨ρ, Oc, M, ma, S, P⟩ := tV_1 q
    exact ⟨ρ, Oc, M, ma, S, P.imp fun v ρ1 H1 M1 _ k S1 x rx => ⟨x, rfl, k S1 x rx⟩⟩
theorem s_t1 (g : Good X cx Γ G Wx xc lv) {nm : Str} {id : String} {op : W → Option (W × Bool)} {y : Expr} {p pos : Pos} {f : Env' → Out Vl} (hc : CallR X (.type id) (rC1 X.K op)) (hb : bootBuiltins nm = some (.type id)) (hm : nm ∈ blts) (hg : cx.glob nm = true) (hs : star y = false)
    (hn : nm ≠ "__name__" := by decide) (hd : (nm == ("__debug__" : Str)) = false := by decide) (h : PE X y (tV X.K Wx xc f)) : PE X (.Call (.Name nm p) [y] [] pos) (tV X.K Wx xc fun ρ => (f ρ).bind fun v ρ1 => match (rd ρ1 v).bind op with
      | some r => .ok (mkV r) ρ1
      | none => .bad) :=
  PE.of (pe_callTy hc (g.gl hg) (g.blt nm hm) hb (pa_cons h pa_nil (starEach_cons hs)) hn hd (starEach_cons hs) rfl) fun σ H Q q => by
    obtain ⟨ρ, Oc, M, ma, S, P⟩ := tV_1 q
    exact ⟨ρ, Oc, M, ma, S, P.imp fun v ρ1 H1 M1 _ k S1 x rx => ⟨x, rfl, k S1 x rx⟩⟩
theorem s_b2 (g : Good X cx Γ G Wx xc lv) {nm : Str} {id : String} {op : W → W → Option (W × Bool)} {y z : Expr} {p pos : Pos} {f f' : Env' → Out Vl} (hc : CallR X (.builtin id) (rC2 X.K op)) (hb : bootBuiltins nm = some (.builtin id)) (hm : nm ∈ blts) (hg : cx.glob nm = true) (hs : star y = false) (hs' : star z = false)
    (hn : nm ≠ "__name__" := by decide) (hd : (nm == ("__debug__" : Str)) = false := by decide) (h : PE X y (tV X.K Wx xc f)) (h' : PE X z (tV X.K Wx xc f')) : PE X (.Call (.Name nm p) [y, z] [] pos) (tV X.K Wx xc fun ρ => (f ρ).bind fun v ρ1 => (f' ρ1).bind fun u ρ2 => match rd ρ2 v, rd ρ2 u with
      | some x, some y => (match op x y with
        | some r => .ok (mkV r) ρ2
        | none => .bad)
      | _, _ => .bad) :=
  PE.of (pe_callB hc (g.gl hg) (g.blt nm hm) hb (pa_cons h (pa_cons h' pa_nil (starEach_cons hs')) (starEach_cons hs)) hn hd (starEach_cons hs) (by rw [starEach_cons hs']; rfl)) fun σ H Q q => by
    obtain ⟨ρ, Oc, M, ma, S, P⟩ := tV_2 q
    refine ⟨ρ, Oc, M, ma, S, P.imp fun v ρ1 H1 M1 _ k S1 x rx => ?_⟩
    obtain ⟨ρ2, Oc2, M2, ma2, S2, P2⟩ := k S1 x rx
    exact ⟨ρ2, Oc2, M2, ma2, S2, P2.imp fun u ρ3 H3 M3 _ k3 S3 y ry => ⟨x, y, rfl, k3 S3 y ry⟩⟩
theorem boot_any' : bootBuiltins "any" = some (.builtin "any") := by decide +kernel
theorem boot_sum' : bootBuiltins "sum" = some (.builtin "sum") := by decide +kernel
theorem boot_min' : bootBuiltins "min" = some (.builtin "min") := by decide +kernel
theorem boot_max' : bootBuiltins "max" = some (.builtin "max") := by decide +kernel
theorem boot_isi' : bootBuiltins "isinstance" = some (.builtin "isinstance") := by decide +kernel
theorem boot_int' : bootBuiltins "int" = some (.type "int") := by decide +kernel
theorem boot_str' : bootBuiltins "str" = some (.type "str") := by decide +kernel
theorem boot_list' : bootBuiltins "list" = some (.type "list") := by decide +kernel
theorem boot_tuple' : bootBuiltins "tuple" = some (.type "tuple") := by decide +kernel
theorem boot_bool' : bootBuiltins "bool" = some (.type "bool") := by decide +kernel
theorem boot_all' : bootBuiltins "all" = some (.builtin "all") := by decide +kernel
theorem boot_dict' : bootBuiltins "dict" = some (.type "dict") := by decide +kernel
theorem boot_sorted' : bootBuiltins "sorted" = some (.builtin "sorted") := by decide +kernel
theorem boot_set' : bootBuiltins "set" = some (.type "set") := by decide +kernel
theorem boot_len' : bootBuiltins "len" = some (.builtin "len") := by decide +kernel
/-- the plain forms of a test -/
def plainT : Expr → Bool
  | .UnaryOp .Not _ _ => false
  | .BoolOp _ _ _ => false
  | .IfExp _ _ _ _ => false
  | .Compare _ _ _ _ => false
  | _ => true
theorem pt_plain {x : Expr} {t : TE} (hp : plainT x = true) (h : PE X x t) : PT X x (tB t) := by
  refine pt_val h fun whole => ?_
  cases x <;> first
    | rfl
    | (simp [plainT] at hp; done)
    | skip
  rename_i op a p
  cases op <;> first
    | rfl
    | (simp [plainT] at hp; done)
theorem non_decide {K : PySem.W.Frag} {H : Hp} {A : Ad → Prop} {x : V} {d : PD} (h : PW K H A x (.d d)) : decide (x = .non) = (match d with
    | .none => true
    | _ => false) := by
  rcases h with h | ⟨a, rfl, h⟩
  · have h : RD K H A x d := h
    cases h <;> rfl
  · cases d with
    | list ds => rfl
    | _ => exact h.elim
theorem og_non : OpR X (compareOp .Is) (fun x y H Q => y = .non ∧ rG1 X.K gNon x H Q) := by
  intro pins s σ H x y v u Q I rx ry h
  obtain ⟨rfl, A, w, r, tk, p, e, q⟩ := h
  refine op_isN pins s σ H x .non v u Q I rx ry ⟨rfl, ?_⟩
  cases w with
  | d d =>
    rw [non_decide p]
    cases d <;> (simp only [gNon, Option.some.injEq] at e; subst e; exact q _ _ (.val (.bl _)))
  | _ => cases e
theorem og_nnon : OpR X (compareOp .IsNot) (fun x y H Q => y = .non ∧ rG1 X.K gNnon x H Q) := by
  intro pins s σ H x y v u Q I rx ry h
  obtain ⟨rfl, A, w, r, tk, p, e, q⟩ := h
  refine op_notN pins s σ H x .non v u Q I rx ry ⟨rfl, ?_⟩
  cases w with
  | d d =>
    rw [non_decide p]
    cases d <;> (simp only [gNnon, Option.some.injEq] at e; subst e; exact q _ _ (.val (.bl _)))
  | _ => cases e
/-- an expression and a test of one form -/
def Both (X : Cx) (x : Expr) (t : TE) : Prop := PE X x t ∧ PT X x (tB t)
theorem Both.plain {x : Expr} {t : TE} (h : PE X x t) (hp : plainT x = true) : Both X x t := ⟨h, pt_plain hp h⟩
theorem tB_imp {t t' : TE} (i : ∀ σ H Q, t' σ H Q → t σ H Q) : ∀ σ H Q, tB t' σ H Q → tB t σ H Q := fun σ H Q q => i σ H _ q
theorem Both.of {x : Expr} {t t' : TE} (h : Both X x t) (i : ∀ σ H Q, t' σ H Q → t σ H Q) : Both X x t' := ⟨PE.of h.1 i, PT.of h.2 (tB_imp i)⟩
theorem both_cmp {a b : Expr} {op : CmpOp} {r : R2} {ta tb : TE} {pos : Pos} (ho : OpR X (compareOp op) r) (ha : PE X a ta) (hb : PE X b tb) (hm : behindInMarks op b = false) : Both X (.Compare a [op] [b] pos) (tOp r ta tb) :=
  ⟨pe_cmpR ho ha hb hm, pt_cmpR ho ha hb hm⟩
/-! ### one operand -/
theorem s_o1 (g : Good X cx Γ G Wx xc lv) (o : O1) {a : E} {x y : Expr} (hd : dO1 cx o x = some y) (hs : star y = false) (h : Both X y (tV X.K Wx xc (ev Γ G a))) : Both X x (tV X.K Wx xc (ev Γ G (.o1 o a))) := by
  have hu := g.u64
  cases o with
  | len =>
    obtain ⟨p, pos, rfl, hg⟩ := dB1_eq hd
    exact .plain (s_b1 g og_len boot_len' (by decide) hg hs (h := h.1)) rfl
  | list =>
    obtain ⟨p, pos, rfl, hg⟩ := dB1_eq hd
    exact .plain (s_t1 g og_list boot_list' (by decide) hg hs (h := h.1)) rfl
  | tuple =>
    obtain ⟨p, pos, rfl, hg⟩ := dB1_eq hd
    exact .plain (s_t1 g og_tup boot_tuple' (by decide) hg hs (h := h.1)) rfl
  | all =>
    obtain ⟨p, pos, rfl, hg⟩ := dB1_eq hd
    exact .plain (s_b1 g (og_all g.calm) boot_all' (by decide) hg hs (h := h.1)) rfl
  | any =>
    obtain ⟨p, pos, rfl, hg⟩ := dB1_eq hd
    exact .plain (s_b1 g (og_any g.calm) boot_any' (by decide) hg hs (h := h.1)) rfl
  | sum =>
    obtain ⟨p, pos, rfl, hg⟩ := dB1_eq hd
    exact .plain (s_b1 g (og_sum g.calm) boot_sum' (by decide) hg hs (h := h.1)) rfl
  | max =>
    obtain ⟨p, pos, rfl, hg⟩ := dB1_eq hd
    exact .plain (s_b1 g (og_max g.calm) boot_max' (by decide) hg hs (h := h.1)) rfl
  | min =>
    obtain ⟨p, pos, rfl, hg⟩ := dB1_eq hd
    exact .plain (s_b1 g (og_minD g.calm g.u64) boot_min' (by decide) hg hs (h := h.1)) rfl
  | int =>
    obtain ⟨p, pos, rfl, hg⟩ := dB1_eq hd
    exact .plain (s_t1 g og_int boot_int' (by decide) hg hs (h := h.1)) rfl
  | isi t =>
    simp only [dO1] at hd
    split at hd
    · rename_i a' y' p' e
      split at hd
      · rename_i hc
        cases hd
        obtain ⟨p, pos, rfl, hg⟩ := dBlt_eq e
        obtain ⟨hy, hg2⟩ := hc
        subst hy
        have hty : PE X (.Name (t.nm : Str) p') (tC (.ty t.nm)) := by
          cases t
          · exact pe_bltn (g.gl hg2) (g.blt _ (by decide)) boot_int' rfl
          · exact pe_bltn (g.gl hg2) (g.blt _ (by decide)) boot_str' rfl
          · exact pe_bltn (g.gl hg2) (g.blt _ (by decide)) boot_list' rfl
          · exact pe_bltn (g.gl hg2) (g.blt _ (by decide)) boot_tuple' rfl
          · exact pe_bltn (g.gl hg2) (g.blt _ (by decide)) boot_bool' rfl
        refine .plain (PE.of (pe_callB (og_isi t) (g.gl hg) (g.blt _ (by decide)) boot_isi' (pa_cons h.1 (pa_cons hty pa_nil) (starEach_cons hs)) (by decide) (by decide) (starEach_cons hs) rfl) fun σ H Q q => ?_) rfl
        obtain ⟨ρ, Oc, M, ma, S, P⟩ := tV_1 q
        exact ⟨ρ, Oc, M, ma, S, P.imp fun v ρ1 H1 M1 _ k S1 x rx => ⟨x, rfl, k S1 x rx⟩⟩
      · cases hd
    · cases hd
  | non =>
    simp only [dO1] at hd
    split at hd
    · cases hd
      refine (both_cmp og_non h.1 pe_non rfl).of fun σ H Q q => ?_
      obtain ⟨ρ, Oc, M, ma, S, P⟩ := tV_1 q
      exact ⟨ρ, Oc, M, ma, S, P.imp fun v ρ1 H1 M1 _ k S1 x rx => ⟨rfl, k S1 x rx⟩⟩
    · cases hd
  | nnon =>
    simp only [dO1] at hd
    split at hd
    · cases hd
      refine (both_cmp og_nnon h.1 pe_non rfl).of fun σ H Q q => ?_
      obtain ⟨ρ, Oc, M, ma, S, P⟩ := tV_1 q
      exact ⟨ρ, Oc, M, ma, S, P.imp fun v ρ1 H1 M1 _ k S1 x rx => ⟨rfl, k S1 x rx⟩⟩
    · cases hd
  | not =>
    simp only [dO1] at hd
    split at hd
    · cases hd
      have key : ∀ (R : V → Hp → (Bool → Hp → Prop) → Prop), True := fun _ => trivial
      constructor
      · refine PE.of (pe_not h.1) fun σ H Q q => ?_
        obtain ⟨ρ, Oc, M, ma, S, P⟩ := tV_1 q
        refine ⟨ρ, Oc, M, ma, S, P.imp fun v ρ1 H1 M1 _ k S1 x rx => ?_⟩
        obtain ⟨A, w, r, tk, p, e, q'⟩ := k S1 x rx
        have e : gNot w = some r := e
        unfold gNot at e
        split at e
        · cases e
          exact ⟨_, p.bool, q' _ _ (.val (.bl _))⟩
        · cases e
      · refine PT.of (pt_not h.2) fun σ H Q q => ?_
        obtain ⟨ρ, Oc, M, ma, S, P⟩ := tV_1 (Q := fun x H1 => ∃ c, x = V.bl c ∧ Q c H1) q
        refine ⟨ρ, Oc, M, ma, S, P.imp fun v ρ1 H1 M1 _ k S1 x rx => ?_⟩
        obtain ⟨A, w, r, tk, p, e, q'⟩ := k S1 x rx
        have e : gNot w = some r := e
        unfold gNot at e
        split at e
        · cases e
          obtain ⟨c, e2, q2⟩ := q' _ _ (.val (.bl _))
          cases e2
          exact ⟨_, p.bool, q2⟩
        · cases e
    · cases hd
  | neg =>
    simp only [dO1] at hd
    split at hd
    · cases hd
      refine .plain (PE.of (pe_un un_neg h.1) fun σ H Q q => ?_) rfl
      obtain ⟨ρ, Oc, M, ma, S, P⟩ := tV_1 q
      refine ⟨ρ, Oc, M, ma, S, P.imp fun v ρ1 H1 M1 _ k S1 x rx => ?_⟩
      obtain ⟨A, w, r, tk, p, e, q'⟩ := k S1 x rx
      have e : gNeg w = some r := e
      unfold gNeg at e
      split at e
      · cases e
        exact ⟨_, p.int, q' _ _ (.val (.int _))⟩
      · cases e
    · cases hd
  | rev =>
    simp only [dO1] at hd
    split at hd
    · split at hd
      · rename_i hk
        cases hd
        subst hk
        refine .plain (PE.of (pe_revL h.1) fun σ H Q q => ?_) rfl
        obtain ⟨ρ, Oc, M, ma, S, P⟩ := tV_1 q
        refine ⟨ρ, Oc, M, ma, S, P.imp fun v ρ1 H1 M1 _ k S1 x rx => ?_⟩
        obtain ⟨A, w, r, tk, p, e, q'⟩ := k S1 x rx
        have e : gRev w = some r := e
        unfold gRev at e
        split at e
        · cases e
          obtain ⟨a, vs, rfl, e1, r1⟩ := p.lst
          exact ⟨a, vs, rfl, SqL.of e1, fun b hb => q' _ _ (.lst hb r1.reverse)⟩
        · cases e
      · cases hd
    · cases hd
  | stp b =>
    have key : ∀ {z : E} {lo : Option Expr} {k k2 : Nat} {p1 p2 p3 pos : Pos} {a : Expr}, lo = loE b p1 k → PE X a (tV X.K Wx xc (ev Γ G z)) → PE X (.Subscript a (.Slice lo none (some (.Constant (.int 2) k2 p2)) p3) pos) (tV X.K Wx xc (ev Γ G (.o1 (.stp b) z))) := fun {z lo k k2 p1 p2 p3 pos a} e0 h => by
      subst e0
      refine PE.of (pe_stpL h) fun σ H Q q => ?_
      obtain ⟨ρ, Oc, M, ma, S, P⟩ := tV_1 q
      refine ⟨ρ, Oc, M, ma, S, P.imp fun v ρ1 H1 M1 _ k S1 x rx => ?_⟩
      obtain ⟨A, w, r, tk, p, e, q'⟩ := k S1 x rx
      have e : gStp b w = some r := e
      unfold gStp at e
      split at e
      · rename_i ds0 _
        cases e
        obtain ⟨a, vs, rfl, e1, r1⟩ := p.lst
        have r2 : RDs X.K H1 A (stpD b vs) (stpD b ds0) := by
          unfold stpD
          rw [r1.length]
          exact pick_rds r1 _
        exact ⟨a, vs, rfl, SqL.of e1, fun b hb => q' _ _ (.lst hb r2)⟩
      · cases e
    simp only [dO1] at hd
    split at hd
    · split at hd
      · rename_i hk
        subst hk
        split at hd
        · split at hd
          · rename_i hb
            cases hd
            subst hb
            exact .plain (key (p1 := default) (k := 0) rfl h.1) rfl
          · cases hd
        · split at hd
          · rename_i hb
            cases hd
            obtain ⟨rfl, rfl⟩ := hb
            exact .plain (key rfl h.1) rfl
          · cases hd
        · cases hd
      · cases hd
    · cases hd
  | dict =>
    obtain ⟨p, pos, rfl, hg⟩ := dB1_eq hd
    exact .plain (s_t1 g (og_dict g.calm) boot_dict' (by decide) hg hs (h := h.1)) rfl
  | dictT =>
    obtain ⟨p, pos, rfl, hg⟩ := dB1_eq hd
    exact .plain (s_t1 g (og_dictT g.calm hu) boot_dict' (by decide) hg hs (h := h.1)) rfl
  | sorted =>
    obtain ⟨p, pos, rfl, hg⟩ := dB1_eq hd
    exact .plain (s_b1 g og_sortedD boot_sorted' (by decide) hg hs (h := h.1)) rfl
  | skeys =>
    simp only [dO1] at hd
    split at hd
    · rename_i o m ap cp e0
      split at hd
      · rename_i hc
        cases hd
        obtain ⟨rfl, hn, hl⟩ := hc
        obtain ⟨p, pos, rfl, hg⟩ := dB1_eq e0
        have hb : attributeBase y "keys" X.env (eval y X.env) = eval y X.env := by
          cases y <;> first
            | rfl
            | (simp [isNm] at hn; done)
        exact .plain (PE.of (pe_skeys g.calm (g.gl hg) (g.blt "sorted" (by decide)) h.1 hb (by simp [hl])) fun σ H Q q => by
          obtain ⟨ρ, Oc, M, ma, S, P⟩ := tV_1 q
          exact ⟨ρ, Oc, M, ma, S, P.imp fun v ρ1 H1 M1 _ k S1 x rx => rG1_skeys (k S1 x rx)⟩) rfl
      · cases hd
    · cases hd
  | sset =>
    simp only [dO1] at hd
    split at hd
    · rename_i z e0
      obtain ⟨p, pos, rfl, hg⟩ := dB1_eq e0
      obtain ⟨p2, pos2, rfl, hg2⟩ := dB1_eq hd
      exact .plain (PE.of (pe_callB (cr_sortedC g.calm) (g.gl hg) (g.blt "sorted" (by decide)) boot_sorted' (pa_cons (pe_callTy (cr_setOfC g.calm g.u64) (g.gl hg2) (g.blt "set" (by decide)) boot_set' (pa_cons h.1 pa_nil (starEach_cons hs)) (by decide) (by decide) (starEach_cons hs) rfl) pa_nil rfl) (by decide) (by decide) rfl rfl) fun σ H Q q => by
        obtain ⟨ρ, Oc, M, ma, S, P⟩ := tV_1 q
        exact ⟨ρ, Oc, M, ma, S, P.imp fun v ρ1 H1 M1 _ k S1 x rx => rG1_ssetC (k S1 x rx)⟩) rfl
    · cases hd
/-! ### two operands -/
theorem dBin_eq {o : Operator} {x y z : Expr} (h : dBin o x = some (y, z)) : ∃ pos, x = .BinOp y o z pos := by
  unfold dBin at h
  split at h
  · split at h
    · rename_i a p b pos e
      cases h
      exact ⟨pos, by rw [e]⟩
    · cases h
  · cases h
theorem dCmp_eq {o : CmpOp} {x y z : Expr} (h : dCmp o x = some (y, z)) : ∃ pos, x = .Compare y [o] [z] pos ∧ behindInMarks o z = false := by
  unfold dCmp at h
  split at h
  · split at h
    · rename_i a p b pos e
      cases h
      exact ⟨pos, by rw [e.1], e.1 ▸ e.2⟩
    · cases h
  · cases h
theorem dIx_eq {x y z : Expr} (h : dIx x = some (y, z)) : ∃ pos, x = .Subscript y z pos ∧ slic z = false := by
  unfold dIx at h
  split at h
  · split at h
    · cases h
    · rename_i a b pos e
      cases h
      exact ⟨pos, rfl, by simpa using e⟩
  · cases h
theorem plainIx_of {b : Expr} (h : slic b = false) : PlainIx b := fun o i => by
  cases b <;> first
    | rfl
    | (simp [slic] at h; done)
/-- the operation of a comparison -/
theorem og_cmp (g : Good X cx Γ G Wx xc lv) {o : O2} {c : CmpOp} (h : o.cmp = some c) : OpR X (compareOp c) (rG X.K (op2 o)) := by
  have hu := g.u64
  cases o <;> first
    | (cases h; done)
    | skip
  all_goals cases h
  · exact og_eq hu
  · exact og_ne hu
  · exact og_lt (by omega)
  · exact og_le
  · exact og_gt
  · exact og_ge
  · exact og_isB
  · exact og_isntB
  · exact og_in hu
  · exact og_nin hu
theorem s_o2 (g : Good X cx Γ G Wx xc lv) (o : O2) {a b : E} {x y z : Expr} (hd : dO2 cx o x = some (y, z)) (hs : star y = false) (hs' : star z = false) (h : PE X y (tV X.K Wx xc (ev Γ G a))) (h' : PE X z (tV X.K Wx xc (ev Γ G b))) :
    Both X x (tV X.K Wx xc (ev Γ G (.o2 o a b))) := by
  have hu := g.u64
  have cmp : ∀ {c : CmpOp}, o.cmp = some c → dCmp c x = some (y, z) → Both X x (tV X.K Wx xc (ev Γ G (.o2 o a b))) := fun {c} e hd => by
    obtain ⟨pos, rfl, hm⟩ := dCmp_eq hd
    exact (both_cmp (og_cmp g e) h h' hm).of fun σ H Q q => tV_2 q
  cases o with
  | add =>
    obtain ⟨pos, rfl⟩ := dBin_eq hd
    exact .plain (PE.of (pe_op og_add h h') fun σ H Q q => tV_2 q) rfl
  | sub =>
    obtain ⟨pos, rfl⟩ := dBin_eq hd
    exact .plain (PE.of (pe_op og_sub h h') fun σ H Q q => tV_2 q) rfl
  | mul =>
    obtain ⟨pos, rfl⟩ := dBin_eq hd
    exact .plain (PE.of (pe_op og_mul h h') fun σ H Q q => tV_2 q) rfl
  | div =>
    obtain ⟨pos, rfl⟩ := dBin_eq hd
    exact .plain (PE.of (pe_op og_div h h') fun σ H Q q => tV_2 q) rfl
  | mod =>
    obtain ⟨pos, rfl⟩ := dBin_eq hd
    exact .plain (PE.of (pe_op og_mod h h') fun σ H Q q => tV_2 q) rfl
  | pow =>
    obtain ⟨pos, rfl⟩ := dBin_eq hd
    exact .plain (PE.of (pe_op og_pow h h') fun σ H Q q => tV_2 q) rfl
  | ix =>
    obtain ⟨pos, rfl, hl⟩ := dIx_eq hd
    exact .plain (PE.of (pe_ix (og_ix hu) h h' (plainIx_of hl)) fun σ H Q q => tV_2 q) rfl
  | max2 =>
    obtain ⟨p, pos, rfl, hg⟩ := dB2_eq hd
    exact .plain (s_b2 g (og_max2 g.calm) boot_max' (by decide) hg hs hs' (h := h) (h' := h')) rfl
  | min2 =>
    obtain ⟨p, pos, rfl, hg⟩ := dB2_eq hd
    exact .plain (s_b2 g (og_min2 g.calm) boot_min' (by decide) hg hs hs' (h := h) (h' := h')) rfl
  | lrg =>
    simp only [dO2] at hd
    split at hd
    · rename_i y' hd'
      obtain ⟨p, pos, rfl, hg⟩ := dB1_eq hd'
      obtain ⟨p2, pos2, rfl, hg2⟩ := dB2_eq hd
      refine .plain (PE.of (pe_listRg g.calm (g.gl hg) (g.blt _ (by decide)) (prg_2 (g.gl hg2) (g.blt _ (by decide)) h h' (starEach_cons hs) (starEach_cons hs') (by rw [starEach_cons hs']; rfl))) fun σ H Q q => ?_) rfl
      obtain ⟨ρ, Oc, M, ma, S, P⟩ := tV_2 q
      refine ⟨ρ, Oc, M, ma, S, P.imp fun v ρ1 H1 M1 _ k S1 x rx => ?_⟩
      obtain ⟨ρ2, Oc2, M2, ma2, S2, P2⟩ := k S1 x rx
      refine ⟨ρ2, Oc2, M2, ma2, S2, P2.imp fun u ρ3 H3 M3 _ k3 S3 y ry => ?_⟩
      obtain ⟨A, w1, w2, r, tk, p1, p2, e, q'⟩ := k3 S3 y ry
      have e : gLrg w1 w2 = some r := e
      unfold gLrg at e
      split at e
      · split at e
        · rename_i hn
          cases e
          exact ⟨_, _, p1.int, p2.int, ⟨by omega, by omega, by omega, by omega, by omega⟩, fun b hb => q' _ _ (.lst hb rgD_rds)⟩
        · cases e
      · cases e
    · cases hd
  | eq => exact cmp rfl hd
  | ne => exact cmp rfl hd
  | lt => exact cmp rfl hd
  | le => exact cmp rfl hd
  | gt => exact cmp rfl hd
  | ge => exact cmp rfl hd
  | isB => exact cmp rfl hd
  | isntB => exact cmp rfl hd
  | inn => exact cmp rfl hd
  | nin => exact cmp rfl hd
end
end Hil
/-! Hil10: and, or, conditional expressions, chains, slices, displays, pop. -/
namespace Hil
open PySem PySem.Spec PyProof.Rows L2
section
variable {X : Cx} {cx : Cc} {Γ : List Fn} {G : List PD} {Wx : WX} {xc : Nat → Value} {lv : Nat}
theorem RD.boolV {K : PySem.W.Frag} {H : Hp} {A : Ad → Prop} {x : V} {b : Bool} (h : RD K H A x (.bool b)) : x = .bl b := by cases h; rfl
theorem RD.intV {K : PySem.W.Frag} {H : Hp} {A : Ad → Prop} {x : V} {b : Int} (h : RD K H A x (.int b)) : x = .int b := by cases h; rfl
/-! ### and, or -/
def BopOk (X : Cx) (t : TE) (c : Bool) (xs : List Expr) (pos : Pos) : Prop :=
  PE X (.BoolOp (if c = true then .And else .Or) xs pos) t ∧ L2.PW X (.BoolOp (if c = true then .And else .Or) xs pos) (tB t)
theorem s_bop1 {e : E} {y : Expr} {c : Bool} {pos : Pos} (h : Both X y (tV X.K Wx xc (ev Γ G e))) : BopOk X (tV X.K Wx xc (evb Γ G c (.cons e .nil))) c [y] pos := by
  refine ⟨PE.of (pe_one h.1) fun σ H Q q => q, ?_⟩
  cases c with
  | true => exact PW.of' (pw_and1 h.2) fun σ H Q q => q
  | false => exact PW.of' (pw_or1 h.2) fun σ H Q q => q
theorem s_bop2 {e e' : E} {r : Es} {y y' : Expr} {ys : List Expr} {c : Bool} {pos : Pos} (h : Both X y (tV X.K Wx xc (ev Γ G e))) (ih : BopOk X (tV X.K Wx xc (evb Γ G c (.cons e' r))) c (y' :: ys) pos) :
    BopOk X (tV X.K Wx xc (evb Γ G c (.cons e (.cons e' r)))) c (y :: y' :: ys) pos := by
  have key : ∀ {σ : L2.St} {H : Hp} {Q : VK}, tV X.K Wx xc (evb Γ G c (.cons e (.cons e' r))) σ H Q → tV X.K Wx xc (ev Γ G e) σ H fun x H1 => ∃ b, x = .bl b ∧ if b = c then tV X.K Wx xc (evb Γ G c (.cons e' r)) σ H1 Q else Q (.bl b) H1 := fun {σ H Q} q => by
    obtain ⟨ρ, Oc, M, ma, S, P⟩ := q
    simp only [evb] at P
    refine ⟨ρ, Oc, M, ma, S, Pst.imp (Pst.bind P) fun v ρ1 H1 M1 t1 P1 S1 x r1 => ?_⟩
    split at P1
    · rename_i b
      refine ⟨b, RD.boolV r1, ?_⟩
      by_cases hb : b = c
      · rw [if_pos hb] at P1
        rw [if_pos hb]
        exact ⟨ρ1, Oc, M1, ma, S1, P1⟩
      · rw [if_neg hb] at P1
        rw [if_neg hb]
        exact P1 H1 M1 Tr.refl S1 _ (RD.bl b)
    · exact P1.elim
  have mono : ∀ {σ : L2.St} {H : Hp} {Q Q' : VK}, (∀ x H1, Q x H1 → Q' x H1) → tV X.K Wx xc (ev Γ G e) σ H Q → tV X.K Wx xc (ev Γ G e) σ H Q' := fun {σ H Q Q'} i q => by
    obtain ⟨ρ, Oc, M, ma, S, P⟩ := q
    exact ⟨ρ, Oc, M, ma, S, P.imp fun v ρ1 H1 M1 _ k S1 x rx => i _ _ (k S1 x rx)⟩
  cases c with
  | true =>
    refine ⟨PE.of (pe_and h.1 ih.1) fun σ H Q q => mono (fun x H1 z => ?_) (key q), PW.of' (pw_and h.2 ih.2) fun σ H Q q => mono (fun x H1 z => ?_) (key q)⟩
    · obtain ⟨b, e, z⟩ := z
      refine ⟨b, e, ?_⟩
      cases b with
      | true => exact z
      | false => exact z
    · obtain ⟨b, e, z⟩ := z
      refine ⟨b, e, ?_⟩
      cases b with
      | true => exact z
      | false =>
        obtain ⟨c, e2, z⟩ := z
        cases e2
        exact z
  | false =>
    refine ⟨PE.of (pe_or h.1 ih.1) fun σ H Q q => mono (fun x H1 z => ?_) (key q), PW.of' (pw_or h.2 ih.2) fun σ H Q q => mono (fun x H1 z => ?_) (key q)⟩
    · obtain ⟨b, e, z⟩ := z
      refine ⟨b, e, ?_⟩
      cases b with
      | true => exact z
      | false => exact z
    · obtain ⟨b, e, z⟩ := z
      refine ⟨b, e, ?_⟩
      cases b with
      | true =>
        obtain ⟨c, e2, z⟩ := z
        cases e2
        exact z
      | false => exact z
/-! ### conditional expressions -/
theorem pt_ifExp {c a b : Expr} {pos : Pos} {tc ta tb : TT} (hc : PT X c tc) (ha : PT X a ta) (hb : PT X b tb) : PT X (.IfExp c a b pos) (fun σ H Q => tc σ H fun d H1 => if d = true then ta σ H1 Q else tb σ H1 Q) := by
  refine ⟨fun pins s σ H Q I h => ?_⟩
  show wpAny _ _ (do if ← isTrue c X.env (eval c X.env) then isTrue a X.env (eval a X.env) else isTrue b X.env (eval b X.env)) _ _ s
  refine wpAny_bind (thn (hc.run pins s σ H _ I h) fun d s1 ⟨H1, I1, q1⟩ => ?_)
  cases d with
  | true => exact ha.run pins s1 σ H1 _ I1 q1
  | false => exact hb.run pins s1 σ H1 _ I1 q1
theorem s_ite {c a b : E} {x1 x2 x3 : Expr} {pos : Pos} (hc : Both X x1 (tV X.K Wx xc (ev Γ G c))) (ha : Both X x2 (tV X.K Wx xc (ev Γ G a))) (hb : Both X x3 (tV X.K Wx xc (ev Γ G b))) : Both X (.IfExp x1 x2 x3 pos) (tV X.K Wx xc (ev Γ G (.ite c a b))) := by
  have key : ∀ {σ : L2.St} {H : Hp} {Q : VK}, tV X.K Wx xc (ev Γ G (.ite c a b)) σ H Q → tV X.K Wx xc (ev Γ G c) σ H fun x H1 => ∃ d, x = .bl d ∧ if d = true then tV X.K Wx xc (ev Γ G a) σ H1 Q else tV X.K Wx xc (ev Γ G b) σ H1 Q := fun {σ H Q} q => by
    obtain ⟨ρ, Oc, M, ma, S, P⟩ := q
    simp only [ev] at P
    refine ⟨ρ, Oc, M, ma, S, Pst.imp (Pst.bind P) fun v ρ1 H1 M1 t1 P1 S1 x r1 => ?_⟩
    split at P1
    · exact ⟨true, RD.boolV r1, ρ1, Oc, M1, ma, S1, P1⟩
    · exact ⟨false, RD.boolV r1, ρ1, Oc, M1, ma, S1, P1⟩
    · exact P1.elim
  exact ⟨PE.of (pe_ifExp hc.2 ha.1 hb.1) fun σ H Q q => key q, PT.of (pt_ifExp hc.2 ha.2 hb.2) fun σ H Q q => key q⟩
/-! ### chains -/
theorem s_ch (g : Good X cx Γ G Wx xc lv) {p q : O2} {a b c : E} {x1 x2 x3 : Expr} {o1 o2 : CmpOp} {pos : Pos} (hp : p.cmp = some o1) (hq : q.cmp = some o2) (hm : lastMarks [o1, o2] [x2, x3] = false)
    (ha : PE X x1 (tV X.K Wx xc (ev Γ G a))) (hb : PE X x2 (tV X.K Wx xc (ev Γ G b))) (hc : PE X x3 (tV X.K Wx xc (ev Γ G c))) : Both X (.Compare x1 [o1, o2] [x2, x3] pos) (tV X.K Wx xc (ev Γ G (.ch p q a b c))) := by
  refine Both.of ⟨pe_chain (og_cmp g hp) (og_cmp g hq) ha hb hc hm, pt_chain (og_cmp g hp) (og_cmp g hq) ha hb hc hm⟩ fun σ H Q h => ?_
  obtain ⟨ρ, Oc, M, ma, S, P⟩ := h
  simp only [ev] at P
  refine ⟨ρ, Oc, M, ma, S, Pst.imp (Pst.bind P) fun v ρ1 H1 M1 t1 P1 S1 x r1 => ?_⟩
  obtain ⟨M2, l, S2, r2⟩ := S1.soft r1
  refine ⟨ρ1, Oc, M2, ma, S2, Pst.imp (Pst.bind (Pst.tr (Tr.less l) P1)) fun u ρ3 H3 M3 t3 P3 S3 y r3 => ?_⟩
  obtain ⟨M4, l4, S4, r4⟩ := S3.soft r3
  have P4 := Pst.tr (Tr.less l4) P3
  have rx := (r2.tr t3).tr (Tr.less l4)
  cases q1 : rd ρ3 v with
  | none => rw [q1] at P4; exact P4.elim
  | some w =>
    cases q' : rd ρ3 u with
    | none => rw [q1, q'] at P4; exact P4.elim
    | some w' =>
      rw [q1, q'] at P4
      cases q2 : op2 p w w' with
      | none => simp only [q2] at P4; exact P4.elim
      | some r =>
        simp only [q2] at P4
        refine ⟨_, w, w', r, S4.trk, S4.peek rx q1, S4.peek r4 q', q2, fun z H5 d => ?_⟩
        obtain ⟨M5, t5, S5, r5⟩ := S4.done d
        have P5 := Pst.tr t5 P4
        split at P5
        · rename_i e
          cases e
          refine ⟨true, RD.boolV r5, ?_⟩
          rw [if_pos rfl]
          refine ⟨ρ3, Oc, M5, ma, S5, Pst.imp (Pst.bind P5) fun c' ρ6 H6 M6 t6 P6 S6 z' r6 => ?_⟩
          obtain ⟨M7, l7, S7, r7⟩ := S6.soft r6
          have P7 := Pst.tr (Tr.less l7) P6
          have ry := ((r4.tr t5).tr t6).tr (Tr.less l7)
          cases q5 : rd ρ6 u with
          | none => rw [q5] at P7; exact P7.elim
          | some y' =>
            cases q6 : rd ρ6 c' with
            | none => rw [q5, q6] at P7; exact P7.elim
            | some z'' =>
              rw [q5, q6] at P7
              cases q7 : op2 q y' z'' with
              | none => simp only [q7] at P7; exact P7.elim
              | some r' =>
                simp only [q7] at P7
                refine ⟨_, y', z'', r', S7.trk, S7.peek ry q5, S7.peek r7 q6, q7, fun z3 H8 d8 => ?_⟩
                obtain ⟨M8, t8, S8, r8⟩ := S7.done d8
                exact P7 H8 M8 t8 S8 z3 r8
        · rename_i e
          cases e
          refine ⟨false, RD.boolV r5, ?_⟩
          rw [if_neg (by decide)]
          exact P5 H5 M5 Tr.refl S5 _ (RD.bl false)
        · exact P5.elim
theorem s_ch3 (g : Good X cx Γ G Wx xc lv) {p q m : O2} {a b c d : E} {x1 x2 x3 x4 : Expr} {o1 o2 o3 : CmpOp} {pos : Pos} (hp : p.cmp = some o1) (hq : q.cmp = some o2) (hmm : m.cmp = some o3) (hm : lastMarks [o1, o2, o3] [x2, x3, x4] = false)
    (ha : PE X x1 (tV X.K Wx xc (ev Γ G a))) (hb : PE X x2 (tV X.K Wx xc (ev Γ G b))) (hc : PE X x3 (tV X.K Wx xc (ev Γ G c))) (hd : PE X x4 (tV X.K Wx xc (ev Γ G d))) : Both X (.Compare x1 [o1, o2, o3] [x2, x3, x4] pos) (tV X.K Wx xc (ev Γ G (.ch3 p q m a b c d))) := by
  refine Both.of ⟨pe_chain3 (og_cmp g hp) (og_cmp g hq) (og_cmp g hmm) ha hb hc hd hm, pt_chain3 (og_cmp g hp) (og_cmp g hq) (og_cmp g hmm) ha hb hc hd hm⟩ fun σ H Q h => ?_
  obtain ⟨ρ, Oc, M, ma, S, P⟩ := h
  simp only [ev] at P
  refine ⟨ρ, Oc, M, ma, S, Pst.imp (Pst.bind P) fun v ρ1 H1 M1 t1 P1 S1 x r1 => ?_⟩
  obtain ⟨M2, l, S2, r2⟩ := S1.soft r1
  refine ⟨ρ1, Oc, M2, ma, S2, Pst.imp (Pst.bind (Pst.tr (Tr.less l) P1)) fun u ρ3 H3 M3 t3 P3 S3 y r3 => ?_⟩
  obtain ⟨M4, l4, S4, r4⟩ := S3.soft r3
  have P4 := Pst.tr (Tr.less l4) P3
  have rx := (r2.tr t3).tr (Tr.less l4)
  cases q1 : rd ρ3 v with
  | none => rw [q1] at P4; exact P4.elim
  | some w =>
    cases q' : rd ρ3 u with
    | none => rw [q1, q'] at P4; exact P4.elim
    | some w' =>
      rw [q1, q'] at P4
      cases q2 : op2 p w w' with
      | none => simp only [q2] at P4; exact P4.elim
      | some r =>
        simp only [q2] at P4
        refine ⟨_, w, w', r, S4.trk, S4.peek rx q1, S4.peek r4 q', q2, fun z H5 d => ?_⟩
        obtain ⟨M5, t5, S5, r5⟩ := S4.done d
        have P5 := Pst.tr t5 P4
        split at P5
        · rename_i e
          cases e
          refine ⟨true, RD.boolV r5, ?_⟩
          rw [if_pos rfl]
          refine ⟨ρ3, Oc, M5, ma, S5, Pst.imp (Pst.bind P5) fun c' ρ6 H6 M6 t6 P6 S6 z' r6 => ?_⟩
          obtain ⟨M7, l7, S7, r7⟩ := S6.soft r6
          have P7 := Pst.tr (Tr.less l7) P6
          have ry := ((r4.tr t5).tr t6).tr (Tr.less l7)
          cases q5 : rd ρ6 u with
          | none => rw [q5] at P7; exact P7.elim
          | some y' =>
            cases q6 : rd ρ6 c' with
            | none => rw [q5, q6] at P7; exact P7.elim
            | some z'' =>
              rw [q5, q6] at P7
              cases q7 : op2 q y' z'' with
              | none => simp only [q7] at P7; exact P7.elim
              | some r' =>
                simp only [q7] at P7
                refine ⟨_, y', z'', r', S7.trk, S7.peek ry q5, S7.peek r7 q6, q7, fun z3 H8 d8 => ?_⟩
                obtain ⟨M8, t8, S8, r8⟩ := S7.done d8
                have P8 := Pst.tr t8 P7
                split at P8
                · rename_i e
                  cases e
                  refine ⟨true, RD.boolV r8, ?_⟩
                  rw [if_pos rfl]
                  refine ⟨ρ6, Oc, M8, ma, S8, Pst.imp (Pst.bind P8) fun e' ρ9 H9 M9 t9 P9 S9 z9 r9 => ?_⟩
                  obtain ⟨M10, l10, S10, r10⟩ := S9.soft r9
                  have P10 := Pst.tr (Tr.less l10) P9
                  have rz := ((r7.tr t8).tr t9).tr (Tr.less l10)
                  cases q8 : rd ρ9 c' with
                  | none => rw [q8] at P10; exact P10.elim
                  | some z2 =>
                    cases q9 : rd ρ9 e' with
                    | none => rw [q8, q9] at P10; exact P10.elim
                    | some e2 =>
                      rw [q8, q9] at P10
                      cases q10 : op2 m z2 e2 with
                      | none => simp only [q10] at P10; exact P10.elim
                      | some r' =>
                        simp only [q10] at P10
                        refine ⟨_, z2, e2, r', S10.trk, S10.peek rz q8, S10.peek r10 q9, q10, fun z11 H11 d11 => ?_⟩
                        obtain ⟨M11, t11, S11, r11⟩ := S10.done d11
                        exact P10 H11 M11 t11 S11 z11 r11
                · rename_i e
                  cases e
                  refine ⟨false, RD.boolV r8, ?_⟩
                  rw [if_neg (by decide)]
                  exact P8 H8 M8 Tr.refl S8 _ (RD.bl false)
                · exact P8.elim
        · rename_i e
          cases e
          refine ⟨false, RD.boolV r5, ?_⟩
          rw [if_neg (by decide)]
          exact P5 H5 M5 Tr.refl S5 _ (RD.bl false)
        · exact P5.elim
/-! ### slices -/
theorem RDs.cut {K : PySem.W.Frag} {H : Hp} {A : Ad → Prop} {vs : List V} {ds : List PD} (h : RDs K H A vs ds) (lo hi : Option Int) : RDs K H A (cutV vs lo hi) (cutD ds lo hi) := by
  unfold cutV cutD
  rw [h.length]
  exact (h.drop _).take _
def rSlG (K : PySem.W.Frag) : V → Option Int → Option Int → Hp → VK → Prop := fun x lo hi H Q => ∃ A w r, Trk H A ∧ PW K H A x w ∧ gSl lo hi w = some r ∧ ∀ v H', Done K H A r v H' → Q v H'
theorem og_sl : SlR X (rSlG X.K) := by
  intro pins s σ H x v vl vu lo hi sl Q I rx hs pl pu h
  obtain ⟨A, w, r, tk, p, e, q⟩ := h
  unfold gSl at e
  split at e
  · cases e
    obtain ⟨a, vs, rfl, e1, r1⟩ := p.lst
    exact sl_list pins s σ H _ v vl vu lo hi sl Q I rx hs pl pu ⟨a, vs, rfl, SqL.of e1, fun p hp => q _ _ (.lst hp (r1.cut lo hi))⟩
  · rename_i ds
    split at e
    · rename_i hl
      cases e
      obtain ⟨a, vs, rfl, e1, r1⟩ := id p.tup
      refine sl_tupA pins s σ H _ v vl vu lo hi sl Q I rx hs pl pu ⟨a, vs, rfl, e1, fun hw => q _ _ (.val ?_), fun _ p hp => q _ _ (.tup tk hp (r1.cut lo hi) hl)⟩
      have ec : cutD ds lo hi = ds := by
        unfold cutD
        rw [r1.length] at hw
        rw [hw.1, hw.2]
        simp
      rw [ec]
      rcases p with p | ⟨_, _, p⟩
      · exact p
      · exact p.elim
    · cases e
  · split at e
    · rename_i hl
      cases e
      obtain ⟨rfl, _⟩ := p.str
      exact L2.sl_str pins s σ H _ v vl vu lo hi sl Q I rx hs pl pu ⟨_, rfl, lim_le hl.1, q _ _ (.val (.str _ hl.2))⟩
    · cases e
  · cases e
/-- a part of a slice -/
def tO (K : PySem.W.Frag) (Wx : WX) (xc : Nat → Value) (b : Bool) (f : Env' → Out Vl) : TO := fun σ H Q => ∃ ρ Oc M ma, Sta K σ H Oc M ma ρ ∧
  Pst Wx xc σ (f ρ) H M fun v ρ' H' M' => Sta K σ H' Oc M' ma ρ' → ∃ o, (rd ρ' v).bind (optI b) = some o ∧ Q o H'
theorem PO.of {e : Option Expr} {t t' : TO} (h : PO X e t) (i : ∀ σ H Q, t' σ H Q → t σ H Q) : PO X e t' := ⟨fun pins s σ H Q I q => h.run pins s σ H Q I (i σ H Q q)⟩
theorem po_absent {e : E} (h : e.absent = true) : PO X none (tO X.K Wx xc e.absent (ev Γ G e)) := by
  refine PO.of po_none fun σ H Q q => ?_
  obtain ⟨ρ, Oc, M, ma, S, P⟩ := q
  have he : e = .cst .none := by
    cases e <;> first
      | (simp [E.absent] at h; done)
      | skip
    rename_i x
    cases x <;> first
      | rfl
      | (simp [E.absent] at h; done)
  subst he
  simp only [ev] at P
  obtain ⟨o, e, q⟩ := P H M Tr.refl S
  simp only [rd, Option.bind_some, E.absent, optI, if_true, Option.some.injEq] at e
  subst e
  exact q
theorem po_there {e : E} {y : Expr} (h : e.absent = false) (hy : PE X y (tV X.K Wx xc (ev Γ G e))) : PO X (some y) (tO X.K Wx xc e.absent (ev Γ G e)) := by
  refine PO.of (po_some hy) fun σ H Q q => ?_
  obtain ⟨ρ, Oc, M, ma, S, P⟩ := q
  refine ⟨ρ, Oc, M, ma, S, P.imp fun v ρ1 H1 M1 _ k S1 x rx => ?_⟩
  obtain ⟨o, e1, q⟩ := k S1
  rw [h] at e1
  obtain ⟨M2, _, S2, r2⟩ := S1.soft rx
  cases q1 : rd ρ1 v with
  | none => rw [q1] at e1; cases e1
  | some w =>
    rw [q1] at e1
    have e1 : optI false w = some o := e1
    have p := S2.peek r2 q1
    unfold optI at e1
    split at e1
    · simp at e1
    · cases e1
      exact ⟨_, p.int, q⟩
    · cases e1
theorem s_sl {a lo hi : E} {x1 : Expr} {l h : Option Expr} {p2 pos : Pos} (ha : PE X x1 (tV X.K Wx xc (ev Γ G a))) (hl : PO X l (tO X.K Wx xc lo.absent (ev Γ G lo))) (hh : PO X h (tO X.K Wx xc hi.absent (ev Γ G hi))) :
    PE X (.Subscript x1 (.Slice l h none p2) pos) (tV X.K Wx xc (ev Γ G (.sl a lo hi))) := by
  refine PE.of (pe_slice og_sl ha hl hh) fun σ H Q q => ?_
  obtain ⟨ρ, Oc, M, ma, S, P⟩ := q
  simp only [ev] at P
  refine ⟨ρ, Oc, M, ma, S, Pst.imp (Pst.bind P) fun v ρ1 H1 M1 t1 P1 S1 x r1 => ?_⟩
  obtain ⟨M2, le, S2, r2⟩ := S1.soft r1
  refine ⟨ρ1, Oc, M2, ma, S2, Pst.imp (Pst.bind (Pst.tr (Tr.less le) P1)) fun u ρ3 H3 M3 t3 P3 S3 => ?_⟩
  cases q1 : (rd ρ3 u).bind (optI lo.absent) with
  | none => rw [q1] at P3; exact P3.elim
  | some lo' =>
    rw [q1] at P3
    refine ⟨lo', rfl, ρ3, Oc, M3, ma, S3, Pst.imp (Pst.bind P3) fun z ρ5 H5 M5 t5 P5 S5 => ?_⟩
    cases q2 : (rd ρ5 z).bind (optI hi.absent) with
    | none => rw [q2] at P5; exact P5.elim
    | some hi' =>
      rw [q2] at P5
      have rx := (r2.tr t3).tr t5
      cases q3 : rd ρ5 v with
      | none => simp only [q3, Option.bind_none] at P5; exact P5.elim
      | some w =>
        simp only [q3, Option.bind_some] at P5
        cases q4 : gSl lo' hi' w with
        | none => rw [q4] at P5; exact P5.elim
        | some r =>
          rw [q4] at P5
          refine ⟨hi', rfl, _, w, r, S5.trk, S5.peek rx q3, q4, fun y H6 d => ?_⟩
          obtain ⟨M6, t6, S6, r6⟩ := S5.done d
          exact P5 H6 M6 t6 S6 y r6
/-! ### names, constants, displays -/
theorem s_var (g : Good X cx Γ G Wx xc lv) {i : Nat} {x : Expr} (h : dVar cx i x = true) : Both X x (tV X.K Wx xc (ev Γ G (.var i))) := by
  cases x <;> first
    | (simp [dVar] at h; done)
    | skip
  rename_i nm p
  simp only [dVar, Bool.and_eq_true, decide_eq_true_eq] at h
  refine .plain (PE.of (pe_var (i := i) (by rw [g.N]; exact h.1) (g.visv h.2.1) (okNm1 h.2.2) (okNm2 h.2.2)) fun σ H Q q => ?_) rfl
  obtain ⟨ρ, Oc, M, ma, S, P⟩ := q
  simp only [ev] at P
  cases e : ρ[i]? with
  | none => rw [e] at P; exact P.elim
  | some y =>
    rw [e] at P
    have so := S.sl i y e
    cases y with
    | un => exact P.elim
    | sh w =>
      obtain ⟨v, ev, r⟩ := so
      exact ⟨v, ev, P H M Tr.refl S v r⟩
    | ow w =>
      obtain ⟨a, ea, m, r⟩ := so
      exact ⟨_, ea, P H M Tr.refl S _ ⟨_, e, rfl, ea⟩⟩
    | mu w =>
      obtain ⟨ea, m, r⟩ := so
      exact ⟨_, ea, P H M Tr.refl S _ ⟨_, e, rfl, ea⟩⟩
theorem s_glo (g : Good X cx Γ G Wx xc lv) {i : Nat} {x : Expr} (h : dGlo cx i x = true) : Both X x (tV X.K Wx xc (ev Γ G (.glo i))) := by
  cases x <;> first
    | (simp [dGlo] at h; done)
    | skip
  rename_i nm p
  simp only [dGlo, Bool.and_eq_true, decide_eq_true_eq] at h
  constructor
  · refine ⟨fun pins s σ H Q I q => ?_⟩
    obtain ⟨ρ, Oc, M, ma, S, P⟩ := q
    simp only [ev] at P
    cases e : G[i]? with
    | none => rw [e] at P; exact P.elim
    | some d =>
      rw [e] at P
      obtain ⟨u, v, h1, h2, h3⟩ := g.glo i nm d h.1 e
      exact (pe_glob (g.gl h.2.1) h1 h2 (okNm1 h.2.2)).run pins s σ H Q I (P H M Tr.refl S v (h3 _ _))
  · refine pt_plain rfl ⟨fun pins s σ H Q I q => ?_⟩
    obtain ⟨ρ, Oc, M, ma, S, P⟩ := q
    simp only [ev] at P
    cases e : G[i]? with
    | none => rw [e] at P; exact P.elim
    | some d =>
      rw [e] at P
      obtain ⟨u, v, h1, h2, h3⟩ := g.glo i nm d h.1 e
      exact (pe_glob (g.gl h.2.1) h1 h2 (okNm1 h.2.2)).run pins s σ H Q I (P H M Tr.refl S v (h3 _ _))
theorem s_cst {d : PD} {x : Expr} (h : dCst d x = true) : Both X x (tV X.K Wx xc (ev Γ G (.cst d))) := by
  have hp : plainT x = true := by
    cases x <;> first
      | rfl
      | (cases d <;> simp [dCst] at h; done)
  refine .plain ?_ hp
  unfold dCst at h
  split at h
  · refine PE.of pe_non fun σ H Q q => ?_
    obtain ⟨ρ, Oc, M, ma, S, P⟩ := q
    simp only [ev] at P
    exact P H M Tr.refl S _ RD.non
  · rename_i b c _ _
    have e : b = c := by simpa using h
    subst e
    refine PE.of pe_bl fun σ H Q q => ?_
    obtain ⟨ρ, Oc, M, ma, S, P⟩ := q
    simp only [ev] at P
    exact P H M Tr.refl S _ (RD.bl _)
  · rename_i b c _ _
    have e : b = c := by simpa using h
    subst e
    refine PE.of pe_int fun σ H Q q => ?_
    obtain ⟨ρ, Oc, M, ma, S, P⟩ := q
    simp only [ev] at P
    exact P H M Tr.refl S _ (RD.int _)
  · rename_i b c _ _
    simp only [Bool.and_eq_true, decide_eq_true_eq] at h
    obtain ⟨e, h2⟩ := h
    subst e
    refine PE.of pe_str fun σ H Q q => ?_
    obtain ⟨ρ, Oc, M, ma, S, P⟩ := q
    simp only [ev] at P
    exact P H M Tr.refl S _ (RD.str _ h2)
  · cases h
theorem s_tup {es : Es} {xs : List Expr} {k : Nat} {pos : Pos} (ha : PA X xs (tA X.K Wx xc none 0 (evs Γ G none 0 es))) : PE X (.Tuple xs k pos) (tV X.K Wx xc (ev Γ G (.tup es))) := by
  refine PE.of (pe_tup2 ha) fun σ H Q q => ?_
  obtain ⟨ρ, Oc, M, ma, S, P⟩ := q
  simp only [ev] at P
  refine ⟨ρ, Oc, M, ma, S, Pst.imp (Pst.bind P) fun r ρ1 H1 M1 t1 P1 S1 vs a1 => ?_⟩
  cases e : dataAll r.1 with
  | none => rw [e] at P1; exact P1.elim
  | some ds =>
    rw [e] at P1
    have rs := a1.rds e
    by_cases hl : ds.length ≤ 1000000
    · simp only [hl, if_true] at P1
      refine ⟨by rw [rs.length]; exact lim_le hl, New2.of S1.trk rs fun v H' d => ?_⟩
      obtain ⟨M2, t2, S2, r2⟩ := S1.done d
      exact P1 H' M2 t2 S2 v r2
    · simp only [hl, if_false] at P1
      exact P1.elim
theorem s_lst {es : Es} {xs : List Expr} {pos : Pos} (ha : PA X xs (tA X.K Wx xc none 0 (evs Γ G none 0 es))) : PE X (.List xs pos) (tV X.K Wx xc (ev Γ G (.lst es))) := by
  refine PE.of (pe_lst ha) fun σ H Q q => ?_
  obtain ⟨ρ, Oc, M, ma, S, P⟩ := q
  simp only [ev] at P
  refine ⟨ρ, Oc, M, ma, S, Pst.imp (Pst.bind P) fun r ρ1 H1 M1 t1 P1 S1 vs a1 => ?_⟩
  cases e : dataAll r.1 with
  | none => rw [e] at P1; exact P1.elim
  | some ds =>
    rw [e] at P1
    have rs := a1.rds e
    by_cases hl : ds.length ≤ 1000000
    · simp only [hl, if_true] at P1
      refine ⟨by rw [rs.length]; exact lim_le hl, fun p hp => ?_⟩
      obtain ⟨M2, t2, S2, r2⟩ := S1.done (Done.lst hp rs)
      exact P1 _ M2 t2 S2 _ r2
    · simp only [hl, if_false] at P1
      exact P1.elim
theorem s_dic {t : Bool} {pos : Pos} : PE X (.Dict [] [] pos) (tV X.K Wx xc (ev Γ G (.dic t))) := by
  cases t with
  | true =>
    refine PE.of pe_dnewT fun σ H Q q => ?_
    obtain ⟨ρ, Oc, M, ma, S, P⟩ := q
    simp only [ev] at P
    intro p hp
    obtain ⟨M2, t2, S2, r2⟩ := S.done (r := (.dt [], true)) (x := .ref p) (H' := upd H p (.dT [])) ⟨keep_laid hp, p, rfl, hp, [], upd_same, rfl, .nil, List.nodup_nil⟩
    exact P _ M2 t2 S2 _ r2
  | false =>
    refine PE.of pe_dnewK fun σ H Q q => ?_
    obtain ⟨ρ, Oc, M, ma, S, P⟩ := q
    simp only [ev] at P
    intro p hp
    obtain ⟨M2, t2, S2, r2⟩ := S.done (r := (.dk [], true)) (x := .ref p) (H' := upd H p (.dK [])) ⟨keep_laid hp, p, rfl, hp, [], upd_same, rfl, .nil, List.nodup_nil⟩
    exact P _ M2 t2 S2 _ r2
theorem upd_twice {H : Hp} {p : Ad} {a b : HO} : upd (upd H p a) p b = upd H p b := by
  funext q
  unfold upd
  split <;> rfl
/-- {x: c} -/
theorem s_dic1 (g : Good X cx Γ G Wx xc lv) {i : Nat} {c : Int} {k v : Expr} {pos : Pos} (hk : dVar cx i k = true) (hv : dCst (.int c) v = true) : PE X (.Dict [some k] [v] pos) (tV X.K Wx xc (ev Γ G (.dic1 i c))) := by
  cases k <;> first
    | (simp [dVar] at hk; done)
    | skip
  rename_i nm p
  simp only [dVar, Bool.and_eq_true, decide_eq_true_eq] at hk
  have hvv : PE X v (tC (.int c)) := by
    cases v <;> first
      | (simp [dCst] at hv; done)
      | skip
    rename_i k kk ps
    cases k <;> first
      | (simp [dCst] at hv; done)
      | skip
    rename_i j
    have e : c = j := by simpa [dCst] using hv
    subst e
    exact pe_int
  have hx : PE X (.Name nm p) (tVar i) := pe_var (i := i) (by rw [g.N]; exact hk.1) (g.visv hk.2.1) (okNm1 hk.2.2) (okNm2 hk.2.2)
  refine PE.of (pe_disp (pps_cons hx hvv pps_nil) rfl rfl (by simp) (by simp)) fun σ H Q q => ?_
  obtain ⟨ρ, Oc, M, ma, S, P⟩ := q
  simp only [ev] at P
  split at P
  · rename_i n e
    intro p hp
    obtain ⟨y, ey, r⟩ := S.sl i _ e
    have r' := r.intV
    subst r'
    refine ⟨_, ey, upd_same, [(.inl n, .int c)], rfl, by simp, ?_⟩
    have e2 : mergeK [] [((.inl n : Key), V.int c)] = [(.inl n, .int c)] := rfl
    rw [upd_twice, e2]
    obtain ⟨M2, t2, S2, r2⟩ := S.done (r := (.dk [(.inl n, .int c)], true)) (x := .ref p) (H' := upd H p (.dK [(.inl n, .int c)])) ⟨keep_laid hp, p, rfl, hp, [(.inl n, .int c)], upd_same, rfl, .cons (.int c) .nil, by simp⟩
    exact P _ M2 t2 S2 _ r2
  · exact P.elim
end
end Hil
/-! Hil11: an owned object is written; pop; what is walked. -/
namespace Hil
open PySem PySem.Spec PyProof.Rows L2
section
variable {K : PySem.W.Frag} {σ σ' : L2.St} {H H' : Hp} {Oc M M' : Ad → Prop} {ma : Nat → Ad} {ρ ρ' : Env'}
/-- the object of slot i is written -/
theorem Sta.writ {i : Nat} {x : Sl} {a : Ad} {o : HO} {w : W} (S : Sta K σ H Oc M ma ρ) (hi : ρ[i]? = some x) (ho : x.owned = true) (ea : σ[i]? = some (some (.ref a))) (hm : M a)
    (hw : OW K (upd H a o) (fun b => Oc b ∨ M b) a w) : Sta K σ (upd H a o) Oc M ma (ρ.set i (reL x w)) := by
  have t : Tr H M (upd H a o) M := Tr.writ hm
  have hlt : i < ρ.length := (List.getElem?_eq_some_iff.mp hi).1
  refine ⟨by rw [List.length_set]; exact S.len, fun j y e => ?_, fun j k y z b e1 e2 h1 h2 b1 b2 => ?_, S.dis, fun b m => ?_⟩
  · rcases getE_set e with ⟨rfl, rfl⟩ | ⟨ne, e⟩
    · have so := S.sl i x hi
      cases x with
      | un => cases ho
      | sh _ => cases ho
      | ow _ => exact ⟨a, ea, hm, hw⟩
      | mu _ =>
        obtain ⟨e1, _, _⟩ := so
        rw [ea] at e1
        cases e1
        exact ⟨ea, hm, hw⟩
    · refine (S.sl j y e).mono t fun c hc ec mc => ⟨mc, fun q hq => ?_⟩
      rw [upd_ne]
      · exact hq
      · intro z
        subst z
        exact ne (S.inj i j x y _ hi e ho hc ea ec)
  · have own : ∀ {j : Nat} {y : Sl}, (ρ.set i (reL x w))[j]? = some y → y.owned = true → ∃ y', ρ[j]? = some y' ∧ y'.owned = true := fun {j y} e h => by
      rcases getE_set e with ⟨rfl, rfl⟩ | ⟨_, e⟩
      · exact ⟨x, hi, ho⟩
      · exact ⟨y, e, h⟩
    obtain ⟨y', f1, g1⟩ := own e1 h1
    obtain ⟨z', f2, g2⟩ := own e2 h2
    exact S.inj j k y' z' b f1 f2 g1 g2 b1 b2
  · by_cases hb : b = a
    · subst hb; exact hw.some_
    · rw [upd_ne hb]; exact S.trk b m
theorem ownL_own {x : Sl} {ds : List PD} (h : ownL x = some ds) : x.owned = true ∧ x.w = some (.d (.list ds)) := by
  unfold ownL at h
  split at h
  · cases h; exact ⟨rfl, rfl⟩
  · cases h; exact ⟨rfl, rfl⟩
  · cases h
theorem Sta.ownL {i : Nat} {x : Sl} {ds : List PD} (S : Sta K σ H Oc M ma ρ) (hi : ρ[i]? = some x) (h : Hil.ownL x = some ds) : ∃ a vs, σ[i]? = some (some (.ref a)) ∧ M a ∧ H a = some (.lst vs) ∧ RDs K H (fun b => Oc b ∨ M b) vs ds := by
  obtain ⟨ho, hw⟩ := ownL_own h
  obtain ⟨a, w, ea, m, o, e⟩ := (S.sl i x hi).ownAd ho
  rw [hw] at e
  cases e
  obtain ⟨vs, e1, r⟩ := o
  exact ⟨a, vs, ea, m, e1, r⟩
/-- a heap of one's own written: shared things stay -/
theorem RDs.writ {a : Ad} {o : HO} {vs : List V} {ds : List PD} (m : M a) (h : RDs K H (fun b => Oc b ∨ M b) vs ds) : RDs K (upd H a o) (fun b => Oc b ∨ M b) vs ds := h.tr (Tr.writ m)
end
section
variable {X : Cx} {cx : Cc} {Γ : List Fn} {G : List PD} {Wx : WX} {xc : Nat → Value} {lv : Nat}
theorem pa_1 {y : Expr} {t : TE} (hy : star y = false) (h : PE X y t) : PA X [y] (fun σ H Q => t σ H fun x H1 => Q [x] H1) := PA.of (pa_cons h pa_nil (starEach_cons hy)) fun σ H Q q => q
theorem pa_2 {y z : Expr} {t u : TE} (hy : star y = false) (hz : star z = false) (h : PE X y t) (h' : PE X z u) : PA X [y, z] (fun σ H Q => t σ H fun x H1 => u σ H1 fun x' H2 => Q [x, x'] H2) :=
  PA.of (pa_cons h (pa_1 hz h') (starEach_cons hy)) fun σ H Q q => q
theorem attrBase_of {x : Expr} {f : Str} {i : Nat} (h : dVar cx i x = true) : attributeBase x f X.env (eval x X.env) = eval x X.env := by
  cases x <;> first
    | rfl
    | (simp [dVar] at h; done)
theorem s_popL (g : Good X cx Γ G Wx xc lv) {i : Nat} {a : E} {o y : Expr} {apos cpos : Pos} (h : dVar cx i o = true) (hs : star y = false) (hl : apos.endLine = cpos.line) (ha : PE X y (tV X.K Wx xc (ev Γ G a))) :
    PE X (.Call (.Attribute o "pop" apos) [y] [] cpos) (tV X.K Wx xc (ev Γ G (.popL i a))) := by
  refine PE.of (pe_bm (T := "list") (id := "list.pop") PySem.F.plainAttrs_list PySem.F.slot_list_pop PySem.F.type_list_pop mt_popAt (s_var (Γ := Γ) (G := G) (xc := xc) (Wx := Wx) g h).1 (pa_1 hs ha) (attrBase_of h) ?_ (by simp [hl]) (starEach_cons hs) rfl) fun σ H Q q => ?_
  · rw [starEach_cons hs]
    rfl
  obtain ⟨ρ, Oc, M, ma, S, P⟩ := q
  simp only [ev] at P
  cases hi : ρ[i]? with
  | none => simp only [hi, Option.bind_none] at P; exact P.elim
  | some x0 =>
    simp only [hi, Option.bind_some] at P
    cases h0 : ownL x0 with
    | none => rw [h0] at P; exact P.elim
    | some ds0 =>
      rw [h0] at P
      obtain ⟨ho, _⟩ := ownL_own h0
      obtain ⟨p, vs0, ep, mp, hp, rp⟩ := S.ownL hi h0
      refine ⟨ρ, Oc, M, ma, S, ?_⟩
      have hev : ev Γ G (.var i) ρ = .ok (.loc i) ρ := by
        simp only [ev, hi]
        cases x0 <;> first | rfl | cases ho
      rw [hev]
      intro H1 M1 t1 S1 x r1
      obtain ⟨x1, hi1, ho1, ex⟩ := r1
      rw [ep] at ex
      cases ex
      rw [hi] at hi1
      cases hi1
      obtain ⟨p1, vs1, ep1, mp1, hp1, rp1⟩ := S1.ownL hi h0
      rw [ep] at ep1
      cases ep1
      refine ⟨.inl ⟨rfl, vs1, SqL.of hp1⟩, ρ, Oc, M1, ma, S1, Pst.imp (Pst.bind (P.tr t1)) fun v ρ2 H2 M2 t2 P2 S2 z r2 => ?_⟩
      obtain ⟨M3, l3, S3, r3⟩ := S2.soft r2
      have P3 := Pst.tr (Tr.less l3) P2
      cases e1 : rd ρ2 v with
      | none => rw [e1] at P3; exact P3.elim
      | some w =>
        have pk := S3.peek r3 e1
        rw [e1] at P3
        split at P3
        · rename_i k xx ew ei
          cases ew
          split at P3
          · rename_i ds e2
            split at P3
            · rename_i j e3
              split at P3
              · rename_i d e4
                obtain ⟨ho3, _⟩ := ownL_own e2
                obtain ⟨p3, vs3, ep3, mp3, hp3, rp3⟩ := S3.ownL ei e2
                rw [ep] at ep3
                cases ep3
                split at e3
                case isFalse => cases e3
                rename_i hbig
                obtain ⟨h1, h2, h3, h4⟩ := ixN_seq e3
                have hz := rp3.length
                obtain ⟨u, eu, ru⟩ := rp3.get e4
                refine ⟨p, vs3, k, j, u, rfl, ?_, hp3, ?_, ?_, by rw [hz]; exact h1, eu, ?_⟩
                · rw [pk.int]
                · omega
                · omega
                · have S4 := S3.writ (o := .lst (vs3.eraseIdx j)) (w := .d (.list (ds.eraseIdx j))) ei ho3 ep mp3 ⟨_, upd_same, (rp3.erase j).writ mp3⟩
                  have t4 : Tr H2 M3 (upd H2 p (.lst (vs3.eraseIdx j))) M3 := Tr.writ mp3
                  exact P3 _ _ t4 S4 _ (ru.mono t4.h1 t4.h2)
              · exact P3.elim
            · exact P3.elim
          · exact P3.elim
        · exact P3.elim
theorem find_keysN {κ : Type} [DecidableEq κ] (k : κ) : ∀ {l : List (κ × V)} {m : List (κ × PD)}, l.map (·.1) = m.map (·.1) → m.find? (fun kv => decide (kv.1 = k)) = none → valV l k = none
  | [], [], _, _ => rfl
  | [], _ :: _, h, _ => by cases h
  | _ :: _, [], h, _ => by cases h
  | p :: r, z :: t, h, e => by
    simp only [List.map_cons, List.cons.injEq] at h
    by_cases hk : z.1 = k
    · rw [List.find?_cons_of_pos (by simpa using hk)] at e
      cases e
    · rw [List.find?_cons_of_neg (by simpa using hk)] at e
      rw [valV_neg (fun z' => hk (h.1.symm.trans z'))]
      exact find_keysN k h.2 e
/-- what d.get(k, x) is -/
theorem get_of {κ : Type} [DecidableEq κ] {K : PySem.W.Frag} {H : Hp} {A : Ad → Prop} {k : κ} {l : List (κ × V)} {m : List (κ × PD)} {z : V} {w : W} (h1 : l.map (·.1) = m.map (·.1)) (h2 : RDs K H A (l.map (·.2)) (m.map (·.2))) (r : RW K H A z w) :
    RW K H A ((valV l k).getD z) (((m.find? fun kv => decide (kv.1 = k)).map fun kv => W.d kv.2).getD w) := by
  cases q : m.find? (fun kv => decide (kv.1 = k)) with
  | none =>
    rw [find_keysN k h1 q]
    exact r
  | some kv =>
    obtain ⟨v, e1, e2⟩ := find_keys k h1 h2 q
    rw [e1]
    exact e2
theorem gGet_of {K : PySem.W.Frag} {H : Hp} {A : Ad → Prop} {a : Ad} {d kw xw r : W} {y z : V} (o : OW K H A a d) (ry : RW K H A y kw) (rz : RW K H A z xw) (e : gGet d kw xw = some r) : ∃ ov, DGet H a y ov ∧ RW K H A (ov.getD z) r := by
  unfold gGet at e
  split at e
  · rename_i kvs i
    cases e
    obtain ⟨l, e1, e2, e3, _⟩ := o
    have ry : RD K H A y (.int i) := ry
    rw [intV0 ry]
    exact ⟨_, .inl ⟨l, .inl i, .inl e1, rfl, rfl⟩, get_of e2 e3 rz⟩
  · rename_i kvs i
    cases e
    obtain ⟨l, e1, e2, e3, _⟩ := o
    have ry : RD K H A y (.str i) := ry
    have : y = .str i := by cases ry; rfl
    rw [this]
    exact ⟨_, .inl ⟨l, .inr i, .inl e1, rfl, rfl⟩, get_of e2 e3 rz⟩
  · rename_i kvs k
    rw [Option.map_eq_some_iff] at e
    obtain ⟨ns, ek, rfl⟩ := e
    obtain ⟨l, e1, e2, e3, _⟩ := o
    obtain ⟨b, rfl, hb⟩ := RD.keyT ry ek
    exact ⟨_, .inr ⟨l, ns.map .inl, b, .inl e1, rfl, hb, rfl⟩, get_of e2 e3 rz⟩
  · cases e
theorem dic_at {K : PySem.W.Frag} {H : Hp} {A : Ad → Prop} {x : V} {d : W} (h : PW K H A x d) (hd : isDic d = true) : ∃ a, x = .ref a ∧ OW K H A a d := by
  cases d with
  | dk kvs => exact h.dk
  | dt kvs => exact h.dt
  | _ => cases hd
theorem gGet_dic {d kw xw r : W} (e : gGet d kw xw = some r) : isDic d = true := by
  unfold gGet at e
  split at e <;> first
    | rfl
    | cases e
theorem isD_of {K : PySem.W.Frag} {H : Hp} {A : Ad → Prop} {a : Ad} {d : W} (o : OW K H A a d) (h : isDic d = true) : IsD H a := by
  cases d with
  | dk kvs => obtain ⟨l, e, _⟩ := o; exact .inl ⟨l, .inl e⟩
  | dt kvs => obtain ⟨l, e, _⟩ := o; exact .inr ⟨l, .inl e⟩
  | _ => cases h
theorem s_dget (g : Good X cx Γ G Wx xc lv) {d k a : E} {o y z : Expr} {apos cpos : Pos} (h : isNm o = true) (hs : star y = false) (hs2 : star z = false) (hl : apos.endLine = cpos.line) (hd : PE X o (tV X.K Wx xc (ev Γ G d))) (hk : PE X y (tV X.K Wx xc (ev Γ G k))) (ha : PE X z (tV X.K Wx xc (ev Γ G a))) :
    PE X (.Call (.Attribute o "get" apos) [y, z] [] cpos) (tV X.K Wx xc (ev Γ G (.dget d k a))) := by
  have hu := g.u64
  have es : starEach [y, z] X.env = [(false, eval y X.env), (false, eval z X.env)] := by
    rw [starEach_cons hs, starEach_cons hs2]
    rfl
  have hb : attributeBase o "get" X.env (eval o X.env) = eval o X.env := by
    cases o <;> first
      | rfl
      | (simp [isNm] at h; done)
  refine PE.of (pe_dget2 (by omega) hd hk ha ⟨hb, by rw [es]; rfl, by simp [hl], by rw [es]; rfl⟩) fun σ H Q q => ?_
  obtain ⟨ρ, Oc, M, ma, S, P⟩ := q
  simp only [ev] at P
  refine ⟨ρ, Oc, M, ma, S, Pst.imp (Pst.bind P) fun c ρ0 H1 M1 t1 P1 S1 x r1 => ?_⟩
  obtain ⟨M2, l2, S2, r2⟩ := S1.soft r1
  have P2 := Pst.tr (Tr.less l2) P1
  cases e1 : rd ρ0 c with
  | none => rw [e1] at P2; exact P2.elim
  | some d0 =>
    rw [e1] at P2
    cases e2 : isDic d0 with
    | false => rw [Option.map_some, e2] at P2; exact P2.elim
    | true =>
      rw [Option.map_some, e2] at P2
      dsimp only at P2
      obtain ⟨p, rfl, op⟩ := dic_at (S2.peek r2 e1) e2
      refine ⟨p, rfl, isD_of op e2, ρ0, Oc, M2, ma, S2, Pst.imp (Pst.bind P2) fun v ρ1 H3 M3 t3 P3 S3 y' r3 => ?_⟩
      cases e3 : give ρ1 v with
      | none => rw [e3] at P3; exact P3.elim
      | some kv =>
        obtain ⟨kw, ρ2⟩ := kv
        rw [e3] at P3
        dsimp only at P3
        obtain ⟨M4, l4, S4, r4⟩ := S3.give r3 e3
        have P4 := Pst.tr (Tr.less l4) P3
        have r24 := (r2.tr t3).tr (Tr.less l4)
        refine ⟨ρ2, Oc, M4, ma, S4, Pst.imp (Pst.bind P4) fun u ρ3 H5 M5 t5 P5 S5 z' r5 => ?_⟩
        cases e5 : give ρ3 u with
        | none => rw [e5] at P5; exact P5.elim
        | some uv =>
          obtain ⟨xw, ρ4⟩ := uv
          rw [e5] at P5
          dsimp only at P5
          obtain ⟨M6, l6, S6, r6⟩ := S5.give r5 e5
          have P6 := Pst.tr (Tr.less l6) P5
          have r26 := (r24.tr t5).tr (Tr.less l6)
          have r46 := (r4.tr t5).tr (Tr.less l6)
          cases e7 : rd ρ4 c with
          | none => rw [e7] at P6; exact P6.elim
          | some d6 =>
            rw [e7, Option.bind_some] at P6
            cases e8 : gGet d6 kw xw with
            | none => rw [e8] at P6; exact P6.elim
            | some rr =>
              rw [e8] at P6
              obtain ⟨p6, e9, op6⟩ := dic_at (S6.peek r26 e7) (gGet_dic e8)
              cases e9
              obtain ⟨ov, dg, rv⟩ := gGet_of op6 r46 r6 e8
              exact ⟨ov, dg, P6 H5 M6 Tr.refl S6 _ rv⟩
end
end Hil
/-! Hil12: what is walked; the targets of a walk. -/
namespace Hil
open PySem PySem.Spec PyProof.Rows L2
/-- a turn's thing -/
def ImR (K : PySem.W.Frag) (H : Hp) (A : Ad → Prop) (x : V) (H' : Hp) : Im → Prop
  | .one d => H' = H ∧ RD K H A x d
  | .two a b => ∃ T x1 x2, x = .ref T ∧ H T = none ∧ H' = upd H T (.tup [x1, x2]) ∧ RD K H A x1 a ∧ RD K H A x2 b
/-- J walks ms, as long as what is not ours stays -/
def Wk (K : PySem.W.Frag) (J : L2.It) (ms : List Im) (H : Hp) (A : Ad → Prop) : Prop := ∀ (H2 : Hp) (A2 : Ad → Prop), (∀ b o, H b = some o → ¬ A b → H2 b = some o) → (∀ b o, H b = some o → ¬ A b → ¬ A2 b) → ∀ i : Nat,
  (ms.length ≤ i → J.stop i H2) ∧ ∀ m, ms[i]? = some m → J.go i H2 ∧ ∀ x H3, J.yld i H2 x H3 → ImR K H2 A2 x H3 m
section
variable {K : PySem.W.Frag} {H : Hp} {A : Ad → Prop}
theorem RD.lstV {v : V} {ds : List PD} (h : RD K H A v (.list ds)) : ∃ a vs, v = .ref a ∧ H a = some (.lst vs) ∧ ¬ A a ∧ RDs K H A vs ds := by
  cases h with
  | lst e n r => exact ⟨_, _, rfl, e, n, r⟩
theorem wk_list {a : Ad} {vs : List V} {ds : List PD} (e : H a = some (.lst vs)) (n : ¬ A a) (r : RDs K H A vs ds) : Wk K (Itl K a) (ds.map .one) H A := fun H2 A2 k1 k2 i => by
  have e2 := k1 a _ e n
  have r2 := r.mono k1 k2
  refine ⟨fun hi => ⟨vs, SqL.of e2, by rw [r.length]; simpa using hi⟩, fun m hm => ?_⟩
  rw [List.getElem?_map] at hm
  cases q : ds[i]? with
  | none => rw [q] at hm; cases hm
  | some d =>
    rw [q] at hm
    cases hm
    obtain ⟨v, ev, rv⟩ := r2.get q
    refine ⟨⟨vs, v, SqL.of e2, ev⟩, fun x H3 y => ⟨y.1, ?_⟩⟩
    have := y.2 vs (SqL.of e2)
    rw [ev] at this
    cases this
    exact rv
theorem wk_tup {v : V} {ds : List PD} (h : RD K H A v (.tuple ds)) : ∃ a, v = .ref a ∧ (∃ xs, SqT K H a xs) ∧ Wk K (Itt K a) (ds.map .one) H A := by
  obtain ⟨a, vs, rfl, q, r⟩ := h.tupS
  refine ⟨a, rfl, ⟨vs, q⟩, fun H2 A2 k1 k2 i => ?_⟩
  obtain ⟨a2, vs2, e2, q2, r2⟩ := (h.mono k1 k2).tupS
  cases e2
  refine ⟨fun hi => ⟨vs2, q2, by rw [r2.length]; simpa using hi⟩, fun m hm => ?_⟩
  rw [List.getElem?_map] at hm
  cases q3 : ds[i]? with
  | none => rw [q3] at hm; cases hm
  | some d =>
    rw [q3] at hm
    cases hm
    obtain ⟨v, ev, rv⟩ := r2.get q3
    refine ⟨⟨vs2, v, q2, ev⟩, fun x H3 y => ⟨y.1, ?_⟩⟩
    have := y.2 vs2 q2
    rw [ev] at this
    cases this
    exact rv
theorem strOk_one {z : Str} {i : Nat} {c : Nat} (h : PyData.strOk z = true) (e : z.cps[i]? = some c) : PyData.strOk ⟨#[c]⟩ = true := by
  unfold PyData.strOk at h ⊢
  rw [Array.all_eq_true] at h
  obtain ⟨hi, e⟩ := Array.getElem?_eq_some_iff.mp e
  have := h i hi
  rw [e] at this
  simpa using this
theorem wk_str {z : Str} (h : PyData.strOk z = true) : Wk K (Its z) (chars z) H A := fun H2 A2 k1 k2 i => by
  refine ⟨fun hi => by show z.cps.size ≤ i; simpa [chars] using hi, fun m hm => ?_⟩
  simp only [chars, List.getElem?_map] at hm
  cases q : z.cps.toList[i]? with
  | none => rw [q] at hm; cases hm
  | some c =>
    rw [q] at hm
    cases hm
    have q' : z.cps[i]? = some c := by rw [← Array.getElem?_toList]; exact q
    refine ⟨(Array.getElem?_eq_some_iff.mp q').1, fun x H3 y => ?_⟩
    obtain ⟨e1, c', e2, rfl⟩ := y
    rw [q'] at e2
    cases e2
    exact ⟨e1, .str _ (strOk_one h q')⟩
theorem wk_range {lo : Int} {n : Nat} : Wk K (Itr lo n) (rangeI lo n) H A := fun H2 A2 k1 k2 i => by
  refine ⟨fun hi => by show n ≤ i; simpa [rangeI] using hi, fun m hm => ?_⟩
  simp only [rangeI, List.getElem?_map] at hm
  cases q : (List.range n)[i]? with
  | none => rw [q] at hm; cases hm
  | some k =>
    rw [q] at hm
    cases hm
    obtain ⟨hi, e⟩ := List.getElem?_eq_some_iff.mp q
    rw [List.getElem_range] at e
    subst e
    refine ⟨by show i < n; simpa using hi, fun x H3 y => ?_⟩
    obtain ⟨e1, rfl⟩ := y
    exact ⟨e1, .int _⟩
theorem enumI_get : ∀ {ds : List PD} {k i : Nat}, (enumI k ds)[i]? = (ds[i]?).map fun d => .two (.int ((k + i : Nat) : Int)) d
  | [], k, i => by simp [enumI]
  | d :: ds, k, 0 => by simp [enumI]
  | d :: ds, k, i + 1 => by
    simp only [enumI, List.getElem?_cons_succ]
    rw [enumI_get]
    have e : k + 1 + i = k + (i + 1) := by omega
    rw [e]
theorem enumI_len : ∀ {ds : List PD} {k : Nat}, (enumI k ds).length = ds.length
  | [], k => rfl
  | d :: ds, k => by simp [enumI, enumI_len]
theorem wk_enum {a : Ad} {vs : List V} {ds : List PD} (e : H a = some (.lst vs)) (n : ¬ A a) (r : RDs K H A vs ds) : Wk K (Ite K a) (enumI 0 ds) H A := fun H2 A2 k1 k2 i => by
  have e2 := k1 a _ e n
  have r2 := r.mono k1 k2
  refine ⟨fun hi => ⟨vs, SqL.of e2, by rw [r.length]; simpa [enumI_len] using hi⟩, fun m hm => ?_⟩
  rw [enumI_get] at hm
  cases q : ds[i]? with
  | none => rw [q] at hm; cases hm
  | some d =>
    rw [q] at hm
    cases hm
    obtain ⟨v, ev, rv⟩ := r2.get q
    refine ⟨⟨vs, v, SqL.of e2, ev⟩, fun x H3 y => ?_⟩
    obtain ⟨T, x', rfl, hT, rfl, f⟩ := y
    have := f vs (SqL.of e2)
    rw [ev] at this
    cases this
    refine ⟨T, _, _, rfl, hT, rfl, ?_, rv⟩
    rw [Nat.zero_add]
    exact .int _
theorem wk_enumT {v : V} {ds : List PD} (h : RD K H A v (.tuple ds)) : ∃ a xs, v = .ref a ∧ SqT K H a xs ∧ Wk K (Ith K a) (enumI 0 ds) H A := by
  obtain ⟨a, vs, rfl, q, r⟩ := h.tupS
  refine ⟨a, vs, rfl, q, fun H2 A2 k1 k2 i => ?_⟩
  obtain ⟨a2, vs2, e2, q2, r2⟩ := (h.mono k1 k2).tupS
  cases e2
  refine ⟨fun hi => ⟨vs2, q2, by rw [r2.length]; simpa [enumI_len] using hi⟩, fun m hm => ?_⟩
  rw [enumI_get] at hm
  cases q3 : ds[i]? with
  | none => rw [q3] at hm; cases hm
  | some d =>
    rw [q3] at hm
    cases hm
    obtain ⟨v, ev, rv⟩ := r2.get q3
    refine ⟨⟨vs2, v, q2, ev⟩, fun x H3 y => ?_⟩
    obtain ⟨T, x', rfl, hT, rfl, f⟩ := y
    have := f vs2 q2
    rw [ev] at this
    cases this
    refine ⟨T, _, _, rfl, hT, rfl, ?_, rv⟩
    rw [Nat.zero_add]
    exact .int _
theorem zip_get {ds es : List PD} {i : Nat} {m : Im} (h : (List.zipWith Im.two ds es)[i]? = some m) : ∃ d e, ds[i]? = some d ∧ es[i]? = some e ∧ m = .two d e := by
  rw [List.getElem?_zipWith] at h
  cases q : ds[i]? with
  | none => rw [q] at h; cases h
  | some d =>
    cases q2 : es[i]? with
    | none => rw [q, q2] at h; cases h
    | some e =>
      rw [q, q2] at h
      cases h
      exact ⟨d, e, rfl, rfl, rfl⟩
theorem wk_zipL {a b : Ad} {vs us : List V} {ds es : List PD} (e : H a = some (.lst vs)) (n : ¬ A a) (r : RDs K H A vs ds) (e' : H b = some (.lst us)) (n' : ¬ A b) (r' : RDs K H A us es) : Wk K (Itz K a b) (List.zipWith Im.two ds es) H A := fun H2 A2 k1 k2 i => by
  have e2 := k1 a _ e n
  have r2 := r.mono k1 k2
  have e2' := k1 b _ e' n'
  have r2' := r'.mono k1 k2
  refine ⟨fun hi => ⟨vs, us, SqL.of e2, SqL.of e2', ?_⟩, fun m hm => ?_⟩
  · rw [r.length, r'.length]
    simp only [List.length_zipWith] at hi
    omega
  · obtain ⟨d, d', q1, q2, rfl⟩ := zip_get hm
    obtain ⟨v, ev, rv⟩ := r2.get q1
    obtain ⟨u, eu, ru⟩ := r2'.get q2
    refine ⟨⟨vs, us, v, u, SqL.of e2, SqL.of e2', ev, eu⟩, fun x H3 y => ?_⟩
    obtain ⟨T, x1, x2, rfl, hT, rfl, f1, f2⟩ := y
    have g1 := f1 vs (SqL.of e2)
    have g2 := f2 us (SqL.of e2')
    rw [ev] at g1
    rw [eu] at g2
    cases g1; cases g2
    exact ⟨T, _, _, rfl, hT, rfl, rv, ru⟩
theorem wk_zipT {v u : V} {ds es : List PD} (h : RD K H A v (.tuple ds)) (h' : RD K H A u (.tuple es)) : ∃ a b xs ys, v = .ref a ∧ u = .ref b ∧ SqT K H a xs ∧ SqT K H b ys ∧ Wk K (RZ.ItzT K a b) (List.zipWith Im.two ds es) H A := by
  obtain ⟨a, vs, rfl, q, r⟩ := h.tupS
  obtain ⟨b, us, rfl, q', r'⟩ := h'.tupS
  refine ⟨a, b, vs, us, rfl, rfl, q, q', fun H2 A2 k1 k2 i => ?_⟩
  obtain ⟨a2, vs2, e2, q2, r2⟩ := (h.mono k1 k2).tupS
  obtain ⟨b2, us2, e2', q2', r2'⟩ := (h'.mono k1 k2).tupS
  cases e2; cases e2'
  refine ⟨fun hi => ⟨vs2, us2, q2, q2', ?_⟩, fun m hm => ?_⟩
  · rw [r2.length, r2'.length]
    simp only [List.length_zipWith] at hi
    omega
  · obtain ⟨d, d', p1, p2, rfl⟩ := zip_get hm
    obtain ⟨v, ev, rv⟩ := r2.get p1
    obtain ⟨u, eu, ru⟩ := r2'.get p2
    refine ⟨⟨vs2, us2, v, u, q2, q2', ev, eu⟩, fun x H3 y => ?_⟩
    obtain ⟨T, x1, x2, rfl, hT, rfl, f1, f2⟩ := y
    have g1 := f1 vs2 q2
    have g2 := f2 us2 q2'
    rw [ev] at g1
    rw [eu] at g2
    cases g1; cases g2
    exact ⟨T, _, _, rfl, hT, rfl, rv, ru⟩
end
theorem zpG_some {x y : W} {ms : List Im} (h : zpG x y = some ms) : (∃ ds es, x = .d (.list ds) ∧ y = .d (.list es) ∧ ms = List.zipWith Im.two ds es) ∨ ∃ ds es, x = .d (.tuple ds) ∧ y = .d (.tuple es) ∧ ms = List.zipWith Im.two ds es := by
  unfold zpG at h
  split at h
  · cases h; exact .inl ⟨_, _, rfl, rfl, rfl⟩
  · cases h; exact .inr ⟨_, _, rfl, rfl, rfl⟩
  · cases h
def tI (K : PySem.W.Frag) (Wx : WX) (xc : Nat → Value) (f : Env' → Out (List Im)) : TI := fun σ H R => ∃ ρ Oc M ma, Sta K σ H Oc M ma ρ ∧
  Pst Wx xc σ (f ρ) H M fun ms ρ' H' M' => Sta K σ H' Oc M' ma ρ' → ∀ J, Wk K J ms H' (fun b => Oc b ∨ M' b) → R J H'
section
variable {X : Cx} {cx : Cc} {Γ : List Fn} {G : List PD} {Wx : WX} {xc : Nat → Value} {lv : Nat}
theorem Pst.or {α : Type} {σ : L2.St} {o : Out α} {H : Hp} {M : Ad → Prop} {k : α → Env' → Hp → (Ad → Prop) → Prop} (h : Pst Wx xc σ o H M k) : (∃ c, o = .exc c ∧ ∀ k' : α → Env' → Hp → (Ad → Prop) → Prop, Pst Wx xc σ o H M k') ∨ ∃ a ρ, o = .ok a ρ := by
  cases o with
  | bad => exact h.elim
  | exc c => exact .inl ⟨c, rfl, fun _ => h⟩
  | ok a ρ => exact .inr ⟨a, ρ, rfl⟩
theorem s_iex {a : E} {tg x : Expr} (ha : PE X x (tV X.K Wx xc (ev Γ G a))) : PI X tg x (tI X.K Wx xc (evi Γ G (.ex a))) := by
  refine PI.of (PI.or (pi_list ha) (PI.or (pi_tup ha) (pi_str ha))) fun σ H R q => ?_
  obtain ⟨ρ, Oc, M, ma, S, P⟩ := q
  simp only [evi] at P
  have P := Pst.bind P
  rcases P.or with ⟨c, e, h⟩ | ⟨v, ρ1, e⟩
  · exact .inl ⟨ρ, Oc, M, ma, S, h _⟩
  · cases e1 : give ρ1 v with
    | none =>
      refine .inl ⟨ρ, Oc, M, ma, S, ?_⟩
      rw [e] at P ⊢
      intro H1 M1 t1
      have P1 := P H1 M1 t1
      dsimp only at P1
      rw [e1] at P1
      exact P1.elim
    | some q =>
      obtain ⟨w, ρ2⟩ := q
      rw [e] at P
      have P1 := fun H1 M1 t1 => P H1 M1 t1
      simp only [e1] at P1
      split at P1
      · rename_i ds ρ3 e2
        cases e2
        refine .inl ⟨ρ, Oc, M, ma, S, ?_⟩
        rw [e]
        intro H1 M1 t1 S1 x r1
        obtain ⟨M2, l, S2, r2⟩ := S1.give r1 e1
        have r2 : RD X.K H1 (fun b => Oc b ∨ M2 b) x (.list ds) := r2
        obtain ⟨b, vs, rfl, eb, nb, rs⟩ := r2.lstV
        exact ⟨b, rfl, ⟨vs, SqL.of eb⟩, P1 H1 M1 t1 H1 M2 (Tr.less l) S2 _ (wk_list eb nb rs)⟩
      · rename_i ds ρ3 e2
        cases e2
        refine .inr (.inl ⟨ρ, Oc, M, ma, S, ?_⟩)
        rw [e]
        intro H1 M1 t1 S1 x r1
        obtain ⟨M2, l, S2, r2⟩ := S1.give r1 e1
        obtain ⟨b, rfl, hb, wk⟩ := wk_tup r2
        exact ⟨b, rfl, hb, P1 H1 M1 t1 H1 M2 (Tr.less l) S2 _ wk⟩
      · rename_i z ρ3 e2
        cases e2
        refine .inr (.inr ⟨ρ, Oc, M, ma, S, ?_⟩)
        rw [e]
        intro H1 M1 t1 S1 x r1
        obtain ⟨M2, l, S2, r2⟩ := S1.give r1 e1
        have r2 : RD X.K H1 (fun b => Oc b ∨ M2 b) x (.str z) := r2
        cases r2 with
        | str _ hz => exact ⟨z, rfl, P1 H1 M1 t1 H1 M2 (Tr.less l) S2 _ (wk_str hz)⟩
      · exact (P1 H M Tr.refl).elim
theorem s_ir1 (g : Good X cx Γ G Wx xc lv) {a : E} {tg x y : Expr} (hd : dB1 cx "range" x = some y) (hs : star y = false) (ha : PE X y (tV X.K Wx xc (ev Γ G a))) : PI X tg x (tI X.K Wx xc (evi Γ G (.r1 a))) := by
  obtain ⟨p, pos, rfl, hg⟩ := dB1_eq hd
  refine PI.of (pi_range1 (g.gl hg) (g.blt _ (by decide)) (pa_1 hs ha) (starEach_cons hs)) fun σ H R q => ?_
  obtain ⟨ρ, Oc, M, ma, S, P⟩ := q
  simp only [evi] at P
  refine ⟨ρ, Oc, M, ma, S, (Pst.bind P).imp fun v ρ1 H1 M1 t1 P1 S1 x r1 => ?_⟩
  obtain ⟨M2, l, S2, r2⟩ := S1.soft r1
  have P2 := P1.tr (Tr.less l)
  split at P2
  · rename_i n e
    have := (S2.peek r2 e).int
    subst this
    split at P2
    · rename_i hn
      exact ⟨n, rfl, by omega, by omega, P2 H1 M2 Tr.refl S2 _ wk_range⟩
    · exact P2.elim
  · exact P2.elim
theorem s_ir2 (g : Good X cx Γ G Wx xc lv) {a b : E} {tg x y z : Expr} (hd : dB2 cx "range" x = some (y, z)) (hs : star y = false) (hs' : star z = false) (ha : PE X y (tV X.K Wx xc (ev Γ G a))) (hb : PE X z (tV X.K Wx xc (ev Γ G b))) : PI X tg x (tI X.K Wx xc (evi Γ G (.r2 a b))) := by
  obtain ⟨p, pos, rfl, hg⟩ := dB2_eq hd
  refine PI.of (pi_range2 (g.gl hg) (g.blt _ (by decide)) (pa_2 hs hs' ha hb) (by rw [starEach_cons hs, starEach_cons hs']; rfl) (starEach_cons hs')) fun σ H R q => ?_
  obtain ⟨ρ, Oc, M, ma, S, P⟩ := q
  simp only [evi] at P
  refine ⟨ρ, Oc, M, ma, S, (Pst.bind P).imp fun v ρ1 H1 M1 t1 P1 S1 x r1 => ?_⟩
  obtain ⟨M2, l, S2, r2⟩ := S1.soft r1
  refine ⟨ρ1, Oc, M2, ma, S2, (Pst.bind (P1.tr (Tr.less l))).imp fun u ρ2 H2 M3 t2 P2 S3 x' r3 => ?_⟩
  obtain ⟨M4, l4, S4, r4⟩ := S3.soft r3
  have P3 := P2.tr (Tr.less l4)
  have rx := (r2.tr t2).tr (Tr.less l4)
  split at P3
  · rename_i m n e e'
    have := (S4.peek rx e).int
    subst this
    have := (S4.peek r4 e').int
    subst this
    split at P3
    · rename_i hn
      exact ⟨m, n, rfl, by omega, P3 H2 M4 Tr.refl S4 _ wk_range⟩
    · exact P3.elim
  · exact P3.elim
theorem s_ien (g : Good X cx Γ G Wx xc lv) {a : E} {tg x y : Expr} (hd : dB1 cx "enumerate" x = some y) (ht : isTup tg = true) (hs : star y = false) (ha : PE X y (tV X.K Wx xc (ev Γ G a))) : PI X tg x (tI X.K Wx xc (evi Γ G (.en a))) := by
  obtain ⟨p, pos, rfl, hg⟩ := dB1_eq hd
  cases tg <;> first
    | (simp [isTup] at ht; done)
    | skip
  refine PI.of (PI.or (pi_enum (g.gl hg) (g.blt _ (by decide)) (pa_1 hs ha) (starEach_cons hs)) (pi_enumT (g.gl hg) (g.blt _ (by decide)) ha (starEach_cons hs))) fun σ H R q => ?_
  obtain ⟨ρ, Oc, M, ma, S, P⟩ := q
  simp only [evi] at P
  have P := Pst.bind P
  rcases P.or with ⟨c, e, h⟩ | ⟨v, ρ1, e⟩
  · exact .inl ⟨ρ, Oc, M, ma, S, h _⟩
  · cases e1 : give ρ1 v with
    | none =>
      refine .inl ⟨ρ, Oc, M, ma, S, ?_⟩
      rw [e] at P ⊢
      intro H1 M1 t1
      have P1 := P H1 M1 t1
      dsimp only at P1
      rw [e1] at P1
      exact P1.elim
    | some q =>
      obtain ⟨w, ρ2⟩ := q
      rw [e] at P
      have P1 := fun H1 M1 t1 => P H1 M1 t1
      simp only [e1] at P1
      split at P1
      · rename_i ds ρ3 e2
        cases e2
        refine .inl ⟨ρ, Oc, M, ma, S, ?_⟩
        rw [e]
        intro H1 M1 t1 S1 x r1
        obtain ⟨M2, l, S2, r2⟩ := S1.give r1 e1
        have r2 : RD X.K H1 (fun b => Oc b ∨ M2 b) x (.list ds) := r2
        obtain ⟨b, vs, rfl, eb, nb, rs⟩ := r2.lstV
        exact ⟨b, vs, rfl, SqL.of eb, P1 H1 M1 t1 H1 M2 (Tr.less l) S2 _ (wk_enum eb nb rs)⟩
      · rename_i ds ρ3 e2
        cases e2
        refine .inr ⟨ρ, Oc, M, ma, S, ?_⟩
        rw [e]
        intro H1 M1 t1 S1 x r1
        obtain ⟨M2, l, S2, r2⟩ := S1.give r1 e1
        obtain ⟨b, xs, rfl, hb, wk⟩ := wk_enumT r2
        exact ⟨b, xs, rfl, hb, P1 H1 M1 t1 H1 M2 (Tr.less l) S2 _ wk⟩
      · exact (P1 H M Tr.refl).elim
theorem s_izp (g : Good X cx Γ G Wx xc lv) {a b : E} {tg x y z : Expr} (hd : dB2 cx "zip" x = some (y, z)) (ht : isTup tg = true) (hs : star y = false) (hs' : star z = false) (ha : PE X y (tV X.K Wx xc (ev Γ G a))) (hb : PE X z (tV X.K Wx xc (ev Γ G b))) : PI X tg x (tI X.K Wx xc (evi Γ G (.zp a b))) := by
  obtain ⟨p, pos, rfl, hg⟩ := dB2_eq hd
  cases tg <;> first
    | (simp [isTup] at ht; done)
    | skip
  refine PI.of (RZ.pi_zipA (g.gl hg) (g.blt _ (by decide)) (pa_2 hs hs' ha hb) (starEach_cons hs) (by rw [starEach_cons hs']; rfl)) fun σ H R q => ?_
  obtain ⟨ρ, Oc, M, ma, S, P⟩ := q
  simp only [evi] at P
  refine ⟨ρ, Oc, M, ma, S, (Pst.bind P).imp fun v ρ1 H1 M1 t1 P1 S1 x r1 => ?_⟩
  cases e1 : give ρ1 v with
  | none => rw [e1] at P1; exact P1.elim
  | some q =>
    obtain ⟨w, ρ2⟩ := q
    rw [e1] at P1
    obtain ⟨M2, l, S2, r2⟩ := S1.give r1 e1
    refine ⟨ρ2, Oc, M2, ma, S2, (Pst.bind (P1.tr (Tr.less l))).imp fun u ρ3 H3 M3 t3 P3 S3 x' r3 => ?_⟩
    cases e3 : give ρ3 u with
    | none => rw [e3] at P3; exact P3.elim
    | some q =>
      obtain ⟨w', ρ4⟩ := q
      rw [e3] at P3
      obtain ⟨M4, l4, S4, r4⟩ := S3.give r3 e3
      have P4 := P3.tr (Tr.less l4)
      have rx := (r2.tr t3).tr (Tr.less l4)
      cases e5 : zpG w w' with
      | none => simp only [e5] at P4; exact P4.elim
      | some ms =>
        simp only [e5] at P4
        rcases zpG_some e5 with ⟨ds, es, rfl, rfl, rfl⟩ | ⟨ds, es, rfl, rfl, rfl⟩
        · obtain ⟨b1, vs, rfl, eb, nb, rs⟩ := RD.lstV rx
          obtain ⟨b2, us, rfl, eb', nb', rs'⟩ := RD.lstV r4
          exact ⟨b1, b2, vs, us, rfl, .inl ⟨SqL.of eb, SqL.of eb', P4 H3 M4 Tr.refl S4 _ (wk_zipL eb nb rs eb' nb' rs')⟩⟩
        · obtain ⟨b1, b2, vs, us, rfl, rfl, q1, q2, wk⟩ := wk_zipT rx r4
          exact ⟨b1, b2, vs, us, rfl, .inr ⟨q1, q2, P4 H3 M4 Tr.refl S4 _ wk⟩⟩
end
/-! ### the targets of a walk -/
def gM (K : PySem.W.Frag) (tg : Tg) : TG := fun v σ H Q => ∃ ρ Oc M ma m H0 ρ', Sta K σ H0 Oc M ma ρ ∧ ImR K H0 (fun b => Oc b ∨ M b) v H m ∧ asgI ρ tg m = some ρ' ∧ ∀ σ', Sta K σ' H Oc M ma ρ' → Off tg.slots σ σ' → Q σ' H
theorem PG.or {X : Cx} {x : Expr} {t t' : TG} (h : PG X x t) (h' : PG X x t') : PG X x (fun v σ H Q => t v σ H Q ∨ t' v σ H Q) := ⟨fun pins s σ H v u Q I r q => by
  rcases q with q | q
  · exact h.run pins s σ H v u Q I r q
  · exact h'.run pins s σ H v u Q I r q⟩
section
variable {X : Cx} {cx : Cc} {Γ : List Fn} {G : List PD} {Wx : WX} {xc : Nat → Value} {lv : Nat}
theorem sound_M (g : Good X cx Γ G Wx xc lv) (tg : Tg) (x : Expr) (h : chkTg cx tg x = true) : PG X x (gM X.K tg) := by
  have h1 := sound_Tg g tg x h
  have key : ∀ v σ H Q, gM X.K tg v σ H Q → (gT X.K tg v σ H Q ∨ ∃ ρ Oc M ma a b H0 ρ', Sta X.K σ H0 Oc M ma ρ ∧ ImR X.K H0 (fun b => Oc b ∨ M b) v H (.two a b) ∧ asgI ρ tg (.two a b) = some ρ' ∧ ∀ σ', Sta X.K σ' H Oc M ma ρ' → Off tg.slots σ σ' → Q σ' H) := fun v σ H Q q => by
    obtain ⟨ρ, Oc, M, ma, m, H0, ρ', S, r, e, k⟩ := q
    cases m with
    | one d =>
      obtain ⟨rfl, r⟩ := r
      exact .inl ⟨ρ, Oc, M, ma, d, ρ', S, r, e, k⟩
    | two a b => exact .inr ⟨ρ, Oc, M, ma, a, b, H0, ρ', S, r, e, k⟩
  have no : (∀ ρ a b, asgI ρ tg (.two a b) = none) → PG X x (gM X.K tg) := fun n => PG.of h1 fun v σ H Q q => by
    rcases key v σ H Q q with z | ⟨ρ, Oc, M, ma, a, b, H0, ρ', S, r, e, k⟩
    · exact z
    · rw [n] at e; cases e
  cases tg with
  | n i => exact no fun _ _ _ => rfl
  | t ts =>
    cases ts with
    | nil => exact no fun _ _ _ => rfl
    | cons t1 ts =>
      cases ts with
      | nil => exact no fun _ _ _ => rfl
      | cons t2 ts =>
        cases ts with
        | cons _ _ => exact no fun _ _ _ => rfl
        | nil =>
          cases x <;> first
            | (simp [chkTg] at h; done)
            | skip
          rename_i es kk p
          have h : chkTgs cx (.cons t1 (.cons t2 .nil)) es = true := by simpa [chkTg] using h
          obtain ⟨n1, n2, n3⟩ := chkTgs_each (env := X.env) h
          cases es with
          | nil => simp [chkTgs] at h
          | cons e1 es =>
            cases es with
            | nil => simp [chkTgs] at h
            | cons e2 es =>
              cases es with
              | cons _ _ => simp [chkTgs] at h
              | nil =>
                simp only [chkTgs, Bool.and_true, Bool.and_eq_true] at h
                have as : ∀ {e : Expr} {es : List Expr} {t : Tg}, chkTg cx t e = true → (assignEach (e :: es) X.env).map (·.2) = assign e X.env :: (assignEach es X.env).map (·.2) := fun {e es t} h => by
                  rcases chkTg_form h with ⟨id, p, rfl⟩ | ⟨l, k, p, rfl⟩ <;> rfl
                have p2 := pg_tup (pos := p) (k := kk) g.calm (pgs_cons (sound_Tg g t1 e1 h.1) (pgs_cons (sound_Tg g t2 e2 h.2) pgs_nil (as h.2)) (as h.1)) rfl n2
                refine PG.of (PG.or h1 p2) fun v σ H Q q => ?_
                rcases key v σ H Q q with z | ⟨ρ, Oc, M, ma, a, b, H0, ρ', S, r, e, k⟩
                · exact .inl z
                · refine .inr ?_
                  obtain ⟨T, x1, x2, rfl, hT, rfl, r1, r2⟩ := r
                  have S1 : Sta X.K σ (upd H0 T (.tup [x1, x2])) Oc M ma ρ := S.keep fun b o e => by rw [upd_ne (ne_of_none e hT)]; exact e
                  have t : Tr H0 M (upd H0 T (.tup [x1, x2])) M := Tr.laid hT
                  simp only [asgI] at e
                  cases e3 : asgP ρ t1 a with
                  | none => rw [e3] at e; cases e
                  | some ρ1 =>
                    rw [e3] at e
                    refine ⟨T, [x1, x2], rfl, SqT.of upd_same, n1.symm, x1, [x2], rfl, ρ, Oc, M, ma, a, ρ1, S1, r1.mono t.h1 t.h2, e3, fun σ2 S2 o2 => ⟨x2, [], rfl, ρ1, Oc, M, ma, b, ρ', S2, r2.mono t.h1 t.h2, e, fun σ3 S3 o3 => ⟨rfl, k σ3 S3 ?_⟩⟩⟩
                    show Off (t1.slots ++ (t2.slots ++ [])) σ σ3
                    rw [List.append_nil]
                    exact o2.trans o3
end
end Hil
/-! Hil13: list comprehensions. -/
namespace Hil
open PySem PySem.Spec PyProof.Rows L2
section
variable {ρ ρ0 ρ' : Env'} {σ σ2 : L2.St} {vs : List Nat}
theorem wipeE_length : ∀ vs : List Nat, (wipeE ρ vs).length = ρ.length
  | [] => rfl
  | v :: vs => by unfold wipeE; rw [List.length_set, wipeE_length vs]
theorem wipeE_get : ∀ (vs : List Nat) (j : Nat), (wipeE ρ vs)[j]? = if j ∈ vs then (if j < ρ.length then some .un else none) else ρ[j]?
  | [], j => by simp [wipeE]
  | v :: vs, j => by
    unfold wipeE
    rw [List.getElem?_set, wipeE_get vs j, wipeE_length]
    by_cases h : v = j
    · subst h
      simp
    · have h' : ¬ j = v := fun e => h e.symm
      simp [h, h']
theorem wipe_get : ∀ (vs : List Nat) (j : Nat), (wipe σ vs)[j]? = if j ∈ vs then (if j < σ.length then some none else none) else σ[j]?
  | [], j => by simp [wipe]
  | v :: vs, j => by
    unfold wipe
    rw [List.getElem?_set, wipe_get vs j, wipe_length]
    by_cases h : v = j
    · subst h
      simp
    · have h' : ¬ j = v := fun e => h e.symm
      simp [h, h']
theorem backE_length : ∀ vs : List Nat, (backE ρ0 ρ vs).length = ρ.length
  | [] => rfl
  | v :: vs => by unfold backE; rw [List.length_set, backE_length vs]
theorem backE_get : ∀ (vs : List Nat) (j : Nat), (backE ρ0 ρ vs)[j]? = if j ∈ vs then (if j < ρ.length then some (ρ0.getD j .un) else none) else ρ[j]?
  | [], j => by simp [backE]
  | v :: vs, j => by
    unfold backE
    rw [List.getElem?_set, backE_get vs j, backE_length]
    by_cases h : v = j
    · subst h
      simp
    · have h' : ¬ j = v := fun e => h e.symm
      simp [h, h']
theorem wipe_off (o : Off vs (wipe σ vs) σ2) : wipe σ2 vs = wipe σ vs := by
  apply List.ext_getElem?
  intro j
  rw [wipe_get, wipe_get]
  have hl : σ2.length = σ.length := by rw [o.1, wipe_length]
  by_cases h : j ∈ vs
  · simp only [if_pos h, hl]
  · simp only [if_neg h]
    rw [o.2 j h, wipe_get, if_neg h]
end
section
variable {K : PySem.W.Frag} {σ σ' : L2.St} {H H' : Hp} {Oc Oc' M M' : Ad → Prop} {ma : Nat → Ad} {ρ ρ' : Env'} {vs : List Nat}
theorem SlOk.monoG {i : Nat} {x : Sl} (h1 : ∀ b o, H b = some o → ¬ (Oc b ∨ M b) → H' b = some o) (h2 : ∀ b o, H b = some o → ¬ (Oc b ∨ M b) → ¬ (Oc' b ∨ M' b)) (hσ : σ'[i]? = σ[i]?) (hm : ∀ a, x.owned = true → σ[i]? = some (some (.ref a)) → M a → M' a ∧ ∀ o, H a = some o → H' a = some o) (h : SlOk K σ H Oc M ma i x) : SlOk K σ' H' Oc' M' ma i x := by
  cases x with
  | un => trivial
  | sh w => obtain ⟨v, e, r⟩ := h; exact ⟨v, by rw [hσ]; exact e, r.mono h1 h2⟩
  | ow w =>
    obtain ⟨a, e, m, r⟩ := h
    obtain ⟨m', k⟩ := hm a rfl e m
    exact ⟨a, by rw [hσ]; exact e, m', r.mono h1 h2 k⟩
  | mu w =>
    obtain ⟨e, m, r⟩ := h
    obtain ⟨m', k⟩ := hm _ rfl e m
    exact ⟨by rw [hσ]; exact e, m', r.mono h1 h2 k⟩
theorem Sta.wiped (S : Sta K σ H Oc M ma ρ) : Sta K (wipe σ vs) H Oc M ma (wipeE ρ vs) := by
  have off : ∀ {j : Nat} {x : Sl}, (wipeE ρ vs)[j]? = some x → x = .un ∨ (j ∉ vs ∧ ρ[j]? = some x ∧ (wipe σ vs)[j]? = σ[j]?) := fun {j x} e => by
    rw [wipeE_get] at e
    by_cases h : j ∈ vs
    · rw [if_pos h] at e
      by_cases h2 : j < ρ.length
      · rw [if_pos h2] at e; cases e; exact .inl rfl
      · rw [if_neg h2] at e; cases e
    · rw [if_neg h] at e
      exact .inr ⟨h, e, by rw [wipe_get, if_neg h]⟩
  refine ⟨by rw [wipe_length, wipeE_length]; exact S.len, fun j x e => ?_, fun i j x y a e1 e2 h1 h2 a1 a2 => ?_, S.dis, S.trk⟩
  · rcases off e with rfl | ⟨_, e', hσ⟩
    · trivial
    · exact (S.sl j x e').monoG (fun _ _ z _ => z) (fun _ _ _ z => z) hσ fun a _ _ m => ⟨m, fun _ z => z⟩
  · rcases off e1 with rfl | ⟨_, f1, s1⟩
    · cases h1
    · rcases off e2 with rfl | ⟨_, f2, s2⟩
      · cases h2
      · rw [s1] at a1
        rw [s2] at a2
        exact S.inj i j x y a f1 f2 h1 h2 a1 a2
/-- what nobody here holds is written -/
theorem Sta.other {D : Ad} {o : HO} (mo : MO o = true) (S : Sta K σ H Oc M ma ρ) (hD : Oc D) : Sta K σ (upd H D o) Oc M ma ρ := by
  refine ⟨S.len, fun i x e => (S.sl i x e).monoG (fun b q e n => ?_) (fun b q e n => n) rfl (fun a ho ea m => ⟨m, fun q e => ?_⟩), S.inj, S.dis, fun b m => ?_⟩
  · rw [upd_ne (fun (z : b = D) => n (.inl (by rw [z]; exact hD)))]; exact e
  · rw [upd_ne (fun (z : a = D) => S.dis a m (by rw [z]; exact hD))]; exact e
  · by_cases hb : b = D
    · subst hb; exact ⟨⟨o, mo⟩, upd_same⟩
    · rw [upd_ne hb]; exact S.trk b m
/-- D is one of the others' -/
theorem Sta.toOc {D : Ad} (S : Sta K σ H Oc M ma ρ) (hD : ∃ o : MHO, H D = some o.1) (hn : ¬ M D) (hs : ∀ (i : Nat) x v w, ρ[i]? = some x → x = .sh w → σ[i]? = some (some v) → RW K H (fun b => (Oc b ∨ b = D) ∨ M b) v w)
    (ho : ∀ (i : Nat) x a w, ρ[i]? = some x → x.owned = true → x.w = some w → σ[i]? = some (some (.ref a)) → OW K H (fun b => (Oc b ∨ b = D) ∨ M b) a w) : Sta K σ H (fun b => Oc b ∨ b = D) M ma ρ := by
  refine ⟨S.len, fun i x e => ?_, S.inj, fun b m o => ?_, fun b m => ?_⟩
  · have so := S.sl i x e
    cases x with
    | un => trivial
    | sh w => obtain ⟨v, ev, r⟩ := so; exact ⟨v, ev, hs i _ v w e rfl ev⟩
    | ow w => obtain ⟨a, ea, m, r⟩ := so; exact ⟨a, ea, m, ho i _ a w e rfl rfl ea⟩
    | mu w => obtain ⟨ea, m, r⟩ := so; exact ⟨ea, m, ho i _ _ w e rfl rfl ea⟩
  · rcases o with o | rfl
    · exact S.dis b m o
    · exact hn m
  · rcases m with (m | rfl) | m
    · exact S.trk b (.inl m)
    · exact hD
    · exact S.trk b (.inr m)
/-- a new object of someone else's -/
theorem Sta.newOc {D : Ad} {o : HO} (mo : MO o = true) (S : Sta K σ H Oc M ma ρ) (hD : H D = none) : Sta K σ (upd H D o) (fun b => Oc b ∨ b = D) M ma ρ := by
  have ne : ∀ b q, H b = some q → b ≠ D := fun b q e z => by rw [z, hD] at e; cases e
  refine ⟨S.len, fun i x e => (S.sl i x e).monoG (fun b q e n => by rw [upd_ne (ne b q e)]; exact e) (fun b q e n m => ?_) rfl (fun a ho ea m => ⟨m, fun q e => by rw [upd_ne (ne a q e)]; exact e⟩), S.inj, fun b m z => ?_, fun b m => ?_⟩
  · rcases m with (m | m) | m
    · exact n (.inl m)
    · exact ne b q e m
    · exact n (.inr m)
  · rcases z with z | z
    · exact S.dis b m z
    · obtain ⟨q, e⟩ := S.trk b (.inr m)
      exact ne b q e z
  · rcases m with (m | m) | m
    · obtain ⟨q, e⟩ := S.trk b (.inl m); exact ⟨q, by rw [upd_ne (ne b q e)]; exact e⟩
    · rw [m]; exact ⟨⟨o, mo⟩, upd_same⟩
    · obtain ⟨q, e⟩ := S.trk b (.inr m); exact ⟨q, by rw [upd_ne (ne b q e)]; exact e⟩
/-- back from the block -/
theorem Sta.back {H1 : Hp} {M1 : Ad → Prop} {ρ1 : Env'} {D : Ad} (S1 : Sta K σ H1 Oc M1 ma ρ1) (S : Sta K (wipe σ vs) H (fun b => Oc b ∨ b = D) M ma ρ) (t : Tr H1 M1 H (fun b => M b ∨ b = D)) (hf : freeE ρ1 vs = true) : Sta K σ H Oc (fun b => M b ∨ b = D) ma (backE ρ1 ρ vs) := by
  have hl : ρ.length = ρ1.length := by rw [← S.len, wipe_length, S1.len]
  have off : ∀ {j : Nat} {x : Sl}, (backE ρ1 ρ vs)[j]? = some x → (j ∈ vs ∧ ρ1[j]? = some x ∧ x.owned = false) ∨ (j ∉ vs ∧ ρ[j]? = some x ∧ σ[j]? = (wipe σ vs)[j]?) := fun {j x} e => by
    rw [backE_get] at e
    by_cases h : j ∈ vs
    · rw [if_pos h] at e
      by_cases h2 : j < ρ.length
      · rw [if_pos h2] at e
        have h3 : j < ρ1.length := by omega
        have e' : ρ1[j]? = some x := by
          rw [List.getElem?_eq_getElem h3]
          rw [List.getD_eq_getElem?_getD, List.getElem?_eq_getElem h3] at e
          exact e
        refine .inl ⟨h, e', ?_⟩
        unfold freeE at hf
        rw [List.all_eq_true] at hf
        have := hf j h
        rw [e'] at this
        cases x with
        | un => rfl
        | sh _ => rfl
        | ow _ => cases this
        | mu _ => cases this
      · rw [if_neg h2] at e; cases e
    · rw [if_neg h] at e
      exact .inr ⟨h, e, by rw [wipe_get, if_neg h]⟩
  have eA : ∀ b, ((Oc b ∨ b = D) ∨ M b) ↔ (Oc b ∨ M b ∨ b = D) := fun b => by
    constructor
    · rintro ((h | h) | h)
      · exact .inl h
      · exact .inr (.inr h)
      · exact .inr (.inl h)
    · rintro (h | h | h)
      · exact .inl (.inl h)
      · exact .inr h
      · exact .inl (.inr h)
  refine ⟨by rw [backE_length, hl]; exact S1.len, fun j x e => ?_, fun i j x y a e1 e2 h1 h2 a1 a2 => ?_, fun b m => ?_, fun b m => S.trk b ((eA b).mpr m)⟩
  · rcases off e with ⟨_, e', ho⟩ | ⟨_, e', hσ⟩
    · exact (S1.sl j x e').mono t fun a h => by rw [ho] at h; cases h
    · exact (S.sl j x e').monoG (fun _ _ z _ => z) (fun b _ _ n z => n ((eA b).mpr z)) hσ fun a _ _ m => ⟨.inl m, fun _ z => z⟩
  · rcases off e1 with ⟨_, _, ho⟩ | ⟨_, f1, s1⟩
    · rw [ho] at h1; cases h1
    · rcases off e2 with ⟨_, _, ho⟩ | ⟨_, f2, s2⟩
      · rw [ho] at h2; cases h2
      · rw [s1] at a1
        rw [s2] at a2
        exact S.inj i j x y a f1 f2 h1 h2 a1 a2
  · rcases m with m | rfl
    · exact fun o => S.dis b m (.inl o)
    · intro o
      obtain ⟨q, e⟩ := S1.trk b (.inl o)
      rcases t.new b (.inr rfl) with z | z
      · exact S1.dis b z o
      · rw [e] at z; cases z
end
theorem lcRun_noexc {t e : Env' → Out Vl} {tg : Tg} : ∀ {ms : List Im} {ρ : Env'} {acc : List PD} {c : Nat}, lcRun t e tg ms ρ acc ≠ .exc c
  | [], ρ, acc, c => fun h => by simp [lcRun] at h
  | m :: r, ρ, acc, c => fun h => by
    unfold lcRun at h
    repeat' split at h
    all_goals first
      | (cases h; done)
      | exact lcRun_noexc h
abbrev W0 : WX := fun _ _ _ _ => False
section
variable {X : Cx} {Γ : List Fn} {G : List PD} {Wx : WX} {xc : Nat → Value}
theorem lc_read {tg : Tg} {it : It} {ft elt : E} {σ : L2.St} {H : Hp} {Q : VK} (h : tV X.K Wx xc (ev Γ G (.lc tg it ft elt)) σ H Q) :
    tLc (tI X.K Wx xc (evi Γ G it)) (gM X.K tg) (tB (tV X.K W0 xc (ev Γ G ft))) (tV X.K W0 xc (ev Γ G elt)) tg.slots σ H Q := by
  obtain ⟨ρ, Oc, M, ma, S, P⟩ := h
  simp only [ev] at P
  refine ⟨ρ, Oc, M, ma, S, (Pst.bind P).imp fun ms ρ1 H1 M1 t1 P1 S1 J wk D hD => ?_⟩
  split at P1
  case isFalse => exact P1.elim
  rename_i hc
  obtain ⟨hf, hl⟩ := hc
  cases e0 : lcRun (fun r => ev Γ G ft r) (fun r => ev Γ G elt r) tg ms (wipeE ρ1 tg.slots) [] with
  | bad => rw [e0] at P1; exact P1.elim
  | exc c => exact absurd e0 lcRun_noexc
  | ok ds ρ2 =>
    rw [e0] at P1
    have P1 : ∀ H' M', Tr H1 M1 H' M' → Sta X.K σ H' Oc M' ma (backE ρ1 ρ2 tg.slots) → ∀ x, RV X.K σ H' Oc M' (backE ρ1 ρ2 tg.slots) x (.fre (.d (.list ds))) → Q x H' := P1
    refine ⟨fun i m H2 => m = ms.length - i ∧ i ≤ ms.length ∧ ∃ M2 ρ' acc accv, Tr H1 M1 H2 M2 ∧ Sta X.K (wipe σ tg.slots) H2 (fun b => Oc b ∨ b = D) M2 ma ρ' ∧ H2 D = some (.lst accv) ∧ RDs X.K H2 (fun b => (Oc b ∨ b = D) ∨ M2 b) accv acc ∧ acc.length ≤ i ∧
      lcRun (fun r => ev Γ G ft r) (fun r => ev Γ G elt r) tg (ms.drop i) ρ' acc = .ok ds ρ2, ⟨ms.length, rfl, Nat.zero_le _, M1, wipeE ρ1 tg.slots, [], [], Tr.laid hD, Sta.newOc rfl S1.wiped hD, upd_same, .nil, Nat.le_refl _, e0⟩, ?_⟩
    rintro i m H2 ⟨rfl, hi, M2, ρ', acc, accv, t2, S2, hD2, ra, hal, er⟩
    have nD : ∀ {H' : Hp} {M' : Ad → Prop} {σ' : L2.St} {ρ' : Env'}, Sta X.K σ' H' (fun b => Oc b ∨ b = D) M' ma ρ' → ¬ M' D := fun s m => s.dis D m (.inr rfl)
    have wkH := wk H2 (fun b => (Oc b ∨ b = D) ∨ M2 b) (fun b o e n => t2.h1 (Oc := Oc) b o e n) (fun b o e n z => by
      rcases z with (z | z) | z
      · exact n (.inl z)
      · rw [z, hD] at e; cases e
      · exact t2.h2 (Oc := Oc) b o e n (.inr z)) i
    by_cases hlt : i < ms.length
    · have em : ms[i]? = some ms[i] := List.getElem?_eq_getElem hlt
      obtain ⟨go, yl⟩ := wkH.2 _ em
      refine .inr ⟨go, fun H3 => ∃ M2 ρ' acc accv, Tr H1 M1 H3 M2 ∧ Sta X.K (wipe σ tg.slots) H3 (fun b => Oc b ∨ b = D) M2 ma ρ' ∧ H3 D = some (.lst accv) ∧ RDs X.K H3 (fun b => (Oc b ∨ b = D) ∨ M2 b) accv acc ∧ acc.length ≤ i + 1 ∧
        lcRun (fun r => ev Γ G ft r) (fun r => ev Γ G elt r) tg (ms.drop (i + 1)) ρ' acc = .ok ds ρ2, fun H3 p => ⟨ms.length - (i + 1), by omega, rfl, hlt, p⟩, fun x H3 hy => ?_⟩
      rw [List.drop_eq_getElem_cons hlt] at er
      unfold lcRun at er
      have im := yl x H3 hy
      cases e1 : asgI ρ' tg ms[i] with
      | none => rw [e1] at er; cases er
      | some ρ3 =>
        rw [e1] at er
        have t3 : Tr H2 M2 H3 M2 := by
          cases q : ms[i] with
          | one d => rw [q] at im; rw [im.1]; exact Tr.refl
          | two a b =>
            rw [q] at im
            obtain ⟨T, x1, x2, _, hT, rfl, _⟩ := im
            exact Tr.laid hT
        refine ⟨ρ', (fun b => Oc b ∨ b = D), M2, ma, ms[i], H2, ρ3, S2, im, e1, fun σ2 S3 o2 => ⟨wipe_off o2, ρ3, (fun b => Oc b ∨ b = D), M2, ma, S3, ?_⟩⟩
        dsimp only at er ⊢
        cases e2 : ev Γ G ft ρ3 with
        | bad => rw [e2] at er; cases er
        | exc c => rw [e2] at er; cases er
        | ok v ρ4 =>
          rw [e2] at er
          intro H4 M4 t4 S4 y r4
          have t14 := (t2.trans t3).trans t4
          have hD4 : H4 D = some (.lst accv) := t4.keep D _ (t3.keep D _ hD2 (nD S2)) (nD S3)
          have ra4 := (ra.tr t3).tr t4
          split at er
          · rename_i ρ5 e5
            cases e5
            refine ⟨true, RD.boolV r4, ?_⟩
            rw [if_pos rfl]
            refine ⟨ρ4, (fun b => Oc b ∨ b = D), M4, ma, S4, ?_⟩
            cases e6 : ev Γ G elt ρ4 with
            | bad => rw [e6] at er; cases er
            | exc c => rw [e6] at er; cases er
            | ok u ρ6 =>
              rw [e6] at er
              intro H6 M6 t6 S6 z r6
              dsimp only at er
              split at er
              · rename_i d ρ7 e7
                obtain ⟨M7, l7, S7, r7⟩ := S6.give r6 e7
                have hD6 : H6 D = some (.lst accv) := t6.keep D _ hD4 (nD S4)
                have ra6 := (ra4.tr t6).tr (Tr.less l7)
                have t17 := (t14.trans t6).trans (Tr.less l7)
                have hl6 := ra6.length
                refine ⟨accv, hD6, by unfold sizeLine; omega, M7, wipeE ρ7 tg.slots, acc ++ [d], accv ++ [z], ?_, ?_, upd_same, ?_, by simp; omega, er⟩
                · refine ⟨fun b o e n => ?_, t17.new⟩
                  rw [upd_ne (fun q => by rw [q, hD] at e; cases e)]
                  exact t17.keep b o e n
                · have := S7.wiped (vs := tg.slots)
                  rw [wipe_off o2] at this
                  exact Sta.other rfl this (.inr rfl)
                · refine RDs.mono (fun b o e n => ?_) (fun b o e n => n) (ra6.snoc (show RD X.K H6 (fun b => (Oc b ∨ b = D) ∨ M7 b) z d from r7))
                  rw [upd_ne (fun q => n (.inl (.inr q)))]
                  exact e
              · cases er
          · rename_i ρ5 e5
            cases e5
            refine ⟨false, RD.boolV r4, ?_⟩
            rw [if_neg Bool.false_ne_true]
            refine ⟨M4, wipeE ρ4 tg.slots, acc, accv, t14, ?_, hD4, ra4, by omega, er⟩
            have := S4.wiped (vs := tg.slots)
            rw [wipe_off o2] at this
            exact this
          · cases er
    · have en : i = ms.length := by omega
      subst en
      refine .inl ⟨wkH.1 (Nat.le_refl _), ?_⟩
      rw [List.drop_length] at er
      simp only [lcRun, Out.ok.injEq] at er
      obtain ⟨rfl, rfl⟩ := er
      have t3 : Tr H1 M1 H2 (fun b => M2 b ∨ b = D) := ⟨t2.keep, fun b m => m.elim (t2.new b) fun e => .inr (by rw [e]; exact hD)⟩
      have eA : (fun b => (Oc b ∨ b = D) ∨ M2 b) = fun b => Oc b ∨ M2 b ∨ b = D := by
        funext b
        apply propext
        constructor
        · rintro ((h | h) | h)
          · exact .inl h
          · exact .inr (.inr h)
          · exact .inr (.inl h)
        · rintro (h | h | h)
          · exact .inl (.inl h)
          · exact .inr h
          · exact .inl (.inr h)
      rw [eA] at ra
      have S4 := S1.back S2 t3 hf
      refine P1 H2 _ t3 S4 _ ⟨D, rfl, .inr rfl, ⟨accv, hD2, ra⟩, fun j y e ho ea => ?_⟩
      rw [backE_get] at e
      by_cases hj : j ∈ tg.slots
      · rw [if_pos hj] at e
        by_cases h2 : j < ρ'.length
        · rw [if_pos h2] at e
          cases e
          have h3 : j < ρ1.length := by
            have := S2.len
            rw [wipe_length, S1.len] at this
            omega
          unfold freeE at hf
          rw [List.all_eq_true] at hf
          have q := hf j hj
          rw [List.getElem?_eq_getElem h3] at q
          rw [List.getD_eq_getElem?_getD, List.getElem?_eq_getElem h3] at ho
          have ho : (ρ1[j]).owned = true := ho
          cases q3 : ρ1[j] with
          | un => rw [q3] at ho; cases ho
          | sh _ => rw [q3] at ho; cases ho
          | ow _ => rw [q3] at q; cases q
          | mu _ => rw [q3] at q; cases q
        · rw [if_neg h2] at e; cases e
      · rw [if_neg hj] at e
        obtain ⟨a, w, ea', m, _⟩ := (S2.sl j y e).ownAd ho
        rw [wipe_get, if_neg hj, ea] at ea'
        cases ea'
        exact nD S2 m
end
end Hil
/-! Hil14: every expression. -/
namespace Hil
open PySem PySem.Spec PyProof.Rows L2
section
variable {X : Cx} {cx : Cc} {Γ : List Fn} {G : List PD} {Wx : WX} {xc : Nat → Value} {lv : Nat}
theorem Good.blk (g : Good X cx Γ G Wx xc lv) (s : Shared) (H : Hp) (scope : Scope) (C : Ad) (cl : List (Str × Ad)) (fp : List Ad) : Good (X.blk s H scope (compEnvC scope cl C X.env) fp) (cx.blk scope) Γ G W0 xc lv where
  N := g.N
  sc := by
    show relS scope X.env.scope = relS scope cx.sc
    rw [g.sc]
  nd := g.nd
  calm := g.calm
  room := g.room
  takes := takes0
  pass := PassesOwn.never
  st := fun x h => by
    have e : (compEnvC scope cl C X.env).scope = relS scope cx.sc := by
      show relS scope X.env.scope = _
      rw [g.sc]
    show L2.Loc (compEnvC scope cl C X.env).scope x ∧ ((scope.names.lookup x == some NameKind.cell) = true ∨ (compEnvC scope cl C X.env).scope.names.lookup x = some .local)
    unfold L2.Loc
    rw [e]
    simp only [Cc.blk, Bool.or_eq_true, Bool.and_eq_true, beq_iff_eq] at h
    rcases h with h | ⟨h1, h2⟩
    · exact ⟨.inl h, .inr h⟩
    · exact ⟨.inr h2, .inl (by simpa using h1)⟩
  blt := g.blt
  glo := g.glo
  fn := fun i fn h => by
    obtain ⟨h1, F⟩ := g.fn i fn h
    exact ⟨h1, ⟨F.ok⟩⟩
  exc := g.exc
mutual
theorem tgOwn_slots : ∀ {tg : Tg} {x : Expr}, chkTg cx tg x = true → (tgOwn tg x).map (·.2) = tg.slots
  | .n i, x, h => by
    cases x <;> first
      | (simp [chkTg] at h; done)
      | rfl
  | .t ts, x, h => by
    cases x <;> first
      | (simp [chkTg] at h; done)
      | exact tgOwns_slots (by simpa [chkTg] using h)
theorem tgOwns_slots : ∀ {ts : Tgs} {es : List Expr}, chkTgs cx ts es = true → (tgOwns ts es).map (·.2) = ts.slots
  | .nil, [], h => rfl
  | .nil, _ :: _, h => by simp [chkTgs] at h
  | .cons _ _, [], h => by simp [chkTgs] at h
  | .cons t ts, e :: es, h => by
    simp only [chkTgs, Bool.and_eq_true] at h
    simp only [tgOwns, List.map_append, Tgs.slots, tgOwn_slots h.1, tgOwns_slots h.2]
end
theorem folded_of {x : Expr} {env : Env} (h : setD x = false) : ∀ v, foldedSetIterable x env v = pure v := fun v => by
  cases x <;> first
    | rfl
    | (simp [setD] at h; done)
theorem PTs.of {fs : List Expr} {t t' : TT} (h : PTs X fs t) (i : ∀ σ H Q, t' σ H Q → t σ H Q) : PTs X fs t' := ⟨fun pins s σ H Q I q => h.run pins s σ H Q I (i σ H Q q)⟩
theorem pts_yes : PTs X [] (tB (tV X.K Wx xc (ev Γ G (.cst (.bool true))))) := PTs.of pts_nil fun σ H Q h => by
  obtain ⟨ρ, Oc, M, ma, S, P⟩ := h
  simp only [ev] at P
  obtain ⟨b, e, q⟩ := P H M Tr.refl S (.bl true) (RD.bl true)
  cases e
  exact q
structure LcOk (X : Cx) (Γ : List Fn) (G : List PD) (Wx : WX) (xc : Nat → Value) (tg : Tg) (it : It) (ft elt : E) (x1 x2 x4 : Expr) (fs : List Expr) (scope : Scope) : Prop where
  hi : PI X x1 x2 (tI X.K Wx xc (evi Γ G it))
  hs : setD x2 = false
  ok : BlkOk X.N X.env.scope scope (tgOwn tg x1)
  sl : (tgOwn tg x1).map (·.2) = tg.slots
  hg : ∀ (s : Shared) (H : Hp) (C : Ad) (cl : List (Str × Ad)) (fp : List Ad), PG (X.blk s H scope (compEnvC scope cl C X.env) fp) x1 (gM X.K tg)
  ht : ∀ (s : Shared) (H : Hp) (C : Ad) (cl : List (Str × Ad)) (fp : List Ad), PTs (X.blk s H scope (compEnvC scope cl C X.env) fp) fs (tB (tV X.K W0 xc (ev Γ G ft)))
  he : ∀ (s : Shared) (H : Hp) (C : Ad) (cl : List (Str × Ad)) (fp : List Ad), PE (X.blk s H scope (compEnvC scope cl C X.env) fp) x4 (tV X.K W0 xc (ev Γ G elt))
theorem s_lc (g : Good X cx Γ G Wx xc lv) {tg : Tg} {it : It} {ft elt : E} {x1 x2 x4 : Expr} {fs : List Expr} {scope : Scope} {pos : Pos} (L : LcOk X Γ G Wx xc tg it ft elt x1 x2 x4 fs scope) :
    PE X (.ListComp x4 [⟨x1, x2, fs, 0⟩] scope pos) (tV X.K Wx xc (ev Γ G (.lc tg it ft elt))) := by
  refine PE.of (pe_lc g.calm g.nd L.hi L.ok L.hg L.ht L.he (folded_of L.hs)) fun σ H Q q => ?_
  have := lc_read q
  rw [← L.sl] at this
  exact this
/-! ### one of several defs -/
theorem sound_Ns (g : Good X cx Γ G Wx xc lv) : ∀ {is : List Nat} {ns : List Expr}, chkNs cx is ns = true → (∀ i ∈ is, i < Γ.length) →
    ∃ refs : List V, refs.length = is.length ∧ nostar ns = true ∧ PA X ns (fun _ H Q => Q refs H) ∧ ∀ (j i : Nat), is[j]? = some i → ∃ fn f fd ps k, Γ[i]? = some fn ∧ refs[j]? = some (.ref f) ∧ PySem.W.keepIn X.K (.ref f) = true ∧
      FnOk X.prog X.w X.K X.mg X.base (L2.CX X.prog X.w) k f fd ps (SpT X.K xc fn.mu fn.ar fn.f) ∧ k ≤ lv ∧ Binds X.K fd ps []
  | [], [], _, _ => ⟨[], rfl, rfl, pa_nil, fun j i e => by simp at e⟩
  | [], _ :: _, h, _ => by simp [chkNs] at h
  | _ :: _, [], h, _ => by simp [chkNs] at h
  | i :: is, n :: r, h, hl => by
    cases n <;> first
      | (simp [chkNs] at h; done)
      | skip
    rename_i nm p
    simp only [chkNs, Bool.and_eq_true, decide_eq_true_eq] at h
    obtain ⟨h1, h2, h3, h4⟩ := h
    obtain ⟨refs, q1, q2, q3, q4⟩ := sound_Ns g h4 fun i hi => hl i (List.mem_cons_of_mem _ hi)
    have hi : i < Γ.length := hl i List.mem_cons_self
    obtain ⟨hn', F⟩ := g.fn i Γ[i] (List.getElem?_eq_getElem hi)
    rw [h1] at hn'
    cases hn'
    obtain ⟨f, fd, ps, k, f1, f2, f3, f4, f5, f6⟩ := F.ok
    refine ⟨.ref f :: refs, by simp [q1], by simp [nostar, star] at q2 ⊢; exact q2, ?_, fun j i' e => ?_⟩
    · exact pa_cons (pe_glob (v := .ref f) (g.gl h2) f1 rfl (okNm1 h3)) q3 (starEach_cons rfl)
    · cases j with
      | zero =>
        cases e
        exact ⟨_, f, fd, ps, k, List.getElem?_eq_getElem hi, rfl, f2, f3, f4, f5⟩
      | succ j => exact q4 j i' (by simpa using e)
theorem ev_menu' (is : List Nat) (ix : E) (es : Es) (ρ : Env') : ev Γ G (.menu is ix es) ρ = if menuOk Γ is = true then (ev Γ G ix ρ).bind fun v ρ1 => match rd ρ1 v with
    | some (.d (.int k)) => (match atI is k with
      | some i => ev Γ G (.call i es) ρ1
      | none => .bad)
    | _ => .bad
    else .bad := by first | (simp only [ev]; done) | (simp only [ev]; rfl)
theorem s_menu (g : Good X cx Γ G Wx xc lv) {is : List Nat} {ix : E} {es : Es} {ns : List Expr} {y3 y : Expr} {ys : List Expr} {p1 p2 pos : Pos} (hn : chkNs cx is ns = true) (hx : PE X y3 (tV X.K Wx xc (ev Γ G ix))) (hsl : slic y3 = false) (hs : nostar (y :: ys) = true)
    (ha : ∀ mu, PA X (y :: ys) (tA X.K Wx xc mu 0 (evs Γ G mu 0 es))) : PE X (.Call (.Subscript (.List ns p1) y3 p2) (y :: ys) [] pos) (tV X.K Wx xc (ev Γ G (.menu is ix es))) := by
  refine ⟨fun pins s σ H Q I h => ?_⟩
  obtain ⟨ρ, Oc, M, ma, S, P⟩ := h
  simp only [ev_menu'] at P
  by_cases hm : menuOk Γ is = true
  · rw [if_pos hm] at P
    simp only [menuOk, Bool.and_eq_true, decide_eq_true_eq, List.all_eq_true] at hm
    obtain ⟨refs, q1, q2, q3, q4⟩ := sound_Ns g hn hm.1
    have hs' : star y = false := by simp only [nostar, List.all_cons, Bool.and_eq_true, Bool.not_eq_true'] at hs; exact hs.1
    have hs2 : nostar ys = true := by simp only [nostar, List.all_cons, Bool.and_eq_true] at hs; exact hs.2
    have hf := pe_ix (pos := p2) ix_list (pe_lst (pos := p1) q3) hx (plainIx_of hsl)
    refine Call_ (thn (hf.run pins s σ H (fun x H1 => ∃ (j i : Nat), is[j]? = some i ∧ refs[j]? = some x ∧ tV X.K Wx xc (ev Γ G (.call i es)) σ H1 Q) I ⟨by rw [q1]; exact lim_le (Nat.le_trans hm.2 (by decide)), fun p hp => ?_⟩) fun u s1 ⟨x, H1, I1, rx, j, i, hj, hr, q⟩ => ?_)
    · -- the index
      have k1 : ∀ b o, H b = some o → upd H p (.lst refs) b = some o := keep_laid hp
      have np : ¬ M p := fun m => by
        obtain ⟨o, e⟩ := S.trk p (.inr m)
        rw [hp] at e; cases e
      refine ⟨ρ, Oc, M, ma, S.keep k1, Pst.imp (Pst.bind (Pst.tr ⟨fun b o e _ => k1 b o e, fun b m => .inl m⟩ P)) fun v ρ1 H2 M2 t1 P1 S1 x r1 => ?_⟩
      obtain ⟨M3, l, S3, r3⟩ := S1.soft r1
      have P3 := Pst.tr (Tr.less l) P1
      have hp2 : H2 p = some (.lst refs) := t1.keep p _ upd_same np
      split at P3
      · rename_i k ek
        cases q5 : atI is k with
        | none => rw [q5] at P3; exact P3.elim
        | some i =>
          rw [q5] at P3
          have e1 := (S3.peek r3 ek).int
          obtain ⟨jj, hj1, hj2⟩ : ∃ j, is[j]? = some i ∧ atI refs k = refs[j]? := by
            unfold atI at q5 ⊢
            rw [q1]
            cases q6 : ixN is.length k with
            | none => rw [q6] at q5; cases q5
            | some j => rw [q6] at q5; exact ⟨j, q5, rfl⟩
          obtain ⟨fn, f, fd, ps, kk, g1, g2, _⟩ := q4 jj i hj1
          refine ⟨p, refs, k, .ref f, rfl, e1, SqL.of hp2, by rw [hj2]; exact g2, jj, i, hj1, g2, ρ1, Oc, M3, ma, S3, P3⟩
      · exact P3.elim
    · obtain ⟨fn, f, fd, ps, k, g1, g2, g3, g4, g5, g6⟩ := q4 j i hj
      rw [g2] at hr
      cases hr
      obtain rfl : u = Value.ref f := rx
      refine PySem.W.callWith_K (h₀ := X.base) I.ok.mod.kin g3 (thn ((ha fn.mu).run pos pins s1 σ H1 _ I1 (call_imp g1 q)) fun us s2 ⟨vs, H2, I2, r, q6⟩ => ⟨I2.kIn, ?_⟩) (starEach_cons hs') (plain_args hs2)
      exact run_fnS g4 (g.room.mono (by omega)) g6 (passAt g.takes σ) I2 r q6
  · rw [if_neg hm] at P
    exact P.elim
/-! ### the whole -/
mutual
theorem sound_E : ∀ (e : E) {X : Cx} {cx : Cc} {Wx : WX} (g : Good X cx Γ G Wx xc lv) (x : Expr), chkE cx e x = true → Both X x (tV X.K Wx xc (ev Γ G e))
  | .var i, X, cx, Wx, g, x, h => s_var g (by simpa [chkE] using h)
  | .cst d, X, cx, Wx, g, x, h => s_cst (by simpa [chkE] using h)
  | .glo i, X, cx, Wx, g, x, h => s_glo g (by simpa [chkE] using h)
  | .o1 o a, X, cx, Wx, g, x, h => by
    simp only [chkE] at h
    split at h
    · rename_i y hd
      simp only [Bool.and_eq_true, Bool.not_eq_true'] at h
      exact s_o1 g o hd h.2 (sound_E a g y h.1)
    · cases h
  | .o2 o a b, X, cx, Wx, g, x, h => by
    simp only [chkE] at h
    split at h
    · rename_i y z hd
      simp only [Bool.and_eq_true, Bool.not_eq_true'] at h
      exact s_o2 g o hd h.2.2.1 h.2.2.2 (sound_E a g y h.1).1 (sound_E b g z h.2.1).1
    · cases h
  | .bop c es, X, cx, Wx, g, x, h => by
    simp only [chkE] at h
    split at h
    · rename_i o xs pos
      simp only [Bool.and_eq_true, decide_eq_true_eq] at h
      obtain ⟨h1, h2⟩ := h
      subst h1
      cases es with
      | nil =>
        refine ⟨⟨fun pins s σ H Q I q => ?_⟩, ⟨fun pins s σ H Q I q => ?_⟩⟩
        · obtain ⟨ρ, Oc, M, ma, S, P⟩ := q
          simp only [ev, evb] at P
          exact P.elim
        · obtain ⟨ρ, Oc, M, ma, S, P⟩ := q
          simp only [ev, evb] at P
          exact P.elim
      | cons e r =>
        obtain ⟨b1, b2⟩ := sound_Bs c (.cons e r) g xs h2 (by simp) pos
        exact Both.of ⟨b1, b2.pt⟩ fun σ H Q q => by simp only [ev] at q; exact q
    · cases h
  | .ite c a b, X, cx, Wx, g, x, h => by
    simp only [chkE] at h
    split at h
    · simp only [Bool.and_eq_true] at h
      exact s_ite (sound_E c g _ h.1) (sound_E a g _ h.2.1) (sound_E b g _ h.2.2)
    · cases h
  | .ch p q a b c, X, cx, Wx, g, x, h => by
    simp only [chkE] at h
    split at h
    · simp only [Bool.and_eq_true, Bool.not_eq_true', decide_eq_true_eq] at h
      obtain ⟨h1, h2, h3, h4, h5, h6⟩ := h
      exact s_ch g h1 h2 h6 (sound_E a g _ h3).1 (sound_E b g _ h4).1 (sound_E c g _ h5).1
    · cases h
  | .ch3 p q m a b c d, X, cx, Wx, g, x, h => by
    simp only [chkE] at h
    split at h
    · simp only [Bool.and_eq_true, Bool.not_eq_true', decide_eq_true_eq] at h
      obtain ⟨h1, h2, h3, h4, h5, h6, h7, h8⟩ := h
      exact s_ch3 g h1 h2 h3 h8 (sound_E a g _ h4).1 (sound_E b g _ h5).1 (sound_E c g _ h6).1 (sound_E d g _ h7).1
    · cases h
  | .sl a lo hi, X, cx, Wx, g, x, h => by
    simp only [chkE] at h
    split at h
    · rename_i x1 l hh p2 pos
      simp only [Bool.and_eq_true] at h
      obtain ⟨h1, h2, h3⟩ := h
      refine .plain (s_sl (sound_E a g _ h1).1 ?_ ?_) rfl
      · cases l with
        | none => exact po_absent h2
        | some y =>
          simp only [Bool.and_eq_true, Bool.not_eq_true'] at h2
          exact po_there h2.2 (sound_E lo g y h2.1).1
      · cases hh with
        | none => exact po_absent h3
        | some y =>
          simp only [Bool.and_eq_true, Bool.not_eq_true'] at h3
          exact po_there h3.2 (sound_E hi g y h3.1).1
    · cases h
  | .tup es, X, cx, Wx, g, x, h => by
    simp only [chkE] at h
    split at h
    · exact .plain (s_tup (sound_Es none 0 es g _ h)) rfl
    · cases h
  | .lst es, X, cx, Wx, g, x, h => by
    simp only [chkE] at h
    split at h
    · exact .plain (s_lst (sound_Es none 0 es g _ h)) rfl
    · cases h
  | .dic t, X, cx, Wx, g, x, h => by
    simp only [chkE] at h
    split at h
    · exact .plain s_dic rfl
    · cases h
  | .dic1 i c, X, cx, Wx, g, x, h => by
    simp only [chkE] at h
    split at h
    · simp only [Bool.and_eq_true] at h
      exact .plain (s_dic1 g h.1 h.2) rfl
    · cases h
  | .call i es, X, cx, Wx, g, x, h => by
    simp only [chkE] at h
    split at h
    · rename_i nm p y ys pos
      simp only [Bool.and_eq_true, decide_eq_true_eq] at h
      obtain ⟨h1, h2, h3, h4⟩ := h
      cases hi : Γ[i]? with
      | some fn => exact .plain (s_call g hi h1 h2 h3 (chkEs_nostar h4) (sound_Es fn.mu 0 es g _ h4)) rfl
      | none =>
        refine .plain ⟨fun pins s σ H Q I q => ?_⟩ rfl
        obtain ⟨ρ, Oc, M, ma, S, P⟩ := q
        simp only [ev, hi] at P
        exact P.elim
    · cases h
  | .menu is ix es, X, cx, Wx, g, x, h => by
    simp only [chkE] at h
    split at h
    · rename_i ns lp y3 sp y ys pos
      simp only [Bool.and_eq_true, Bool.not_eq_true'] at h
      obtain ⟨h1, h2, h3, h4⟩ := h
      exact .plain (s_menu g h1 (sound_E ix g y3 h2).1 h3 (chkEs_nostar h4) fun mu => sound_Es mu 0 es g _ h4) rfl
    · cases h
  | .popL i a, X, cx, Wx, g, x, h => by
    simp only [chkE] at h
    split at h
    · rename_i o at_ apos y cpos
      simp only [Bool.and_eq_true, Bool.not_eq_true', decide_eq_true_eq] at h
      obtain ⟨h1, h2, h3, h4, h5⟩ := h
      subst h1
      exact .plain (s_popL g h2 h4 h5 (sound_E a g _ h3).1) rfl
    · cases h
  | .dget d k a, X, cx, Wx, g, x, h => by
    simp only [chkE] at h
    split at h
    · rename_i o at_ apos y z cpos
      simp only [Bool.and_eq_true, Bool.not_eq_true', decide_eq_true_eq] at h
      obtain ⟨h1, h2, h2', h3, h4, h5, h6, h7⟩ := h
      subst h1
      exact .plain (s_dget g h2 h5 h6 h7 (sound_E d g _ h2').1 (sound_E k g _ h3).1 (sound_E a g _ h4).1) rfl
    · cases h
  | .lc tg it ft elt, X, cx, Wx, g, x, h => by
    simp only [chkE] at h
    split at h
    · rename_i x4 x1 x2 fs scope pos
      refine .plain (s_lc g ?_) rfl
      simp only [Bool.and_eq_true, Bool.not_eq_true'] at h
      obtain ⟨h1, h2, h3, h4, h5, h6⟩ := h
      refine ⟨sound_I it g x1 x2 h1, h2, blkOk_by ?_, tgOwn_slots h3, fun s H C cl fp => sound_M (g.blk s H scope C cl fp) tg x1 h3, fun s H C cl fp => ?_, fun s H C cl fp => (sound_E elt (g.blk s H scope C cl fp) x4 h6).1⟩
      · rw [g.N, g.sc]; exact h4
      · split at h5
        · split at h5
          · exact pts_yes
          · cases h5
        · exact pts_one (sound_E ft (g.blk s H scope C cl fp) _ h5).2
        · cases h5
    · cases h
theorem sound_Es (mu : Option Nat) : ∀ (k : Nat) (es : Es) {X : Cx} {cx : Cc} {Wx : WX} (g : Good X cx Γ G Wx xc lv) (xs : List Expr), chkEs cx es xs = true → PA X xs (tA X.K Wx xc mu k (evs Γ G mu k es))
  | k, .nil, X, cx, Wx, g, xs, h => by
    cases xs with
    | nil => exact s_nil
    | cons _ _ => simp [chkEs] at h
  | k, .cons e r, X, cx, Wx, g, xs, h => by
    cases xs with
    | nil => simp [chkEs] at h
    | cons y ys =>
      simp only [chkEs, Bool.and_eq_true, Bool.not_eq_true'] at h
      exact s_cons h.2.1 (sound_E e g y h.1).1 (sound_Es mu (k + 1) r g ys h.2.2)
theorem sound_Bs (c : Bool) : ∀ (es : Es) {X : Cx} {cx : Cc} {Wx : WX} (g : Good X cx Γ G Wx xc lv) (xs : List Expr), chkEs cx es xs = true → es ≠ .nil → ∀ pos, BopOk X (tV X.K Wx xc (evb Γ G c es)) c xs pos
  | .nil, X, cx, Wx, g, xs, h, n, pos => absurd rfl n
  | .cons e .nil, X, cx, Wx, g, xs, h, n, pos => by
    cases xs with
    | nil => simp [chkEs] at h
    | cons y ys =>
      cases ys with
      | cons _ _ => simp [chkEs] at h
      | nil =>
        simp only [chkEs, Bool.and_eq_true] at h
        exact s_bop1 (sound_E e g y h.1)
  | .cons e (.cons e' r), X, cx, Wx, g, xs, h, n, pos => by
    cases xs with
    | nil => simp [chkEs] at h
    | cons y ys =>
      cases ys with
      | nil => simp [chkEs] at h
      | cons y' ys =>
        have h' := h
        simp only [chkEs, Bool.and_eq_true] at h
        exact s_bop2 (sound_E e g y h.1) (sound_Bs c (.cons e' r) g (y' :: ys) (by simp only [chkEs, Bool.and_eq_true]; exact h.2.2) (by simp) pos)
theorem sound_I : ∀ (it : It) {X : Cx} {cx : Cc} {Wx : WX} (g : Good X cx Γ G Wx xc lv) (tg x : Expr), chkI cx it x (isTup tg) = true → PI X tg x (tI X.K Wx xc (evi Γ G it))
  | .ex a, X, cx, Wx, g, tg, x, h => s_iex (sound_E a g x (by simpa [chkI] using h)).1
  | .r1 a, X, cx, Wx, g, tg, x, h => by
    simp only [chkI] at h
    split at h
    · rename_i y hd
      simp only [Bool.and_eq_true, Bool.not_eq_true'] at h
      exact s_ir1 g hd h.2 (sound_E a g y h.1).1
    · cases h
  | .r2 a b, X, cx, Wx, g, tg, x, h => by
    simp only [chkI] at h
    split at h
    · rename_i y z hd
      simp only [Bool.and_eq_true, Bool.not_eq_true'] at h
      exact s_ir2 g hd h.2.2.1 h.2.2.2 (sound_E a g y h.1).1 (sound_E b g z h.2.1).1
    · cases h
  | .en a, X, cx, Wx, g, tg, x, h => by
    simp only [chkI] at h
    split at h
    · rename_i y hd
      simp only [Bool.and_eq_true, Bool.not_eq_true'] at h
      exact s_ien g hd h.1 h.2.2 (sound_E a g y h.2.1).1
    · cases h
  | .zp a b, X, cx, Wx, g, tg, x, h => by
    simp only [chkI] at h
    split at h
    · rename_i y z hd
      simp only [Bool.and_eq_true, Bool.not_eq_true'] at h
      exact s_izp g hd h.1 h.2.2.2.1 h.2.2.2.2 (sound_E a g y h.2.1).1 (sound_E b g z h.2.2.1).1
    · cases h
end
end
end Hil
/-! Hil15: statements, how they are read off the text; the readings. -/
namespace Hil
open PySem PySem.Spec PyProof.Rows L2
/-! ### the checks -/
def isComp : Expr → Bool
  | .ListComp _ _ _ _ => true
  | .SetComp _ _ _ _ => true
  | .DictComp _ _ _ _ _ => true
  | _ => false
def locNm (k : Str → Option NameKind) (line : Nat) (x : Expr) : Option Str := match x with
  | .Name id pos => if (k id == some .local && pos.line == line) = true then some id else none
  | _ => none
def tLine (ts : List Expr) : Nat := (ts.head?.map (·.pos.line)).getD 0
def Cc.locNames (cx : Cc) (ts : List Expr) : List Str := ts.filterMap (locNm cx.kind (tLine ts))
/-- no stores from the right -/
def noSw (cx : Cc) (tg e : Expr) : Bool := match tg, e with
  | .Tuple ts _ _, .Tuple vs _ _ => (!(ts.length == 2 || ts.length == 3) || vs.length != ts.length) || (cx.locNames ts).length != ts.length
  | .List _ _, _ => false
  | .Name _ _, _ => true
  | .Tuple _ _ _, _ => true
  | _, _ => false
def isFun (cx : Cc) : Bool := match cx.sc.kind with
  | .function => true
  | _ => false
/-- the list goes straight into the name -/
def swB (cx : Cc) (y : Str) (py : Pos) (scope : Scope) (pos : Pos) : Bool :=
  isFun cx && (cx.kind y == some .local && ((py.line == pos.line) && !(scope.names.any fun (n, k) => n == y && (k == .local || k == .cell))))
def parNm (cx : Cc) : List Nat → List Expr → Nat → Bool
  | [], [], _ => true
  | i :: is, .Name x p :: es, l => decide (cx.N[i]? = some x) && (cx.kind x == some .local && (p.line == l && parNm cx is es l))
  | _, _, _ => false
/-- names stored one after another -/
def stNm (cx : Cc) : List Nat → List Expr → Bool
  | [], [] => true
  | i :: is, .Name x _ :: es => decide (cx.N[i]? = some x) && (cx.st x && stNm cx is es)
  | _, _ => false
/-- a, b = x, y with no stores from the right -/
def parC (cx : Cc) (is : List Nat) (es : Es) (ts vs : List Expr) (t v : Expr) : Bool :=
  stNm cx is ts && (decide (ts.length ≤ 9) && (vs.length == ts.length && (chkEs cx es vs && noSw cx t v)))
mutual
def chkS (cx : Cc) : S → Stmt → Bool
  | .asg i e, x => match x with
    | .Assign [.Name y py] v pos => decide (cx.N[i]? = some y) && (cx.st y && (chkE cx e v && (match v with
      | .ListComp _ _ scope vpos => isFun cx
      | v => !isComp v)))
    | _ => false
  | .asgT tg e, x => match x with
    | .Assign [t] v _ => isTup t && (chkTg cx tg t && (chkE cx e v && (!isComp v && noSw cx t v)))
    | _ => false
  | .par is es, x => match x with
    | .Assign [.Tuple ts tk tp] (.Tuple vs vk vp) _ => parC cx is es ts vs (.Tuple ts tk tp) (.Tuple vs vk vp) || (isFun cx && (parNm cx is ts (tLine ts) && (decide (is.Nodup) && ((ts.length == 2 || ts.length == 3) && (vs.length == ts.length && (chkEs cx es vs && (!vs.all (foldedForSure 8) && (!vs.all (constantsAlone 8) && ((cx.locNames ts).eraseDups.length == (cx.locNames ts).length)))))))))
    | _ => false
  | .six i k v, x => match x with
    | .Assign [.Subscript o ix _] w _ => dVar cx i o && (chkE cx k ix && (!slic ix && (chkE cx v w && !isComp w)))
    | _ => false
  | .app i e, x => match x with
    | .Expr (.Call (.Attribute o at_ apos) [y] [] cpos) _ => decide (at_ = ("append" : Str)) && (dVar cx i o && (chkE cx e y && (!star y && decide (apos.endLine = cpos.line))))
    | _ => false
  | .ext i e, x => match x with
    | .Expr (.Call (.Attribute o at_ apos) [y] [] cpos) _ => decide (at_ = ("extend" : Str)) && (dVar cx i o && (chkE cx e y && (!star y && decide (apos.endLine = cpos.line))))
    | _ => false
  | .ex e, x => match x with
    | .Expr y _ => chkE cx e y && !isComp y
    | _ => false
  | .ife c a b, x => match x with
    | .If y p q _ => chkE cx c y && (chkSs cx a p && chkSs cx b q)
    | _ => false
  | .whl c b, x => match x with
    | .While y p [] _ => chkE cx c y && chkSs cx b p
    | _ => false
  | .fr tg it b, x => match x with
    | .For t y p [] _ => chkI cx it y (isTup t) && (!setD y && (chkTg cx tg t && chkSs cx b p))
    | _ => false
  | .ret e, x => match x with
    | .Return (some y) _ => chkE cx e y
    | _ => false
  | .retN, x => match x with
    | .Return none _ => true
    | _ => false
  | .rai c, x => match x with
    | .Raise (some (.Call (.Name y _) [.Constant (.str _) _ _] [] _)) none _ => decide (cx.xc[c]? = some y) && (cx.glob y && okNm y)
    | _ => false
def chkSs (cx : Cc) : Ss → List Stmt → Bool
  | .nil, x => match x with
    | [] => true
    | _ => false
  | .cons s r, x => match x with
    | y :: ys => chkS cx s y && chkSs cx r ys
    | _ => false
end
/-! ### the readings -/
section
variable (K : PySem.W.Frag) (Wx : WX) (xc : Nat → Value)
def PstS (o : SO) (σ : L2.St) (H : Hp) (Oc M : Ad → Prop) (ma : Nat → Ad) (D : Ends) : Prop := match o with
  | .bad => False
  | .exc c => ∀ σ' H' M', σ'.length = σ.length → Tr H M H' M' → Wx (xc c) none σ' H'
  | .nx ρ' => ∀ σ' H' M', σ'.length = σ.length → Tr H M H' M' → Sta K σ' H' Oc M' ma ρ' → D.nx σ' H'
  | .rt v ρ' => ∀ σ' H' M', σ'.length = σ.length → Tr H M H' M' → Sta K σ' H' Oc M' ma ρ' → ∀ x, RV K σ' H' Oc M' ρ' x v → D.rt x H'
def tS (f : Env' → SO) : TS := fun D σ H => ∃ ρ Oc M ma, Sta K σ H Oc M ma ρ ∧ PstS K Wx xc (f ρ) σ H Oc M ma D
end
section
variable {K : PySem.W.Frag} {Wx : WX} {xc : Nat → Value} {σ σ' : L2.St} {H H' : Hp} {Oc M M' : Ad → Prop} {ma : Nat → Ad} {D : Ends} {α : Type}
theorem PstS.tr {o : SO} (l : σ'.length = σ.length) (t : Tr H M H' M') (h : PstS K Wx xc o σ H Oc M ma D) : PstS K Wx xc o σ' H' Oc M' ma D := by
  cases o with
  | bad => exact h
  | exc c => exact fun σ2 H2 M2 l2 t2 => h σ2 H2 M2 (l2.trans l) (t.trans t2)
  | nx ρ => exact fun σ2 H2 M2 l2 t2 => h σ2 H2 M2 (l2.trans l) (t.trans t2)
  | rt v ρ => exact fun σ2 H2 M2 l2 t2 => h σ2 H2 M2 (l2.trans l) (t.trans t2)
theorem PstS.ends {o : SO} {D' : Ends} (h : PstS K Wx xc o σ H Oc M ma D) (h1 : ∀ σ H, D.nx σ H → D'.nx σ H) (h2 : ∀ x H, D.rt x H → D'.rt x H) : PstS K Wx xc o σ H Oc M ma D' := by
  cases o with
  | bad => exact h
  | exc c => exact h
  | nx ρ => exact fun σ2 H2 M2 l2 t2 s => h1 _ _ (h σ2 H2 M2 l2 t2 s)
  | rt v ρ => exact fun σ2 H2 M2 l2 t2 s x r => h2 _ _ (h σ2 H2 M2 l2 t2 s x r)
theorem PstS.of {o : Out α} {f : α → Env' → SO} (h : PstS K Wx xc (SO.of o f) σ H Oc M ma D) : Pst Wx xc σ o H M fun a ρ1 H1 M1 => PstS K Wx xc (f a ρ1) σ H1 Oc M1 ma D := by
  cases o with
  | bad => exact h
  | exc c => exact fun H1 M1 t => h σ H1 M1 rfl t
  | ok a ρ =>
    intro H1 M1 t
    have h : PstS K Wx xc (f a ρ) σ H Oc M ma D := h
    exact h.tr rfl t
/-- what follows a statement -/
theorem PstS.seq {f : Env' → SO} {o : SO} (h : PstS K Wx xc (match o with
    | .nx ρ1 => f ρ1
    | o => o) σ H Oc M ma D) : PstS K Wx xc o σ H Oc M ma { D with nx := tS K Wx xc f D } := by
  cases o with
  | bad => exact h
  | exc c => exact h
  | rt v ρ => exact h
  | nx ρ1 =>
    have h : PstS K Wx xc (f ρ1) σ H Oc M ma D := h
    exact fun σ1 H1 M1 l t S => ⟨ρ1, Oc, M1, ma, S, h.tr l t⟩
end
end Hil
/-! Hil16: the statements, one by one. -/
namespace Hil
open PySem PySem.Spec PyProof.Rows L2
section
variable {X : Cx} {cx : Cc} {Γ : List Fn} {G : List PD} {fu : Nat} {Wx : WX} {xc : Nat → Value} {lv : Nat}
theorem swaps_no {e : Expr} {t : Option Expr} {l : Nat} {env : Env} (h : isComp e = false) : swapsWith e t l env = pure false := by
  cases e <;> first
    | rfl
    | (simp [isComp] at h; done)
/-! ### name = value -/
theorem put_sh {K : PySem.W.Frag} {σ : L2.St} {H1 : Hp} {Oc M1 : Ad → Prop} {ma : Nat → Ad} {ρ1 : Env'} {i : Nat} {x : V} {v : Vl} {D : Ends} (S1 : Sta K σ H1 Oc M1 ma ρ1) (r1 : RV K σ H1 Oc M1 ρ1 x v)
    (P1 : PstS K Wx xc (match give ρ1 v with
      | some (w, ρ2) => (match asgN ρ2 i (.sh w) with
        | some ρ3 => SO.nx ρ3
        | none => .bad)
      | none => .bad) σ H1 Oc M1 ma D) : D.nx (σ.set i (some x)) H1 := by
  cases e1 : give ρ1 v with
  | none => rw [e1] at P1; exact P1.elim
  | some q =>
    obtain ⟨w, ρ2⟩ := q
    rw [e1] at P1
    obtain ⟨M2, l, S2, r2⟩ := S1.give r1 e1
    dsimp only at P1
    cases e2 : asgN ρ2 i (.sh w) with
    | none => rw [e2] at P1; exact P1.elim
    | some ρ3 =>
      rw [e2] at P1
      exact P1 _ H1 M2 (List.length_set ..) (Tr.less l) (S2.put e2 (.inl ⟨w, rfl, r2⟩))
theorem asg_read {i : Nat} {e : E} {D : Ends} {σ : L2.St} {H : Hp} (h : tS X.K Wx xc (run Γ G fu (.asg i e)) D σ H) : tV X.K Wx xc (ev Γ G e) σ H (fun x H1 => gName i x σ H1 D.nx) := by
  obtain ⟨ρ, Oc, M, ma, S, P⟩ := h
  simp only [run] at P
  refine ⟨ρ, Oc, M, ma, S, (PstS.of P).imp fun v ρ1 H1 M1 t1 P1 S1 x r1 => ?_⟩
  cases v with
  | val w => exact put_sh S1 r1 P1
  | loc j => exact put_sh S1 r1 P1
  | fre w =>
    dsimp only at P1
    cases e2 : asgN ρ1 i (.ow w) with
    | none => rw [e2] at P1; exact P1.elim
    | some ρ3 =>
      rw [e2] at P1
      obtain ⟨a, rfl, m, o, n⟩ := r1
      exact P1 _ H1 M1 (List.length_set ..) Tr.refl (S1.put e2 (.inr ⟨w, a, rfl, rfl, m, o, n⟩))
theorem chk_lc {e : E} {x4 : Expr} {gs : List Comprehension} {scope : Scope} {pos : Pos} (h : chkE cx e (.ListComp x4 gs scope pos) = true) : ∃ tg it ft elt, e = .lc tg it ft elt := by
  cases e with
  | lc tg it ft elt => exact ⟨tg, it, ft, elt, rfl⟩
  | o1 o a => cases o <;> simp [chkE, dO1, dB1, dBlt] at h
  | o2 o a b => cases o <;> simp [chkE, dO2, dB1, dB2, dBlt, dBin, dCmp, dIx, O2.cmp] at h
  | cst d => cases d <;> simp [chkE, dCst] at h
  | _ => simp [chkE, dVar, dGlo] at h
theorem lcOk_of (g : Good X cx Γ G Wx xc lv) {tg : Tg} {it : It} {ft elt : E} {x4 : Expr} {gs : List Comprehension} {scope : Scope} {pos : Pos} (h : chkE cx (.lc tg it ft elt) (.ListComp x4 gs scope pos) = true) :
    ∃ x1 x2 fs, gs = [⟨x1, x2, fs, 0⟩] ∧ LcOk X Γ G Wx xc tg it ft elt x1 x2 x4 fs scope := by
  simp only [chkE] at h
  split at h
  · rename_i x4 x1 x2 fs scope pos e
    cases e
    simp only [Bool.and_eq_true, Bool.not_eq_true'] at h
    obtain ⟨h1, h2, h3, h4, h5, h6⟩ := h
    refine ⟨x1, x2, fs, rfl, sound_I it g x1 x2 h1, h2, blkOk_by ?_, tgOwn_slots h3, fun s H C cl fp => sound_M (g.blk s H scope C cl fp) tg x1 h3, fun s H C cl fp => ?_, fun s H C cl fp => (sound_E elt (g.blk s H scope C cl fp) x4 h6).1⟩
    · rw [g.N, g.sc]; exact h4
    · split at h5
      · split at h5
        · exact pts_yes
        · cases h5
      · exact pts_one (sound_E ft (g.blk s H scope C cl fp) _ h5).2
      · cases h5
  · cases h
theorem isFun_eq {env : Env} (h : isFun cx = true) (e : env.scope = cx.sc) : env.scope.kind = .function := by
  rw [e]
  unfold isFun at h
  split at h
  · assumption
  · cases h
theorem s_asg (g : Good X cx Γ G Wx xc lv) {i : Nat} {e : E} {x : Stmt} (h : chkS cx (.asg i e) x = true) : PS X x (tS X.K Wx xc (run Γ G fu (.asg i e))) := by
  simp only [chkS] at h
  split at h
  case h_2 => cases h
  rename_i y py v pos
  simp only [Bool.and_eq_true, decide_eq_true_eq] at h
  obtain ⟨h1, h2, h3, h4⟩ := h
  have hN : X.N[i]? = some y := by rw [g.N]; exact h1
  obtain ⟨l, f⟩ := g.st y h2
  have plain : ∀ (hs : swapsWith v (some (.Name y py)) pos.line X.env = pure false), PS X (.Assign [.Name y py] v pos) (tS X.K Wx xc (run Γ G fu (.asg i e))) := fun hs =>
    PS.of (ps_set g.nd hN l (sound_E e g v h3).1 hs f) fun D σ H q => asg_read q
  by_cases hc : isComp v = true
  · split at h4
    · rename_i x4 gs scope vpos
      obtain ⟨tg, it, ft, elt, rfl⟩ := chk_lc h3
      obtain ⟨x1, x2, fs, rfl, L⟩ := lcOk_of g h3
      have hk : X.env.scope.kind = .function := isFun_eq h4 g.sc
      by_cases hsw : (X.env.kindOf y == some .local && (py.line == vpos.line) && !(scope.names.any fun (n, k) => n == y && (k == .local || k == .cell))) = true
      · simp only [Bool.and_eq_true, Bool.not_eq_true', beq_iff_eq] at hsw
        have hyl : X.env.scope.names.lookup y = some .local := hsw.1.1
        refine PS.of (ps_setLc g.calm g.nd hN hyl (sw_true hk hyl (by simpa using hsw.1.2) hsw.2) L.hi L.ok L.hg L.ht L.he (folded_of L.hs)) fun D σ H q => ?_
        have := lc_read (asg_read q)
        rw [← L.sl] at this
        exact this
      · refine plain ?_
        have hb : X.env.blockKind = .function := by unfold Env.blockKind; rw [hk]; rfl
        show pure (X.env.blockKind == .function && X.env.kindOf y == some .local && py.line == vpos.line && !(scope.names.any fun (n, k) => n == y && (k == .local || k == .cell))) = pure false
        rw [hb]
        have : ((ScopeKind.function == ScopeKind.function) = true) := by decide
        rw [this, Bool.true_and]
        rw [Bool.eq_false_iff.mpr hsw]
    · rename_i hno
      rw [Bool.not_eq_true'] at h4
      rw [h4] at hc
      cases hc
  · exact plain (swaps_no (by simpa using hc))
/-! ### (a, b) = value -/
theorem kindOf_eq (g : Good X cx Γ G Wx xc lv) (x : Str) : X.env.kindOf x = cx.kind x := by
  show X.env.scope.names.lookup x = cx.sc.names.lookup x
  rw [g.sc]
theorem sws_short {ts vs : List Expr} {k k2 : Nat} {p p2 : Pos} {env : Env} (h : (!(ts.length == 2 || ts.length == 3) || vs.length != ts.length || env.blockKind != .function) = true) : swappedStores [.Tuple ts k p] (.Tuple vs k2 p2) env = pure none := by
  unfold swappedStores
  dsimp only
  rw [if_pos h]
theorem sws_few {ts vs : List Expr} {k k2 : Nat} {p p2 : Pos} {env : Env} (h : ((ts.filterMap (locNm env.kindOf (tLine ts))).length != ts.length) = true) : swappedStores [.Tuple ts k p] (.Tuple vs k2 p2) env = pure none := by
  by_cases h1 : (!(ts.length == 2 || ts.length == 3) || vs.length != ts.length || env.blockKind != .function) = true
  · exact sws_short h1
  · unfold swappedStores
    dsimp only
    rw [if_neg h1]
    split
    · rfl
    · have e : (fun x : Expr => locNm env.kindOf (tLine ts) x) = locNm env.kindOf (tLine ts) := rfl
      have h2 : ((ts.filterMap (locNm env.kindOf (tLine ts))).length != ts.length || (ts.filterMap (locNm env.kindOf (tLine ts))).eraseDups.length != (ts.filterMap (locNm env.kindOf (tLine ts))).length) = true := by rw [h]; rfl
      exact if_pos h2
theorem kinds_eq (g : Good X cx Γ G Wx xc lv) : X.env.kindOf = cx.kind := funext fun x => kindOf_eq g x
theorem sws_none (g : Good X cx Γ G Wx xc lv) {t v : Expr} (hn : noSw cx t v = true) : swappedStores [t] v X.env = pure none := by
  unfold noSw at hn
  split at hn
  · rename_i ts k p vs k2 p2
    rw [Bool.or_eq_true] at hn
    rcases hn with hn | hn
    · exact sws_short (by rw [hn]; rfl)
    · refine sws_few ?_
      rw [kinds_eq g]
      exact hn
  · cases hn
  · rfl
  · rename_i ts k p hno1
    cases v <;> first
      | rfl
      | (exact (hno1 _ _ _ rfl).elim)
  · cases hn
theorem s_asgT (g : Good X cx Γ G Wx xc lv) {tg : Tg} {e : E} {x : Stmt} (h : chkS cx (.asgT tg e) x = true) : PS X x (tS X.K Wx xc (run Γ G fu (.asgT tg e))) := by
  simp only [chkS] at h
  split at h
  case h_2 => cases h
  rename_i t v pos
  simp only [Bool.and_eq_true, Bool.not_eq_true'] at h
  obtain ⟨h0, h1, h2, h3, h4⟩ := h
  have ht : (assignEach [t] X.env).map (·.2) = [assign t X.env] := by
    cases t <;> first
      | rfl
      | (simp [isTup] at h0; done)
  refine PS.of (ps_asg (sound_E e g v h2).1 (sound_Tg g tg t h1) (swaps_no h3) (sws_none g h4) ht) fun D σ H q => ?_
  obtain ⟨ρ, Oc, M, ma, S, P⟩ := q
  simp only [run] at P
  refine ⟨ρ, Oc, M, ma, S, (PstS.of P).imp fun v ρ1 H1 M1 t1 P1 S1 x r1 => ?_⟩
  split at P1
  · rename_i d ρ2 e1
    obtain ⟨M2, l, S2, r2⟩ := S1.give r1 e1
    split at P1
    · rename_i ρ3 e2
      exact ⟨ρ2, Oc, M2, ma, d, ρ3, S2, r2, e2, fun σ' S' o => P1 σ' H1 M2 o.1 (Tr.less l) S'⟩
    · exact P1.elim
  · exact P1.elim
/-! ### append, extend, a value dropped -/
theorem s_app (g : Good X cx Γ G Wx xc lv) {i : Nat} {e : E} {x : Stmt} (h : chkS cx (.app i e) x = true) : PS X x (tS X.K Wx xc (run Γ G fu (.app i e))) := by
  simp only [chkS] at h
  split at h
  case h_2 => cases h
  rename_i o at_ apos y cpos pos
  simp only [Bool.and_eq_true, Bool.not_eq_true', decide_eq_true_eq] at h
  obtain ⟨rfl, h2, h3, hs, hl⟩ := h
  refine PS.of (ps_expr (pe_bm (T := "list") (id := "list.append") PySem.F.plainAttrs_list PySem.F.slot_list_append PySem.F.type_list_append mt_append (s_var (Γ := Γ) (G := G) (xc := xc) (Wx := Wx) g h2).1 (pa_1 hs (sound_E e g y h3).1) (attrBase_of h2) (by rw [starEach_cons hs]; rfl) (by simp [hl]) (starEach_cons hs) rfl) rfl) fun D σ H q => ?_
  obtain ⟨ρ, Oc, M, ma, S, P⟩ := q
  simp only [run] at P
  cases hi : ρ[i]? with
  | none => simp only [hi, Option.bind_none] at P; exact P.elim
  | some x0 =>
    simp only [hi, Option.bind_some] at P
    cases h0 : ownL x0 with
    | none => rw [h0] at P; exact P.elim
    | some ds0 =>
      rw [h0] at P
      obtain ⟨ho, _⟩ := ownL_own h0
      obtain ⟨p, vs0, ep, mp, hp, rp⟩ := S.ownL hi h0
      refine ⟨ρ, Oc, M, ma, S, ?_⟩
      have hev : ev Γ G (.var i) ρ = .ok (.loc i) ρ := by
        simp only [ev, hi]
        cases x0 <;> first | rfl | cases ho
      rw [hev]
      intro H1 M1 t1 S1 x r1
      obtain ⟨x1, hi1, ho1, ex⟩ := r1
      rw [ep] at ex
      cases ex
      rw [hi] at hi1
      cases hi1
      obtain ⟨p1, vs1, ep1, mp1, hp1, rp1⟩ := S1.ownL hi h0
      rw [ep] at ep1
      cases ep1
      refine ⟨.inl ⟨rfl, vs1, SqL.of hp1⟩, ρ, Oc, M1, ma, S1, (PstS.of (P.tr rfl t1)).imp fun v ρ2 H2 M2 t2 P2 S2 z r2 => ?_⟩
      split at P2
      · rename_i d ρ3 e1
        obtain ⟨M3, l3, S3, r3⟩ := S2.give r2 e1
        split at P2
        · rename_i xx ei
          split at P2
          · rename_i ds e2
            split at P2
            · rename_i hl
              obtain ⟨ho3, _⟩ := ownL_own e2
              obtain ⟨p3, vs3, ep3, mp3, hp3, rp3⟩ := S3.ownL ei e2
              rw [ep] at ep3
              cases ep3
              refine ⟨p, vs3, z, rfl, rfl, hp3, by rw [rp3.length]; unfold sizeLine; omega, ?_⟩
              have r3 : RD X.K H2 (fun b => Oc b ∨ M3 b) z d := r3
              have S4 := S3.writ (o := .lst (vs3 ++ [z])) (w := .d (.list (ds ++ [d]))) ei ho3 ep mp3 ⟨_, upd_same, (rp3.snoc r3).writ mp3⟩
              have t4 : Tr H2 M2 (upd H2 p (.lst (vs3 ++ [z]))) M3 := (Tr.less l3).trans (Tr.writ mp3)
              exact P2 _ _ _ rfl t4 S4
            · exact P2.elim
          · exact P2.elim
        · exact P2.elim
      · exact P2.elim
theorem s_ext (g : Good X cx Γ G Wx xc lv) {i : Nat} {e : E} {x : Stmt} (h : chkS cx (.ext i e) x = true) : PS X x (tS X.K Wx xc (run Γ G fu (.ext i e))) := by
  simp only [chkS] at h
  split at h
  case h_2 => cases h
  rename_i o at_ apos y cpos pos
  simp only [Bool.and_eq_true, Bool.not_eq_true', decide_eq_true_eq] at h
  obtain ⟨rfl, h2, h3, hs, hl⟩ := h
  refine PS.of (ps_expr (pe_bm (T := "list") (id := "list.extend") PySem.F.plainAttrs_list PySem.F.slot_list_extend PySem.F.type_list_extend mt_extend (s_var (Γ := Γ) (G := G) (xc := xc) (Wx := Wx) g h2).1 (pa_1 hs (sound_E e g y h3).1) (attrBase_of h2) (by rw [starEach_cons hs]; rfl) (by simp [hl]) (starEach_cons hs) rfl) rfl) fun D σ H q => ?_
  obtain ⟨ρ, Oc, M, ma, S, P⟩ := q
  simp only [run] at P
  cases hi : ρ[i]? with
  | none => simp only [hi, Option.bind_none] at P; exact P.elim
  | some x0 =>
    simp only [hi, Option.bind_some] at P
    cases h0 : ownL x0 with
    | none => rw [h0] at P; exact P.elim
    | some ds0 =>
      rw [h0] at P
      obtain ⟨ho, _⟩ := ownL_own h0
      obtain ⟨p, vs0, ep, mp, hp, rp⟩ := S.ownL hi h0
      refine ⟨ρ, Oc, M, ma, S, ?_⟩
      have hev : ev Γ G (.var i) ρ = .ok (.loc i) ρ := by
        simp only [ev, hi]
        cases x0 <;> first | rfl | cases ho
      rw [hev]
      intro H1 M1 t1 S1 x r1
      obtain ⟨x1, hi1, ho1, ex⟩ := r1
      rw [ep] at ex
      cases ex
      rw [hi] at hi1
      cases hi1
      obtain ⟨p1, vs1, ep1, mp1, hp1, rp1⟩ := S1.ownL hi h0
      rw [ep] at ep1
      cases ep1
      refine ⟨.inl ⟨rfl, vs1, SqL.of hp1⟩, ρ, Oc, M1, ma, S1, (PstS.of (P.tr rfl t1)).imp fun v ρ2 H2 M2 t2 P2 S2 z r2 => ?_⟩
      split at P2
      · rename_i es ρ3 e1
        obtain ⟨M3, l3, S3, r3⟩ := S2.give r2 e1
        split at P2
        · rename_i xx ei
          split at P2
          · rename_i ds e2
            split at P2
            · rename_i hl
              obtain ⟨ho3, _⟩ := ownL_own e2
              obtain ⟨p3, vs3, ep3, mp3, hp3, rp3⟩ := S3.ownL ei e2
              rw [ep] at ep3
              cases ep3
              obtain ⟨b, us, rfl, eb, nb, rb⟩ := RD.lstV r3
              refine ⟨p, b, vs3, us, rfl, rfl, hp3, eb, by rw [rp3.length, rb.length]; unfold sizeLine; omega, ?_⟩
              have S4 := S3.writ (o := .lst (vs3 ++ us)) (w := .d (.list (ds ++ es))) ei ho3 ep mp3 ⟨_, upd_same, (rp3.append rb).writ mp3⟩
              have t4 : Tr H2 M2 (upd H2 p (.lst (vs3 ++ us))) M3 := (Tr.less l3).trans (Tr.writ mp3)
              exact P2 _ _ _ rfl t4 S4
            · exact P2.elim
          · exact P2.elim
        · exact P2.elim
      · exact P2.elim
theorem s_ex (g : Good X cx Γ G Wx xc lv) {e : E} {x : Stmt} (h : chkS cx (.ex e) x = true) : PS X x (tS X.K Wx xc (run Γ G fu (.ex e))) := by
  simp only [chkS] at h
  split at h
  case h_2 => cases h
  rename_i y pos
  simp only [Bool.and_eq_true, Bool.not_eq_true'] at h
  refine PS.of (ps_expr (sound_E e g y h.1).1 (swaps_no h.2)) fun D σ H q => ?_
  obtain ⟨ρ, Oc, M, ma, S, P⟩ := q
  simp only [run] at P
  exact ⟨ρ, Oc, M, ma, S, (PstS.of P).imp fun v ρ1 H1 M1 t1 P1 S1 x r1 => P1 _ _ _ rfl Tr.refl S1⟩
/-! ### return, raise -/
theorem s_ret (g : Good X cx Γ G Wx xc lv) {e : E} {x : Stmt} (h : chkS cx (.ret e) x = true) : PS X x (tS X.K Wx xc (run Γ G fu (.ret e))) := by
  simp only [chkS] at h
  split at h
  case h_2 => cases h
  rename_i y pos
  refine PS.of (ps_ret (sound_E e g y h).1) fun D σ H q => ?_
  obtain ⟨ρ, Oc, M, ma, S, P⟩ := q
  simp only [run] at P
  exact ⟨ρ, Oc, M, ma, S, (PstS.of P).imp fun v ρ1 H1 M1 t1 P1 S1 x r1 => P1 _ _ _ rfl Tr.refl S1 x r1⟩
theorem s_retN {x : Stmt} (h : chkS cx .retN x = true) : PS X x (tS X.K Wx xc (run Γ G fu .retN)) := by
  simp only [chkS] at h
  split at h
  case h_2 => cases h
  refine PS.of ps_retN fun D σ H q => ?_
  obtain ⟨ρ, Oc, M, ma, S, P⟩ := q
  simp only [run] at P
  exact P _ _ _ rfl Tr.refl S .non RD.non
theorem s_rai (g : Good X cx Γ G Wx xc lv) {c : Nat} {x : Stmt} (h : chkS cx (.rai c) x = true) : PS X x (tS X.K Wx xc (run Γ G fu (.rai c))) := by
  simp only [chkS] at h
  split at h
  case h_2 => cases h
  rename_i y p z j p2 pos pos2
  simp only [Bool.and_eq_true, decide_eq_true_eq] at h
  obtain ⟨h1, h2, h3⟩ := h
  obtain ⟨C, bmB, B, newId, initId, F, q, gC, kC, r, e⟩ := g.exc c y h1
  refine PS.of (ps_raise g.calm g.takes (pmk_own F q gC kC r (g.gl h2) (okNm1 h3))) fun D σ H q => ?_
  obtain ⟨ρ, Oc, M, ma, S, P⟩ := q
  simp only [run] at P
  have := P σ H M rfl Tr.refl
  rw [e] at this
  exact this
end
end Hil
/-! Hil17: several names at once; x[k] = v. -/
namespace Hil
open PySem PySem.Spec PyProof.Rows L2
/-- several values in hand -/
def ParR (K : PySem.W.Frag) (σ : L2.St) (H : Hp) (Oc M : Ad → Prop) (ρ : Env') : (Ad → Prop) → List V → List Vl → Prop
  | _, [], [] => True
  | Av, x :: xs, .val w :: vs => RW K H (fun b => Oc b ∨ M b) x w ∧ ParR K σ H Oc M ρ Av xs vs
  | Av, x :: xs, .fre w :: vs => ∃ a, x = .ref a ∧ M a ∧ OW K H (fun b => Oc b ∨ M b) a w ∧ (∀ (i : Nat) (y : Sl), ρ[i]? = some y → y.owned = true → σ[i]? ≠ some (some (V.ref a))) ∧ ¬ Av a ∧ ParR K σ H Oc M ρ (fun b => Av b ∨ b = a) xs vs
  | _, _, _ => False
section
variable {K : PySem.W.Frag} {σ σ' : L2.St} {H H' : Hp} {Oc M M' : Ad → Prop} {ma : Nat → Ad} {ρ ρ' : Env'}
theorem hide_eq {Oc M : Ad → Prop} {a : Ad} (m : M a) : (fun b => (Oc b ∨ b = a) ∨ (M b ∧ b ≠ a)) = fun b => Oc b ∨ M b := by
  funext b
  apply propext
  constructor
  · rintro ((h | h) | h)
    · exact .inl h
    · exact .inr (by rw [h]; exact m)
    · exact .inr h.1
  · rintro (h | h)
    · exact .inl (.inl h)
    · by_cases e : b = a
      · exact .inl (.inr e)
      · exact .inr ⟨h, e⟩
theorem unhide_eq {Oc M : Ad → Prop} {a : Ad} : (fun b => (Oc b ∨ b = a) ∨ M b) = fun b => Oc b ∨ M b ∨ b = a := by
  funext b
  apply propext
  constructor
  · rintro ((h | h) | h)
    · exact .inl h
    · exact .inr (.inr h)
    · exact .inr (.inl h)
  · rintro (h | h | h)
    · exact .inl (.inl h)
    · exact .inr h
    · exact .inl (.inr h)
theorem Sta.hide {a : Ad} (S : Sta K σ H Oc M ma ρ) (m : M a) (n : ∀ (i : Nat) (y : Sl), ρ[i]? = some y → y.owned = true → σ[i]? ≠ some (some (V.ref a))) : Sta K σ H (fun b => Oc b ∨ b = a) (fun b => M b ∧ b ≠ a) ma ρ := by
  refine ⟨S.len, fun i x e => (S.sl i x e).monoG (fun b o q _ => q) (fun b o q h => ?_) rfl (fun c ho ea mc => ⟨⟨mc, fun z => n i x e ho (z ▸ ea)⟩, fun o q => q⟩), S.inj, fun b h z => ?_, fun b h => S.trk b ?_⟩
  · have := congrFun (hide_eq (Oc := Oc) m) b
    rw [this]
    exact h
  · rcases z with z | z
    · exact S.dis b h.1 z
    · exact h.2 z
  · have := congrFun (hide_eq (Oc := Oc) m) b
    rw [← this]
    exact h
theorem Sta.unhide {a : Ad} (S : Sta K σ H (fun b => Oc b ∨ b = a) M ma ρ) (n : ¬ Oc a) : Sta K σ H Oc (fun b => M b ∨ b = a) ma ρ := by
  refine ⟨S.len, fun i x e => (S.sl i x e).monoG (fun b o q _ => q) (fun b o q h => ?_) rfl (fun c ho ea mc => ⟨.inl mc, fun o q => q⟩), S.inj, fun b h z => ?_, fun b h => S.trk b ?_⟩
  · have := congrFun (unhide_eq (Oc := Oc) (M := M) (a := a)) b
    rw [← this]
    exact h
  · rcases h with h | h
    · exact S.dis b h (.inl z)
    · exact n (h ▸ z)
  · have := congrFun (unhide_eq (Oc := Oc) (M := M) (a := a)) b
    rw [this]
    exact h
theorem ParR.unhide {a : Ad} (n : ∀ b, M b → b ≠ a) : ∀ {xs : List V} {vs : List Vl} {Av : Ad → Prop}, ParR K σ H (fun b => Oc b ∨ b = a) M ρ Av xs vs → ParR K σ H Oc (fun b => M b ∨ b = a) ρ (fun b => Av b ∨ b = a) xs vs
  | [], [], _, _ => trivial
  | [], _ :: _, _, h => h.elim
  | _ :: _, [], _, h => h.elim
  | x :: xs, .loc _ :: vs, _, h => h.elim
  | x :: xs, .val w :: vs, Av, h => by
    obtain ⟨h1, h2⟩ := h
    refine ⟨?_, ParR.unhide n h2⟩
    rw [unhide_eq] at h1
    exact h1
  | x :: xs, .fre w :: vs, Av, h => by
    obtain ⟨c, e, m, o, ns, nav, r⟩ := h
    rw [unhide_eq] at o
    refine ⟨c, e, .inl m, o, ns, fun z => z.elim nav (n c m), ?_⟩
    have := ParR.unhide n r
    have eq : (fun b => (Av b ∨ b = c) ∨ b = a) = fun b => (Av b ∨ b = a) ∨ b = c := by
      funext b
      apply propext
      constructor
      · rintro ((h | h) | h)
        · exact .inl (.inl h)
        · exact .inr h
        · exact .inl (.inr h)
      · rintro ((h | h) | h)
        · exact .inl (.inl h)
        · exact .inr h
        · exact .inl (.inr h)
    rw [eq] at this
    exact this
theorem ParR.put {i : Nat} {y : Sl} {v : V} (e : asgN ρ i y = some ρ') : ∀ {xs : List V} {vs : List Vl} {Av : Ad → Prop}, (y.owned = true → ∃ a, v = .ref a ∧ Av a) → ParR K σ H Oc M ρ Av xs vs → ParR K (σ.set i (some v)) H Oc M ρ' Av xs vs
  | [], [], _, _, _ => trivial
  | [], _ :: _, _, _, h => h.elim
  | _ :: _, [], _, _, h => h.elim
  | x :: xs, .loc _ :: vs, _, _, h => h.elim
  | x :: xs, .val w :: vs, Av, hy, h => ⟨h.1, ParR.put e hy h.2⟩
  | x :: xs, .fre w :: vs, Av, hy, h => by
    obtain ⟨c, e1, m, o, ns, nav, r⟩ := h
    refine ⟨c, e1, m, o, fun j z ez ho ea => ?_, nav, ParR.put e (fun q => let ⟨a, e2, h2⟩ := hy q; ⟨a, e2, .inl h2⟩) r⟩
    obtain ⟨y0, hy0, _, rfl⟩ := asgN_some e
    rcases getE_set ez with ⟨rfl, rfl⟩ | ⟨ne, ez⟩
    · obtain ⟨a, e2, h2⟩ := hy ho
      have hl : i < σ.length := by
        by_cases hl : i < σ.length
        · exact hl
        · rw [List.getElem?_eq_none (by simpa using hl)] at ea; cases ea
      rw [List.getElem?_set_self hl, e2] at ea
      cases ea
      exact nav h2
    · rw [List.getElem?_set_ne ne] at ea
      exact ns j z ez ho ea
def setAll : L2.St → List Nat → List V → L2.St
  | σ, i :: is, x :: xs => setAll (σ.set i (some x)) is xs
  | σ, _, _ => σ
theorem setAll_length : ∀ {σ : L2.St} {is : List Nat} {xs : List V}, (setAll σ is xs).length = σ.length
  | σ, [], _ => rfl
  | σ, _ :: _, [] => rfl
  | σ, i :: is, x :: xs => by
    show (setAll (σ.set i (some x)) is xs).length = _
    rw [setAll_length, List.length_set]
theorem par_sta : ∀ {is : List Nat} {xs : List V} {vs : List Vl} {ρ : Env'} {σ : L2.St} {Av : Ad → Prop}, Sta K σ H Oc M ma ρ → ParR K σ H Oc M ρ Av xs vs → parSet is vs ρ = some ρ' → Sta K (setAll σ is xs) H Oc M ma ρ'
  | [], [], [], ρ, σ, Av, S, r, e => by cases e; exact S
  | [], _, _ :: _, ρ, σ, Av, S, r, e => by cases e
  | _ :: _, _, [], ρ, σ, Av, S, r, e => by cases e
  | [], _ :: _, [], ρ, σ, Av, S, r, e => r.elim
  | i :: is, [], v :: vs, ρ, σ, Av, S, r, e => r.elim
  | i :: is, x :: xs, .loc _ :: vs, ρ, σ, Av, S, r, e => r.elim
  | i :: is, x :: xs, .val w :: vs, ρ, σ, Av, S, r, e => by
    simp only [parSet] at e
    cases q : asgN ρ i (.sh w) with
    | none => rw [q] at e; cases e
    | some ρ1 =>
      rw [q] at e
      show Sta K (setAll (σ.set i (some x)) is xs) H Oc M ma ρ'
      exact par_sta (S.put q (.inl ⟨w, rfl, r.1⟩)) (r.2.put q fun z => by cases z) e
  | i :: is, x :: xs, .fre w :: vs, ρ, σ, Av, S, r, e => by
    simp only [parSet] at e
    obtain ⟨a, rfl, m, o, ns, nav, r⟩ := r
    cases q : asgN ρ i (.ow w) with
    | none => rw [q] at e; cases e
    | some ρ1 =>
      rw [q] at e
      show Sta K (setAll (σ.set i (some (V.ref a))) is xs) H Oc M ma ρ'
      exact par_sta (S.put q (.inr ⟨w, a, rfl, rfl, m, o, ns⟩)) (r.put q fun z => ⟨a, rfl, .inr rfl⟩) e
end
def tP (K : PySem.W.Frag) (Wx : WX) (xc : Nat → Value) (f : Env' → Out (List Vl)) : TA := fun σ H Q => ∃ ρ Oc M ma, Sta K σ H Oc M ma ρ ∧
  Pst Wx xc σ (f ρ) H M fun vs ρ' H' M' => Sta K σ H' Oc M' ma ρ' → ∀ xs, ParR K σ H' Oc M' ρ' (fun _ => False) xs vs → Q xs H'
theorem Pst.hide {Wx : WX} {xc : Nat → Value} {σ : L2.St} {α : Type} {H : Hp} {M : Ad → Prop} {a : Ad} {o : Out α} {k : α → Env' → Hp → (Ad → Prop) → Prop} (m : M a) (h : Pst Wx xc σ o H M k) : Pst Wx xc σ o H (fun b => M b ∧ b ≠ a) fun v ρ H' M' => k v ρ H' fun b => M' b ∨ b = a := by
  have up : ∀ {H' : Hp} {M' : Ad → Prop}, Tr H (fun b => M b ∧ b ≠ a) H' M' → Tr H M H' (fun b => M' b ∨ b = a) := fun {H' M'} t => ⟨fun b o e n => t.keep b o e fun z => n z.1, fun b z => z.elim (fun z => (t.new b z).imp (fun q => q.1) id) fun z => .inl (by rw [z]; exact m)⟩
  cases o with
  | bad => exact h
  | exc c => exact fun H' M' t => h H' _ (up t)
  | ok v ρ => exact fun H' M' t => h H' _ (up t)
section
variable {X : Cx} {cx : Cc} {Γ : List Fn} {G : List PD} {fu : Nat} {Wx : WX} {xc : Nat → Value} {lv : Nat}
theorem p_cons {e : E} {r : Es} {y : Expr} {ys : List Expr} (hy : star y = false) (h1 : PE X y (tV X.K Wx xc (ev Γ G e))) (h2 : PA X ys (tP X.K Wx xc (evp Γ G r))) : PA X (y :: ys) (tP X.K Wx xc (evp Γ G (.cons e r))) := by
  refine PA.of (pa_cons h1 h2 (starEach_cons hy)) fun σ H Q h => ?_
  obtain ⟨ρ, Oc, M, ma, S, P⟩ := h
  simp only [evp] at P
  refine ⟨ρ, Oc, M, ma, S, Pst.imp (Pst.bind P) fun v ρ1 H1 M1 t1 P1 S1 x r1 => ?_⟩
  have sh : ∀ v, RV X.K σ H1 Oc M1 ρ1 x v → Pst Wx xc σ (match give ρ1 v with
      | some (w, ρ2) => (evp Γ G r ρ2).bind fun q ρ3 => Out.ok (.val w :: q) ρ3
      | none => .bad) H1 M1 (fun vs ρ' H' M' => Sta X.K σ H' Oc M' ma ρ' → ∀ xs, ParR X.K σ H' Oc M' ρ' (fun _ => False) xs vs → Q xs H') → tP X.K Wx xc (evp Γ G r) σ H1 fun xs H2 => Q (x :: xs) H2 := fun v r1 P1 => by
    cases q : give ρ1 v with
    | none => rw [q] at P1; exact P1.elim
    | some p =>
      obtain ⟨w, ρ2⟩ := p
      rw [q] at P1
      obtain ⟨M2, l, S2, r2⟩ := S1.give r1 q
      refine ⟨ρ2, Oc, M2, ma, S2, Pst.imp (Pst.bind (Pst.tr (Tr.less l) P1)) fun q ρ3 H3 M3 t3 P3 S3 xs a3 => ?_⟩
      exact P3 H3 M3 Tr.refl S3 (x :: xs) ⟨r2.tr t3, a3⟩
  cases v with
  | val w => exact sh _ r1 P1
  | loc j => exact sh _ r1 P1
  | fre w =>
    dsimp only at P1
    obtain ⟨a, rfl, m, o, n⟩ := r1
    refine ⟨ρ1, _, _, ma, S1.hide m n, Pst.imp (Pst.hide m (Pst.bind P1)) fun q ρ3 H3 M3 t3 P3 S3 xs a3 => ?_⟩
    have na : ∀ b, M3 b → b ≠ a := fun b h z => S3.dis b h (.inr z)
    have S4 := S3.unhide (S1.dis a m)
    refine P3 H3 _ Tr.refl S4 (.ref a :: xs) ⟨a, rfl, .inr rfl, ?_, fun i y e ho ea => ?_, fun z => z, a3.unhide na⟩
    · rw [← hide_eq (Oc := Oc) m] at o
      have := o.mono t3.h1 t3.h2 fun o' e => t3.keep a o' e fun z => z.2 rfl
      rw [unhide_eq] at this
      exact this
    · obtain ⟨b, w', e1, mb, _⟩ := (S3.sl i y e).ownAd ho
      rw [ea] at e1
      cases e1
      exact na _ mb rfl
theorem sound_P (g : Good X cx Γ G Wx xc lv) : ∀ (es : Es) (xs : List Expr), chkEs cx es xs = true → PA X xs (tP X.K Wx xc (evp Γ G es))
  | .nil, xs, h => by
    cases xs with
    | nil =>
      refine PA.of pa_nil fun σ H Q h => ?_
      obtain ⟨ρ, Oc, M, ma, S, P⟩ := h
      exact P H M Tr.refl S [] trivial
    | cons _ _ => simp [chkEs] at h
  | .cons e r, xs, h => by
    cases xs with
    | nil => simp [chkEs] at h
    | cons y ys =>
      simp only [chkEs, Bool.and_eq_true, Bool.not_eq_true'] at h
      exact p_cons h.2.1 (sound_E e g y h.1).1 (sound_P g r ys h.2.2)
theorem ParR.len {K : PySem.W.Frag} {σ : L2.St} {H : Hp} {Oc M : Ad → Prop} {ρ : Env'} : ∀ {xs : List V} {vs : List Vl} {Av : Ad → Prop}, ParR K σ H Oc M ρ Av xs vs → xs.length = vs.length
  | [], [], _, _ => rfl
  | [], _ :: _, _, h => h.elim
  | _ :: _, [], _, h => h.elim
  | x :: xs, .loc _ :: vs, _, h => h.elim
  | x :: xs, .val w :: vs, Av, h => by simp [ParR.len h.2]
  | x :: xs, .fre w :: vs, Av, h => by
    obtain ⟨_, _, _, _, _, _, r⟩ := h
    simp [ParR.len r]
theorem parSet_len : ∀ {is : List Nat} {vs : List Vl} {ρ ρ' : Env'}, parSet is vs ρ = some ρ' → vs.length = is.length
  | [], [], _, _, _ => rfl
  | [], _ :: _, _, _, e => by cases e
  | _ :: _, [], _, _, e => by cases e
  | i :: is, .loc _ :: vs, _, _, e => by cases e
  | i :: is, .val w :: vs, ρ, _, e => by
    simp only [parSet] at e
    cases q : asgN ρ i (.sh w) with
    | none => rw [q] at e; cases e
    | some ρ1 => rw [q] at e; simp [parSet_len e]
  | i :: is, .fre w :: vs, ρ, _, e => by
    simp only [parSet] at e
    cases q : asgN ρ i (.ow w) with
    | none => rw [q] at e; cases e
    | some ρ1 => rw [q] at e; simp [parSet_len e]
theorem par_read {is : List Nat} {es : Es} {D : Ends} {σ : L2.St} {H : Hp} (h : tS X.K Wx xc (run Γ G fu (.par is es)) D σ H) : tP X.K Wx xc (evp Γ G es) σ H fun xs H1 => xs.length = is.length ∧ D.nx (setAll σ is xs) H1 := by
  obtain ⟨ρ, Oc, M, ma, S, P⟩ := h
  simp only [run] at P
  refine ⟨ρ, Oc, M, ma, S, (PstS.of P).imp fun v ρ1 H1 M1 t1 P1 S1 xs r1 => ?_⟩
  split at P1
  · rename_i ρ2 e
    exact ⟨r1.len.trans (parSet_len e), P1 _ H1 M1 setAll_length Tr.refl (par_sta S1 r1 e)⟩
  · exact P1.elim
theorem sws_some {ts vs : List Expr} {k k2 : Nat} {p p2 : Pos} {env : Env} {l : List Str} (hl : ts.filterMap (locNm env.kindOf (tLine ts)) = l) (h1 : (!(ts.length == 2 || ts.length == 3) || vs.length != ts.length || env.blockKind != .function) = false)
    (h2 : nostar vs = true) (h3 : (l.length != ts.length || l.eraseDups.length != l.length) = false) (h4 : vs.all (foldedForSure 8) = false) (h5 : vs.all (constantsAlone 8) = false) : swappedStores [.Tuple ts k p] (.Tuple vs k2 p2) env = pure (some l) := by
  have hs : (vs.any fun x => match x with
      | .Starred _ _ => true
      | _ => false) = false := by
    rw [List.any_eq_false]
    intro x hx
    unfold nostar at h2
    rw [List.all_eq_true] at h2
    have := h2 x hx
    show ¬ star x = true
    rw [Bool.not_eq_true'] at this
    rw [this]
    decide
  subst hl
  unfold swappedStores
  dsimp only
  rw [if_neg (by rw [h1]; decide)]
  refine (if_neg (fun z => absurd (hs.symm.trans z) (by decide))).trans ?_
  refine (if_neg ?_).trans ?_
  · intro z
    exact absurd (h3.symm.trans z) (by decide)
  · refine (if_neg (by rw [h4]; decide)).trans ?_
    refine (if_neg (by rw [h5]; decide)).trans ?_
    rfl
theorem par_read2 {is : List Nat} {es : Es} {D : Ends} {σ : L2.St} {H : Hp} (h : tS X.K Wx xc (run Γ G fu (.par is es)) D σ H) : tP X.K Wx xc (evp Γ G es) σ H fun xs H1 => xs.length = is.length ∧ ∀ H2, (∀ b o, H1 b = some o → H2 b = some o) → D.nx (setAll σ is xs) H2 := by
  obtain ⟨ρ, Oc, M, ma, S, P⟩ := h
  simp only [run] at P
  refine ⟨ρ, Oc, M, ma, S, (PstS.of P).imp fun v ρ1 H1 M1 t1 P1 S1 xs r1 => ?_⟩
  split at P1
  · rename_i ρ2 e
    exact ⟨r1.len.trans (parSet_len e), fun H2 k => P1 _ H2 M1 setAll_length ⟨fun b o e _ => k b o e, fun b m => .inl m⟩ ((par_sta S1 r1 e).keep k)⟩
  · exact P1.elim
theorem stNm_each {cx : Cc} {env : Env} : ∀ {is : List Nat} {es : List Expr}, stNm cx is es = true → (assignEach es env).length = es.length ∧ (assignEach es env).findIdx? (·.1) = none ∧ es.length = is.length
  | [], [], _ => ⟨rfl, rfl, rfl⟩
  | [], _ :: _, h => by simp [stNm] at h
  | _ :: _, [], h => by simp [stNm] at h
  | i :: is, e :: es, h => by
    cases e <;> first
      | (simp [stNm] at h; done)
      | skip
    simp only [stNm, Bool.and_eq_true] at h
    obtain ⟨h1, h2, h3⟩ := stNm_each (env := env) h.2.2
    refine ⟨?_, ?_, by simp [h3]⟩
    · show ((false, _) :: assignEach es env).length = _
      simp [h1]
    · show ((false, _) :: assignEach es env).findIdx? (·.1) = none
      rw [List.findIdx?_cons]
      simp [h2]
def gNms (is : List Nat) : TGs := fun vs σ H Q => vs.length = is.length ∧ Q (setAll σ is vs) H
theorem sound_st (g : Good X cx Γ G Wx xc lv) : ∀ {is : List Nat} {es : List Expr}, stNm cx is es = true → PGs X es (gNms is)
  | [], [], _ => PGs.of pgs_nil fun vs σ H Q q => by
    obtain ⟨h, q⟩ := q
    cases vs with
    | nil => exact ⟨rfl, q⟩
    | cons _ _ => simp at h
  | [], _ :: _, h => by simp [stNm] at h
  | _ :: _, [], h => by simp [stNm] at h
  | i :: is, e :: es, h => by
    cases e <;> first
      | (simp [stNm] at h; done)
      | skip
    rename_i x p
    simp only [stNm, Bool.and_eq_true, decide_eq_true_eq] at h
    obtain ⟨l, f⟩ := g.st x h.2.1
    refine PGs.of (pgs_cons (pg_name g.nd (by rw [g.N]; exact h.1) l f) (sound_st g h.2.2) rfl) fun vs σ H Q q => ?_
    obtain ⟨hl, q⟩ := q
    cases vs with
    | nil => simp at hl
    | cons v vs => exact ⟨v, vs, rfl, by simpa using hl, q⟩
theorem s_parC (g : Good X cx Γ G Wx xc lv) {is : List Nat} {es : Es} {ts vs : List Expr} {tk vk : Nat} {tp vp pos : Pos} (h : parC cx is es ts vs (.Tuple ts tk tp) (.Tuple vs vk vp) = true) : PS X (.Assign [.Tuple ts tk tp] (.Tuple vs vk vp) pos) (tS X.K Wx xc (run Γ G fu (.par is es))) := by
  simp only [parC, Bool.and_eq_true, decide_eq_true_eq, beq_iff_eq] at h
  obtain ⟨h1, h2, h3, h4, h5⟩ := h
  obtain ⟨e1, e2, e3⟩ := stNm_each (env := X.env) h1
  refine PS.of (ps_asg (pe_tup (sound_P g es vs h4)) (pg_tup g.calm (sound_st g h1) rfl e2) rfl (sws_none g h5) rfl) fun D σ H q => ?_
  obtain ⟨ρ, Oc, M, ma, S, P⟩ := par_read2 q
  refine ⟨ρ, Oc, M, ma, S, P.imp fun vs ρ1 H1 M1 t1 P1 S1 xs r1 => ?_⟩
  obtain ⟨hl, hn⟩ := P1 S1 xs r1
  refine ⟨Nat.le_trans (show xs.length ≤ 9 by omega) (by decide), fun p hp => ⟨p, xs, rfl, .inl (Or.inl upd_same), by rw [hl, e1, e3], hl, hn _ (keep_laid hp)⟩⟩
theorem s_par (g : Good X cx Γ G Wx xc lv) {is : List Nat} {es : Es} {x : Stmt} (h : chkS cx (.par is es) x = true) : PS X x (tS X.K Wx xc (run Γ G fu (.par is es))) := by
  simp only [chkS] at h
  split at h
  case h_2 => cases h
  rename_i ts k p vs k2 p2 pos
  rw [Bool.or_eq_true] at h
  rcases h with h | h
  · exact s_parC g h
  simp only [Bool.and_eq_true, Bool.not_eq_true', decide_eq_true_eq, beq_iff_eq] at h
  obtain ⟨h1, h2, h3, h4, h5, h6, h7, h8, h9⟩ := h
  have hk : X.env.scope.kind = .function := isFun_eq h1 g.sc
  have hb : (X.env.blockKind != .function) = false := by unfold Env.blockKind; rw [hk]; rfl
  have hc1 : (!(ts.length == 2 || ts.length == 3) || vs.length != ts.length || X.env.blockKind != .function) = false := by
    rw [hb, h4, h5]
    simp
  have sw : ∀ l, cx.locNames ts = l → l.length = ts.length → swappedStores [.Tuple ts k p] (.Tuple vs k2 p2) X.env = pure (some l) := fun l hl hn => by
    refine sws_some (l := l) ?_ hc1 (chkEs_nostar h6) ?_ h7 h8
    · rw [kinds_eq g]; exact hl
    · rw [hl] at h9
      simp [hn, h9]
  have hp := sound_P g es vs h6
  cases is with
  | nil => cases ts with
    | nil => simp at h4
    | cons _ _ => simp [parNm] at h2
  | cons i is =>
    cases ts with
    | nil => simp [parNm] at h2
    | cons t1 ts =>
      cases t1 <;> first
        | (simp [parNm] at h2; done)
        | skip
      rename_i x1 p1
      simp only [parNm, Bool.and_eq_true, decide_eq_true_eq, beq_iff_eq] at h2
      obtain ⟨a1, a2, a3, h2⟩ := h2
      cases is with
      | nil => cases ts with
        | nil => simp at h4
        | cons _ _ => simp [parNm] at h2
      | cons j is =>
        cases ts with
        | nil => simp [parNm] at h2
        | cons t2 ts =>
          cases t2 <;> first
            | (simp [parNm] at h2; done)
            | skip
          rename_i x2 p2'
          simp only [parNm, Bool.and_eq_true, decide_eq_true_eq, beq_iff_eq] at h2
          obtain ⟨b1, b2, b3, h2⟩ := h2
          have nij : i ≠ j := by
            intro e
            rw [e] at h3
            simp at h3
          have q1 : X.env.scope.names.lookup x1 = some .local := by rw [g.sc]; exact a2
          have q2 : X.env.scope.names.lookup x2 = some .local := by rw [g.sc]; exact b2
          have n1 : X.N[i]? = some x1 := by rw [g.N]; exact a1
          have n2 : X.N[j]? = some x2 := by rw [g.N]; exact b1
          cases is with
          | nil =>
            cases ts with
            | cons _ _ => simp [parNm] at h2
            | nil =>
              cases vs with
              | nil => simp at h5
              | cons v1 vs =>
                cases vs with
                | nil => simp at h5
                | cons v2 vs =>
                  cases vs with
                  | cons _ _ => simp at h5
                  | nil =>
                    refine PS.of (ps_par g.calm g.nd n1 n2 nij q1 q2 hp (sw [x1, x2] ?_ rfl) rfl) fun D σ H q => ?_
                    · simp [Cc.locNames, locNm, a2, a3, b2, b3]
                    · obtain ⟨ρ, Oc, M, ma, S, P⟩ := par_read q
                      refine ⟨ρ, Oc, M, ma, S, P.imp fun vs ρ1 H1 M1 t1 P1 S1 xs r1 => ?_⟩
                      obtain ⟨hl, hn⟩ := P1 S1 xs r1
                      cases xs with
                      | nil => simp at hl
                      | cons v xs => cases xs with
                        | nil => simp at hl
                        | cons w xs => cases xs with
                          | cons _ _ => simp at hl
                          | nil => exact ⟨v, w, rfl, hn⟩
          | cons l is =>
            cases ts with
            | nil => simp [parNm] at h2
            | cons t3 ts =>
              cases t3 <;> first
                | (simp [parNm] at h2; done)
                | skip
              rename_i x3 p3
              simp only [parNm, Bool.and_eq_true, decide_eq_true_eq, beq_iff_eq] at h2
              obtain ⟨c1, c2, c3, h2⟩ := h2
              have nil : i ≠ l := by
                intro e
                rw [e] at h3
                simp at h3
              have njl : j ≠ l := by
                intro e
                rw [e] at h3
                simp at h3
              have q3 : X.env.scope.names.lookup x3 = some .local := by rw [g.sc]; exact c2
              have n3 : X.N[l]? = some x3 := by rw [g.N]; exact c1
              cases is with
              | cons _ _ =>
                cases ts with
                | nil => simp [parNm] at h2
                | cons _ _ => simp at h4
              | nil =>
                cases ts with
                | cons _ _ => simp [parNm] at h2
                | nil =>
                  cases vs with
                  | nil => simp at h5
                  | cons v1 vs =>
                    cases vs with
                    | nil => simp at h5
                    | cons v2 vs =>
                      cases vs with
                      | nil => simp at h5
                      | cons v3 vs =>
                        cases vs with
                        | cons _ _ => simp at h5
                        | nil =>
                          refine PS.of (ps_par3 g.calm g.nd n1 n2 n3 nij nil njl q1 q2 q3 hp (sw [x1, x2, x3] ?_ rfl) rfl) fun D σ H q => ?_
                          · simp [Cc.locNames, locNm, a2, a3, b2, b3, c2, c3]
                          · obtain ⟨ρ, Oc, M, ma, S, P⟩ := par_read q
                            refine ⟨ρ, Oc, M, ma, S, P.imp fun vs ρ1 H1 M1 t1 P1 S1 xs r1 => ?_⟩
                            obtain ⟨hl, hn⟩ := P1 S1 xs r1
                            cases xs with
                            | nil => simp at hl
                            | cons v xs => cases xs with
                              | nil => simp at hl
                              | cons w xs => cases xs with
                                | nil => simp at hl
                                | cons z xs => cases xs with
                                  | cons _ _ => simp at hl
                                  | nil => exact ⟨v, w, z, rfl, hn⟩
end
end Hil
/-! Hil18: x[k] = v; if, while, for; every statement. -/
namespace Hil
open PySem PySem.Spec PyProof.Rows L2
theorem PS.or {X : Cx} {x : Stmt} {t t' : TS} (h : PS X x t) (h' : PS X x t') : PS X x (fun D σ H => t D σ H ∨ t' D σ H) := ⟨fun pins s σ H D I q => by
  rcases q with q | q
  · exact h.run pins s σ H D I q
  · exact h'.run pins s σ H D I q⟩
theorem noSl_of {i : Expr} (h : slic i = false) : NoSl i := fun ov iv => by
  cases i <;> first
    | rfl
    | (simp [slic] at h; done)
section
variable {X : Cx} {cx : Cc} {Γ : List Fn} {G : List PD} {fu : Nat} {Wx : WX} {xc : Nat → Value} {lv : Nat}
theorem s_six (g : Good X cx Γ G Wx xc lv) {i : Nat} {k v : E} {x : Stmt} (h : chkS cx (.six i k v) x = true) : PS X x (tS X.K Wx xc (run Γ G fu (.six i k v))) := by
  simp only [chkS] at h
  split at h
  case h_2 => cases h
  rename_i o ix p w pos
  simp only [Bool.and_eq_true, Bool.not_eq_true'] at h
  obtain ⟨h1, h2, h3, h4, h5⟩ := h
  have hu : X.A.units + 1 < cLine := by have := g.u64; omega
  have po := (s_var (Γ := Γ) (G := G) (xc := xc) (Wx := Wx) g h1).1
  have pk := (sound_E (Γ := Γ) (G := G) (xc := xc) k g ix h2).1
  have pv := (sound_E (Γ := Γ) (G := G) (xc := xc) v g w h4).1
  have L : PS X (.Assign [.Subscript o ix p] w pos) _ := ps_asg pv (pg_sub (pos := p) po pk set_list (by
    intro v
    cases ix <;> first
      | rfl
      | (simp [slic] at h3; done))) (show swapsWith w (some (.Subscript o ix p)) pos.line X.env = pure false from swaps_no h5) rfl
  have Dd : PS X (.Assign [.Subscript o ix p] w pos) _ := ps_dput (pos' := p) hu po pk pv (swaps_no h5)
  refine PS.of (PS.or L Dd) fun D σ H q => ?_
  obtain ⟨ρ, Oc, M, ma, S, P⟩ := q
  simp only [run] at P
  have P := PstS.of P
  have hev : ∀ {ρ2 : Env'} {y : W}, ρ2[i]? = some (.ow y) → ev Γ G (.var i) ρ2 = .ok (.loc i) ρ2 := fun {ρ2 y} e => by simp only [ev, e]
  -- the value, then the key: what is written is known before
  rcases P.or with ⟨c, e, h⟩ | ⟨v', ρ1, e⟩
  · exact .inl ⟨ρ, Oc, M, ma, S, h _⟩
  rw [e] at P
  cases e1 : give ρ1 v' with
  | none =>
    have P1 := P H M Tr.refl
    dsimp only at P1
    rw [e1] at P1
    exact P1.elim
  | some q1 =>
    obtain ⟨wv, ρ2⟩ := q1
    have P1 : ∀ H1 M1, Tr H M H1 M1 → PstS X.K Wx xc (match ρ2[i]? with
      | some (.ow _) => SO.of (ev Γ G k ρ2) fun k' ρ3 => (match give ρ3 k' with
        | some (kw, ρ4) => (match (ρ4[i]?).bind fun x => sixW x kw wv with
          | some x' => .nx (ρ4.set i x')
          | none => .bad)
        | none => .bad)
      | _ => .bad) σ H1 Oc M1 ma D := fun H1 M1 t => by
      have P1 := P H1 M1 t
      dsimp only at P1
      rw [e1] at P1
      exact P1
    cases e2 : ρ2[i]? with
    | none => have P2 := P1 H M Tr.refl; rw [e2] at P2; exact P2.elim
    | some y2 =>
      cases y2 with
      | un => have P2 := P1 H M Tr.refl; rw [e2] at P2; exact P2.elim
      | sh _ => have P2 := P1 H M Tr.refl; rw [e2] at P2; exact P2.elim
      | mu _ => have P2 := P1 H M Tr.refl; rw [e2] at P2; exact P2.elim
      | ow y2 =>
        have P2 : ∀ H1 M1, Tr H M H1 M1 → Pst Wx xc σ (ev Γ G k ρ2) H1 M1 fun k' ρ3 H2 M2 => PstS X.K Wx xc (match give ρ3 k' with
            | some (kw, ρ4) => (match (ρ4[i]?).bind fun x => sixW x kw wv with
              | some x' => .nx (ρ4.set i x')
              | none => .bad)
            | none => .bad) σ H2 Oc M2 ma D := fun H1 M1 t => by
          have P2 := P1 H1 M1 t
          rw [e2] at P2
          exact PstS.of P2
        -- the two readings' common part
        have fin : ∀ (Qf : V → V → V → Hp → Prop), (∀ (H1 : Hp) (M1 : Ad → Prop), Tr H M H1 M1 → Pst Wx xc σ (ev Γ G k ρ2) H1 M1 fun k' ρ3 H2 M2 => Sta X.K σ H2 Oc M2 ma ρ3 → ∀ y, RV X.K σ H2 Oc M2 ρ3 y k' → ∀ z a, RW X.K H2 (fun b => Oc b ∨ M2 b) z wv → σ[i]? = some (some (.ref a)) → Qf z (.ref a) y H2) →
            tV X.K Wx xc (ev Γ G v) σ H fun z H1 => tV X.K Wx xc (ev Γ G (.var i)) σ H1 fun x H2 => tV X.K Wx xc (ev Γ G k) σ H2 fun y H3 => Qf z x y H3 := fun Qf hQ => by
          refine ⟨ρ, Oc, M, ma, S, ?_⟩
          rw [e]
          intro H1 M1 t1 S1 z r1
          obtain ⟨M2, l, S2, r2⟩ := S1.give r1 e1
          refine ⟨ρ2, Oc, M2, ma, S2, ?_⟩
          rw [hev e2]
          intro H3 M3 t3 S3 x r3
          obtain ⟨a, ea, ma', oa⟩ := S3.sl i _ e2
          obtain ⟨y0, f1, f2, f3⟩ := r3
          rw [ea] at f3
          cases f3
          refine ⟨ρ2, Oc, M3, ma, S3, (hQ H3 M3 ((t1.trans (Tr.less l)).trans t3)).imp fun k' ρ3 H4 M4 t4 h S4 y r4 => h S4 y r4 z a ((r2.tr t3).tr t4) ea⟩
        cases e3 : ev Γ G k ρ2 with
        | bad => have P3 := P2 H M Tr.refl; rw [e3] at P3; exact P3.elim
        | exc c =>
          refine .inl (fin (fun z x y H3 => rSetL x y z H3 fun H4 => D.nx σ H4) fun H1 M1 t => ?_)
          have P3 := P2 H1 M1 t
          rw [e3] at P3 ⊢
          exact P3
        | ok k' ρ3 =>
          have P3 : ∀ H1 M1, Tr H M H1 M1 → PstS X.K Wx xc (match give ρ3 k' with
            | some (kw, ρ4) => (match (ρ4[i]?).bind fun x => sixW x kw wv with
              | some x' => .nx (ρ4.set i x')
              | none => .bad)
            | none => .bad) σ H1 Oc M1 ma D := fun H1 M1 t => by
            have P3 := P2 H M Tr.refl
            rw [e3] at P3
            exact P3 H1 M1 t
          cases e4 : give ρ3 k' with
          | none => have P4 := P3 H M Tr.refl; rw [e4] at P4; exact P4.elim
          | some q4 =>
            obtain ⟨kw, ρ4⟩ := q4
            cases e5 : (ρ4[i]?).bind fun x => sixW x kw wv with
            | none => have P4 := P3 H M Tr.refl; simp only [e4, e5] at P4; exact P4.elim
            | some x' =>
              have P4 : ∀ H1 M1, Tr H M H1 M1 → PstS X.K Wx xc (.nx (ρ4.set i x')) σ H1 Oc M1 ma D := fun H1 M1 t => by
                have P4 := P3 H1 M1 t
                simp only [e4, e5] at P4
                exact P4
              obtain ⟨x4, e6, e7⟩ := Option.bind_eq_some_iff.mp e5
              unfold sixW at e7
              split at e7
              · -- a list
                rename_i ds n d
                cases hj : ixN ds.length n with
                | none => rw [hj] at e7; cases e7
                | some j =>
                  rw [hj] at e7
                  cases e7
                  refine .inl (fin (fun z x y H3 => rSetL x y z H3 fun H4 => D.nx σ H4) fun H1 M1 t => ?_)
                  rw [e3]
                  intro H2 M2 t2 S2 y r2 z a rz ea
                  obtain ⟨M4, l4, S4, r4⟩ := S2.give r2 e4
                  have rz : RD X.K H2 (fun b => Oc b ∨ M4 b) z d := rz.tr (Tr.less l4)
                  obtain ⟨a', ea', m, vs, hl, rl⟩ := S4.sl i _ e6
                  rw [ea] at ea'
                  cases ea'
                  refine ⟨a, vs, n, j, rfl, RD.intV r4, hl, by rw [rl.length]; exact hj, ?_⟩
                  have S5 := S4.writ (o := .lst (vs.set j z)) (w := .d (.list (ds.set j d))) e6 rfl ea m ⟨_, upd_same, (rl.set j rz).writ m⟩
                  exact P4 H2 M4 ((t.trans t2).trans (Tr.less l4)) _ _ _ rfl (Tr.writ m) S5
              · -- a dict, single keys
                rename_i kvs d
                split at e7
                · rename_i kk ek
                  split at e7
                  · rename_i hl
                    cases e7
                    refine .inr (fin (fun z x y H3 => ∃ a H4, x = .ref a ∧ DPut H3 a y z H4 ∧ D.nx σ H4) fun H1 M1 t => ?_)
                    rw [e3]
                    intro H2 M2 t2 S2 y r2 z a rz ea
                    obtain ⟨M4, l4, S4, r4⟩ := S2.give r2 e4
                    have rz : RD X.K H2 (fun b => Oc b ∨ M4 b) z d := rz.tr (Tr.less l4)
                    obtain ⟨a', ea', m, l, hl1, hk, rl, nd⟩ := S4.sl i _ e6
                    rw [ea] at ea'
                    cases ea'
                    have ey : y = kV kk := by
                      unfold keyW at ek
                      split at ek
                      · cases ek; exact RD.intV r4
                      · cases ek
                        have r4 : RD X.K H2 (fun b => Oc b ∨ M4 b) y (.str _) := r4
                        cases r4; rfl
                      · rw [Option.map_eq_some_iff] at ek
                        obtain ⟨_, _, e⟩ := ek
                        cases e
                      · cases ek
                    have hlen : l.length = kvs.length := by have := congrArg List.length hk; simpa using this
                    refine ⟨a, _, rfl, .inl ⟨l, kk, hl1, ey, by rw [hlen]; unfold sizeLine; omega, rfl⟩, ?_⟩
                    have S5 := S4.writ (o := .dK (putK l kk z)) (w := .dk (putD kvs kk d)) e6 rfl ea m ⟨_, upd_same, put_keys hk, (put_vals rz hk rl).writ m, put_nodup nd⟩
                    exact P4 H2 M4 ((t.trans t2).trans (Tr.less l4)) _ _ _ rfl (Tr.writ m) S5
                  · cases e7
                · cases e7
              · rename_i kvs d
                split at e7
                · rename_i kk ek
                  split at e7
                  · rename_i hl
                    cases e7
                    refine .inr (fin (fun z x y H3 => ∃ a H4, x = .ref a ∧ DPut H3 a y z H4 ∧ D.nx σ H4) fun H1 M1 t => ?_)
                    rw [e3]
                    intro H2 M2 t2 S2 y r2 z a rz ea
                    obtain ⟨M4, l4, S4, r4⟩ := S2.give r2 e4
                    have rz : RD X.K H2 (fun b => Oc b ∨ M4 b) z d := rz.tr (Tr.less l4)
                    obtain ⟨a', ea', m, l, hl1, hk, rl, nd⟩ := S4.sl i _ e6
                    rw [ea] at ea'
                    cases ea'
                    have ey : ∃ b, y = .ref b ∧ H2 b = some (.tup (kk.map kV)) := by
                      unfold keyW at ek
                      split at ek
                      · cases ek
                      · cases ek
                      · rename_i ds0
                        rw [Option.map_eq_some_iff] at ek
                        obtain ⟨k0, h0, e0⟩ := ek
                        cases e0
                        have e8 := intsOf_eq h0
                        have r4 : RD X.K H2 (fun b => Oc b ∨ M4 b) y (.tuple ds0) := r4
                        rw [e8] at r4
                        have no : ∀ {ss : List Str}, ss ≠ [] → ss.map PyData.str ≠ k0.map PyData.int := fun {ss} hs e9 => by
                          cases ss with
                          | nil => exact hs rfl
                          | cons _ _ => cases k0 with
                            | nil => simp at e9
                            | cons _ _ => simp at e9
                        generalize hds : k0.map PyData.int = ds1 at r4
                        cases r4 with
                        | tup e9 _ r9 _ =>
                          subst hds
                          refine ⟨_, rfl, ?_⟩
                          rw [e9, r9.ints]
                          simp [kV]
                        | ftup _ _ _ hs _ => exact absurd hds.symm (no hs)
                        | ktup _ hs _ => exact absurd hds.symm (no hs)
                      · cases ek
                    have hlen : l.length = kvs.length := by have := congrArg List.length hk; simpa using this
                    obtain ⟨b, rfl, hb⟩ := ey
                    refine ⟨a, _, rfl, .inr ⟨l, kk, b, hl1, rfl, hb, by rw [hlen]; unfold sizeLine; omega, rfl⟩, ?_⟩
                    have S5 := S4.writ (o := .dT (putK l kk z)) (w := .dt (putD kvs kk d)) e6 rfl ea m ⟨_, upd_same, put_keys hk, (put_vals rz hk rl).writ m, put_nodup nd⟩
                    exact P4 H2 M4 ((t.trans t2).trans (Tr.less l4)) _ _ _ rfl (Tr.writ m) S5
                  · cases e7
                · cases e7
              · cases e7
end
end Hil
/-! Hil19: if, while, for; every statement; a def. -/
namespace Hil
open PySem PySem.Spec PyProof.Rows L2
section
variable {K : PySem.W.Frag} {Wx : WX} {xc : Nat → Value} {σ σ' : L2.St} {H H' : Hp} {Oc M M' : Ad → Prop} {ma : Nat → Ad} {D : Ends}
/-- what follows a turn, the start kept in sight -/
theorem PstS.seqT {f : Env' → SO} {o : SO} (h : PstS K Wx xc (match o with
    | .nx ρ1 => f ρ1
    | o => o) σ H Oc M ma D) : PstS K Wx xc o σ H Oc M ma { D with nx := fun σ1 H1 => ∃ ρ1 M1, σ1.length = σ.length ∧ Tr H M H1 M1 ∧ Sta K σ1 H1 Oc M1 ma ρ1 ∧ PstS K Wx xc (f ρ1) σ1 H1 Oc M1 ma D } := by
  cases o with
  | bad => exact h
  | exc c => exact h
  | rt v ρ => exact h
  | nx ρ1 =>
    have h : PstS K Wx xc (f ρ1) σ H Oc M ma D := h
    exact fun σ1 H1 M1 l t S => ⟨ρ1, M1, l, t, S, h.tr l t⟩
end
section
variable {X : Cx} {cx : Cc} {Γ : List Fn} {G : List PD} {fu : Nat} {Wx : WX} {xc : Nat → Value} {lv : Nat}
theorem tb_of {e : E} {σ : L2.St} {H : Hp} {Oc M : Ad → Prop} {ma : Nat → Ad} {ρ : Env'} {Q : Bool → Hp → Prop} (S : Sta X.K σ H Oc M ma ρ)
    (h : Pst Wx xc σ (ev Γ G e ρ) H M fun v ρ1 H1 M1 => match v with
      | .val (.d (.bool b)) => Sta X.K σ H1 Oc M1 ma ρ1 → Q b H1
      | _ => False) : tB (tV X.K Wx xc (ev Γ G e)) σ H Q := by
  refine ⟨ρ, Oc, M, ma, S, h.imp fun v ρ1 H1 M1 t1 P1 S1 x r1 => ?_⟩
  split at P1
  · rename_i b
    exact ⟨b, RD.boolV r1, P1 S1⟩
  · exact P1.elim
theorem s_ife (g : Good X cx Γ G Wx xc lv) {c : E} {a b : Ss} {y : Expr} {p q : List Stmt} {pos : Pos} (hc : chkE cx c y = true) (ha : PSs X p (tS X.K Wx xc (runs Γ G fu a))) (hb : PSs X q (tS X.K Wx xc (runs Γ G fu b))) :
    PS X (.If y p q pos) (tS X.K Wx xc (run Γ G fu (.ife c a b))) := by
  refine PS.of (ps_if (sound_E c g y hc).2 ha hb) fun D σ H q => ?_
  obtain ⟨ρ, Oc, M, ma, S, P⟩ := q
  simp only [run] at P
  refine tb_of S ((PstS.of P).imp fun v ρ1 H1 M1 t1 P1 => ?_)
  split at P1
  · intro S1
    rw [if_pos rfl]
    exact ⟨ρ1, Oc, M1, ma, S1, P1⟩
  · intro S1
    rw [if_neg Bool.false_ne_true]
    exact ⟨ρ1, Oc, M1, ma, S1, P1⟩
  · exact P1.elim
theorem s_whl (g : Good X cx Γ G Wx xc lv) {c : E} {b : Ss} {y : Expr} {p : List Stmt} {pos : Pos} (hc : chkE cx c y = true) (hb : PSs X p (tS X.K Wx xc (runs Γ G fu b))) :
    PS X (.While y p [] pos) (tS X.K Wx xc (run Γ G fu (.whl c b))) := by
  refine PS.of (ps_while g.pass (sound_E c g y hc).2 hb) fun D σ H q => ?_
  obtain ⟨ρ, Oc, M, ma, S, P⟩ := q
  simp only [run] at P
  refine ⟨fun m => tS X.K Wx xc (whlRun (fun r => ev Γ G c r) (fun r => runs Γ G fu b r) m) D, ⟨fu, ρ, Oc, M, ma, S, P⟩, fun m σ1 H1 w => ?_⟩
  obtain ⟨ρ1, Oc1, M1, ma1, S1, P1⟩ := w
  cases m with
  | zero => exact P1.elim
  | succ m =>
    unfold whlRun at P1
    refine tb_of S1 ?_
    cases e : ev Γ G c ρ1 with
    | bad => rw [e] at P1; exact P1.elim
    | exc cc =>
      rw [e] at P1
      exact fun H2 M2 t2 => P1 σ1 H2 M2 rfl t2
    | ok v ρ2 =>
      rw [e] at P1
      intro H2 M2 t2
      split at P1
      · rename_i e1
        cases e1
        intro S2
        rw [if_pos rfl]
        refine ⟨tS X.K Wx xc (whlRun (fun r => ev Γ G c r) (fun r => runs Γ G fu b r) m) D, fun σ' H' w' => ⟨m, Nat.lt_succ_self _, w'⟩, ρ2, Oc1, M2, ma1, S2, ?_⟩
        exact ((P1.tr rfl t2).seq).ends (fun _ _ h => h) fun _ _ h => h
      · rename_i e1
        cases e1
        intro S2
        rw [if_neg Bool.false_ne_true]
        exact P1 σ1 H2 M2 rfl t2 S2
      · rename_i e1
        cases e1
      · exact P1.elim
theorem s_fr (g : Good X cx Γ G Wx xc lv) {tg : Tg} {it : It} {b : Ss} {t y : Expr} {p : List Stmt} {pos : Pos} (h1 : chkI cx it y (isTup t) = true) (h2 : setD y = false) (h3 : chkTg cx tg t = true) (hb : PSs X p (tS X.K Wx xc (runs Γ G fu b))) :
    PS X (.For t y p [] pos) (tS X.K Wx xc (run Γ G fu (.fr tg it b))) := by
  refine PS.of (ps_for g.pass g.calm (sound_I it g t y h1) (sound_M g tg t h3) hb (folded_of h2)) fun D σ H q => ?_
  obtain ⟨ρ, Oc, M, ma, S, P⟩ := q
  simp only [run] at P
  refine ⟨ρ, Oc, M, ma, S, (PstS.of P).imp fun ms ρ1 H1 M1 t1 P1 S1 J wk => ?_⟩
  refine ⟨fun i m σ2 H2 => m = ms.length - i ∧ i ≤ ms.length ∧ ∃ ρ2 M2, Tr H1 M1 H2 M2 ∧ Sta X.K σ2 H2 Oc M2 ma ρ2 ∧ PstS X.K Wx xc (forRun (fun r => runs Γ G fu b r) tg (ms.drop i) ρ2) σ2 H2 Oc M2 ma D, ⟨ms.length, rfl, Nat.zero_le _, ρ1, M1, Tr.refl, S1, P1⟩, ?_⟩
  rintro i m σ2 H2 ⟨rfl, hi, ρ2, M2, t2, S2, P2⟩
  have wkH := wk H2 (fun b => Oc b ∨ M2 b) t2.h1 t2.h2 i
  by_cases hlt : i < ms.length
  · have em : ms[i]? = some ms[i] := List.getElem?_eq_getElem hlt
    obtain ⟨go, yl⟩ := wkH.2 _ em
    refine .inr ⟨go, fun σ3 H3 => ∃ ρ3 M3, Tr H1 M1 H3 M3 ∧ Sta X.K σ3 H3 Oc M3 ma ρ3 ∧ PstS X.K Wx xc (forRun (fun r => runs Γ G fu b r) tg (ms.drop (i + 1)) ρ3) σ3 H3 Oc M3 ma D, fun σ3 H3 w3 => ⟨ms.length - (i + 1), by omega, rfl, hlt, w3⟩, fun x H3 hy => ?_⟩
    rw [List.drop_eq_getElem_cons hlt] at P2
    unfold forRun at P2
    have im := yl x H3 hy
    cases e1 : asgI ρ2 tg ms[i] with
    | none => rw [e1] at P2; exact P2.elim
    | some ρ3 =>
      rw [e1] at P2
      have t3 : Tr H2 M2 H3 M2 := by
        cases q : ms[i] with
        | one d => rw [q] at im; rw [im.1]; exact Tr.refl
        | two a b =>
          rw [q] at im
          obtain ⟨T, x1, x2, _, hT, rfl, _⟩ := im
          exact Tr.laid hT
      refine ⟨ρ2, Oc, M2, ma, ms[i], H2, ρ3, S2, im, e1, fun σ3 S3 o3 => ⟨ρ3, Oc, M2, ma, S3, ?_⟩⟩
      refine ((P2.tr o3.1 t3).seqT).ends (fun σ4 H4 w => ?_) fun _ _ h => h
      obtain ⟨ρ4, M4, l4, t4, S4, P4⟩ := w
      exact ⟨ρ4, M4, (t2.trans t3).trans t4, S4, P4⟩
  · have en : i = ms.length := by omega
    subst en
    rw [List.drop_length] at P2
    exact .inl ⟨wkH.1 (Nat.le_refl _), P2 σ2 H2 M2 rfl Tr.refl S2⟩
/-! ### every statement -/
mutual
theorem sound_S (g : Good X cx Γ G Wx xc lv) : ∀ (s : S) (x : Stmt), chkS cx s x = true → PS X x (tS X.K Wx xc (run Γ G fu s))
  | .asg i e, x, h => s_asg g h
  | .asgT tg e, x, h => s_asgT g h
  | .par is es, x, h => s_par g h
  | .six i k v, x, h => s_six g h
  | .app i e, x, h => s_app g h
  | .ext i e, x, h => s_ext g h
  | .ex e, x, h => s_ex g h
  | .ife c a b, x, h => by
    simp only [chkS] at h
    split at h
    · simp only [Bool.and_eq_true] at h
      exact s_ife g h.1 (sound_Ss g a _ h.2.1) (sound_Ss g b _ h.2.2)
    · cases h
  | .whl c b, x, h => by
    simp only [chkS] at h
    split at h
    · simp only [Bool.and_eq_true] at h
      exact s_whl g h.1 (sound_Ss g b _ h.2)
    · cases h
  | .fr tg it b, x, h => by
    simp only [chkS] at h
    split at h
    · simp only [Bool.and_eq_true, Bool.not_eq_true'] at h
      exact s_fr g h.1 h.2.1 h.2.2.1 (sound_Ss g b _ h.2.2.2)
    · cases h
  | .ret e, x, h => s_ret g h
  | .retN, x, h => s_retN h
  | .rai c, x, h => s_rai g h
theorem sound_Ss (g : Good X cx Γ G Wx xc lv) : ∀ (s : Ss) (x : List Stmt), chkSs cx s x = true → PSs X x (tS X.K Wx xc (runs Γ G fu s))
  | .nil, x, h => by
    cases x with
    | cons _ _ => simp [chkSs] at h
    | nil =>
      refine PSs.of pss_nil fun D σ H q => ?_
      obtain ⟨ρ, Oc, M, ma, S, P⟩ := q
      simp only [runs] at P
      exact P σ H M rfl Tr.refl S
  | .cons s r, x, h => by
    cases x with
    | nil => simp [chkSs] at h
    | cons y ys =>
      simp only [chkSs, Bool.and_eq_true] at h
      refine PSs.of (pss_cons (sound_S g s y h.1) (sound_Ss g r ys h.2)) fun D σ H q => ?_
      obtain ⟨ρ, Oc, M, ma, S, P⟩ := q
      simp only [runs] at P
      exact ⟨ρ, Oc, M, ma, S, P.seq⟩
end
end
/-! ### a def -/
/-- what the walk of every def of a row leans on -/
structure Env1 (P : Program) (w : World) (K : PySem.W.Frag) (mg : Str → Option Value) (base : Heap) (nms gls xcs : List Str) (Γ : List Fn) (G : List PD) (xc : Nat → Value) (lv : Nat) : Prop where
  blt : ∀ x ∈ blts, mg x = none
  glo : ∀ (i : Nat) x d, gls[i]? = some x → G[i]? = some d → ∃ u v, mg x = some u ∧ RelV v u ∧ ∀ H A, RD K H A v d
  fn : ∀ (i : Nat) (fn : Fn), Γ[i]? = some fn → nms[i]? = some fn.nm ∧ ∃ (f : Ad) (fd : FuncData) (ps : List Str) (k : Nat), mg fn.nm = some (.ref f) ∧ PySem.W.keepIn K (.ref f) = true ∧ FnOk P w K mg base (L2.CX P w) k f fd ps (SpT K xc fn.mu fn.ar fn.f) ∧ k ≤ lv ∧ Binds K fd ps [] ∧ ps.length = fn.ar
  exc : ∀ (c : Nat) x, xcs[c]? = some x → ∃ (C : Ad) (bmB : List Value) (B newId initId : String), ExcBaseFacts B newId initId bmB ∧ PySem.W.excIn K C bmB newId = true ∧ mg x = some (.ref C) ∧ PySem.W.keepIn K (.ref C) = true ∧
    (PySem.W.subIn K (.ref C) (.type "BaseException") = some true ∧ PySem.W.typeIn K (.ref C) = some (.type "type")) ∧ xc c = .ref C
def cxD (N : List Str) (scope : Scope) (nms gls xcs : List Str) : Cc :=
  { N := N, sc := scope, st := fun x => scope.names.lookup x == some .local || scope.names.lookup x == some .cell, fn := nms, gl := gls, xc := xcs, top := true }
theorem Env1.good {P : Program} {w : World} {K : PySem.W.Frag} {mg : Str → Option Value} {base : Heap} {nms gls xcs : List Str} {Γ : List Fn} {G : List PD} {xc : Nat → Value} {lv : Nat} (e : Env1 P w K mg base nms gls xcs Γ G xc lv)
    {N ps : List Str} {qual : Str} {scope : Scope} {f : Ad} {cdv : Value} {A : Around} {outer : List Env} {s : Shared} {H : Hp} {E : XK} (S : FnScope N ps scope) (hr : Room (lv + 1) (A.deeper (envOfC qual scope s.heap.objs.size f cdv))) :
    Good (cxOf (L2.CX P w) P w K mg base N qual scope f cdv A outer s H E) (cxD N scope nms gls xcs) Γ G (fun cls d _ H => E cls d H) xc lv where
  N := rfl
  sc := rfl
  nd := S.nd
  calm := rfl
  room := hr
  takes := takes_of rfl rfl rfl rfl
  pass := passes_of rfl
  st := fun x h => by
    simp only [cxD, Bool.or_eq_true, beq_iff_eq] at h
    exact ⟨h, .inl rfl⟩
  blt := e.blt
  glo := e.glo
  fn := fun i fn h => by
    obtain ⟨h1, f, fd, ps, k, h2⟩ := e.fn i fn h
    exact ⟨h1, ⟨f, fd, ps, k, h2⟩⟩
  exc := fun c x h => by
    obtain ⟨C, bmB, B, newId, initId, F, q, gC, kC, ⟨r1, r2⟩, ex⟩ := e.exc c x h
    exact ⟨C, bmB, B, newId, initId, F, q, gC, kC, raises_own r1 r2, ex⟩
def startE (n : Nat) (mu : Option Nat) (ws : List W) : Env' := (List.range ws.length).map (fun i => if muAt mu i = true then Sl.mu (ws.getD i (.opq .non)) else .sh (ws.getD i (.opq .non))) ++ List.replicate (n - ws.length) .un
@[simp] def outOf (ρ : Env') : Option Nat → Option W
  | none => some (.opq .non)
  | some k => match ρ[k]? with
    | some (.mu w) => some w
    | _ => none
@[simp] def retOf (ρ : Env') (mu : Option Nat) (v : Vl) : Option Res := match outOf ρ mu with
  | none => none
  | some out => match v with
    | .val w => some (.ret w false out)
    | .fre w => some (.ret w true out)
    | .loc i => match ρ[i]? with
      | some (.ow w) => some (.ret w true out)
      | _ => none
def fnRun (Γ : List Fn) (G : List PD) (fu n : Nat) (mu : Option Nat) (b : Ss) (ws : List W) : Option Res := match runs Γ G fu b (startE n mu ws) with
  | .bad => none
  | .exc c => some (.exc c)
  | .nx ρ => retOf ρ mu (.val (.d .none))
  | .rt v ρ => retOf ρ mu v
theorem startE_get {n : Nat} {mu : Option Nat} {ws : List W} (i : Nat) : (startE n mu ws)[i]? = if i < ws.length then some (if muAt mu i = true then Sl.mu (ws.getD i (.opq .non)) else .sh (ws.getD i (.opq .non))) else if i < ws.length + (n - ws.length) then some .un else none := by
  unfold startE
  by_cases h : i < ws.length
  · rw [List.getElem?_append_left (by simpa using h), if_pos h]
    simp [h]
  · rw [List.getElem?_append_right (by simpa using h), if_neg h]
    simp only [List.length_map, List.length_range]
    rw [List.getElem?_replicate]
    by_cases h2 : i < ws.length + (n - ws.length)
    · rw [if_pos h2, if_pos (by omega)]
    · rw [if_neg h2, if_neg (by omega)]
theorem start_get {N : List Str} {vs : List V} {i : Nat} {v : V} (h : vs[i]? = some v) : (L2.start N vs)[i]? = some (some v) := by
  unfold L2.start
  have hi : i < vs.length := (List.getElem?_eq_some_iff.mp h).1
  rw [List.getElem?_append_left (by simpa using hi)]
  simp [h]
def maOf (vs : List V) : Nat → Ad := fun i => match vs[i]? with
  | some (.ref a) => a
  | _ => 0
theorem start_sta {K : PySem.W.Frag} {N : List Str} {vs : List V} {ws : List W} {H : Hp} {Oc M : Ad → Prop} {mu : Option Nat} (hl : vs.length = ws.length) (dis : ∀ b, M b → ¬ Oc b) (trk : Trk H (fun b => Oc b ∨ M b))
    (args : ∀ (i : Nat) v w, vs[i]? = some v → ws[i]? = some w → if muAt mu i = true then ∃ a, v = .ref a ∧ M a ∧ OW K H (fun b => Oc b ∨ M b) a w else RW K H (fun b => Oc b ∨ M b) v w) : Sta K (L2.start N vs) H Oc M (maOf vs) (startE N.length mu ws) := by
  have at_ : ∀ i, i < ws.length → ∃ v w, vs[i]? = some v ∧ ws[i]? = some w ∧ ws.getD i (.opq .non) = w := fun i hi => by
    refine ⟨vs[i]'(by omega), ws[i], List.getElem?_eq_getElem _, List.getElem?_eq_getElem hi, ?_⟩
    rw [List.getD_eq_getElem?_getD, List.getElem?_eq_getElem hi]
    rfl
  show Sta K (L2.start N vs) H Oc M (maOf vs) (startE N.length mu ws)
  refine ⟨?_, fun i x ex => ?_, fun i j x y a e1 e2 h1 h2 a1 a2 => ?_, dis, trk⟩
  · unfold L2.start startE
    simp [hl]
  · rw [startE_get] at ex
    by_cases hi : i < ws.length
    · rw [if_pos hi] at ex
      obtain ⟨v, w', ev, ew, eg⟩ := at_ i hi
      have ar := args i v w' ev ew
      rw [eg] at ex
      by_cases hm : muAt mu i = true
      · rw [if_pos hm] at ex ar
        cases ex
        obtain ⟨a, rfl, m, o⟩ := ar
        have em : maOf vs i = a := by unfold maOf; rw [ev]
        exact ⟨by rw [em]; exact start_get ev, by rw [em]; exact m, by rw [em]; exact o⟩
      · rw [if_neg hm] at ex ar
        cases ex
        exact ⟨v, start_get ev, ar⟩
    · rw [if_neg hi] at ex
      split at ex
      · cases ex; trivial
      · cases ex
  · have own : ∀ {i : Nat} {x : Sl}, (startE N.length mu ws)[i]? = some x → x.owned = true → muAt mu i = true := fun {i x} ex h => by
      rw [startE_get] at ex
      by_cases hi : i < ws.length
      · rw [if_pos hi] at ex
        by_cases hm : muAt mu i = true
        · exact hm
        · rw [if_neg hm] at ex; cases ex; cases h
      · rw [if_neg hi] at ex
        split at ex
        · cases ex; cases h
        · cases ex
    have m1 := own e1 h1
    have m2 := own e2 h2
    cases mu with
    | none => cases m1
    | some k =>
      have k1 : k = i := by simpa [muAt] using m1
      have k2 : k = j := by simpa [muAt] using m2
      exact k1.symm.trans k2
theorem ret_fin {K : PySem.W.Frag} {vs : List V} {H : Hp} {Oc M : Ad → Prop} {mu : Option Nat} {Q : VK} {E : XK} {xc : Nat → Value} (ρ' : Env') (v : Vl) (res : match retOf ρ' mu v with
    | none => False
    | some (.exc c) => ∀ H' M', Tr H M H' M' → E (xc c) none H'
    | some (.ret w fr out) => ∀ x H' M', Tr H M H' M' → (∀ b, M' b → ¬ Oc b) → Trk H' (fun b => Oc b ∨ M' b) →
      (∀ k a, mu = some k → vs[k]? = some (.ref a) → M' a ∧ OW K H' (fun b => Oc b ∨ M' b) a out ∧ (fr = true → x ≠ .ref a)) →
      (if fr = true then ∃ a, x = .ref a ∧ M' a ∧ OW K H' (fun b => Oc b ∨ M' b) a w else RW K H' (fun b => Oc b ∨ M' b) x w) → Q x H')
    (σ' : L2.St) (H' : Hp) (M' : Ad → Prop) (t : Tr H M H' M') (S' : Sta K σ' H' Oc M' (maOf vs) ρ') (x : V) (r : RV K σ' H' Oc M' ρ' x v) : Q x H' := by
  unfold retOf at res
  cases ho : outOf ρ' mu with
  | none => rw [ho] at res; exact res.elim
  | some out =>
    rw [ho] at res
    have mus : ∀ k a, mu = some k → vs[k]? = some (.ref a) → ∃ w, ρ'[k]? = some (.mu w) ∧ σ'[k]? = some (some (.ref a)) ∧ M' a ∧ OW K H' (fun b => Oc b ∨ M' b) a out := fun k a em ev => by
      subst em
      unfold outOf at ho
      dsimp only at ho
      split at ho
      · rename_i w' ek
        cases ho
        obtain ⟨e1, m, o⟩ := S'.sl k _ ek
        have em : maOf vs k = a := by unfold maOf; rw [ev]
        rw [em] at e1 m o
        exact ⟨_, ek, e1, m, o⟩
      · cases ho
    cases v with
    | val w' =>
      refine res x H' M' t S'.dis S'.trk (fun k a em ev => ?_) r
      obtain ⟨_, _, _, m, o⟩ := mus k a em ev
      exact ⟨m, o, fun z => by cases z⟩
    | fre w' =>
      obtain ⟨b, rfl, m, o, n⟩ := r
      refine res _ H' M' t S'.dis S'.trk (fun k a em ev => ?_) ⟨b, rfl, m, o⟩
      obtain ⟨w2, ek, e1, m2, o2⟩ := mus k a em ev
      exact ⟨m2, o2, fun _ z => n k _ ek rfl (by rw [e1, z])⟩
    | loc i =>
      dsimp only at res
      split at res
      · exact res.elim
      · rename_i w' heq
        split at heq
        · rename_i ei
          cases heq
        · cases heq
      · rename_i w2 fr out2 heq
        split at heq
        · rename_i w3 ei
          cases heq
          obtain ⟨y, e1, e2, e3⟩ := r
          rw [ei] at e1
          cases e1
          obtain ⟨b, eb, m, o⟩ := S'.sl i _ ei
          rw [e3] at eb
          cases eb
          refine res _ H' M' t S'.dis S'.trk (fun k a em ev => ?_) ⟨b, rfl, m, o⟩
          obtain ⟨w2, ek, e1, m2, o2⟩ := mus k a em ev
          refine ⟨m2, o2, fun _ z => ?_⟩
          cases z
          have := S'.inj i k _ _ _ ei ek rfl rfl e3 e1
          subst this
          rw [ei] at ek
          cases ek
        · cases heq
theorem def_ok {P : Program} {w : World} {K : PySem.W.Frag} {mg : Str → Option Value} {base : Heap} {nms gls xcs : List Str} {Γ : List Fn} {G : List PD} {xc : Nat → Value} {lv fu : Nat} (e : Env1 P w K mg base nms gls xcs Γ G xc lv)
    {N ps : List Str} {name qual : Str} {params : Arguments} {body : List Stmt} {scope : Scope} {kws : List (Str × V)} {f : Ad} {fd : FuncData} {b : Ss} (mu : Option Nat) (F : FunD K name qual params body scope [] kws f fd) (S : FnScope N ps scope)
    (hc : chkSs (cxD N scope nms gls xcs) b body = true) : FnOk P w K mg base (L2.CX P w) (lv + 2) f fd ps (SpT K xc mu ps.length (fnRun Γ G fu N.length mu b)) := by
  refine F.ok S (fun vs H Q E h => ?_) (fun cdv A outer s H vs Q E hr h => ⟨tS K (fun cls d _ H => E cls d H) xc (runs Γ G fu b), sound_Ss (e.good S hr) b body hc, ?_⟩)
  · obtain ⟨ws, Oc, M, hv, _⟩ := h
    exact hv
  · obtain ⟨ws, Oc, M, hv, hw, dis, trk, args, res⟩ := h
    have hl : vs.length = ws.length := hv.trans hw.symm
    have S0 := start_sta (N := N) hl dis trk args
    refine ⟨startE N.length mu ws, Oc, M, maOf vs, S0, ?_⟩
    unfold fnRun at res
    -- what is handed back
    have fin := fun ρ' v res => ret_fin (vs := vs) (H := H) (Oc := Oc) (M := M) (mu := mu) (Q := Q) (E := E) (xc := xc) (K := K) ρ' v res
    cases hr2 : runs Γ G fu b (startE N.length mu ws) with
    | bad => rw [hr2] at res; exact res
    | exc c =>
      rw [hr2] at res
      exact fun σ' H' M' _ t => res H' M' t
    | nx ρ' =>
      rw [hr2] at res
      exact fun σ' H' M' _ t S' => fin ρ' _ res σ' H' M' t S' .non RD.non
    | rt v ρ' =>
      rw [hr2] at res
      exact fun σ' H' M' _ t S' x r => fin ρ' v res σ' H' M' t S' x r
end Hil
/-! Hil20: a row's defs in order; the law's end. -/
namespace Hil
open PySem PySem.Spec PyProof.Rows L2
section
variable {P : Program} {w : World} {K : PySem.W.Frag} {mg : Str → Option Value} {base : Heap} {nms gls xcs : List Str} {Γ : List Fn} {G : List PD} {xc : Nat → Value} {lv fu : Nat}
/-- a def of which it is known what it reckons -/
theorem Env1.add (e : Env1 P w K mg base nms gls xcs Γ G xc lv) {ps : List Str} {f : Ad} {fd : FuncData} {fn : Fn} {k : Nat} (hn : nms[Γ.length]? = some fn.nm) (hm : mg fn.nm = some (.ref f)) (kp : PySem.W.keepIn K (.ref f) = true)
    (ok : FnOk P w K mg base (L2.CX P w) k f fd ps (SpT K xc fn.mu fn.ar fn.f)) (hk : k ≤ lv + 2) (hb : Binds K fd ps []) (hl : ps.length = fn.ar) : Env1 P w K mg base nms gls xcs (Γ ++ [fn]) G xc (lv + 2) where
  blt := e.blt
  glo := e.glo
  exc := e.exc
  fn := fun i fn' h => by
    by_cases hi : i < Γ.length
    · rw [List.getElem?_append_left hi] at h
      obtain ⟨h1, f', fd', ps', k', h2, h3, h4, h5, h6⟩ := e.fn i fn' h
      exact ⟨h1, f', fd', ps', k', h2, h3, h4, by omega, h6⟩
    · rw [List.getElem?_append_right (by omega)] at h
      have hi0 : i - Γ.length = 0 := by
        cases q : i - Γ.length with
        | zero => rfl
        | succ n => rw [q] at h; simp at h
      rw [hi0] at h
      simp at h
      subst h
      have ei : i = Γ.length := by omega
      subst ei
      exact ⟨hn, f, fd, ps, k, hm, kp, ok, hk, hb, hl⟩
def mkFn (Γ : List Fn) (G : List PD) (fu : Nat) (nm : Str) (ar n : Nat) (mu : Option Nat) (b : Ss) : Fn := ⟨nm, ar, mu, fnRun Γ G fu n mu b⟩
theorem Env1.push (e : Env1 P w K mg base nms gls xcs Γ G xc lv) {N ps : List Str} {nm name qual : Str} {params : Arguments} {body : List Stmt} {scope : Scope} {kws : List (Str × V)} {f : Ad} {fd : FuncData} {b : Ss} {mu : Option Nat}
    (F : FunD K name qual params body scope [] kws f fd) (hS : C8.scC N ps scope = true) (hc : chkSs (cxD N scope nms gls xcs) b body = true) (hn : nms[Γ.length]? = some nm) (hm : mg nm = some (.ref f)) (hb : Binds K fd ps []) :
    Env1 P w K mg base nms gls xcs (Γ ++ [mkFn Γ G fu nm ps.length N.length mu b]) G xc (lv + 2) :=
  e.add (fn := mkFn Γ G fu nm ps.length N.length mu b) hn hm F.kp (def_ok e mu F (C8.fnScope_by hS) hc) (Nat.le_refl _) hb rfl
theorem Env1.nil (blt : ∀ x ∈ blts, mg x = none) (glo : ∀ (i : Nat) x d, gls[i]? = some x → G[i]? = some d → ∃ u v, mg x = some u ∧ RelV v u ∧ ∀ H A, RD K H A v d)
    (exc : ∀ (c : Nat) x, xcs[c]? = some x → ∃ (C : Ad) (bmB : List Value) (B newId initId : String), ExcBaseFacts B newId initId bmB ∧ PySem.W.excIn K C bmB newId = true ∧ mg x = some (.ref C) ∧ PySem.W.keepIn K (.ref C) = true ∧
      (PySem.W.subIn K (.ref C) (.type "BaseException") = some true ∧ PySem.W.typeIn K (.ref C) = some (.type "type")) ∧ xc c = .ref C) : Env1 P w K mg base nms gls xcs [] G xc 0 :=
  ⟨blt, glo, fun i fn h => by simp at h, exc⟩
end
/-! ### the module's constants -/
def ktB (K : PySem.W.Frag) (x : Str) (ss : List Str) : Bool := match K.lookup (He.ga K x) with
  | some ⟨.type c, none, .seq its _, _⟩ => decide (c = "tuple") && (decide (its.size ≤ sizeLine) && He.relAll (ss.map V.str) its.toList)
  | _ => false
theorem ktB_ok {K : PySem.W.Frag} {x : Str} {ss : List Str} (h : ktB K x ss = true) : KTup K (He.ga K x) (ss.map V.str) := by
  unfold ktB at h
  cases q : K.lookup (He.ga K x) with
  | none => rw [q] at h; cases h
  | some o =>
    obtain ⟨oc, od, dt, osl⟩ := o
    rw [q] at h
    cases oc with
    | type c =>
      cases od with
      | none =>
        cases dt with
        | seq its n =>
          simp only [Bool.and_eq_true, decide_eq_true_eq] at h
          obtain ⟨h1, h2, h3⟩ := h
          exact ⟨_, its, n, q, by rw [h1], rfl, rfl, h2, He.relAll_ok h3⟩
        | _ => cases h
      | some _ => cases dt <;> cases h
    | _ => cases od <;> cases dt <;> cases h
/-- a constant: its name, what it is -/
def gOk (K : PySem.W.Frag) (x : Str) : PD → Bool
  | .int i => (He.Fa.int x i).ok K
  | .str z => (He.Fa.str x z).ok K && PyData.strOk z
  | .tuple ds => (He.Fa.glo x).ok K && (match strsOf ds with
    | some ss => ktB K x ss && (!ss.isEmpty && ss.all PyData.strOk)
    | none => false)
  | _ => false
where strsOf : List PD → Option (List Str)
  | [] => some []
  | .str z :: r => (strsOf r).map (z :: ·)
  | _ => none
theorem strsOf_eq : ∀ {ds : List PD} {ss : List Str}, gOk.strsOf ds = some ss → ds = ss.map .str
  | [], _, h => by cases h; rfl
  | d :: r, ss, h => by
    cases d <;> simp [gOk.strsOf] at h
    obtain ⟨t, h1, rfl⟩ := h
    rw [strsOf_eq h1]
    rfl
theorem gOk_ok {K : PySem.W.Frag} {h : Heap} {mg : Str → Option Value} (X : K.In h) (Gm : h.Ns mainGlobals mg) {x : Str} {d : PD} (e : gOk K x d = true) : ∃ u v, mg x = some u ∧ RelV v u ∧ ∀ H A, RD K H A v d := by
  cases d with
  | int i =>
    obtain ⟨t, e⟩ := He.int_ok X Gm e
    exact ⟨_, .int i, e, ⟨t, rfl⟩, fun _ _ => .int i⟩
  | str z =>
    simp only [gOk, Bool.and_eq_true] at e
    obtain ⟨t, e1⟩ := He.str_ok X Gm e.1
    exact ⟨_, .str z, e1, ⟨t, rfl⟩, fun _ _ => .str z e.2⟩
  | tuple ds =>
    simp only [gOk, Bool.and_eq_true] at e
    obtain ⟨e1, e2⟩ := e
    cases q : gOk.strsOf ds with
    | none => rw [q] at e2; cases e2
    | some ss =>
      rw [q] at e2
      simp only [Bool.and_eq_true, Bool.not_eq_true'] at e2
      obtain ⟨e3, e4, e5⟩ := e2
      have := strsOf_eq q
      subst this
      refine ⟨_, .ref (He.ga K x), He.glo_ok X Gm e1, rfl, fun _ _ => .ktup (ktB_ok e3) (fun z => by rw [z] at e4; cases e4) fun z hz => List.all_eq_true.mp e5 z hz⟩
  | _ => cases e
def gsOk (K : PySem.W.Frag) : List Str → List PD → Bool
  | x :: xs, d :: ds => gOk K x d && gsOk K xs ds
  | _, _ => true
theorem gsOk_ok {K : PySem.W.Frag} {h : Heap} {mg : Str → Option Value} (X : K.In h) (Gm : h.Ns mainGlobals mg) : ∀ {xs : List Str} {ds : List PD}, gsOk K xs ds = true → ∀ (i : Nat) x d, xs[i]? = some x → ds[i]? = some d → ∃ u v, mg x = some u ∧ RelV v u ∧ ∀ H A, RD K H A v d
  | [], _, _, i, x, d, e, _ => by simp at e
  | _ :: _, [], _, i, x, d, _, e => by simp at e
  | x :: xs, d :: ds, h, 0, y, d', e1, e2 => by
    simp at e1 e2
    subst e1; subst e2
    simp only [gsOk, Bool.and_eq_true] at h
    exact gOk_ok X Gm h.1
  | x :: xs, d :: ds, h, i + 1, y, d', e1, e2 => by
    simp only [gsOk, Bool.and_eq_true] at h
    exact gsOk_ok X Gm h.2 i y d' (by simpa using e1) (by simpa using e2)
def bsOk (K : PySem.W.Frag) : Bool := blts.all fun x => (He.Fa.free x).ok K
theorem bsOk_ok {K : PySem.W.Frag} {h : Heap} {mg : Str → Option Value} (X : K.In h) (Gm : h.Ns mainGlobals mg) (e : bsOk K = true) : ∀ x ∈ blts, mg x = none := fun x hx => He.free_ok X Gm (List.all_eq_true.mp e x hx)
def xsOk (K : PySem.W.Frag) (xcs : List Str) : Bool := xcs.all fun x => (He.Fa.glo x).ok K && (He.Fa.exc x).ok K
theorem xsOk_ok {K : PySem.W.Frag} {h : Heap} {mg : Str → Option Value} (X : K.In h) (Gm : h.Ns mainGlobals mg) {xcs : List Str} (e : xsOk K xcs = true) : ∀ (c : Nat) x, xcs[c]? = some x → ∃ (C : Ad) (bmB : List Value) (B newId initId : String), ExcBaseFacts B newId initId bmB ∧ PySem.W.excIn K C bmB newId = true ∧ mg x = some (.ref C) ∧ PySem.W.keepIn K (.ref C) = true ∧
      (PySem.W.subIn K (.ref C) (.type "BaseException") = some true ∧ PySem.W.typeIn K (.ref C) = some (.type "type")) ∧ Value.ref (He.ga K (xcs.getD c Str.empty)) = .ref C := fun c x hx => by
  have := List.all_eq_true.mp e x (List.mem_of_getElem? hx)
  rw [Bool.and_eq_true] at this
  obtain ⟨e1, e2⟩ := this
  obtain ⟨h1, h2, h3, h4⟩ := He.exc_ok e2
  refine ⟨He.ga K x, He.veBase, _, _, _, PySem.F.excBase_ValueError, h1, He.glo_ok X Gm e1, h2, ⟨h3, h4⟩, ?_⟩
  rw [List.getD_eq_getElem?_getD, hx]
  rfl
def xcOf (K : PySem.W.Frag) (xcs : List Str) (c : Nat) : Value := .ref (He.ga K (xcs.getD c Str.empty))
/-! ### the law's end -/
theorem law_sp {K : PySem.W.Frag} {xc : Nat → Value} {f : List W → Option Res} {n : Nat} (hf : ∀ ns : List Int, ns.length ≤ n → ∃ out, f [.scr ns] = some (.ret (.d (.bool true)) false out)) (H : Hp) (a : Ad) (ns : List Int) (hl : ns.length ≤ n) (hO : Only H) (hS : SqL K H a (ns.map V.int)) :
    SpT K xc none 1 f [.ref a] H (fun v _ => v = .bl true) fun _ _ _ => False := by
  obtain ⟨out, e⟩ := hf ns hl
  refine ⟨[.scr ns], fun _ => False, fun _ => False, rfl, rfl, fun _ h => h.elim, fun b h => by simp at h, fun i v w' e1 e2 => ?_, ?_⟩
  · cases i with
    | succ i => simp at e1
    | zero =>
      simp at e1 e2
      subst e1; subst e2
      rw [if_neg (by simp [muAt])]
      refine ⟨a, rfl, ?_⟩
      rcases hS with hS | hS
      · rcases hS with hS | ⟨o, hS⟩
        · rcases hO a with z | ⟨o, xs, z⟩
          · rw [hS] at z; cases z
          · rw [hS] at z; cases z
        · exact .inl ⟨o, hS, by simp⟩
      · exact .inr hS
  · rw [e]
    intro x H' M' _ _ _ _ r
    exact RD.boolV r
theorem cx_false {P : Program} {w : World} (H : Hp) (s : Shared) (e : Value) (s' : Shared) (h : L2.CX P w [] H s (fun _ _ _ => False) e s') : False := by
  obtain ⟨a, B, H', cls, d, _, _, _, _, _, _, _, z⟩ := h
  exact z
end Hil
namespace Hil
open PySem PySem.Spec PyProof.Rows L2
/-! ### the hook: defs, names, and one more look -/
def hookX (n : Nat) (fa : List He.Fa) (fn : List He.DefD) (ex : PySem.W.Frag → Bool) : PySem.W.Hook where
  α := Bool × He.AlD
  obs := fun s => let K := He.frG s.heap.get? (He.asD s.heap.get? n); (ex K, He.obsD fa fn K)
  val := fun _ => (true, He.valD fn)
  says := fun _ h => ∃ K : PySem.W.Frag, K.In h ∧ ex K = true ∧ He.SaysD fa fn K
  of := fun _ _ e => ⟨_, He.frG_in, congrArg (fun z : Bool × He.AlD => z.1) e, congrArg (fun z : Bool × He.AlD => z.2) e⟩
  keeps := fun _ _ _ ⟨K, hK, c⟩ k => ⟨K, PySem.W.Frag.In.keeps hK k, c⟩
def obG (n : Nat) (fa : List He.Fa) (fn : List He.DefD) (ex : PySem.W.Frag → Bool) (g : Ad → Option Obj) : Bool × He.AlD :=
  let K := He.frG g (He.asD g n); (ex K, He.obsD fa fn K)
theorem obG_eq {n : Nat} {fa : List He.Fa} {fn : List He.DefD} {ex : PySem.W.Frag → Bool} {g : Ad → Option Obj} {s : Shared} (h : ∀ a, g a = s.heap.get? a) : obG n fa fn ex g = (hookX n fa fn ex).obs s := by
  have e : g = s.heap.get? := funext h
  rw [e] <;> rfl
end Hil
/-! Hil21: list.count over data; which of the classes a caught exception is of. -/
namespace Hil
open PySem PySem.Spec PyProof.Rows L2
/-- l.count(x) -/
def rCountD (K : PySem.W.Frag) : V → List V → Hp → VK → Prop := fun x xs H Q => ∃ (a : Ad) (y : V) (d : PD) (ds : List PD), x = V.ref a ∧ xs = [y] ∧ Dp K H (V.ref a) (.list ds) ∧ Dp K H y d ∧
  SeqAt.shaped (.list ds) = true ∧ SeqAt.shaped d = true ∧ Q (.int ((ds.countP fun z => PyData.eqv z d : Nat) : Int)) H
theorem mt_countD {X : Cx} (hu : X.A.units + 65 < cLine) : MtR X "list.count" (rCountD X.K) := by
  intro pins s σ H x xs v us Q I rx rxs h
  obtain ⟨a, y, d, ds, rfl, rfl, hl, hy, sl, sd, q⟩ := h
  cases rx
  obtain ⟨uy, rfl, ry⟩ := rxs.one
  obtain ⟨bs, r1⟩ := Dp.reads I d y uy hy ry
  have hxs : PyData.canLayAll0 ds = true := SeqAt.canLay_of_shaped sl
  have hroom : X.A.units + 1 + min (PyData.depthAll ds) d.depth < cLine := room_in_shaped sd hu
  cases hl with
  | lst hs ha =>
    obtain ⟨its, rv, ⟨⟨cls, dd, data, sls⟩, n, ho, hc, hdn, hdt⟩, hlen⟩ := I.list hs
    simp only at hc hdt
    subst hc hdt
    obtain ⟨as, h4⟩ := Dp.readsAll I ds _ its ha rv
    have hmap : its.map (SeqAt.readOf s.heap) = ds := SeqAt.readsAll_map ds its as hxs h4
    refine call_meets PySem.F.slot_list_count ⟨_, ho, rfl⟩ PySem.F.entry_list_count (PySem.F.args_list_count_2 _ _)
      (SeqAt.list_countAt a its.toArray n dd sls uy (fun u => PyData.eqv (SeqAt.readOf s.heap u) d)) ⟨ho, SeqAt.items_eqAt (vs := its.toArray) (show ReadsAll s.heap its.toArray.toList ds as from h4) r1 hxs (SeqAt.canLay_of_shaped sd) hroom, ?_⟩
    have ec : its.toArray.toList.countP (fun u => PyData.eqv (SeqAt.readOf s.heap u) d) = ds.countP fun z => PyData.eqv z d := by
      rw [← hmap, List.countP_map]
      rfl
    refine ⟨.int _, H, I.tok _, ⟨s.toks, ?_⟩, q⟩
    show Value.int ((its.toArray.toList.countP (fun u => PyData.eqv (SeqAt.readOf s.heap u) d) : Nat) : Int) s.toks = _
    rw [ec]
/-! ### which -/
/-- the classes' names, in the order that which asks them -/
def whs : List Str := ["NoBook", "NoWords", "NoRow", "NoTree", "NoFog", "NoSlips", "NoMoment", "NoHill", "NoRegisters", "NoSights", "NoText", "NoRank", "NoTelling", "Full", "TooMany"]
def isIs (c : Str) : Expr → Bool
  | .Call (.Name f _) [.Name e _, .Name d _] [] _ => decide (f = ("isinstance" : Str)) && (decide (e = ("_law_e" : Str)) && decide (d = c))
  | _ => false
def isIss : List Str → List Expr → Bool
  | [], [] => true
  | c :: cs, e :: es => isIs c e && isIss cs es
  | _, _ => false
/-- the body of which -/
def chkW (cs : List (List Str)) : List Stmt → Bool
  | [.Assign [.Name n1 _] (.List es1 _) _, .Expr (.Call (.Attribute (.Name n2 _) x2 a2) [.List es2 _] [] c2) _, .Expr (.Call (.Attribute (.Name n3 _) x3 a3) [.List es3 _] [] c3) _, .Expr (.Call (.Attribute (.Name n4 _) x4 a4) [.List es4 _] [] c4) _,
      .If (.BoolOp .Or [.Compare (.Call (.Attribute (.Name n5 _) x5 a5) [.Constant (.bool true) _ _] [] c5) [.NotEq] [.Constant (.int 1) _ _] _, .UnaryOp .Not e6 _] _) [.Return (some (.Tuple [.Constant (.str _) _ _, _] _ _)) _] [] _,
      .Return (some (.Tuple [.Constant (.str z) _ _, .Call (.Attribute (.Name n7 _) x7 a7) [.Constant (.bool true) _ _] [] c7] _ _)) _] =>
    (match cs with
    | [cs1, cs2, cs3, cs4] => isIss cs1 es1 && (isIss cs2 es2 && (isIss cs3 es3 && isIss cs4 es4))
    | _ => false) && (isIs "ValueError" e6 && (decide (z = ("refused" : Str)) && ([n1, n2, n3, n4, n5, n7].all (fun n => decide (n = ("_law_own" : Str))) && (decide (x2 = ("extend" : Str)) && (decide (x3 = ("extend" : Str)) && (decide (x4 = ("extend" : Str)) && (decide (x5 = ("count" : Str)) && (decide (x7 = ("index" : Str)) &&
      (decide (a2.endLine = c2.line) && (decide (a3.endLine = c3.line) && (decide (a4.endLine = c4.line) && (decide (a5.endLine = c5.line) && decide (a7.endLine = c7.line)))))))))))))
  | _ => false
/-- what the classes say -/
def WhK (K : PySem.W.Frag) (mg : Str → Option Value) (xc : Nat → Value) (c : Nat) : Prop := ∃ C : Ad, xc c = .ref C ∧ ExcC K C ∧ PySem.W.kitOne K (.ref C) (.type "ValueError") = some true ∧
  (∀ (i : Nat) (D : Str), whs[i]? = some D → ∃ cv, mg D = some (.ref cv) ∧ PySem.W.kitOne K (.ref C) (.ref cv) = some (decide (i = c)))
section
variable {X : Cx} {a C : Ad} {oe : Obj} {xc : Nat → Value} {c : Nat}
/-- isinstance of the held exception, in a suite's context -/
theorem call_isX (hp : X = X.suite a [(a, oe)]) (E : ExcC X.K C) (hz : Zc (.ref C) none oe) (hf : ∃ vs, oe.data = .fields vs) : CallR X (.builtin "isinstance") (rIsE X.K C a) := by
  rw [hp]
  exact call_isE E hz hf
def tIs (a : Ad) (b : Bool) : TE := fun σ H Q => σ[0]? = some (some (.ref a)) ∧ Q (.bl b) H
theorem pe_is (hp : X = X.suite a [(a, oe)]) (E : ExcC X.K C) (hz : Zc (.ref C) none oe) (hf : ∃ vs, oe.data = .fields vs) (hN : X.N[0]? = some ("_law_e" : Str)) (hv : Vis X.env.scope "_law_e") (hi : Gl X "isinstance") (hm : X.mg "isinstance" = none)
    {D : Str} {e : Expr} {b : Bool} (h : isIs D e = true) (hD : Gl X D) (hok : okNm D = true) (hb : (∃ cv, X.mg D = some (.ref cv) ∧ PySem.W.kitOne X.K (.ref C) (.ref cv) = some b) ∨ (D = "ValueError" ∧ X.mg "ValueError" = none ∧ PySem.W.kitOne X.K (.ref C) (.type "ValueError") = some b)) : PE X e (tIs a b) := by
  unfold isIs at h
  split at h
  case h_2 => cases h
  rename_i f p1 e1 p2 d p3 pos
  simp only [Bool.and_eq_true, decide_eq_true_eq] at h
  obtain ⟨rfl, rfl, rfl⟩ := h
  rcases hb with ⟨cv, hm2, hk⟩ | ⟨rfl, hm2, hk⟩
  · refine PE.of (pe_callB (call_isX hp E hz hf) hi hm boot_isi' (pa_cons (pe_var hN hv) (pa_cons (pe_glob (u := .ref cv) (v := V.ref cv) hD hm2 rfl (okNm1 hok)) pa_nil))) fun σ H Q q => ?_
    obtain ⟨e0, q⟩ := q
    exact ⟨_, e0, ⟨_, _, b, rfl, fun u r => r, hk, q⟩⟩
  · refine PE.of (pe_callB (call_isX hp E hz hf) hi hm boot_isi' (pa_cons (pe_var hN hv) (pa_cons (pe_bltn (u := .type "ValueError") (v := V.ty "ValueError") hD hm2 (by decide +kernel) rfl) pa_nil))) fun σ H Q q => ?_
    obtain ⟨e0, q⟩ := q
    exact ⟨_, e0, ⟨_, _, b, rfl, fun u r => r, hk, q⟩⟩
end
def bsAt (c off n : Nat) : List Bool := (List.range n).map fun i => decide (off + i = c)
structure WhX (X : Cx) (a C : Ad) (oe : Obj) (c : Nat) : Prop where
  hp : X = X.suite a [(a, oe)]
  E : ExcC X.K C
  hz : Zc (.ref C) none oe
  hf : ∃ vs, oe.data = .fields vs
  N : X.N = (["_law_e", "_law_own"] : List Str)
  le : X.env.scope.names.lookup ("_law_e" : Str) = some .local
  lo : X.env.scope.names.lookup ("_law_own" : Str) = some .local
  gi : Gl X "isinstance"
  mi : X.mg "isinstance" = none
  gD : ∀ D ∈ whs, Gl X D
  gV : Gl X "ValueError"
  mV : X.mg "ValueError" = none
  k : ∀ (i : Nat) (D : Str), whs[i]? = some D → ∃ cv, X.mg D = some (.ref cv) ∧ PySem.W.kitOne X.K (.ref C) (.ref cv) = some (decide (i = c))
  kV : PySem.W.kitOne X.K (.ref C) (.type "ValueError") = some true
  u : X.A.units + 65 < cLine
theorem whs_ok : ∀ D ∈ whs, okNm D = true := by decide +kernel
section
variable {X : Cx} {a C : Ad} {oe : Obj} {c : Nat}
theorem isIs_star {D : Str} {e : Expr} (h : isIs D e = true) : star e = false := by
  unfold isIs at h
  split at h
  · rfl
  · cases h
theorem pa_iss (W : WhX X a C oe c) : ∀ {cs : List Str} {es : List Expr} {off : Nat}, isIss cs es = true → (∃ r, whs.drop off = cs ++ r) → PA X es (fun σ H Q => σ[0]? = some (some (.ref a)) ∧ Q ((bsAt c off cs.length).map V.bl) H)
  | [], [], off, _, _ => PA.of pa_nil fun σ H Q q => q.2
  | [], _ :: _, _, h, _ => by simp [isIss] at h
  | _ :: _, [], _, h, _ => by simp [isIss] at h
  | D :: cs, e :: es, off, h, hw => by
    simp only [isIss, Bool.and_eq_true] at h
    obtain ⟨r, hw⟩ := hw
    have h0 : whs[off]? = some D := by
      have := List.getElem?_drop (xs := whs) (i := off) (j := 0)
      rw [hw] at this
      simpa using this.symm
    have hm := List.mem_of_getElem? h0
    have pe := pe_is W.hp W.E W.hz W.hf (by rw [W.N]; rfl) (.inl W.le) W.gi W.mi h.1 (W.gD D hm) (whs_ok D hm) (b := decide (off = c)) (.inl (W.k off D h0))
    have ih := pa_iss W (off := off + 1) h.2 ⟨r, by
      have : whs.drop (off + 1) = (whs.drop off).drop 1 := by rw [List.drop_drop]
      rw [this, hw]
      rfl⟩
    refine PA.of (pa_cons pe ih (starEach_cons (isIs_star h.1))) fun σ H Q q => ?_
    obtain ⟨e0, q⟩ := q
    refine ⟨e0, e0, ?_⟩
    have : bsAt c off (D :: cs).length = decide (off = c) :: bsAt c (off + 1) cs.length := by
      unfold bsAt
      rw [List.length_cons, List.range_succ_eq_map, List.map_cons, List.map_map]
      simp only [Nat.add_zero, Function.comp_def]
      congr 1
      apply List.map_congr_left
      intro i _
      rw [show off + 1 + i = off + Nat.succ i by omega]
    rw [this] at q
    exact q
theorem dpBools {K : PySem.W.Frag} {H : Hp} : ∀ bs : List Bool, DpAll K H (bs.map V.bl) (bs.map .bool)
  | [] => .nil
  | z :: r => .cons (.bl z) (dpBools r)
theorem layBools : ∀ bs : List Bool, PyData.canLayAll0 (bs.map .bool) = true
  | [] => rfl
  | z :: r => by
    have b := layBools r
    simp [PyData.canLayAll0, PyData.canLay0, b]
theorem depthBools : ∀ bs : List Bool, PyData.depthAll (bs.map .bool) = 0
  | [] => rfl
  | z :: r => by
    have b := depthBools r
    simp [PyData.depthAll, PyData.depth, b]
theorem shBools (bs : List Bool) : SeqAt.shaped (.list (bs.map .bool)) = true := by
  show (PyData.canLay0 (.list (bs.map .bool)) && decide (PyData.depth (.list (bs.map .bool)) ≤ 64)) = true
  have h1 := layBools bs
  have h2 := depthBools bs
  simp [PyData.canLay0, PyData.depth, h1, h2]
theorem which_all (c : Nat) (h : c < 15) : (((bsAt c 0 4 ++ bsAt c 4 4) ++ bsAt c 8 4) ++ bsAt c 12 3) = (List.range 15).map fun i => decide (i = c) := by
  revert h
  revert c
  decide +kernel
theorem which_cnt (c : Nat) (h : c < 15) : (((List.range 15).map fun i => PyData.bool (decide (i = c))).countP fun z => PyData.eqv z (.bool true)) = 1 := by
  revert h
  revert c
  decide +kernel
theorem which_body (W : WhX X a C oe c) (hc : c < 15) {body : List Stmt} (h : chkW [whs.take 4, (whs.drop 4).take 4, (whs.drop 8).take 4, whs.drop 12] body = true) : ∃ t, PSs X body t ∧ ∀ (D : Ends) (H : Hp),
    (∀ T H', (∀ b o, H b = some o → H' b = some o) → H T = none → H' T = some (.tup [V.str "refused", V.int (c : Int)]) → D.rt (.ref T) H') → t D [some (.ref a), none] H := by
  unfold chkW at h
  split at h
  case h_2 => cases h
  rename_i n1 p1 es1 pl1 ps1 n2 pn2 x2 a2 es2 pl2 c2 pe2 n3 pn3 x3 a3 es3 pl3 c3 pe3 n4 pn4 x4 a4 es4 pl4 c4 pe4 n5 pn5 x5 a5 j5 q5 c5 j6 q6 q7 e6 q8 q9 z1 j8 q10 ex1 k1 q11 q12 q13 z j9 q14 n7 pn7 x7 a7 j10 q15 c7 k2 q16 q17
  simp only [Bool.and_eq_true, decide_eq_true_eq, List.all_cons, List.all_nil, and_true] at h
  obtain ⟨⟨h1, h2, h3, h4⟩, h6, rfl, ⟨rfl, rfl, rfl, rfl, rfl, rfl⟩, rfl, rfl, rfl, rfl, rfl, l2, l3, l4, l5, l7⟩ := h
  have nd : X.N.Nodup := by rw [W.N]; decide +kernel
  have n1 : X.N[1]? = some ("_law_own" : Str) := by rw [W.N]; rfl
  have hu1 : X.A.units + 64 < cLine := by have := W.u; omega
  have vo : PE X (.Name "_law_own" pn2) (tVar 1) := pe_var n1 (.inl W.lo)
  have vo : ∀ p, PE X (.Name "_law_own" p) (tVar 1) := fun p => pe_var n1 (.inl W.lo)
  have L1 := pe_lst (pos := pl1) (pa_iss W (off := 0) h1 ⟨whs.drop 4, by decide +kernel⟩)
  have L2 := pe_lst (pos := pl2) (pa_iss W (off := 4) h2 ⟨whs.drop 8, by decide +kernel⟩)
  have L3 := pe_lst (pos := pl3) (pa_iss W (off := 8) h3 ⟨whs.drop 12, by decide +kernel⟩)
  have L4 := pe_lst (pos := pl4) (pa_iss W (off := 12) h4 ⟨[], by decide +kernel⟩)
  have ext : ∀ {p p2 p3 : Pos} {q ps : Pos} {es : List Expr} {t : TE}, PE X (.List es ps) t → p2.endLine = q.line → PE X (.Call (.Attribute (.Name "_law_own" p) "extend" p2) [.List es ps] [] q) _ := fun {p p2 p3 q ps es t} L hl =>
    pe_bm (T := "list") (id := "list.extend") PySem.F.plainAttrs_list PySem.F.slot_list_extend PySem.F.type_list_extend mt_extend (vo p) (pa_1 rfl L) rfl rfl (by simp [hl]) rfl rfl
  have cnt : PE X (.Call (.Attribute (.Name "_law_own" pn5) "count" a5) [.Constant (.bool true) j5 q5] [] c5) _ :=
    pe_bm (T := "list") (id := "list.count") PySem.F.plainAttrs_list PySem.F.slot_list_count PySem.F.type_list_count (mt_countD W.u) (vo pn5) (pa_1 rfl pe_bl) rfl rfl (by simp [l5]) rfl rfl
  have idx : PE X (.Call (.Attribute (.Name "_law_own" pn7) "index" a7) [.Constant (.bool true) j10 q15] [] c7) _ :=
    pe_bm (T := "list") (id := "list.index") PySem.F.plainAttrs_list PySem.F.slot_list_index PySem.F.type_list_index (mt_indexD W.u) (vo pn7) (pa_1 rfl pe_bl) rfl rfl (by simp [l7]) rfl rfl
  have isv := pe_is W.hp W.E W.hz W.hf (by rw [W.N]; rfl) (.inl W.le) W.gi W.mi h6 W.gV (by decide +kernel) (b := true) (.inr ⟨rfl, W.mV, W.kV⟩)
  have hpl : plainT e6 = true := by
    unfold isIs at h6
    split at h6
    · rfl
    · cases h6
  have tst := PW.pt (pw_or (pos := q9) (pt_cmpR (pos := q7) (og_ne hu1) cnt (pe_int (j := j6) (pos := q6) (i := 1)) rfl) (pw_or1 (pt_not (pos := q8) (pt_plain hpl isv))))
  refine ⟨_, pss_cons (ps_set nd n1 (.inl W.lo) L1 rfl (.inr W.lo)) (pss_cons (ps_expr (ext (p3 := a2) L2 l2) rfl) (pss_cons (ps_expr (ext (p3 := a2) L3 l3) rfl) (pss_cons (ps_expr (ext (p3 := a2) L4 l4) rfl) (pss_cons (ps_if tst pss_never pss_nil) (pss_one (ps_ret (pe_tup (pa_cons (pe_str (x := ("refused" : Str))) (pa_1 rfl idx))))))))), fun D H hD => ?_⟩
  -- the list, four times longer
  have ext_r : ∀ (D' : Ends) (p : Ad) (xs zs : List V) (H1 : Hp), H1 p = some (.lst xs) → xs.length + zs.length ≤ sizeLine →
      (∀ H2 : Hp, (∀ b o, b ≠ p → H1 b = some o → H2 b = some o) → H2 p = some (.lst (xs ++ zs)) → D'.nx [some (.ref a), some (.ref p)] H2) →
      tDrop (tBM X.K "list" rExtend (tVar 1) (fun σ H Q => tLst (fun σ H Q => σ[0]? = some (some (V.ref a)) ∧ Q zs H) σ H fun x H1 => Q [x] H1)) D' [some (.ref a), some (.ref p)] H1 := fun D' p xs zs H1 h1 hl k => by
    refine ⟨.ref p, rfl, .inl ⟨rfl, xs, SqL.of h1⟩, rfl, by omega, fun p2 hp2 => ?_⟩
    have ne : p ≠ p2 := ne_of_none h1 hp2
    refine ⟨p, p2, xs, zs, rfl, rfl, by rw [upd_ne ne]; exact h1, upd_same, hl, k _ (fun b o hb e => ?_) upd_same⟩
    rw [upd_ne hb, upd_ne (ne_of_none e hp2)]
    exact e
  have len : ∀ o n, ((bsAt c o n).map V.bl).length = n := fun o n => by simp [bsAt]
  refine ⟨rfl, by rw [len]; decide, fun p hp => ?_⟩
  have hs : ∀ n : Nat, n ≤ 100 → n ≤ sizeLine := fun n h => by unfold sizeLine; omega
  refine ext_r _ p _ _ _ upd_same (by rw [len, len]; exact hs _ (by decide)) fun H2 k2 e2 => ?_
  refine ext_r _ p _ _ _ e2 (by rw [List.length_append, len, len, len]; exact hs _ (by decide)) fun H3 k3 e3 => ?_
  refine ext_r _ p _ _ _ e3 (by rw [List.length_append, List.length_append, len, len, len, len]; exact hs _ (by decide)) fun H4 k4 e4 => ?_
  have all : (((bsAt c 0 4).map V.bl ++ (bsAt c 4 4).map V.bl) ++ (bsAt c 8 4).map V.bl) ++ (bsAt c 12 3).map V.bl = ((List.range 15).map fun i => decide (i = c)).map V.bl := by
    rw [← which_all c hc]
    simp [List.map_append]
  have e4 : H4 p = some (.lst (((List.range 15).map fun i => decide (i = c)).map V.bl)) := by rw [← all]; exact e4
  generalize hbs : ((List.range 15).map fun i => decide (i = c)) = bs at e4
  have dp : Dp X.K H4 (.ref p) (.list (bs.map .bool)) := .lst (SqL.of e4) (dpBools bs)
  have kept : ∀ b o, H b = some o → H4 b = some o := fun b o e => by
    have hb : b ≠ p := ne_of_none e hp
    exact k4 b o hb (k3 b o hb (k2 b o hb (by rw [upd_ne hb]; exact e)))
  -- the test
  have cntv : ((bs.map PyData.bool).countP fun z => PyData.eqv z (.bool true)) = 1 := by
    rw [← hbs, List.map_map]
    exact which_cnt c hc
  refine ⟨.ref p, rfl, ⟨.inl ⟨rfl, _, SqL.of e4⟩, p, .bl true, .bool true, bs.map .bool, rfl, rfl, dp, .bl true, shBools bs, rfl, ?_⟩⟩
  refine ⟨fun _ => False, .d (.int 1), .d (.int 1), (.d (.bool false), false), fun b h => h.elim, .inl ?_, .inl (RD.int 1), ?_, fun v H5 d => ?_⟩
  · rw [cntv]
    exact RD.int 1
  · rfl
  · obtain ⟨k5, r⟩ := d
    have r : RD X.K H5 (fun _ => False) v (.bool false) := r
    refine ⟨false, RD.boolV r, ?_⟩
    simp only [Bool.false_eq_true, if_false]
    refine ⟨rfl, true, rfl, ?_⟩
    simp only [Bool.not_true, Bool.false_eq_true, if_false]
    have e5 := k5 p _ e4
    have dp5 : Dp X.K H5 (.ref p) (.list (bs.map .bool)) := .lst (SqL.of e5) (dpBools bs)
    have at_ : ∀ m, m < 15 → (bs.map PyData.bool)[m]? = some (.bool (decide (m = c))) := fun m hm => by
      rw [← hbs]
      simp [hm]
    refine ⟨.ref p, rfl, .inl ⟨rfl, _, SqL.of e5⟩, p, .bl true, .bool true, bs.map .bool, c, .bool true, rfl, rfl, dp5, .bl true, shBools bs, rfl, ?_, rfl, fun m z' hm hz' => ?_, hs 2 (by decide), fun T hT => ?_⟩
    · rw [at_ c hc]
      simp
    · rw [at_ m (by omega)] at hz'
      cases hz'
      have : decide (m = c) = false := decide_eq_false (by omega)
      rw [this]
      rfl
    · refine hD T _ (fun b o e => ?_) ?_ upd_same
      · have e' := k5 b o (kept b o e)
        rw [upd_ne (ne_of_none e' hT)]
        exact e'
      · cases q : H T with
        | none => rfl
        | some o => rw [k5 T o (kept T o q)] at hT; cases hT
end
end Hil
/-! Hil22: which, called within an except suite; a def that is one try. -/
namespace Hil
open PySem PySem.Spec PyProof.Rows L2
/-- what which promises of the exception that is handled -/
structure FnW (P : Program) (w : World) (K : PySem.W.Frag) (mg : Str → Option Value) (base : Heap) (xc : Nat → Value) (k : Nat) (f : Ad) (fd : FuncData) : Prop where
  run : ∀ (A : Around) (outer : List Env) (s : Shared) (H : Hp) (args : Args) (Q : VK) (E : XK) (p : Ad × Obj) (c : Nat), L2H.RoomH k A → A.handled = some (.ref p.1) → L2H.PinOk outer H s p → Zc (xc c) none p.2 → (∃ vs, p.2.data = .fields vs) → c < 15 →
    Env0 P w K mg base A outer s H → BindsTo s fd args [("_law_e", .ref p.1)] → (∀ T H', (∀ b o, H b = some o → H' b = some o) → H T = none → H' T = some (.tup [V.str "refused", V.int (c : Int)]) → Q (.ref T) H') →
    codeAny (model P w) A (.call (.ref f) args) (CR (L2.CX P w) outer P w H s Q E) s
theorem fnW_of {P : Program} {w : World} {K : PySem.W.Frag} {mg : Str → Option Value} {base : Heap} {xc : Nat → Value} {name qual : Str} {params : Arguments} {body : List Stmt} {scope : Scope} {kws : List (Str × V)} {f : Ad} {fd : FuncData}
    (F : FunD K name qual params body scope [] kws f fd) (hS : C8.scC ["_law_e", "_law_own"] ["_law_e"] scope = true) (hk : ∀ c, c < 15 → WhK K mg xc c) (hb : chkW [whs.take 4, (whs.drop 4).take 4, (whs.drop 8).take 4, whs.drop 12] body = true)
    (hl : (decide (scope.names.lookup ("_law_e" : Str) = some .local) && (decide (scope.names.lookup ("_law_own" : Str) = some .local) && (decide (scope.names.lookup ("isinstance" : Str) = some .globalImplicit) && (decide (scope.names.lookup ("ValueError" : Str) = some .globalImplicit) && whs.all fun D => decide (scope.names.lookup D = some .globalImplicit))))) = true)
    (mi : mg "isinstance" = none) (mV : mg "ValueError" = none) : FnW P w K mg base xc 1 f fd := by
  obtain ⟨oc, od, dV, kV, doc, pm, an, cdv, ct, osl, rfl, lk, hcd, _, _⟩ := F.ex
  have S := C8.fnScope_by hS
  simp only [Bool.and_eq_true, decide_eq_true_eq, List.all_eq_true] at hl
  obtain ⟨l1, l2, l3, l4, l5⟩ := hl
  refine ⟨fun A outer s H args Q E p c hr hot hpin hz hf hc e0 hb' hq => ?_⟩
  have KX : K.In s.heap := e0.mod.kin.keeps fun b o e => (e0.bs b o e).1
  have lim : s.heap.NoLimit := e0.mod.nolimit.keeps fun b o e => (e0.bs b o e).1
  refine codeAny_call_function hr.depth (KX _ _ lk) rfl S.co S.gen rfl (PySem.W.codeRec_of KX hcd) (hb' _ _ _ _ ?_)
  refine wpAny_newFunctionEnv_cells S.kind (fun y hy => ?_) fun env he s1 x => ?_
  · simp only [List.mem_singleton] at hy
    subst hy
    exact .inl l1
  subst he
  refine ⟨lim.keeps x.toInCall.keep, codeAny_func ?_⟩
  obtain ⟨C, eC, EC, kV', kk⟩ := hk c hc
  -- the body's context
  have I : Inv (L2H.cxH (L2.CX P w) P w K mg base ["_law_e", "_law_own"] qual scope f cdv A outer s H E p) [] (L2.start ["_law_e", "_law_own"] [V.ref p.1]) H s1 :=
    L2H.inv_startH S hpin e0 rfl (.cons rfl .nil) x
  have eX : (L2H.cxH (L2.CX P w) P w K mg base ["_law_e", "_law_own"] qual scope f cdv A outer s H E p).nox = (L2H.cxH (L2.CX P w) P w K mg base ["_law_e", "_law_own"] qual scope f cdv A outer s H E p).nox.suite p.1 [(p.1, p.2)] := by
    have eA : (A.deeper (envOfC qual scope s.heap.objs.size f cdv)).mark (some (.ref p.1)) = A.deeper (envOfC qual scope s.heap.objs.size f cdv) := by
      have h : ∀ (B : Around), B.handled = some (.ref p.1) → B.mark (some (.ref p.1)) = B := fun B e => by
        obtain ⟨b1, b2, b3, b4, b5⟩ := B
        have e : b1 = _ := e
        subst e
        rfl
      exact h _ hot
    have h : ∀ B, B = A.deeper (envOfC qual scope s.heap.objs.size f cdv) → ({ (L2H.cxH (L2.CX P w) P w K mg base ["_law_e", "_law_own"] qual scope f cdv A outer s H E p).nox with A := B } : Cx) = (L2H.cxH (L2.CX P w) P w K mg base ["_law_e", "_law_own"] qual scope f cdv A outer s H E p).nox := by
      rintro _ rfl
      rfl
    exact (h _ eA).symm
  rw [eC] at hz
  have hu : (A.deeper (envOfC qual scope s.heap.objs.size f cdv)).units + 65 < cLine := by
    have := hr.un
    show A.units + 3 + 65 < cLine
    omega
  obtain ⟨t, ht, hq2⟩ := which_body (X := (L2H.cxH (L2.CX P w) P w K mg base ["_law_e", "_law_own"] qual scope f cdv A outer s H E p).nox)
    ⟨eX, EC, hz, hf, rfl, l1, l2, l3, mi, l5, l4, mV, kk, kV', hu⟩ hc hb
  refine wpAny_mono ((PSs.nox ht).run [] s1 _ H { nx := fun _ _ => False, rt := Q } I (hq2 _ H hq)) (fun fl s' hs => ?_) fun e s' hs => hs
  have fin : ∀ {σ' : L2.St} {H' : Hp} {v : V} {u : Value}, Inv (L2H.cxH (L2.CX P w) P w K mg base ["_law_e", "_law_own"] qual scope f cdv A outer s H E p) [] σ' H' s' → RelV v u → Q v H' → CE outer P w H s Q u s' :=
    fun {σ' H' v u} J rv q => ⟨v, H', J.os, J.bare, J.base, J.hok, rv, q⟩
  cases fl with
  | ret u =>
    obtain ⟨v, σ', H', J, rv, q⟩ := hs
    exact fin J rv q
  | next =>
    obtain ⟨σ', H', J, q⟩ := hs
    exact q.elim
  | brk =>
    obtain ⟨_, _, _, q⟩ := hs
    exact q.elim
  | cont =>
    obtain ⟨_, _, _, q⟩ := hs
    exact q.elim
section
variable {X : Cx} {xc : Nat → Value} {k i c : Nat} {f a : Ad} {fd : FuncData} {oe : Obj}
theorem pe_callW {p1 p2 pos : Pos} (F : FnW X.prog X.w X.K X.mg X.base xc k f fd) (hr : L2H.RoomH k X.A) (hh : X.A.handled = some (.ref a)) (hp : (a, oe) ∈ X.pn) (hz : Zc (xc c) none oe) (hf : ∃ vs, oe.data = .fields vs) (hc : c < 15) (hg : Gl X "_law_which")
    (hm : X.mg "_law_which" = some (.ref f)) (kp : PySem.W.keepIn X.K (.ref f) = true) (hb : Binds X.K fd ["_law_e"] []) (tk : Takes X W0) (hN : X.N[i]? = some ("_law_e" : Str)) (hv : Vis X.env.scope "_law_e") :
    PE X (.Call (.Name "_law_which" p1) [.Name "_law_e" p2] [] pos) (fun σ H Q => σ[i]? = some (some (.ref a)) ∧ ∀ T H', (∀ b o, H b = some o → H' b = some o) → H T = none → H' T = some (.tup [V.str "refused", V.int (c : Int)]) → Q (.ref T) H') := by
  refine ⟨fun pins s σ H Q I h => ?_⟩
  obtain ⟨e0, hq⟩ := h
  have ha : PA X [.Name "_law_e" p2] _ := pa_1 rfl (pe_var hN hv)
  refine wpAny_Call_Name_kw (ld_glob I hg hm ?_ (by decide))
  refine PySem.W.callWith_K (h₀ := X.base) I.ok.mod.kin kp (thn (ha.run pos pins s σ H (fun vs H1 => vs = [V.ref a] ∧ H1 = H) I ⟨_, e0, rfl, rfl⟩) fun us s1 hh1 => ?_)
  obtain ⟨vs, H1, I1, r, e1, e2⟩ := hh1
  subst e1
  subst e2
  refine ⟨I1.kIn, ?_⟩
  have P1 := I1.pin (a, oe) (List.mem_append_left _ hp)
  have hpin : L2H.PinOk X.stack H1 s1 (a, oe) := ⟨P1.1, P1.2.1, fun hm => (List.mem_cons.mp (I1.stkSub a hm)).elim P1.2.2.1 P1.2.2.2.1, P1.2.2.2.2⟩
  cases r with
  | cons ru rn =>
    rename_i u us'
    cases rn
    have eu : u = .ref a := ru
    subst eu
    have b := hb s1 [.ref a] I1.kIn rfl
    refine wpAny_call (codeAny_mono (F.run X.A X.stack s1 H1 ⟨[.ref a], []⟩ Q (fun _ _ _ => False) (a, oe) c hr hh hpin hz hf hc I1.env0 b hq) fun r s' hq => ?_)
    cases r with
    | error e => exact (passAt (W := W0) tk σ) pins H1 s1 e s' I1 hq
    | ok fl =>
      cases fl with
      | ret u => exact I1.after hq
      | next => exact False.elim hq
      | brk => exact False.elim hq
      | cont => exact False.elim hq
end
/-! ### a def that is one try -/
def chkTry (cx : Cc) (i : Nat) (b : Ss) : List Stmt → Bool
  | [.Try bs [.ExceptHandler (some (.Name x _)) (some n) [.Return (some (.Call (.Name wn _) [.Name n' _] [] _)) _] _] [] [] _] =>
    chkSs cx b bs && (decide (x = ("HillError" : Str)) && (decide (n = ("_law_e" : Str)) && (decide (n' = ("_law_e" : Str)) && (decide (wn = ("_law_which" : Str)) && (decide (cx.N[i]? = some ("_law_e" : Str)) && (cx.kind "_law_e" == some .local && (cx.glob "HillError" && cx.glob "_law_which")))))))
  | _ => false
def fnTry (Γ : List Fn) (G : List PD) (fu n : Nat) (b : Ss) (ws : List W) : Option Res := match runs Γ G fu b (startE n none ws) with
  | .bad => none
  | .exc c => if c < 15 then some (.ret (.d (.tuple [.str "refused", .int (c : Int)])) false (.opq .non)) else none
  | .nx ρ => retOf ρ none (.val (.d .none))
  | .rt v ρ => retOf ρ none v
theorem Good.tr {X : Cx} {cx : Cc} {Γ : List Fn} {G : List PD} {Wx Wx' : WX} {xc : Nat → Value} {lv : Nat} (g : Good X cx Γ G Wx xc lv) {pn : List (Ad × Obj)} {xe : Value → Shared → Prop} (tk : Takes (X.tr pn xe) Wx') (ps : PassesOwn (model X.prog X.w) X.A X.env xe) : Good (X.tr pn xe) cx Γ G Wx' xc lv where
  N := g.N
  sc := g.sc
  nd := g.nd
  calm := g.calm
  room := g.room
  takes := tk
  pass := ps
  st := g.st
  blt := g.blt
  glo := g.glo
  fn := fun i fn h => by
    obtain ⟨h1, F⟩ := g.fn i fn h
    exact ⟨h1, ⟨F.ok⟩⟩
  exc := g.exc
theorem try_ok {P : Program} {w : World} {K : PySem.W.Frag} {mg : Str → Option Value} {base : Heap} {nms gls xcs : List Str} {Γ : List Fn} {G : List PD} {xc : Nat → Value} {lv fu : Nat} (e : Env1 P w K mg base nms gls xcs Γ G xc lv)
    {N ps : List Str} {name qual : Str} {params : Arguments} {body : List Stmt} {scope : Scope} {kws : List (Str × V)} {f fW CH : Ad} {fd fdW : FuncData} {b : Ss} {i : Nat} (F : FunD K name qual params body scope [] kws f fd) (S : FnScope N ps scope)
    (hc : chkTry (cxD N scope nms gls xcs) i b body = true) (W : FnW P w K mg base xc 1 fW fdW) (mW : mg "_law_which" = some (.ref fW)) (kpW : PySem.W.keepIn K (.ref fW) = true) (bW : Binds K fdW ["_law_e"] []) (mH : mg "HillError" = some (.ref CH))
    (hex : ∀ c, c < 15 → PySem.W.exmOne K (xc c) (.ref CH) = some true) : FnOk P w K mg base (L2.CX P w) (lv + 2) f fd ps (SpT K xc none ps.length (fnTry Γ G fu N.length b)) := by
  unfold chkTry at hc
  split at hc
  case h_2 => cases hc
  rename_i bs x np n wn p1 n' p2 p3 p4 p5 p6
  simp only [Bool.and_eq_true, decide_eq_true_eq, beq_iff_eq] at hc
  obtain ⟨h1, rfl, rfl, rfl, rfl, h6, h7, h8, h9⟩ := hc
  refine F.ok S (fun vs H Q E h => ?_) (fun cdv A outer s H vs Q E hr h => ?_)
  · obtain ⟨ws, Oc, M, hv, _⟩ := h
    exact hv
  · have g := e.good (E := E) (H := H) (outer := outer) S hr
    have h8' : Gl (cxOf (L2.CX P w) P w K mg base N qual scope f cdv A outer s H E) "HillError" := g.gl h8
    have h9' : Gl (cxOf (L2.CX P w) P w K mg base N qual scope f cdv A outer s H E) "_law_which" := g.gl h9
    have PSX := L2H.ps_try_asH (X := cxOf (L2.CX P w) P w K mg base N qual scope f cdv A outer s H E) (x := "HillError") (c := .ref CH) (n := "_law_e") (i := i) (body := bs) (suite := []) (np := np) (pos := p6) (pos' := p5)
      (tb := fun Wx => tS K Wx xc (runs Γ G fu b)) (ts := fun a cls d => fun D σ H => ∃ c, c < 15 ∧ cls = xc c ∧ d = none ∧ σ[i]? = some (some (.ref a)) ∧ ∀ T H', (∀ b o, H b = some o → H' b = some o) → H T = none → H' T = some (.tup [V.str "refused", V.int (c : Int)]) → D.rt (.ref T) H')
      (b₀ := .Return (some (.Call (.Name "_law_which" p1) [.Name "_law_e" p2] [] p3)) p4)
      rfl rfl S.nd h6 h7 ⟨h8', by decide, .inl mH⟩ g.takes (fun Wx pn xe _ tk pso => sound_Ss (g.tr tk pso) b bs h1) (fun a oe cls d pn hz hf => ?_)
    · refine ⟨_, pss_one PSX, ?_⟩
      obtain ⟨ws, Oc, M, hv, hw, dis, trk, args, res⟩ := h
      have S0 := start_sta (N := N) (mu := none) (hv.trans hw.symm) dis trk args
      refine ⟨startE N.length none ws, Oc, M, maOf vs, S0, ?_⟩
      unfold fnTry at res
      have fin := fun ρ' v res => ret_fin (vs := vs) (H := H) (Oc := Oc) (M := M) (mu := none) (Q := Q) (E := E) (xc := xc) (K := K) ρ' v res
      cases hr2 : runs Γ G fu b (startE N.length none ws) with
      | bad => rw [hr2] at res; exact res
      | nx ρ' =>
        rw [hr2] at res
        exact fun σ' H' M' _ t S' => fin ρ' (.val (.d .none)) res σ' H' M' t S' .non RD.non
      | rt v ρ' =>
        rw [hr2] at res
        exact fun σ' H' M' _ t S' x r => fin ρ' v res σ' H' M' t S' x r
      | exc c =>
        rw [hr2] at res
        intro σ' H' M' hl t
        by_cases hc15 : c < 15
        · simp only [hc15, if_true] at res
          refine ⟨true, hex c hc15, fun _ a ha => ?_, fun z => by cases z⟩
          have hi : i < σ'.length := by
            rw [hl, S0.len]
            have : i < N.length := (List.getElem?_eq_some_iff.mp h6).1
            unfold startE
            simp
            omega
          refine ⟨c, hc15, rfl, rfl, List.getElem?_set_self hi, fun T H'' kp hT eT => ?_⟩
          have keep : ∀ b o, H b = some o → ¬ M b → H'' b = some o := fun b o e n => kp b o (t.keep b o e n)
          have no : ¬ Oc T := fun o => by
            obtain ⟨q, eq⟩ := trk T (.inl o)
            have := t.keep T q eq fun m => dis T m o
            rw [this] at hT; cases hT
          refine res (.ref T) H'' (fun _ => False) ⟨keep, fun _ h => h.elim⟩ (fun _ h => h.elim) (fun b h => ?_) (fun k a e => by cases e) ?_
          · rcases h with h | h
            · obtain ⟨q, eq⟩ := trk b (.inl h)
              exact ⟨q, keep b q eq fun m => dis b m h⟩
            · exact h.elim
          · rw [if_neg Bool.false_ne_true]
            exact RD.tup eT (fun z => z.elim no id) (.cons (.str _ (by decide +kernel)) (.cons (.int _) .nil)) rfl
        · simp only [hc15, if_false] at res
    · refine pss_one ⟨fun pins s2 σ2 H2 D2 I2 h2 => ?_⟩
      obtain ⟨c, hc15, rfl, rfl, e0, hq⟩ := h2
      have hr1 : L2H.RoomH 1 ((cxOf (L2.CX P w) P w K mg base N qual scope f cdv A outer s H E).suite a ((a, oe) :: pn)).A := by
        have := L2H.roomH_of (g.room.mono (show 1 ≤ lv + 1 by omega))
        exact ⟨this.dp, this.un⟩
      have pw := pe_callW (X := (cxOf (L2.CX P w) P w K mg base N qual scope f cdv A outer s H E).suite a ((a, oe) :: pn)) (p1 := p1) (p2 := p2) (pos := p3) (i := i) (c := c) (oe := oe) (a := a) W hr1 rfl List.mem_cons_self hz hf hc15 h9' mW kpW bW takes0 h6 (.inl h7)
      exact (ps_ret pw).run pins s2 σ2 H2 D2 I2 ⟨e0, hq⟩
/-! ### what the classes say, looked at -/
def excCB (K : PySem.W.Frag) (D : Ad) : Bool := decide (PySem.W.findIn K (.ref D) "__getattribute__" = some (some (.builtin "BaseException.__getattribute__"))) && (decide (PySem.W.findIn K (.ref D) "__getattr__" = some none) && (decide (PySem.W.subIn K (.ref D) (.type "BaseException") = some true) &&
  (PySem.W.hasDictIn K D && (decide (PySem.W.findIn K (.ref D) "__class__" = some (some (.builtin "object.__class__"))) && (decide (PySem.W.specialIn K (.builtin "object.__class__") "__get__" = some (some (.builtin "getset_descriptor.__get__"))) &&
  (decide (PySem.W.takesIn K (.builtin "object.__class__") = some true) && decide (PySem.W.mroIn K D (.type "object") = some true)))))))
theorem excCB_ok {K : PySem.W.Frag} {D : Ad} (h : excCB K D = true) : ExcC K D := by
  simp only [excCB, Bool.and_eq_true, decide_eq_true_eq] at h
  obtain ⟨h1, h2, h3, h4, h5, h6, h7, h8⟩ := h
  exact ⟨h1, h2, h3, h4, h5, h6, h7, h8⟩
def whB (K : PySem.W.Frag) : Bool := (List.range 15).all fun c => let C := He.ga K (whs.getD c Str.empty); excCB K C && (decide (PySem.W.kitOne K (.ref C) (.type "ValueError") = some true) &&
  (((List.range 15).all fun i => (He.Fa.glo (whs.getD i Str.empty)).ok K && decide (PySem.W.kitOne K (.ref C) (.ref (He.ga K (whs.getD i Str.empty))) = some (decide (i = c)))) && decide (PySem.W.exmOne K (.ref C) (.ref (He.ga K "HillError")) = some true)))
theorem whB_ok {K : PySem.W.Frag} {h : Heap} {mg : Str → Option Value} (X : K.In h) (Gm : h.Ns mainGlobals mg) (e : whB K = true) : (∀ c, c < 15 → WhK K mg (xcOf K whs) c) ∧ ∀ c, c < 15 → PySem.W.exmOne K (xcOf K whs c) (.ref (He.ga K "HillError")) = some true := by
  unfold whB at e
  rw [List.all_eq_true] at e
  have key : ∀ c, c < 15 → _ := fun c hc => e c (List.mem_range.mpr hc)
  refine ⟨fun c hc => ?_, fun c hc => ?_⟩
  · have := key c hc
    simp only [Bool.and_eq_true, decide_eq_true_eq, List.all_eq_true, List.mem_range] at this
    obtain ⟨h1, h2, h3, h4⟩ := this
    refine ⟨_, rfl, excCB_ok h1, h2, fun i D hi => ?_⟩
    have hlt : i < 15 := by
      have := (List.getElem?_eq_some_iff.mp hi).1
      exact this
    obtain ⟨k1, k2⟩ := h3 i hlt
    have eD : whs.getD i Str.empty = D := by
      rw [List.getD_eq_getElem?_getD, hi]
      rfl
    rw [eD] at k1 k2
    exact ⟨_, He.glo_ok X Gm k1, k2⟩
  · have := key c hc
    simp only [Bool.and_eq_true, decide_eq_true_eq] at this
    exact this.2.2.2
end Hil
/-! Hil23: reckoning: the small syntax step by step. -/
namespace Hil
open PySem L2
section
variable {Γ : List Fn} {G : List PD} {fu : Nat}
theorem seal_ex {α : Type} (a : α) : ∃ x : α, x = a := ⟨a, rfl⟩
noncomputable def sealed {α : Type} (a : α) : α := Classical.choose (seal_ex a)
theorem sealed_eq {α : Type} (a : α) : sealed a = a := Classical.choose_spec (seal_ex a)
noncomputable def evZ (Γ : List Fn) (G : List PD) : E → Env' → Out Vl := sealed (ev Γ G)
noncomputable def evsZ (Γ : List Fn) (G : List PD) : Option Nat → Nat → Es → Env' → Out (List W × Option Nat) := sealed (evs Γ G)
noncomputable def evbZ (Γ : List Fn) (G : List PD) : Bool → Es → Env' → Out Vl := sealed (evb Γ G)
noncomputable def eviZ (Γ : List Fn) (G : List PD) : It → Env' → Out (List Im) := sealed (evi Γ G)
noncomputable def evpZ (Γ : List Fn) (G : List PD) : Es → Env' → Out (List Vl) := sealed (evp Γ G)
noncomputable def runZ (Γ : List Fn) (G : List PD) (fu : Nat) : S → Env' → SO := sealed (run Γ G fu)
noncomputable def runsZ (Γ : List Fn) (G : List PD) (fu : Nat) : Ss → Env' → SO := sealed (runs Γ G fu)
theorem Zev (Γ : List Fn) (G : List PD) : evZ Γ G = ev Γ G := sealed_eq _
theorem Zevs (Γ : List Fn) (G : List PD) : evsZ Γ G = evs Γ G := sealed_eq _
theorem Zevb (Γ : List Fn) (G : List PD) : evbZ Γ G = evb Γ G := sealed_eq _
theorem Zevi (Γ : List Fn) (G : List PD) : eviZ Γ G = evi Γ G := sealed_eq _
theorem Zevp (Γ : List Fn) (G : List PD) : evpZ Γ G = evp Γ G := sealed_eq _
theorem Zrun (Γ : List Fn) (G : List PD) (fu : Nat) : runZ Γ G fu = run Γ G fu := sealed_eq _
theorem Zruns (Γ : List Fn) (G : List PD) (fu : Nat) : runsZ Γ G fu = runs Γ G fu := sealed_eq _
noncomputable def lcE (Γ : List Fn) (G : List PD) (tg : Tg) (ft elt : E) (ms : List Im) (ρ : Env') (acc : List PD) : Out (List PD) := lcRun (fun r => evZ Γ G ft r) (fun r => evZ Γ G elt r) tg ms ρ acc
noncomputable def forS (Γ : List Fn) (G : List PD) (fu : Nat) (tg : Tg) (b : Ss) (ms : List Im) (ρ : Env') : SO := forRun (fun r => runsZ Γ G fu b r) tg ms ρ
noncomputable def whlS (Γ : List Fn) (G : List PD) (fu : Nat) (c : E) (b : Ss) (n : Nat) (ρ : Env') : SO := whlRun (fun r => evZ Γ G c r) (fun r => runsZ Γ G fu b r) n ρ
def goF0 (fn : Fn) (ws : List W) (ρ : Env') : Out Vl := if ws.length = fn.ar then match fn.f ws with
  | none => .bad
  | some (.exc c) => .exc c
  | some (.ret w fr _) => .ok (mkV (w, fr)) ρ
  else .bad
def goM0 (fn : Fn) (k : Nat) (ws : List W) (j : Option Nat) (ρ : Env') : Out Vl := match j with
  | none => .bad
  | some j => match (ρ[j]?).bind Sl.w with
    | some w => fn.go ρ (ws.set k w) (some j)
    | none => .bad
noncomputable def goF : Fn → List W → Env' → Out Vl := sealed goF0
noncomputable def goM : Fn → Nat → List W → Option Nat → Env' → Out Vl := sealed goM0
theorem goF_eq : goF = goF0 := sealed_eq _
theorem goM_eq : goM = goM0 := sealed_eq _
def SO.seq (o : SO) (f : Env' → SO) : SO := match o with
  | .nx ρ => f ρ
  | .bad => .bad
  | .exc c => .exc c
  | .rt v ρ => .rt v ρ
@[simp] theorem seq_nx (f : Env' → SO) (ρ : Env') : (SO.nx ρ).seq f = f ρ := rfl
@[simp] theorem seq_rt (f : Env' → SO) (v : Vl) (ρ : Env') : (SO.rt v ρ).seq f = .rt v ρ := rfl
@[simp] theorem seq_exc (f : Env' → SO) (c : Nat) : (SO.exc c).seq f = .exc c := rfl
@[simp] theorem seq_bad (f : Env' → SO) : (SO.bad).seq f = .bad := rfl
@[simp] theorem bind_ok {α β : Type} (a : α) (ρ : Env') (f : α → Env' → Out β) : (Out.ok a ρ).bind f = f a ρ := rfl
@[simp] theorem bind_exc {α β : Type} (c : Nat) (f : α → Env' → Out β) : (Out.exc c : Out α).bind f = .exc c := rfl
@[simp] theorem bind_bad {α β : Type} (f : α → Env' → Out β) : (Out.bad : Out α).bind f = .bad := rfl
@[simp] theorem of_ok {α : Type} (a : α) (ρ : Env') (f : α → Env' → SO) : SO.of (Out.ok a ρ) f = f a ρ := rfl
@[simp] theorem of_exc {α : Type} (c : Nat) (f : α → Env' → SO) : SO.of (Out.exc c : Out α) f = .exc c := rfl
@[simp] theorem of_bad {α : Type} (f : α → Env' → SO) : SO.of (Out.bad : Out α) f = .bad := rfl
/-- only the first part is reckoned; what follows waits for it -/
theorem seq_congr {o o' : SO} {f : Env' → SO} (h : o = o') : o.seq f = o'.seq f := by rw [h]
theorem bind_congr' {α β : Type} {o o' : Out α} {f : α → Env' → Out β} (h : o = o') : o.bind f = o'.bind f := by rw [h]
theorem of_congr {α : Type} {o o' : Out α} {f : α → Env' → SO} (h : o = o') : SO.of o f = SO.of o' f := by rw [h]
@[simp] theorem ev_var (i : Nat) (ρ : Env') : evZ Γ G (.var i) ρ = match ρ[i]? with
  | some (.sh w) => .ok (.val w) ρ
  | some (.ow _) => .ok (.loc i) ρ
  | some (.mu _) => .ok (.loc i) ρ
  | _ => .bad := by simp only [Zev, Zevs, Zevb, Zevi, Zevp, Zrun, Zruns]; first | (simp only [ev]; done) | (simp only [ev]; rfl) | (simp only [ev, Zev, Zruns]; done) | (simp only [ev, Zev, Zruns]; rfl)
@[simp] theorem ev_cst (x : PD) (ρ : Env') : evZ Γ G (.cst x) ρ = .ok (.val (.d x)) ρ := by simp only [Zev, Zevs, Zevb, Zevi, Zevp, Zrun, Zruns]; first | (simp only [ev]; done) | (simp only [ev]; rfl) | (simp only [ev, Zev, Zruns]; done) | (simp only [ev, Zev, Zruns]; rfl)
@[simp] theorem ev_glo (i : Nat) (ρ : Env') : evZ Γ G (.glo i) ρ = match G[i]? with
  | some x => .ok (.val (.d x)) ρ
  | none => .bad := by simp only [Zev, Zevs, Zevb, Zevi, Zevp, Zrun, Zruns]; first | (simp only [ev]; done) | (simp only [ev]; rfl) | (simp only [ev, Zev, Zruns]; done) | (simp only [ev, Zev, Zruns]; rfl)
@[simp] theorem ev_o1 (o : O1) (a : E) (ρ : Env') : evZ Γ G (.o1 o a) ρ = (evZ Γ G a ρ).bind fun v ρ1 => match (rd ρ1 v).bind (op1 o) with
  | some r => .ok (mkV r) ρ1
  | none => .bad := by simp only [Zev, Zevs, Zevb, Zevi, Zevp, Zrun, Zruns]; first | (simp only [ev]; done) | (simp only [ev]; rfl) | (simp only [ev, Zev, Zruns]; done) | (simp only [ev, Zev, Zruns]; rfl)
@[simp] theorem ev_o2 (o : O2) (a b : E) (ρ : Env') : evZ Γ G (.o2 o a b) ρ = (evZ Γ G a ρ).bind fun v ρ1 => (evZ Γ G b ρ1).bind fun u ρ2 => match rd ρ2 v, rd ρ2 u with
  | some x, some y => (match op2 o x y with
    | some r => .ok (mkV r) ρ2
    | none => .bad)
  | _, _ => .bad := by simp only [Zev, Zevs, Zevb, Zevi, Zevp, Zrun, Zruns]; first | (simp only [ev]; done) | (simp only [ev]; rfl) | (simp only [ev, Zev, Zruns]; done) | (simp only [ev, Zev, Zruns]; rfl)
@[simp] theorem ev_bop (c : Bool) (es : Es) (ρ : Env') : evZ Γ G (.bop c es) ρ = evbZ Γ G c es ρ := by simp only [Zev, Zevs, Zevb, Zevi, Zevp, Zrun, Zruns]; first | (simp only [ev]; done) | (simp only [ev]; rfl) | (simp only [ev, Zev, Zruns]; done) | (simp only [ev, Zev, Zruns]; rfl)
@[simp] theorem evb_one (c : Bool) (e : E) (ρ : Env') : evbZ Γ G c (.cons e .nil) ρ = evZ Γ G e ρ := by simp only [Zev, Zevs, Zevb, Zevi, Zevp, Zrun, Zruns]; first | (simp only [evb]; done) | (simp only [evb]; rfl) | (simp only [evb, Zev, Zruns]; done) | (simp only [evb, Zev, Zruns]; rfl)
@[simp] theorem evb_cons (c : Bool) (e e' : E) (r : Es) (ρ : Env') : evbZ Γ G c (.cons e (.cons e' r)) ρ = (evZ Γ G e ρ).bind fun v ρ1 => match v with
  | .val (.d (.bool b)) => if b = c then evbZ Γ G c (.cons e' r) ρ1 else .ok (.val (.d (.bool b))) ρ1
  | _ => .bad := by simp only [Zev, Zevs, Zevb, Zevi, Zevp, Zrun, Zruns]; first | (simp only [evb]; done) | (simp only [evb]; rfl) | (simp only [evb, Zev, Zruns]; done) | (simp only [evb, Zev, Zruns]; rfl)
@[simp] theorem ev_ite (c a b : E) (ρ : Env') : evZ Γ G (.ite c a b) ρ = (evZ Γ G c ρ).bind fun v ρ1 => match v with
  | .val (.d (.bool true)) => evZ Γ G a ρ1
  | .val (.d (.bool false)) => evZ Γ G b ρ1
  | _ => .bad := by simp only [Zev, Zevs, Zevb, Zevi, Zevp, Zrun, Zruns]; first | (simp only [ev]; done) | (simp only [ev]; rfl) | (simp only [ev, Zev, Zruns]; done) | (simp only [ev, Zev, Zruns]; rfl)
@[simp] theorem ev_ch (p q : O2) (a b c : E) (ρ : Env') : evZ Γ G (.ch p q a b c) ρ = (evZ Γ G a ρ).bind fun v ρ1 => (evZ Γ G b ρ1).bind fun u ρ2 => match rd ρ2 v, rd ρ2 u with
  | some x, some y => (match op2 p x y with
    | some (.d (.bool true), false) => (evZ Γ G c ρ2).bind fun z ρ3 => (match rd ρ3 u, rd ρ3 z with
      | some y', some z' => (match op2 q y' z' with
        | some r => .ok (mkV r) ρ3
        | none => .bad)
      | _, _ => .bad)
    | some (.d (.bool false), false) => .ok (.val (.d (.bool false))) ρ2
    | _ => .bad)
  | _, _ => .bad := by simp only [Zev, Zevs, Zevb, Zevi, Zevp, Zrun, Zruns]; first | (simp only [ev]; done) | (simp only [ev]; rfl) | (simp only [ev, Zev, Zruns]; done) | (simp only [ev, Zev, Zruns]; rfl)
@[simp] theorem ev_ch3 (p q m : O2) (a b c d : E) (ρ : Env') : evZ Γ G (.ch3 p q m a b c d) ρ = (evZ Γ G a ρ).bind fun v ρ1 => (evZ Γ G b ρ1).bind fun u ρ2 => match rd ρ2 v, rd ρ2 u with
    | some x, some y => (match op2 p x y with
      | some (.d (.bool true), false) => (evZ Γ G c ρ2).bind fun z ρ3 => (match rd ρ3 u, rd ρ3 z with
        | some y', some z' => (match op2 q y' z' with
          | some (.d (.bool true), false) => (evZ Γ G d ρ3).bind fun e ρ4 => (match rd ρ4 z, rd ρ4 e with
            | some z2, some e2 => (match op2 m z2 e2 with
              | some r => .ok (mkV r) ρ4
              | none => .bad)
            | _, _ => .bad)
          | some (.d (.bool false), false) => .ok (.val (.d (.bool false))) ρ3
          | _ => .bad)
        | _, _ => .bad)
      | some (.d (.bool false), false) => .ok (.val (.d (.bool false))) ρ2
      | _ => .bad)
    | _, _ => .bad := by simp only [Zev, Zevs, Zevb, Zevi, Zevp, Zrun, Zruns]; first | (simp only [ev]; done) | (simp only [ev]; rfl) | (simp only [ev, Zev, Zruns]; done) | (simp only [ev, Zev, Zruns]; rfl)
@[simp] theorem ev_sl (a lo hi : E) (ρ : Env') : evZ Γ G (.sl a lo hi) ρ = (evZ Γ G a ρ).bind fun v ρ1 => (evZ Γ G lo ρ1).bind fun l ρ2 => match (rd ρ2 l).bind (optI lo.absent) with
  | none => .bad
  | some lo' => (evZ Γ G hi ρ2).bind fun h ρ3 => match (rd ρ3 h).bind (optI hi.absent) with
    | none => .bad
    | some hi' => (match (rd ρ3 v).bind (gSl lo' hi') with
      | some r => .ok (mkV r) ρ3
      | none => .bad) := by simp only [Zev, Zevs, Zevb, Zevi, Zevp, Zrun, Zruns]; first | (simp only [ev]; done) | (simp only [ev]; rfl) | (simp only [ev, Zev, Zruns]; done) | (simp only [ev, Zev, Zruns]; rfl)
@[simp] theorem ev_tup (es : Es) (ρ : Env') : evZ Γ G (.tup es) ρ = (evsZ Γ G none 0 es ρ).bind fun r ρ1 => match dataAll r.1 with
  | some ds => if ds.length ≤ 1000000 then .ok (.val (.d (.tuple ds))) ρ1 else .bad
  | none => .bad := by simp only [Zev, Zevs, Zevb, Zevi, Zevp, Zrun, Zruns]; first | (simp only [ev]; done) | (simp only [ev]; rfl) | (simp only [ev, Zev, Zruns]; done) | (simp only [ev, Zev, Zruns]; rfl)
@[simp] theorem ev_lst (es : Es) (ρ : Env') : evZ Γ G (.lst es) ρ = (evsZ Γ G none 0 es ρ).bind fun r ρ1 => match dataAll r.1 with
  | some ds => if ds.length ≤ 1000000 then .ok (.fre (.d (.list ds))) ρ1 else .bad
  | none => .bad := by simp only [Zev, Zevs, Zevb, Zevi, Zevp, Zrun, Zruns]; first | (simp only [ev]; done) | (simp only [ev]; rfl) | (simp only [ev, Zev, Zruns]; done) | (simp only [ev, Zev, Zruns]; rfl)
@[simp] theorem ev_dic (t : Bool) (ρ : Env') : evZ Γ G (.dic t) ρ = .ok (.fre (if t = true then .dt [] else .dk [])) ρ := by simp only [Zev, Zevs, Zevb, Zevi, Zevp, Zrun, Zruns]; first | (simp only [ev]; done) | (simp only [ev]; rfl) | (simp only [ev, Zev, Zruns]; done) | (simp only [ev, Zev, Zruns]; rfl)
@[simp] theorem ev_dic1 (i : Nat) (c : Int) (ρ : Env') : evZ Γ G (.dic1 i c) ρ = match ρ[i]? with
  | some (.sh (.d (.int k))) => .ok (.fre (.dk [(.inl k, .int c)])) ρ
  | _ => .bad := by simp only [Zev]; first | (simp only [ev]; done) | (simp only [ev]; rfl)
theorem ev_call0 {i : Nat} {fn : Fn} (h : Γ[i]? = some fn) (hm : fn.mu = none) (es : Es) (ρ : Env') : evZ Γ G (.call i es) ρ = (evsZ Γ G none 0 es ρ).bind fun r ρ1 => goF fn r.1 ρ1 := by
  simp only [Zev, Zevs]
  simp only [ev, h, hm]
  congr 1
  funext r ρ1
  rw [goF_eq]
  unfold Fn.go goF0 Fn.fits
  first
    | (simp only [hm, Bool.and_true, decide_eq_true_eq, Option.isNone_none, if_true]; done)
    | (simp only [hm, Bool.and_true, decide_eq_true_eq, Option.isNone_none, if_true]; rfl)
theorem ev_callM {i k : Nat} {fn : Fn} (h : Γ[i]? = some fn) (hm : fn.mu = some k) (es : Es) (ρ : Env') : evZ Γ G (.call i es) ρ = (evsZ Γ G (some k) 0 es ρ).bind fun r ρ1 => goM fn k r.1 r.2 ρ1 := by
  simp only [Zev, Zevs]
  simp only [ev, h, hm]
  congr 1
  funext r ρ1
  rw [goM_eq]
  obtain ⟨ws, j⟩ := r
  cases j with
  | none => rfl
  | some j => rfl
@[simp] theorem ev_menu (is : List Nat) (ix : E) (es : Es) (ρ : Env') : evZ Γ G (.menu is ix es) ρ = if menuOk Γ is = true then (evZ Γ G ix ρ).bind fun v ρ1 => match rd ρ1 v with
    | some (.d (.int k)) => (match atI is k with
      | some i => evZ Γ G (.call i es) ρ1
      | none => .bad)
    | _ => .bad
    else .bad := by simp only [Zev]; exact ev_menu' is ix es ρ
@[simp] theorem ev_popL (i : Nat) (a : E) (ρ : Env') : evZ Γ G (.popL i a) ρ = match (ρ[i]?).bind ownL with
  | none => .bad
  | some _ => (evZ Γ G a ρ).bind fun v ρ1 => match rd ρ1 v, ρ1[i]? with
    | some (.d (.int k)), some x => (match ownL x with
      | some ds => (match (if ds.length ≤ 1000000 then ixN ds.length k else none) with
        | some j => (match ds[j]? with
          | some d => .ok (.val (.d d)) (ρ1.set i (reL x (.d (.list (ds.eraseIdx j)))))
          | none => .bad)
        | none => .bad)
      | none => .bad)
    | _, _ => .bad := by simp only [Zev, Zevs, Zevb, Zevi, Zevp, Zrun, Zruns]; first | (simp only [ev]; done) | (simp only [ev]; rfl) | (simp only [ev, Zev, Zruns]; done) | (simp only [ev, Zev, Zruns]; rfl)
@[simp] theorem ev_dget (d k x : E) (ρ : Env') : evZ Γ G (.dget d k x) ρ = (evZ Γ G d ρ).bind fun c ρ0 => match (rd ρ0 c).map isDic with
  | some true => (evZ Γ G k ρ0).bind fun v ρ1 => (match give ρ1 v with
    | none => .bad
    | some (kw, ρ2) => (evZ Γ G x ρ2).bind fun u ρ3 => (match give ρ3 u with
      | none => .bad
      | some (xw, ρ4) => (match (rd ρ4 c).bind fun d => gGet d kw xw with
        | some r => .ok (.val r) ρ4
        | none => .bad)))
  | _ => .bad := by simp only [Zev, Zevs, Zevb, Zevi, Zevp, Zrun, Zruns]; first | (simp only [ev]; done) | (simp only [ev]; rfl) | (simp only [ev, Zev, Zruns]; done) | (simp only [ev, Zev, Zruns]; rfl)
@[simp] theorem ev_lc (tg : Tg) (it : It) (ft elt : E) (ρ : Env') : evZ Γ G (.lc tg it ft elt) ρ = (eviZ Γ G it ρ).bind fun ms ρ1 =>
    if freeE ρ1 tg.slots = true ∧ ms.length ≤ 1000000 then (lcE Γ G tg ft elt ms (wipeE ρ1 tg.slots) []).bind fun ds ρ2 => .ok (.fre (.d (.list ds))) (backE ρ1 ρ2 tg.slots) else .bad := by simp only [Zev, Zevs, Zevb, Zevi, Zevp, Zrun, Zruns]; first | (simp only [ev, lcE]; done) | (simp only [ev, lcE]; rfl) | (simp only [ev, lcE, Zev, Zruns]; done) | (simp only [ev, lcE, Zev, Zruns]; rfl)
@[simp] theorem evs_nil (mu : Option Nat) (k : Nat) (ρ : Env') : evsZ Γ G mu k .nil ρ = .ok ([], none) ρ := by simp only [Zev, Zevs, Zevb, Zevi, Zevp, Zrun, Zruns]; first | (simp only [evs]; done) | (simp only [evs]; rfl) | (simp only [evs, Zev, Zruns]; done) | (simp only [evs, Zev, Zruns]; rfl)
@[simp] theorem evs_cons (mu : Option Nat) (k : Nat) (e : E) (r : Es) (ρ : Env') : evsZ Γ G mu k (.cons e r) ρ = (evZ Γ G e ρ).bind fun v ρ1 => match muAt mu k with
  | true => (match v with
    | .loc j => (evsZ Γ G mu (k + 1) r ρ1).bind fun q ρ2 => .ok (.opq .non :: q.1, some j) ρ2
    | _ => .bad)
  | false => (match give ρ1 v with
    | some (w, ρ2) => (evsZ Γ G mu (k + 1) r ρ2).bind fun q ρ3 => .ok (w :: q.1, q.2) ρ3
    | none => .bad) := by simp only [Zev, Zevs, Zevb, Zevi, Zevp, Zrun, Zruns]; first | (simp only [evs]; done) | (simp only [evs]; rfl) | (simp only [evs, Zev, Zruns]; done) | (simp only [evs, Zev, Zruns]; rfl)
@[simp] theorem evi_ex (a : E) (ρ : Env') : eviZ Γ G (.ex a) ρ = (evZ Γ G a ρ).bind fun v ρ1 => match give ρ1 v with
  | some (.d (.list ds), ρ2) => .ok (ds.map .one) ρ2
  | some (.d (.tuple ds), ρ2) => .ok (ds.map .one) ρ2
  | some (.d (.str z), ρ2) => .ok (chars z) ρ2
  | _ => .bad := by simp only [Zev, Zevs, Zevb, Zevi, Zevp, Zrun, Zruns]; first | (simp only [evi]; done) | (simp only [evi]; rfl) | (simp only [evi, Zev, Zruns]; done) | (simp only [evi, Zev, Zruns]; rfl)
@[simp] theorem evi_r1 (a : E) (ρ : Env') : eviZ Γ G (.r1 a) ρ = (evZ Γ G a ρ).bind fun v ρ1 => match rd ρ1 v with
  | some (.d (.int n)) => if n ≤ 1000000 ∧ -1000000 ≤ n then .ok (rangeI 0 n.toNat) ρ1 else .bad
  | _ => .bad := by simp only [Zev, Zevs, Zevb, Zevi, Zevp, Zrun, Zruns]; first | (simp only [evi]; done) | (simp only [evi]; rfl) | (simp only [evi, Zev, Zruns]; done) | (simp only [evi, Zev, Zruns]; rfl)
@[simp] theorem evi_r2 (a b : E) (ρ : Env') : eviZ Γ G (.r2 a b) ρ = (evZ Γ G a ρ).bind fun v ρ1 => (evZ Γ G b ρ1).bind fun u ρ2 => match rd ρ2 v, rd ρ2 u with
  | some (.d (.int m)), some (.d (.int n)) => if (m ≤ 1000000 ∧ -1000000 ≤ m) ∧ (n ≤ 1000000 ∧ -1000000 ≤ n) then .ok (rangeI m (n - m).toNat) ρ2 else .bad
  | _, _ => .bad := by simp only [Zev, Zevs, Zevb, Zevi, Zevp, Zrun, Zruns]; first | (simp only [evi]; done) | (simp only [evi]; rfl) | (simp only [evi, Zev, Zruns]; done) | (simp only [evi, Zev, Zruns]; rfl)
@[simp] theorem evi_en (a : E) (ρ : Env') : eviZ Γ G (.en a) ρ = (evZ Γ G a ρ).bind fun v ρ1 => match give ρ1 v with
  | some (.d (.list ds), ρ2) => .ok (enumI 0 ds) ρ2
  | some (.d (.tuple ds), ρ2) => .ok (enumI 0 ds) ρ2
  | _ => .bad := by simp only [Zev, Zevs, Zevb, Zevi, Zevp, Zrun, Zruns]; first | (simp only [evi]; done) | (simp only [evi]; rfl) | (simp only [evi, Zev, Zruns]; done) | (simp only [evi, Zev, Zruns]; rfl)
@[simp] theorem evi_zp (a b : E) (ρ : Env') : eviZ Γ G (.zp a b) ρ = (evZ Γ G a ρ).bind fun v ρ1 => match give ρ1 v with
  | some (x, ρ2) => (evZ Γ G b ρ2).bind fun u ρ3 => (match give ρ3 u with
    | some (y, ρ4) => (match zpG x y with
      | some ms => .ok ms ρ4
      | none => .bad)
    | none => .bad)
  | none => .bad := by simp only [Zev, Zevs, Zevb, Zevi, Zevp, Zrun, Zruns]; first | (simp only [evi]; done) | (simp only [evi]; rfl) | (simp only [evi, Zev, Zruns]; done) | (simp only [evi, Zev, Zruns]; rfl)
@[simp] theorem runs_nil (ρ : Env') : runsZ Γ G fu .nil ρ = .nx ρ := by simp only [Zev, Zevs, Zevb, Zevi, Zevp, Zrun, Zruns]; first | (simp only [runs]; done) | (simp only [runs]; rfl) | (simp only [runs, Zev, Zruns]; done) | (simp only [runs, Zev, Zruns]; rfl)
@[simp] theorem runs_cons (s : S) (r : Ss) (ρ : Env') : runsZ Γ G fu (.cons s r) ρ = (runZ Γ G fu s ρ).seq fun ρ1 => runsZ Γ G fu r ρ1 := by
  simp only [Zruns, Zrun]
  simp only [runs]
  cases run Γ G fu s ρ <;> rfl
@[simp] theorem run_ife (c : E) (a b : Ss) (ρ : Env') : runZ Γ G fu (.ife c a b) ρ = .of (evZ Γ G c ρ) fun v ρ1 => match v with
  | .val (.d (.bool true)) => runsZ Γ G fu a ρ1
  | .val (.d (.bool false)) => runsZ Γ G fu b ρ1
  | _ => .bad := by simp only [Zev, Zevs, Zevb, Zevi, Zevp, Zrun, Zruns]; first | (simp only [run]; done) | (simp only [run]; rfl) | (simp only [run, Zev, Zruns]; done) | (simp only [run, Zev, Zruns]; rfl)
@[simp] theorem run_whl (c : E) (b : Ss) (ρ : Env') : runZ Γ G fu (.whl c b) ρ = whlS Γ G fu c b fu ρ := by simp only [Zev, Zevs, Zevb, Zevi, Zevp, Zrun, Zruns]; first | (simp only [run, whlS]; done) | (simp only [run, whlS]; rfl) | (simp only [run, whlS, Zev, Zruns]; done) | (simp only [run, whlS, Zev, Zruns]; rfl)
@[simp] theorem run_fr (tg : Tg) (it : It) (b : Ss) (ρ : Env') : runZ Γ G fu (.fr tg it b) ρ = .of (eviZ Γ G it ρ) fun ms ρ1 => forS Γ G fu tg b ms ρ1 := by simp only [Zev, Zevs, Zevb, Zevi, Zevp, Zrun, Zruns]; first | (simp only [run, forS]; done) | (simp only [run, forS]; rfl) | (simp only [run, forS, Zev, Zruns]; done) | (simp only [run, forS, Zev, Zruns]; rfl)
@[simp] theorem run_asg (i : Nat) (e : E) (ρ : Env') : runZ Γ G fu (.asg i e) ρ = .of (evZ Γ G e ρ) fun v ρ1 => match v with
  | .fre w => (match asgN ρ1 i (.ow w) with
    | some ρ2 => .nx ρ2
    | none => .bad)
  | v => (match give ρ1 v with
    | some (w, ρ2) => (match asgN ρ2 i (.sh w) with
      | some ρ3 => .nx ρ3
      | none => .bad)
    | none => .bad) := by simp only [Zev, Zevs, Zevb, Zevi, Zevp, Zrun, Zruns]; first | (simp only [run]; done) | (simp only [run]; rfl) | (simp only [run, Zev, Zruns]; done) | (simp only [run, Zev, Zruns]; rfl)
@[simp] theorem run_asgT (tg : Tg) (e : E) (ρ : Env') : runZ Γ G fu (.asgT tg e) ρ = .of (evZ Γ G e ρ) fun v ρ1 => match give ρ1 v with
  | some (.d d, ρ2) => (match asgP ρ2 tg d with
    | some ρ3 => .nx ρ3
    | none => .bad)
  | _ => .bad := by simp only [Zev, Zevs, Zevb, Zevi, Zevp, Zrun, Zruns]; first | (simp only [run]; done) | (simp only [run]; rfl) | (simp only [run, Zev, Zruns]; done) | (simp only [run, Zev, Zruns]; rfl)
@[simp] theorem run_par (is : List Nat) (es : Es) (ρ : Env') : runZ Γ G fu (.par is es) ρ = .of (evpZ Γ G es ρ) fun vs ρ1 => match parSet is vs ρ1 with
  | some ρ2 => .nx ρ2
  | none => .bad := by simp only [Zev, Zevs, Zevb, Zevi, Zevp, Zrun, Zruns]; first | (simp only [run]; done) | (simp only [run]; rfl) | (simp only [run, Zev, Zruns]; done) | (simp only [run, Zev, Zruns]; rfl)
@[simp] theorem evp_nil (ρ : Env') : evpZ Γ G .nil ρ = .ok [] ρ := by simp only [Zev, Zevs, Zevb, Zevi, Zevp, Zrun, Zruns]; first | (simp only [evp]; done) | (simp only [evp]; rfl) | (simp only [evp, Zev, Zruns]; done) | (simp only [evp, Zev, Zruns]; rfl)
@[simp] theorem evp_cons (e : E) (r : Es) (ρ : Env') : evpZ Γ G (.cons e r) ρ = (evZ Γ G e ρ).bind fun v ρ1 => match v with
  | .fre w => (evpZ Γ G r ρ1).bind fun q ρ2 => .ok (.fre w :: q) ρ2
  | v => (match give ρ1 v with
    | some (w, ρ2) => (evpZ Γ G r ρ2).bind fun q ρ3 => .ok (.val w :: q) ρ3
    | none => .bad) := by simp only [Zev, Zevs, Zevb, Zevi, Zevp, Zrun, Zruns]; first | (simp only [evp]; done) | (simp only [evp]; rfl) | (simp only [evp, Zev, Zruns]; done) | (simp only [evp, Zev, Zruns]; rfl)
@[simp] theorem run_six (i : Nat) (k v : E) (ρ : Env') : runZ Γ G fu (.six i k v) ρ = .of (evZ Γ G v ρ) fun v' ρ1 => match give ρ1 v' with
  | some (w, ρ2) => (match ρ2[i]? with
    | some (.ow _) => .of (evZ Γ G k ρ2) fun k' ρ3 => (match give ρ3 k' with
      | some (kw, ρ4) => (match (ρ4[i]?).bind fun x => sixW x kw w with
        | some x' => .nx (ρ4.set i x')
        | none => .bad)
      | none => .bad)
    | _ => .bad)
  | none => .bad := by simp only [Zev, Zevs, Zevb, Zevi, Zevp, Zrun, Zruns]; first | (simp only [run]; done) | (simp only [run]; rfl) | (simp only [run, Zev, Zruns]; done) | (simp only [run, Zev, Zruns]; rfl)
@[simp] theorem run_app (i : Nat) (e : E) (ρ : Env') : runZ Γ G fu (.app i e) ρ = match (ρ[i]?).bind ownL with
  | none => .bad
  | some _ => .of (evZ Γ G e ρ) fun v ρ1 => match give ρ1 v with
    | some (.d d, ρ2) => (match ρ2[i]? with
      | some x => (match ownL x with
        | some ds => if ds.length < 1000000 then .nx (ρ2.set i (reL x (.d (.list (ds ++ [d]))))) else .bad
        | none => .bad)
      | none => .bad)
    | _ => .bad := by simp only [Zev, Zevs, Zevb, Zevi, Zevp, Zrun, Zruns]; first | (simp only [run]; done) | (simp only [run]; rfl) | (simp only [run, Zev, Zruns]; done) | (simp only [run, Zev, Zruns]; rfl)
@[simp] theorem run_ext (i : Nat) (e : E) (ρ : Env') : runZ Γ G fu (.ext i e) ρ = match (ρ[i]?).bind ownL with
  | none => .bad
  | some _ => .of (evZ Γ G e ρ) fun v ρ1 => match give ρ1 v with
    | some (.d (.list es), ρ2) => (match ρ2[i]? with
      | some x => (match ownL x with
        | some ds => if ds.length + es.length ≤ 1000000 then .nx (ρ2.set i (reL x (.d (.list (ds ++ es))))) else .bad
        | none => .bad)
      | none => .bad)
    | _ => .bad := by simp only [Zev, Zevs, Zevb, Zevi, Zevp, Zrun, Zruns]; first | (simp only [run]; done) | (simp only [run]; rfl) | (simp only [run, Zev, Zruns]; done) | (simp only [run, Zev, Zruns]; rfl)
@[simp] theorem run_ex (e : E) (ρ : Env') : runZ Γ G fu (.ex e) ρ = .of (evZ Γ G e ρ) fun _ ρ1 => .nx ρ1 := by simp only [Zev, Zevs, Zevb, Zevi, Zevp, Zrun, Zruns]; first | (simp only [run]; done) | (simp only [run]; rfl) | (simp only [run, Zev, Zruns]; done) | (simp only [run, Zev, Zruns]; rfl)
@[simp] theorem run_ret (e : E) (ρ : Env') : runZ Γ G fu (.ret e) ρ = .of (evZ Γ G e ρ) fun v ρ1 => .rt v ρ1 := by simp only [Zev, Zevs, Zevb, Zevi, Zevp, Zrun, Zruns]; first | (simp only [run]; done) | (simp only [run]; rfl) | (simp only [run, Zev, Zruns]; done) | (simp only [run, Zev, Zruns]; rfl)
@[simp] theorem run_retN (ρ : Env') : runZ Γ G fu .retN ρ = .rt (.val (.d .none)) ρ := by simp only [Zev, Zevs, Zevb, Zevi, Zevp, Zrun, Zruns]; first | (simp only [run]; done) | (simp only [run]; rfl) | (simp only [run, Zev, Zruns]; done) | (simp only [run, Zev, Zruns]; rfl)
@[simp] theorem run_rai (c : Nat) (ρ : Env') : runZ Γ G fu (.rai c) ρ = .exc c := by simp only [Zev, Zevs, Zevb, Zevi, Zevp, Zrun, Zruns]; first | (simp only [run]; done) | (simp only [run]; rfl) | (simp only [run, Zev, Zruns]; done) | (simp only [run, Zev, Zruns]; rfl)
end
@[simp] def resOf (mu : Option Nat) : SO → Option Res
  | .bad => none
  | .exc c => some (.exc c)
  | .nx ρ => retOf ρ mu (.val (.d .none))
  | .rt v ρ => retOf ρ mu v
theorem fnRun_eq (Γ : List Fn) (G : List PD) (fu n : Nat) (mu : Option Nat) (b : Ss) (ws : List W) : fnRun Γ G fu n mu b ws = resOf mu (runsZ Γ G fu b (startE n mu ws)) := by
  rw [Zruns]
  unfold fnRun resOf
  cases runs Γ G fu b (startE n mu ws) <;> rfl
@[simp] def tryOf : SO → Option Res
  | .bad => none
  | .exc c => if c < 15 then some (.ret (.d (.tuple [.str "refused", .int (c : Int)])) false (.opq .non)) else none
  | .nx ρ => retOf ρ none (.val (.d .none))
  | .rt v ρ => retOf ρ none v
theorem fnTry_eq (Γ : List Fn) (G : List PD) (fu n : Nat) (b : Ss) (ws : List W) : fnTry Γ G fu n b ws = tryOf (runsZ Γ G fu b (startE n none ws)) := by
  rw [Zruns]
  unfold fnTry tryOf
  cases runs Γ G fu b (startE n none ws) <;> rfl
/-! ### loops -/
section
variable {Γ : List Fn} {G : List PD} {fu : Nat}
/-- a comprehension whose parts leave the slots as they are: c the test, g the item -/
theorem lcE_pure {tg : Tg} {ft elt : E} {ρ : Env'} (pre : Im → Env') (c : Im → Bool) (g : Im → PD) : ∀ {ms : List Im} {acc : List PD},
    (∀ m ∈ ms, asgI ρ tg m = some (pre m) ∧ evZ Γ G ft (pre m) = .ok (.val (.d (.bool (c m)))) (pre m) ∧ (c m = true → ∃ v, evZ Γ G elt (pre m) = .ok v (pre m) ∧ give (pre m) v = some (.d (g m), pre m)) ∧ wipeE (pre m) tg.slots = ρ) →
    lcE Γ G tg ft elt ms ρ acc = .ok (acc ++ (ms.filter c).map g) ρ
  | [], acc, _ => by simp [lcE, lcRun]
  | m :: ms, acc, h => by
    obtain ⟨h1, h2, h3, h4⟩ := h m List.mem_cons_self
    have ih := fun acc => lcE_pure pre c g (acc := acc) fun m' hm' => h m' (List.mem_cons_of_mem _ hm')
    unfold lcE at ih ⊢
    unfold lcRun
    rw [h1]
    dsimp only
    rw [h2]
    cases hc : c m with
    | false =>
      dsimp only
      rw [h4, ih]
      simp [hc]
    | true =>
      obtain ⟨v, h5, h6⟩ := h3 hc
      dsimp only
      rw [h5]
      dsimp only
      rw [h6]
      dsimp only
      rw [h4, ih]
      simp [hc]
/-- a comprehension with a state: I by the turn -/
theorem lcE_inv {tg : Tg} {ft elt : E} {ms : List Im} {ρ : Env'} (I : Nat → Env' → List PD → Prop) (h0 : I 0 ρ [])
    (step : ∀ (i : Nat) (m : Im) (ρ : Env') (acc : List PD), ms[i]? = some m → I i ρ acc → ∃ ρ1, asgI ρ tg m = some ρ1 ∧ ∃ b ρ2, evZ Γ G ft ρ1 = .ok (.val (.d (.bool b))) ρ2 ∧
      ((b = true ∧ ∃ v ρ3 d ρ4, evZ Γ G elt ρ2 = .ok v ρ3 ∧ give ρ3 v = some (.d d, ρ4) ∧ I (i + 1) (wipeE ρ4 tg.slots) (acc ++ [d])) ∨ (b = false ∧ I (i + 1) (wipeE ρ2 tg.slots) acc))) :
    ∃ ds ρ', lcE Γ G tg ft elt ms ρ [] = .ok ds ρ' ∧ I ms.length ρ' ds := by
  have aux : ∀ (n i : Nat) (ρ : Env') (acc : List PD), i + n = ms.length → I i ρ acc → ∃ ds ρ', lcE Γ G tg ft elt (ms.drop i) ρ acc = .ok ds ρ' ∧ I ms.length ρ' ds := by
    intro n
    induction n with
    | zero =>
      intro i ρ acc e h
      have e : i = ms.length := by omega
      subst e
      rw [List.drop_length]
      exact ⟨acc, ρ, by simp [lcE, lcRun], h⟩
    | succ n ih =>
      intro i ρ acc e h
      have hi : i < ms.length := by omega
      rw [List.drop_eq_getElem_cons hi]
      obtain ⟨ρ1, h1, b, ρ2, h2, h3⟩ := step i ms[i] ρ acc (List.getElem?_eq_getElem hi) h
      unfold lcE at ih ⊢
      unfold lcRun
      rw [h1]
      dsimp only
      rw [h2]
      rcases h3 with ⟨rfl, v, ρ3, d, ρ4, h4, h5, h6⟩ | ⟨rfl, h6⟩
      · dsimp only
        rw [h4]
        dsimp only
        rw [h5]
        exact ih (i + 1) _ _ (by omega) h6
      · exact ih (i + 1) _ _ (by omega) h6
  have := aux ms.length 0 ρ [] (by omega) h0
  rw [List.drop_zero] at this
  exact this
/-- a loop that runs to its end -/
theorem forS_inv {tg : Tg} {b : Ss} {ms : List Im} {ρ : Env'} (I : Nat → Env' → Prop) (h0 : I 0 ρ)
    (step : ∀ (i : Nat) (m : Im) (ρ : Env'), ms[i]? = some m → I i ρ → ∃ ρ1 ρ2, asgI ρ tg m = some ρ1 ∧ runsZ Γ G fu b ρ1 = .nx ρ2 ∧ I (i + 1) ρ2) : ∃ ρ', forS Γ G fu tg b ms ρ = .nx ρ' ∧ I ms.length ρ' := by
  have aux : ∀ (n i : Nat) (ρ : Env'), i + n = ms.length → I i ρ → ∃ ρ', forS Γ G fu tg b (ms.drop i) ρ = .nx ρ' ∧ I ms.length ρ' := by
    intro n
    induction n with
    | zero =>
      intro i ρ e h
      have e : i = ms.length := by omega
      subst e
      rw [List.drop_length]
      exact ⟨ρ, by simp [forS, forRun], h⟩
    | succ n ih =>
      intro i ρ e h
      have hi : i < ms.length := by omega
      rw [List.drop_eq_getElem_cons hi]
      obtain ⟨ρ1, ρ2, h1, h2, h3⟩ := step i ms[i] ρ (List.getElem?_eq_getElem hi) h
      unfold forS at ih ⊢
      unfold forRun
      rw [h1]
      dsimp only
      rw [h2]
      exact ih (i + 1) ρ2 (by omega) h3
  have := aux ms.length 0 ρ (by omega) h0
  rw [List.drop_zero] at this
  exact this
/-- a loop that may return on its way -/
theorem forS_stop {tg : Tg} {b : Ss} {ms : List Im} {ρ : Env'} (I : Nat → Env' → Prop) (R : SO → Prop) (h0 : I 0 ρ)
    (step : ∀ (i : Nat) (m : Im) (ρ : Env'), ms[i]? = some m → I i ρ → ∃ ρ1, asgI ρ tg m = some ρ1 ∧ ((∃ ρ2, runsZ Γ G fu b ρ1 = .nx ρ2 ∧ I (i + 1) ρ2) ∨ ((∀ ρ2, runsZ Γ G fu b ρ1 ≠ .nx ρ2) ∧ R (runsZ Γ G fu b ρ1)))) :
    (∃ ρ', forS Γ G fu tg b ms ρ = .nx ρ' ∧ I ms.length ρ') ∨ R (forS Γ G fu tg b ms ρ) := by
  have aux : ∀ (n i : Nat) (ρ : Env'), i + n = ms.length → I i ρ → (∃ ρ', forS Γ G fu tg b (ms.drop i) ρ = .nx ρ' ∧ I ms.length ρ') ∨ R (forS Γ G fu tg b (ms.drop i) ρ) := by
    intro n
    induction n with
    | zero =>
      intro i ρ e h
      have e : i = ms.length := by omega
      subst e
      rw [List.drop_length]
      exact .inl ⟨ρ, by simp [forS, forRun], h⟩
    | succ n ih =>
      intro i ρ e h
      have hi : i < ms.length := by omega
      rw [List.drop_eq_getElem_cons hi]
      obtain ⟨ρ1, h1, h2⟩ := step i ms[i] ρ (List.getElem?_eq_getElem hi) h
      unfold forS at ih ⊢
      unfold forRun
      rw [h1]
      dsimp only
      rcases h2 with ⟨ρ2, h2, h3⟩ | ⟨h2, h3⟩
      · rw [h2]
        exact ih (i + 1) ρ2 (by omega) h3
      · refine .inr ?_
        cases q : runsZ Γ G fu b ρ1 with
        | nx ρ2 => exact absurd q (h2 ρ2)
        | bad => rw [q] at h3; exact h3
        | exc c => rw [q] at h3; exact h3
        | rt v ρ2 => rw [q] at h3; exact h3
  have := aux ms.length 0 ρ (by omega) h0
  rw [List.drop_zero] at this
  exact this
/-- while: a measure that falls -/
theorem whlS_inv {c : E} {b : Ss} (I : Env' → Prop) (μ : Env' → Nat) (J : Env' → Prop)
    (step : ∀ ρ, I ρ → (∃ ρ1 ρ2, evZ Γ G c ρ = .ok (.val (.d (.bool true))) ρ1 ∧ runsZ Γ G fu b ρ1 = .nx ρ2 ∧ I ρ2 ∧ μ ρ2 < μ ρ) ∨ ∃ ρ1, evZ Γ G c ρ = .ok (.val (.d (.bool false))) ρ1 ∧ J ρ1) :
    ∀ (n : Nat) (ρ : Env'), I ρ → μ ρ < n → ∃ ρ', whlS Γ G fu c b n ρ = .nx ρ' ∧ J ρ'
  | 0, ρ, _, hn => absurd hn (Nat.not_lt_zero _)
  | n + 1, ρ, h, hn => by
    unfold whlS whlRun
    rcases step ρ h with ⟨ρ1, ρ2, h1, h2, h3, h4⟩ | ⟨ρ1, h1, h2⟩
    · rw [h1]
      dsimp only
      rw [h2]
      exact whlS_inv I μ J step n ρ2 h3 (by omega)
    · rw [h1]
      exact ⟨ρ1, rfl, h2⟩
end
theorem goF_ret {fn : Fn} {ws : List W} {ρ : Env'} {w out : W} {fr : Bool} (h : fn.f ws = some (.ret w fr out)) (hl : ws.length = fn.ar) : goF fn ws ρ = .ok (mkV (w, fr)) ρ := by
  rw [goF_eq]; unfold goF0
  rw [if_pos hl, h]
theorem goF_exc {fn : Fn} {ws : List W} {ρ : Env'} {c : Nat} (h : fn.f ws = some (.exc c)) (hl : ws.length = fn.ar) : goF fn ws ρ = .exc c := by
  rw [goF_eq]; unfold goF0
  rw [if_pos hl, h]
/-- the call of a def that changes its k-th argument -/
theorem goM_ret {fn : Fn} {k j : Nat} {ws : List W} {ρ : Env'} {w w0 out : W} {fr : Bool} {x : Sl} (hx : ρ[j]? = some x) (hw : x.w = some w0) (h : fn.f (ws.set k w0) = some (.ret w fr out)) (hl : fn.fits ws.length = true) (ho : x.owned = true) :
    goM fn k ws (some j) ρ = .ok (mkV (w, fr)) (ρ.set j (reL x out)) := by
  rw [goM_eq]; unfold goM0
  dsimp only
  rw [hx]
  simp only [Option.bind_some, hw]
  unfold Fn.go
  rw [List.length_set, if_pos hl, h]
  dsimp only
  rw [hx]
  cases x with
  | un => cases ho
  | sh _ => cases ho
  | ow _ => rfl
  | mu _ => rfl
theorem goM_mu {fn : Fn} {k j : Nat} {ws : List W} {ρ : Env'} {w w0 out : W} {fr : Bool} (hx : ρ[j]? = some (.mu w0)) (h : fn.f (ws.set k w0) = some (.ret w fr out)) (hl : fn.fits ws.length = true) :
    goM fn k ws (some j) ρ = .ok (mkV (w, fr)) (ρ.set j (.mu out)) := goM_ret hx rfl h hl rfl
theorem goM_ow {fn : Fn} {k j : Nat} {ws : List W} {ρ : Env'} {w w0 out : W} {fr : Bool} (hx : ρ[j]? = some (.ow w0)) (h : fn.f (ws.set k w0) = some (.ret w fr out)) (hl : fn.fits ws.length = true) :
    goM fn k ws (some j) ρ = .ok (mkV (w, fr)) (ρ.set j (.ow out)) := goM_ret hx rfl h hl rfl
/-! ### data -/
mutual
/-- data without dicts -/
def okAll : PD → Bool
  | .dict _ => false
  | .list xs => okAlls xs
  | .tuple xs => okAlls xs
  | _ => true
def okAlls : List PD → Bool
  | [] => true
  | d :: r => okAll d && okAlls r
end
theorem all_id {α : Type} (g : α → Bool) (xs : List α) : (xs.map g).all id = xs.all g := by
  rw [List.all_map]; rfl
theorem range_get {lo : Int} {n i : Nat} {m : Im} (h : (rangeI lo n)[i]? = some m) : i < n ∧ m = .one (.int (lo + i)) := by
  unfold rangeI at h
  rw [List.getElem?_map] at h
  cases q : (List.range n)[i]? with
  | none => rw [q] at h; cases h
  | some k =>
    rw [q] at h
    obtain ⟨hi, e⟩ := List.getElem?_eq_some_iff.mp q
    rw [List.getElem_range] at e
    subst e
    cases h
    exact ⟨by simpa using hi, rfl⟩
theorem rangeI_length (lo : Int) (n : Nat) : (rangeI lo n).length = n := by simp [rangeI]
@[simp] theorem eqv_int (i j : Int) : PyData.eqv (.int i) (.int j) = decide (i = j) := by
  show (i == j) = _
  by_cases h : i = j <;> simp [h]
@[simp] theorem eqv_str (x y : Str) : PyData.eqv (.str x) (.str y) = decide (x = y) := by
  show (x == y) = _
  by_cases h : x = y <;> simp [h]
@[simp] theorem eqv_int_str (i : Int) (x : Str) : PyData.eqv (.int i) (.str x) = false := rfl
@[simp] theorem eqv_str_int (i : Int) (x : Str) : PyData.eqv (.str x) (.int i) = false := rfl
@[simp] theorem eqv_list (xs ys : List PD) : PyData.eqv (.list xs) (.list ys) = PyData.eqvAll xs ys := rfl
@[simp] theorem eqv_tuple (xs ys : List PD) : PyData.eqv (.tuple xs) (.tuple ys) = PyData.eqvAll xs ys := rfl
@[simp] theorem eqv_list_tuple (xs ys : List PD) : PyData.eqv (.list xs) (.tuple ys) = false := rfl
@[simp] theorem eqv_tuple_list (xs ys : List PD) : PyData.eqv (.tuple xs) (.list ys) = false := rfl
@[simp] theorem eqvAll_nil : PyData.eqvAll [] [] = true := rfl
@[simp] theorem eqvAll_cons (x y : PD) (xs ys : List PD) : PyData.eqvAll (x :: xs) (y :: ys) = (PyData.eqv x y && PyData.eqvAll xs ys) := rfl
@[simp] theorem eqvAll_nilr (xs : List PD) : PyData.eqvAll xs [] = xs.isEmpty := by cases xs <;> rfl
@[simp] theorem eqvAll_nill (xs : List PD) : PyData.eqvAll [] xs = xs.isEmpty := by cases xs <;> rfl
mutual
theorem eqv_self : ∀ d : PD, okAll d = true → PyData.eqv d d = true
  | .none, _ => rfl
  | .bool b, _ => by show (b == b) = true; simp
  | .int i, _ => by simp
  | .str x, _ => by simp
  | .list xs, h => by rw [eqv_list]; exact eqvAll_self xs (by simpa [okAll] using h)
  | .tuple xs, h => by rw [eqv_tuple]; exact eqvAll_self xs (by simpa [okAll] using h)
  | .dict _, h => by simp [okAll] at h
theorem eqvAll_self : ∀ ds : List PD, okAlls ds = true → PyData.eqvAll ds ds = true
  | [], _ => rfl
  | d :: r, h => by
    simp only [okAlls, Bool.and_eq_true] at h
    rw [eqvAll_cons, eqv_self d h.1, eqvAll_self r h.2]
    rfl
end
theorem eqv_nil (xs : List PD) : PyData.eqv (.list xs) (.list []) = xs.isEmpty := by cases xs <;> rfl
theorem ixN_nat (n k : Nat) (h : k < n) : ixN n (k : Int) = some k := by
  unfold ixN
  rw [if_pos (by omega), if_pos (by omega)]
  simp
theorem atI_of {α : Type} (xs : List α) (k : Nat) (h : k < xs.length) : atI xs (k : Int) = some xs[k] := by
  unfold atI
  rw [ixN_nat _ _ h]
  simp [h]
theorem atI_int {α : Type} (xs : List α) (k : Int) (h0 : 0 ≤ k) (h : k < xs.length) : ∃ x, atI xs k = some x ∧ x ∈ xs := by
  obtain ⟨n, rfl⟩ := Int.eq_ofNat_of_zero_le h0
  have hn : n < xs.length := by omega
  exact ⟨xs[n], atI_of xs n hn, List.getElem_mem hn⟩
@[simp] theorem depth_none : PyData.depth .none = 0 := rfl
@[simp] theorem depth_bool (b : Bool) : PyData.depth (.bool b) = 0 := rfl
@[simp] theorem depth_int (i : Int) : PyData.depth (.int i) = 0 := rfl
@[simp] theorem depth_str (s : Str) : PyData.depth (.str s) = 0 := rfl
@[simp] theorem depth_list (xs : List PD) : PyData.depth (.list xs) = PyData.depthAll xs + 1 := rfl
@[simp] theorem depth_tuple (xs : List PD) : PyData.depth (.tuple xs) = PyData.depthAll xs + 1 := rfl
@[simp] theorem depthAll_nil : PyData.depthAll [] = 0 := rfl
@[simp] theorem depthAll_cons (x : PD) (xs : List PD) : PyData.depthAll (x :: xs) = max x.depth (PyData.depthAll xs) := rfl
theorem boolsOf_map2 {α : Type} (g : α → Bool) (xs : List α) : boolsOf (xs.map fun x => .bool (g x)) = some (xs.map g) := by
  have := boolsOf_map (xs.map g)
  rw [List.map_map] at this
  exact this
/-- the thing of a walk -/
def Im.d : Im → PD
  | .one d => d
  | .two a _ => a
def Im.d2 : Im → PD
  | .one d => d
  | .two _ b => b
theorem filter_true' {α : Type} (xs : List α) : xs.filter (fun _ => true) = xs := by simp
theorem one_mem {ds : List PD} {m : Im} (h : m ∈ ds.map Im.one) : ∃ d ∈ ds, m = .one d := by
  simp only [List.mem_map] at h
  obtain ⟨d, h1, h2⟩ := h
  exact ⟨d, h1, h2.symm⟩
/-- a comprehension over data, every item kept: g the item -/
theorem lcE_data {Γ : List Fn} {G : List PD} {i : Nat} {elt : E} {ρ : Env'} (g : PD → PD) {ds : List PD} (hi : ρ[i]? = some .un)
    (h : ∀ d ∈ ds, ∃ v, evZ Γ G elt (ρ.set i (.sh (.d d))) = .ok v (ρ.set i (.sh (.d d))) ∧ give (ρ.set i (.sh (.d d))) v = some (.d (g d), ρ.set i (.sh (.d d)))) :
    lcE Γ G (.n i) (.cst (.bool true)) elt (ds.map .one) ρ [] = .ok (ds.map g) ρ := by
  rw [lcE_pure (fun m => ρ.set i (.sh (.d m.d))) (fun _ => true) (fun m => g m.d)]
  · rw [filter_true', List.map_map, List.nil_append]
    rfl
  · intro m hm
    obtain ⟨d, hd, rfl⟩ := one_mem hm
    obtain ⟨v, h1, h2⟩ := h d hd
    refine ⟨by simp [asgI, hi, Im.d], by simp, fun _ => ⟨v, h1, h2⟩, ?_⟩
    obtain ⟨hl, he⟩ := List.getElem?_eq_some_iff.mp hi
    simp [Im.d]
    rw [← he, List.set_getElem_self]
theorem okAlls_mem : ∀ {ds : List PD}, okAlls ds = true → ∀ d ∈ ds, okAll d = true
  | [], _, d, h => by simp at h
  | x :: r, h, d, hd => by
    simp only [okAlls, Bool.and_eq_true] at h
    rcases List.mem_cons.mp hd with rfl | hd
    · exact h.1
    · exact okAlls_mem h.2 d hd
theorem okAlls_of : ∀ {ds : List PD}, (∀ d ∈ ds, okAll d = true) → okAlls ds = true
  | [], _ => rfl
  | x :: r, h => by
    simp only [okAlls, Bool.and_eq_true]
    exact ⟨h x List.mem_cons_self, okAlls_of fun d hd => h d (List.mem_cons_of_mem _ hd)⟩
def okD : PD → Bool
  | .dict _ => false
  | _ => true
theorem okAll_okD {d : PD} (h : okAll d = true) : okD d = true := by
  cases d <;> first | rfl | simp [okAll] at h
theorem cutD_tail (ds : List PD) : cutD ds (some 1) none = ds.drop 1 := by
  unfold cutD HT.sIx
  cases ds with
  | nil => simp
  | cons d r => simp
end Hil
/-! Hil24: a body, statement by statement. -/
namespace Hil
open PySem L2
section
variable {Γ : List Fn} {G : List PD} {fu : Nat} {P : SO → Prop}
theorem st_nx {s : S} {r : Ss} {ρ ρ1 : Env'} (h : runZ Γ G fu s ρ = .nx ρ1) (k : P (runsZ Γ G fu r ρ1)) : P (runsZ Γ G fu (.cons s r) ρ) := by
  rw [runs_cons, h]
  exact k
theorem st_rt {s : S} {r : Ss} {ρ ρ1 : Env'} {v : Vl} (h : runZ Γ G fu s ρ = .rt v ρ1) (k : P (.rt v ρ1)) : P (runsZ Γ G fu (.cons s r) ρ) := by
  rw [runs_cons, h]
  exact k
theorem st_exc {s : S} {r : Ss} {ρ : Env'} {c : Nat} (h : runZ Γ G fu s ρ = .exc c) (k : P (.exc c)) : P (runsZ Γ G fu (.cons s r) ρ) := by
  rw [runs_cons, h]
  exact k
/-- if: the test is false, there is no else -/
theorem st_no {c : E} {a r : Ss} {ρ ρ1 : Env'} (h : evZ Γ G c ρ = .ok (.val (.d (.bool false))) ρ1) (k : P (runsZ Γ G fu r ρ1)) : P (runsZ Γ G fu (.cons (.ife c a .nil) r) ρ) := by
  rw [runs_cons, run_ife, h, of_ok]
  show P ((runsZ Γ G fu .nil ρ1).seq fun ρ1 => runsZ Γ G fu r ρ1)
  rw [runs_nil]
  exact k
/-- if: the test is true, and the branch returns -/
theorem st_yes {c e : E} {a r r' : Ss} {ρ ρ1 ρ2 : Env'} {v : Vl} (h : evZ Γ G c ρ = .ok (.val (.d (.bool true))) ρ1) (h2 : evZ Γ G e ρ1 = .ok v ρ2) (k : P (.rt v ρ2)) : P (runsZ Γ G fu (.cons (.ife c (.cons (.ret e) a) r') r) ρ) := by
  rw [runs_cons, run_ife, h, of_ok, runs_cons, run_ret, h2]
  exact k
theorem st_for {tg : Tg} {it : It} {b r : Ss} {ρ ρ1 : Env'} {ms : List Im} (hi : eviZ Γ G it ρ = .ok ms ρ1) (I : Nat → Env' → Prop) (h0 : I 0 ρ1)
    (step : ∀ (i : Nat) (m : Im) (ρ : Env'), ms[i]? = some m → I i ρ → ∃ ρ1 ρ2, asgI ρ tg m = some ρ1 ∧ runsZ Γ G fu b ρ1 = .nx ρ2 ∧ I (i + 1) ρ2) (k : ∀ ρ', I ms.length ρ' → P (runsZ Γ G fu r ρ')) : P (runsZ Γ G fu (.cons (.fr tg it b) r) ρ) := by
  obtain ⟨ρ', h, hI⟩ := forS_inv (Γ := Γ) (G := G) (fu := fu) (tg := tg) (b := b) (ms := ms) (ρ := ρ1) I h0 step
  refine st_nx (ρ1 := ρ') ?_ (k ρ' hI)
  rw [run_fr, hi]
  exact h
theorem st_whl {c : E} {b r : Ss} {ρ : Env'} (I : Env' → Prop) (μ : Env' → Nat) (J : Env' → Prop) (h0 : I ρ) (hf : μ ρ < fu)
    (step : ∀ ρ, I ρ → (∃ ρ1 ρ2, evZ Γ G c ρ = .ok (.val (.d (.bool true))) ρ1 ∧ runsZ Γ G fu b ρ1 = .nx ρ2 ∧ I ρ2 ∧ μ ρ2 < μ ρ) ∨ ∃ ρ1, evZ Γ G c ρ = .ok (.val (.d (.bool false))) ρ1 ∧ J ρ1)
    (k : ∀ ρ', J ρ' → P (runsZ Γ G fu r ρ')) : P (runsZ Γ G fu (.cons (.whl c b) r) ρ) := by
  obtain ⟨ρ', h, hJ⟩ := whlS_inv (Γ := Γ) (G := G) (fu := fu) (c := c) (b := b) I μ J step fu ρ h0 hf
  refine st_nx (ρ1 := ρ') ?_ (k ρ' hJ)
  rw [run_whl]
  exact h
/-- name = [..] -/
theorem st_lc {i : Nat} {tg : Tg} {it : It} {ft elt : E} {r : Ss} {ρ ρ1 ρ2 ρ3 : Env'} {ms : List Im} {ds : List PD} (hi : eviZ Γ G it ρ = .ok ms ρ1) (hf : freeE ρ1 tg.slots = true) (hm : ms.length ≤ 1000000)
    (L : lcE Γ G tg ft elt ms (wipeE ρ1 tg.slots) [] = .ok ds ρ2) (ha : asgN (backE ρ1 ρ2 tg.slots) i (.ow (.d (.list ds))) = some ρ3) (k : P (runsZ Γ G fu r ρ3)) : P (runsZ Γ G fu (.cons (.asg i (.lc tg it ft elt)) r) ρ) := by
  refine st_nx (ρ1 := ρ3) ?_ k
  rw [run_asg, ev_lc, hi, bind_ok, if_pos ⟨hf, hm⟩, L, bind_ok, of_ok]
  dsimp only
  rw [ha]
/-- the value of a comprehension -/
theorem ev_lc_of {tg : Tg} {it : It} {ft elt : E} {ρ ρ1 ρ2 : Env'} {ms : List Im} {ds : List PD} (hi : eviZ Γ G it ρ = .ok ms ρ1) (hf : freeE ρ1 tg.slots = true) (hm : ms.length ≤ 1000000) (L : lcE Γ G tg ft elt ms (wipeE ρ1 tg.slots) [] = .ok ds ρ2) :
    evZ Γ G (.lc tg it ft elt) ρ = .ok (.fre (.d (.list ds))) (backE ρ1 ρ2 tg.slots) := by
  rw [ev_lc, hi, bind_ok, if_pos ⟨hf, hm⟩, L, bind_ok]
end
/-- it returns w -/
def Ret (w : W) (o : SO) : Prop := ∃ ρ, o = .rt (.val w) ρ
theorem Ret.res {w : W} {o : SO} (h : Ret w o) : resOf none o = some (.ret w false (.opq .non)) := by
  obtain ⟨ρ, rfl⟩ := h
  rfl
/-- a slot that nobody owns -/
def Fre : Sl → Prop
  | .un => True
  | .sh _ => True
  | _ => False
theorem Fre.un : Fre .un := trivial
theorem Fre.sh {w : W} : Fre (.sh w) := trivial
theorem Fre.asg {ρ : Env'} {i : Nat} {x y : Sl} (h : Fre x) (e : ρ[i]? = some x) : asgN ρ i y = some (ρ.set i y) := by
  cases x <;> first
    | exact h.elim
    | (unfold asgN; rw [e])
theorem Fre.free {ρ : Env'} {i : Nat} {x : Sl} (h : Fre x) (e : ρ[i]? = some x) : freeE ρ [i] = true := by
  cases x <;> first
    | exact h.elim
    | (unfold freeE; simp [e])
theorem depthAll_le {n : Nat} : ∀ {ds : List PD}, (∀ d ∈ ds, d.depth ≤ n) → PyData.depthAll ds ≤ n
  | [], _ => by simp
  | d :: r, h => by
    have h1 := h d List.mem_cons_self
    have h2 := depthAll_le (ds := r) fun x hx => h x (List.mem_cons_of_mem _ hx)
    simp only [PyData.depthAll]
    omega
open PySem.Spec PyProof.Rows in
/-- a def that lets nothing out -/
theorem noexc {P : Program} {w : World} {K : PySem.W.Frag} {mg : Str → Option Value} {base : Heap} {k : Nat} {f : Ad} {fd : FuncData} {ps : List Str} {sp : Sp} (F : FnOk P w K mg base (L2.CX P w) k f fd ps sp) :
    FnOk P w K mg base L2.CX0 k f fd ps (fun vs H Q _ => sp vs H Q fun _ _ _ => False) :=
  ⟨fun vs H Q E h => F.len vs H Q _ h, fun A outer s H args us vs Q E hr e0 hb r h => codeAny_mono (F.run A outer s H args us vs Q (fun _ _ _ => False) hr e0 hb r h) fun r s' hq => by
    cases r with
    | ok fl => cases fl <;> exact hq
    | error e =>
      obtain ⟨_, _, _, _, _, _, _, _, _, _, _, _, z⟩ := hq
      exact z.elim⟩
end Hil
/-! TreeM: trees as lists of numbers, plainly. -/
namespace HT0
/-- how far h is, looked for so many steps -/
def farL (t : List Nat) : Nat → Nat → Option Nat
  | _, 0 => some 0
  | 0, _ + 1 => none
  | n + 1, h + 1 => (farL t n (t.getD h 0)).map (· + 1)
theorem farL_zero (t : List Nat) (n : Nat) : farL t n 0 = some 0 := by cases n <;> rfl
theorem farL_mono {t : List Nat} : ∀ {n h m : Nat}, farL t n h = some m → ∀ k, n ≤ k → farL t k h = some m
  | n, 0, m, e, k, _ => by rw [farL_zero] at e ⊢; exact e
  | 0, h + 1, m, e, k, _ => by simp [farL] at e
  | n + 1, h + 1, m, e, 0, hk => by omega
  | n + 1, h + 1, m, e, k + 1, hk => by
    simp only [farL, Option.map_eq_some_iff] at e ⊢
    obtain ⟨a, e1, e2⟩ := e
    exact ⟨a, farL_mono e1 k (by omega), e2⟩
theorem farL_le {t : List Nat} : ∀ {n h m : Nat}, farL t n h = some m → m ≤ n
  | n, 0, m, e => by rw [farL_zero] at e; cases e; omega
  | 0, h + 1, m, e => by simp [farL] at e
  | n + 1, h + 1, m, e => by
    simp only [farL, Option.map_eq_some_iff] at e
    obtain ⟨a, e1, e2⟩ := e
    have := farL_le e1
    omega
theorem farL_exact {t : List Nat} : ∀ {n h m : Nat}, farL t n h = some m → farL t m h = some m
  | n, 0, m, e => by rw [farL_zero] at e ⊢; exact e
  | 0, h + 1, m, e => by simp [farL] at e
  | n + 1, h + 1, m, e => by
    simp only [farL, Option.map_eq_some_iff] at e
    obtain ⟨a, e1, e2⟩ := e
    subst e2
    simp only [farL, farL_exact e1, Option.map_some]
/-- a tree: for each hill but the first the one ahead of it -/
def isT (t : List Nat) : Bool := decide (1 ≤ t.length) && (decide (t.length < 8) && ((t.all fun h => decide (h ≤ t.length)) && (List.range (t.length + 1)).all fun h => (farL t (t.length + 1) h).isSome))
structure IsT (t : List Nat) : Prop where
  pos : 1 ≤ t.length
  lt : t.length < 8
  le : ∀ h ∈ t, h ≤ t.length
  led : ∀ h, h ≤ t.length → ∃ m, farL t (t.length + 1) h = some m
theorem isT_iff {t : List Nat} : isT t = true ↔ IsT t := by
  simp only [isT, Bool.and_eq_true, decide_eq_true_eq, List.all_eq_true, List.mem_range, Option.isSome_iff_exists]
  constructor
  · rintro ⟨a, b, c, d⟩
    exact ⟨a, b, c, fun h hh => d h (by omega)⟩
  · rintro ⟨a, b, c, d⟩
    exact ⟨a, b, c, fun h hh => d h (by omega)⟩
/-- how far -/
def rk (t : List Nat) (h : Nat) : Nat := (farL t (t.length + 1) h).getD 0
def up (t : List Nat) (h : Nat) : Nat := t.getD (h - 1) 0
theorem rk_zero (t : List Nat) : rk t 0 = 0 := by simp [rk, farL]
section
variable {t : List Nat} (T : IsT t)
include T
theorem rk_eq {h : Nat} (hh : h ≤ t.length) : farL t (t.length + 1) h = some (rk t h) := by
  obtain ⟨m, e⟩ := T.led h hh
  simp [rk, e]
theorem up_le {h : Nat} (hh : h ≤ t.length) : up t h ≤ t.length := by
  unfold up
  by_cases q : h - 1 < t.length
  · have : t.getD (h - 1) 0 = t[h - 1] := by simp [q]
    rw [this]
    exact T.le _ (List.getElem_mem q)
  · have : t.getD (h - 1) 0 = 0 := by simp [Nat.not_lt.mp q]
    omega
theorem rk_up {h : Nat} (h0 : h ≠ 0) (hh : h ≤ t.length) : rk t h = rk t (up t h) + 1 := by
  have e := rk_eq T hh
  obtain ⟨k, rfl⟩ : ∃ k, h = k + 1 := ⟨h - 1, by omega⟩
  simp only [farL, Option.map_eq_some_iff] at e
  obtain ⟨a, e1, e2⟩ := e
  have e3 := farL_mono e1 (t.length + 1) (by omega)
  have : up t (k + 1) = t.getD k 0 := rfl
  have e4 := rk_eq T (up_le T hh)
  rw [this, e3] at e4
  cases e4
  rw [this]
  omega
theorem rk_pos {h : Nat} (h0 : h ≠ 0) (hh : h ≤ t.length) : 0 < rk t h := by rw [rk_up T h0 hh]; omega
theorem rk_nil {h : Nat} (hh : h ≤ t.length) (e : rk t h = 0) : h = 0 := by
  by_cases h0 : h = 0
  · exact h0
  · have := rk_pos T h0 hh; omega
end
theorem nodup_len : ∀ (l : List Nat) (n : Nat), l.Nodup → (∀ x ∈ l, x < n) → l.length ≤ n
  | l, 0, _, h => by
    cases l with
    | nil => simp
    | cons x r => exact absurd (h x (by simp)) (by omega)
  | l, n + 1, hd, h => by
    have h1 := nodup_len (l.erase n) n (hd.erase n) fun x hx => by
      have hx' := (List.Nodup.mem_erase_iff hd).mp hx
      have := h x hx'.2
      have := hx'.1
      omega
    have h2 := List.length_erase_le (a := n) (l := l)
    by_cases hm : n ∈ l
    · have := List.length_erase_of_mem hm; omega
    · rw [List.erase_of_not_mem hm] at h1; omega
/-- the way down -/
def way (t : List Nat) : Nat → Nat → List Nat
  | 0, h => [h]
  | n + 1, h => if h = 0 then [0] else h :: way t n (up t h)
section
variable {t : List Nat} (T : IsT t)
include T
theorem way_mem : ∀ {n h x : Nat}, h ≤ t.length → x ∈ way t n h → x ≤ t.length ∧ rk t x ≤ rk t h
  | 0, h, x, hh, hx => by
    simp [way] at hx; subst hx; exact ⟨hh, Nat.le_refl _⟩
  | n + 1, h, x, hh, hx => by
    unfold way at hx
    split at hx
    · rename_i h0
      simp at hx; subst hx; subst h0; exact ⟨by omega, Nat.le_refl _⟩
    · rename_i h0
      rcases List.mem_cons.mp hx with rfl | hx
      · exact ⟨hh, Nat.le_refl _⟩
      · have := way_mem (up_le T hh) hx
        have := rk_up T h0 hh
        exact ⟨by omega, by omega⟩
theorem way_nodup : ∀ {n h : Nat}, h ≤ t.length → (way t n h).Nodup
  | 0, h, _ => by simp [way]
  | n + 1, h, hh => by
    unfold way
    split
    · simp
    · rename_i h0
      refine List.nodup_cons.mpr ⟨fun m => ?_, way_nodup (up_le T hh)⟩
      have := (way_mem T (up_le T hh) m).2
      have := rk_up T h0 hh
      omega
theorem way_len : ∀ {n h : Nat}, h ≤ t.length → rk t h ≤ n → (way t n h).length = rk t h + 1
  | 0, h, hh, hn => by simp [way]; omega
  | n + 1, h, hh, hn => by
    unfold way
    split
    · rename_i h0; subst h0; simp [rk_zero]
    · rename_i h0
      have := rk_up T h0 hh
      rw [List.length_cons, way_len (up_le T hh) (by omega)]
      omega
theorem rk_le {h : Nat} (hh : h ≤ t.length) : rk t h ≤ t.length := by
  have h1 := way_len T hh (Nat.le_refl _)
  have h2 := nodup_len (way t (rk t h) h) (t.length + 1) (way_nodup T hh) fun x hx => by
    have := (way_mem T hh hx).1
    omega
  omega
theorem farL_rk {h n : Nat} (hh : h ≤ t.length) (hn : rk t h ≤ n) : farL t n h = some (rk t h) := farL_mono (farL_exact (rk_eq T hh)) n hn
end
theorem IsT.of {t : List Nat} (h1 : 1 ≤ t.length) (h2 : t.length < 8) (h3 : ∀ h ∈ t, h ≤ t.length) (r : Nat → Nat) (hr : ∀ h, h ≠ 0 → h ≤ t.length → r (up t h) < r h) (hl : ∀ h, h ≤ t.length → r h ≤ t.length) : IsT t := by
  refine ⟨h1, h2, h3, ?_⟩
  have aux : ∀ (n h : Nat), h ≤ t.length → r h ≤ n → ∃ m, farL t (n + 1) h = some m := by
    intro n
    induction n with
    | zero =>
      intro h hh hn
      cases h with
      | zero => exact ⟨0, rfl⟩
      | succ k => have := hr (k + 1) (by omega) hh; omega
    | succ n ih =>
      intro h hh hn
      cases h with
      | zero => exact ⟨0, rfl⟩
      | succ k =>
        have q := hr (k + 1) (by omega) hh
        have e : up t (k + 1) = t.getD k 0 := rfl
        have hu : up t (k + 1) ≤ t.length := by
          have hk : k < t.length := by omega
          have : t.getD k 0 = t[k] := by simp [hk]
          rw [e, this]
          exact h3 _ (List.getElem_mem hk)
        obtain ⟨m, hm⟩ := ih (up t (k + 1)) hu (by omega)
        refine ⟨m + 1, ?_⟩
        rw [e] at hm
        simp only [farL, hm, Option.map_some]
  exact fun h hh => aux t.length h hh (hl h hh)
/-- a tree of numbered names: a hill's place among the names falls on the way down -/
theorem IsT.names {t names uppers : List Nat} {n : Nat} (h1 : 1 ≤ n) (h2 : n < 8) (ht : t.length = n) (hp : names.Perm (List.range (n + 1))) (h0 : names.getD 0 0 = 0) (hu : ∀ k, k < n → uppers.getD k 0 ≤ k)
    (hd : ∀ h, h < n → ∃ k, k < n ∧ names.getD (k + 1) 0 = h + 1 ∧ t.getD h 0 = names.getD (uppers.getD k 0) 0) : IsT t := by
  have hlen : names.length = n + 1 := by rw [hp.length_eq, List.length_range]
  have hnd : names.Nodup := hp.nodup_iff.mpr List.nodup_range
  have hget : ∀ i, i ≤ n → names.getD i 0 ≤ n := fun i hi => by
    have hi' : i < names.length := by omega
    have : names.getD i 0 = names[i] := by simp [hi']
    rw [this]
    have := hp.mem_iff.mp (List.getElem_mem hi')
    simp at this; omega
  -- the place of a name
  let r : Nat → Nat := fun h => names.idxOf h
  have rI : ∀ i, i ≤ n → r (names.getD i 0) = i := fun i hi => by
    have hi' : i < names.length := by omega
    have e1 : names.getD i 0 = names[i] := by simp [hi']
    show names.idxOf (names.getD i 0) = i
    rw [e1]
    exact hnd.idxOf_getElem i hi'
  refine IsT.of (by omega) (by omega) (fun h hh => ?_) r (fun h h0' hh => ?_) (fun h hh => ?_)
  · obtain ⟨i, hi, rfl⟩ := List.mem_iff_getElem.mp hh
    obtain ⟨k, hk, _, e⟩ := hd i (by omega)
    have : t.getD i 0 = t[i] := by simp [hi]
    rw [← this, e, ht]
    exact hget _ (by have := hu k hk; omega)
  · obtain ⟨g, rfl⟩ : ∃ g, h = g + 1 := ⟨h - 1, by omega⟩
    obtain ⟨k, hk, e1, e2⟩ := hd g (by omega)
    have e3 : up t (g + 1) = t.getD g 0 := rfl
    have := hu k hk
    rw [e3, e2, rI _ (by omega), ← e1, rI _ (by omega)]
    omega
  · have : h ∈ names := hp.mem_iff.mpr (by simp; omega)
    have := List.idxOf_lt_length_of_mem this
    show names.idxOf h ≤ _
    omega
section
variable {t : List Nat} (T : IsT t)
include T
/-- the way down, step by step -/
theorem way_get : ∀ {n h : Nat}, h ≤ t.length → rk t h = n → (∀ i, i < n → (way t n h).getD i 0 ≠ 0 ∧ (way t n h).getD i 0 ≤ t.length ∧ (way t n h).getD (i + 1) 0 = up t ((way t n h).getD i 0)) ∧ (way t n h).getD 0 0 = h ∧ (way t n h).getD n 0 = 0
  | 0, h, hh, e => by
    have := rk_nil T hh e
    subst this
    exact ⟨by simp, by simp [way], by simp [way]⟩
  | n + 1, h, hh, e => by
    have h0 : h ≠ 0 := fun z => by rw [z, rk_zero] at e; omega
    have hu := up_le T hh
    have er : rk t (up t h) = n := by have := rk_up T h0 hh; omega
    obtain ⟨i1, i2, i3⟩ := way_get hu er
    have ew : way t (n + 1) h = h :: way t n (up t h) := by simp [way, h0]
    rw [ew]
    refine ⟨fun i hi => ?_, rfl, ?_⟩
    · cases i with
      | zero =>
        refine ⟨h0, hh, ?_⟩
        show (way t n (up t h)).getD 0 0 = up t h
        exact i2
      | succ i =>
        exact i1 i (by omega)
    · exact i3
end
/-- one step of the way, 0 stays -/
def stp (t : List Nat) (h : Nat) : Nat := if h = 0 then 0 else up t h
def stps (t : List Nat) : Nat → Nat → Nat
  | 0, h => h
  | n + 1, h => stps t n (stp t h)
theorem stps_succ (t : List Nat) : ∀ (n h : Nat), stps t (n + 1) h = stp t (stps t n h)
  | 0, _ => rfl
  | n + 1, h => by
    show stps t (n + 1) (stp t h) = _
    rw [stps_succ t n (stp t h)]
    rfl
theorem stps_far (t : List Nat) : ∀ (n h : Nat), (stps t n h = 0) ↔ (farL t n h).isSome = true
  | 0, 0 => by simp [stps, farL]
  | 0, h + 1 => by simp [stps, farL]
  | n + 1, 0 => by
    have : stps t (n + 1) 0 = stps t n 0 := rfl
    rw [this, stps_far t n 0, farL_zero, farL_zero]
  | n + 1, h + 1 => by
    have : stps t (n + 1) (h + 1) = stps t n (t.getD h 0) := rfl
    rw [this, stps_far t n (t.getD h 0)]
    simp [farL]
/-- the law's own way to tell a tree -/
theorem isT_stps {t : List Nat} (h1 : 1 ≤ t.length) (h2 : t.length < 8) (h3 : ∀ h ∈ t, h ≤ t.length) : isT t = (List.range t.length).all fun k => decide (stps t t.length (k + 1) = 0) := by
  rw [Bool.eq_iff_iff, isT_iff, List.all_eq_true]
  simp only [List.mem_range, decide_eq_true_eq]
  constructor
  · intro T k hk
    rw [stps_far, farL_rk T (by omega) (rk_le T (by omega))]
    rfl
  · intro H
    refine ⟨h1, h2, h3, fun h hh => ?_⟩
    cases h with
    | zero => exact ⟨0, rfl⟩
    | succ k =>
      have := (stps_far t t.length (k + 1)).mp (H k (by omega))
      obtain ⟨m, hm⟩ := Option.isSome_iff_exists.mp this
      exact ⟨m, farL_mono hm _ (by omega)⟩
end HT0
/-! HilM: what the program's things are, plainly. -/
namespace Hil
open PySem L2 HT0
/-! ### calls reckoned -/
theorem startE_0 (n : Nat) (ws : List W) : startE n none ws = ws.map .sh ++ List.replicate (n - ws.length) .un := by
  unfold startE
  congr 1
  apply List.ext_getElem
  · simp
  · intro i h1 h2
    simp at h1 h2
    simp [h2]
theorem goF_at {fn : Fn} {ws : List W} {w out : W} {fr : Bool} (h : fn.f ws = some (.ret w fr out)) (hl : ws.length = fn.ar) (ρ : Env') : goF fn ws ρ = .ok (mkV (w, fr)) ρ := goF_ret h hl
theorem goF_ex {fn : Fn} {ws : List W} {c : Nat} (h : fn.f ws = some (.exc c)) (hl : ws.length = fn.ar) (ρ : Env') : goF fn ws ρ = .exc c := goF_exc h hl
theorem goM_o1 {fn : Fn} {a w0 : W} {ws : List W} {w out : W} {fr : Bool} (h : fn.f (a :: w0 :: ws) = some (.ret w fr out)) (hl : fn.fits (ws.length + 2) = true) (ρ : Env') (j : Nat) (hx : ρ[j]? = some (.ow w0)) :
    goM fn 1 (a :: .opq .non :: ws) (some j) ρ = .ok (mkV (w, fr)) (ρ.set j (.ow out)) := goM_ow hx h hl
theorem goM_m1 {fn : Fn} {a w0 : W} {ws : List W} {w out : W} {fr : Bool} (h : fn.f (a :: w0 :: ws) = some (.ret w fr out)) (hl : fn.fits (ws.length + 2) = true) (ρ : Env') (j : Nat) (hx : ρ[j]? = some (.mu w0)) :
    goM fn 1 (a :: .opq .non :: ws) (some j) ρ = .ok (mkV (w, fr)) (ρ.set j (.mu out)) := goM_mu hx h hl
section
variable {Γ : List Fn} {G : List PD} {fu : Nat} {P : SO → Prop}
/-- while: so many turns at most are left -/
theorem whlS_n {c : E} {b : Ss} (I : Nat → Env' → Prop) (J : Env' → Prop)
    (step : ∀ k ρ, I k ρ → (∃ ρ1 ρ2 k', evZ Γ G c ρ = .ok (.val (.d (.bool true))) ρ1 ∧ runsZ Γ G fu b ρ1 = .nx ρ2 ∧ I k' ρ2 ∧ k' < k) ∨ ∃ ρ1, evZ Γ G c ρ = .ok (.val (.d (.bool false))) ρ1 ∧ J ρ1) :
    ∀ (n k : Nat) (ρ : Env'), I k ρ → k < n → ∃ ρ', whlS Γ G fu c b n ρ = .nx ρ' ∧ J ρ'
  | 0, k, ρ, _, hn => absurd hn (Nat.not_lt_zero _)
  | n + 1, k, ρ, h, hn => by
    unfold whlS whlRun
    rcases step k ρ h with ⟨ρ1, ρ2, k', h1, h2, h3, h4⟩ | ⟨ρ1, h1, h2⟩
    · rw [h1]
      dsimp only
      rw [h2]
      exact whlS_n I J step n k' ρ2 h3 (by omega)
    · rw [h1]
      exact ⟨ρ1, rfl, h2⟩
theorem st_whln {c : E} {b r : Ss} {ρ : Env'} (I : Nat → Env' → Prop) (J : Env' → Prop) (k0 : Nat) (h0 : I k0 ρ) (hf : k0 < fu)
    (step : ∀ k ρ, I k ρ → (∃ ρ1 ρ2 k', evZ Γ G c ρ = .ok (.val (.d (.bool true))) ρ1 ∧ runsZ Γ G fu b ρ1 = .nx ρ2 ∧ I k' ρ2 ∧ k' < k) ∨ ∃ ρ1, evZ Γ G c ρ = .ok (.val (.d (.bool false))) ρ1 ∧ J ρ1)
    (k : ∀ ρ', J ρ' → P (runsZ Γ G fu r ρ')) : P (runsZ Γ G fu (.cons (.whl c b) r) ρ) := by
  obtain ⟨ρ', h, hJ⟩ := whlS_n (Γ := Γ) (G := G) (fu := fu) (c := c) (b := b) I J step fu k0 ρ h0 hf
  refine st_nx (ρ1 := ρ') ?_ (k ρ' hJ)
  rw [run_whl]
  exact h
end
/-- what a def's body ends with -/
def RetR (mu : Option Nat) (r : Res) (o : SO) : Prop := resOf mu o = some r
theorem startE_1 (n : Nat) (a b : W) (ws : List W) : startE n (some 1) (a :: b :: ws) = .sh a :: .mu b :: (ws.map .sh ++ List.replicate (n - (ws.length + 2)) .un) := by
  apply List.ext_getElem?
  intro i
  rw [startE_get]
  match i with
  | 0 => simp [muAt]
  | 1 => simp [muAt]
  | i + 2 =>
    simp only [List.length_cons, List.getElem?_cons_succ]
    by_cases h : i < ws.length
    · rw [if_pos (by omega), List.getElem?_append_left (by simpa using h)]
      simp [muAt, h]
    · rw [if_neg (by omega), List.getElem?_append_right (by simpa using h)]
      simp only [List.length_map, List.getElem?_replicate]
      by_cases h2 : i + 2 < ws.length + 1 + 1 + (n - (ws.length + 1 + 1))
      · rw [if_pos h2, if_pos (by omega)]
      · rw [if_neg h2, if_neg (by omega)]
theorem fnR0 {Γ : List Fn} {G : List PD} {fu n : Nat} {b : Ss} {ws : List W} {r : Res} (h : RetR none r (runsZ Γ G fu b (ws.map .sh ++ List.replicate (n - ws.length) .un))) : fnRun Γ G fu n none b ws = some r := by
  rw [fnRun_eq, startE_0]
  exact h
theorem fnR1 {Γ : List Fn} {G : List PD} {fu n : Nat} {b : Ss} {a a' : W} {ws : List W} {r : Res} (h : RetR (some 1) r (runsZ Γ G fu b (.sh a :: .mu a' :: (ws.map .sh ++ List.replicate (n - (ws.length + 2)) .un)))) : fnRun Γ G fu n (some 1) b (a :: a' :: ws) = some r := by
  rw [fnRun_eq, startE_1]
  exact h
/-- what a def that is one try ends with -/
def RetT (r : Res) (o : SO) : Prop := tryOf o = some r
theorem fnRT {Γ : List Fn} {G : List PD} {fu n : Nat} {b : Ss} {ws : List W} {r : Res} (h : RetT r (runsZ Γ G fu b (ws.map .sh ++ List.replicate (n - ws.length) .un))) : fnTry Γ G fu n b ws = some r := by
  rw [fnTry_eq, startE_0]
  exact h
/-- refused, by its number -/
def refu (c : Nat) : Res := .ret (.d (.tuple [.str "refused", .int (c : Int)])) false (.opq .non)
/-- a def returns: from what its body does -/
theorem fnRet {Γ : List Fn} {G : List PD} {fu n : Nat} {b : Ss} {ws : List W} {w : W} (h : Ret w (runsZ Γ G fu b (ws.map .sh ++ List.replicate (n - ws.length) .un))) : fnRun Γ G fu n none b ws = some (.ret w false (.opq .non)) := by
  rw [fnRun_eq, startE_0]
  exact h.res
/-- it returns a new object -/
def RetN (w : W) (o : SO) : Prop := ∃ ρ v, o = .rt v ρ ∧ (v = .fre w ∨ ∃ i, v = .loc i ∧ ρ[i]? = some (.ow w))
theorem fnRetN {Γ : List Fn} {G : List PD} {fu n : Nat} {b : Ss} {ws : List W} {w : W} (h : RetN w (runsZ Γ G fu b (ws.map .sh ++ List.replicate (n - ws.length) .un))) : fnRun Γ G fu n none b ws = some (.ret w true (.opq .non)) := by
  rw [fnRun_eq, startE_0]
  obtain ⟨ρ, v, e, h⟩ := h
  rw [e]
  rcases h with rfl | ⟨i, rfl, hi⟩
  · rfl
  · simp [hi]
abbrev nI (k : Nat) : PyData := .int (k : Int)
/-! ### numbers -/
@[simp] theorem ixN_natCast (n k : Nat) : ixN n (k : Int) = if k < n then some k else none := by
  unfold ixN
  by_cases h : k < n
  · rw [if_pos (by omega), if_pos (by omega), if_pos h]; simp
  · rw [if_pos (by omega), if_neg (by omega), if_neg h]
theorem eqv_nI (a b : Nat) : PyData.eqv (nI a) (nI b) = decide (a = b) := by simp [nI, Int.natCast_inj]
def natOf : PD → Nat
  | .int i => i.toNat
  | _ => 0
def nT (t : List Nat) : PD := .tuple (t.map nI)
def nL (t : List Nat) : PD := .list (t.map nI)
theorem eqvAll_nI : ∀ a b : List Nat, PyData.eqvAll (a.map nI) (b.map nI) = decide (a = b)
  | [], [] => by simp
  | [], _ :: _ => by simp
  | _ :: _, [] => by simp
  | x :: a, y :: b => by
    simp only [List.map_cons, eqvAll_cons, eqv_nI, eqvAll_nI a b, List.cons.injEq, Bool.decide_and]
@[simp] theorem eqv_nT (a b : List Nat) : PyData.eqv (nT a) (nT b) = decide (a = b) := by simp [nT, eqvAll_nI]
@[simp] theorem eqv_nL (a b : List Nat) : PyData.eqv (nL a) (nL b) = decide (a = b) := by simp [nL, eqvAll_nI]
theorem okAlls_nI : ∀ t : List Nat, okAlls (t.map nI) = true
  | [] => rfl
  | x :: t => by simp [okAlls, okAll, nI]; exact okAlls_nI t
theorem okAll_nT (t : List Nat) : okAll (nT t) = true := by simp [nT, okAll, okAlls_nI]
theorem depth_nI (k : Nat) : (nI k).depth = 0 := rfl
theorem depthAll_nI : ∀ t : List Nat, PyData.depthAll (t.map nI) = 0
  | [] => rfl
  | x :: t => by simp [depth_nI, depthAll_nI t]
@[simp] theorem depth_nT (t : List Nat) : (nT t).depth = 1 := by simp [nT, depthAll_nI]
@[simp] theorem depth_nL (t : List Nat) : (nL t).depth = 1 := by simp [nL, depthAll_nI]
/-- the town: so many draws -/
def tw (n : Nat) : PyData := .list (List.replicate n (.int 0))
theorem map_erase {α β : Type} (f : α → β) : ∀ (l : List α) (i : Nat), (l.map f).eraseIdx i = (l.eraseIdx i).map f
  | [], _ => rfl
  | x :: r, 0 => rfl
  | x :: r, i + 1 => by simp [map_erase f r i]
theorem erase_perm {α : Type} : ∀ (l : List α) (i : Nat) (h : i < l.length), (l[i] :: l.eraseIdx i).Perm l
  | x :: r, 0, h => .refl _
  | x :: r, i + 1, h => by
    simp only [List.getElem_cons_succ, List.eraseIdx_cons_succ]
    exact (List.Perm.swap _ _ _).trans (.cons _ (erase_perm r i (by simpa using h)))
theorem nodup_inl {l : List Nat} (h : l.Nodup) : (l.map fun k : Nat => (.inl (k : Int) : Key)).Nodup := by
  unfold List.Nodup at h ⊢
  rw [List.pairwise_map]
  refine h.imp fun {a b} hab q => hab ?_
  simp only [Sum.inl.injEq, Int.natCast_inj] at q
  exact q
@[simp] theorem eqv_none : PyData.eqv .none .none = true := rfl
@[simp] theorem eqv_bool' (a b : Bool) : PyData.eqv (.bool a) (.bool b) = (a == b) := rfl
/-! ### dicts -/
theorem mergeD_app : ∀ {kvs acc : List (Key × PyData)}, (acc.map (·.1) ++ kvs.map (·.1)).Nodup → mergeD acc kvs = acc ++ kvs
  | [], acc, _ => by simp [mergeD]
  | (k, v) :: r, acc, h => by
    have hk : (acc.any fun kv => decide (kv.1 = k)) = false := by
      rw [List.any_eq_false]
      intro x hx
      simp only [decide_eq_true_eq]
      rintro rfl
      simp only [List.map_cons] at h
      exact (List.nodup_append.mp h).2.2 x.1 (List.mem_map_of_mem hx) x.1 List.mem_cons_self rfl
    unfold mergeD
    have e : putD acc k v = acc ++ [(k, v)] := by unfold putD; rw [hk]; rfl
    rw [e, mergeD_app (kvs := r) (acc := acc ++ [(k, v)]) (by simpa using h)]
    simp
theorem find_nodup {κ : Type} [DecidableEq κ] : ∀ {kvs : List (κ × PyData)} {kv : κ × PyData}, (kvs.map (·.1)).Nodup → kv ∈ kvs → kvs.find? (fun q => decide (q.1 = kv.1)) = some kv
  | x :: r, kv, hn, hm => by
    rw [List.map_cons, List.nodup_cons] at hn
    rcases List.mem_cons.mp hm with rfl | hm
    · simp
    · have : x.1 ≠ kv.1 := fun e => hn.1 (by rw [e]; exact List.mem_map_of_mem hm)
      rw [List.find?_cons_of_neg (by simpa using this)]
      exact find_nodup hn.2 hm
theorem pairsOf_map {α : Type} (a : α → Nat) (v : α → PyData) : ∀ xs : List α, pairsOf (xs.map fun x => .tuple [nI (a x), v x]) = some (xs.map fun x => (.inl (a x : Int), v x))
  | [] => rfl
  | x :: r => by
    simp only [List.map_cons, pairsOf, keyOf, pairsOf_map a v r]
/-! ### comprehensions -/
def rgL (lo n : Nat) : List Im := (List.range n).map fun k => .one (nI (lo + k))
@[simp] theorem rgL_length (lo n : Nat) : (rgL lo n).length = n := by simp [rgL]
theorem rgL_get {lo n i : Nat} {m : Im} (h : (rgL lo n)[i]? = some m) : i < n ∧ m = .one (nI (lo + i)) := by
  unfold rgL at h
  rw [List.getElem?_map] at h
  cases q : (List.range n)[i]? with
  | none => rw [q] at h; cases h
  | some k =>
    rw [q] at h
    obtain ⟨hi, e⟩ := List.getElem?_eq_some_iff.mp q
    rw [List.getElem_range] at e
    subst e
    cases h
    exact ⟨by simpa using hi, rfl⟩
theorem rangeI_rgL (lo n : Nat) : rangeI (lo : Int) n = rgL lo n := by
  unfold rangeI rgL
  apply List.map_congr_left
  intro k _
  simp [nI]
theorem list_get {ds : List PD} {i : Nat} {m : Im} (h : (ds.map Im.one)[i]? = some m) : ∃ d, ds[i]? = some d ∧ m = .one d := by
  rw [List.getElem?_map] at h
  cases q : ds[i]? with
  | none => rw [q] at h; cases h
  | some d => rw [q] at h; cases h; exact ⟨d, rfl, rfl⟩
theorem enumI_at : ∀ {ds : List PD} {k i : Nat} {m : Im}, (enumI k ds)[i]? = some m → ∃ d, ds[i]? = some d ∧ m = .two (nI (k + i)) d
  | [], k, i, m, h => by simp [enumI] at h
  | d :: r, k, 0, m, h => by
    simp [enumI] at h; exact ⟨d, rfl, h.symm⟩
  | d :: r, k, i + 1, m, h => by
    simp only [enumI, List.getElem?_cons_succ] at h
    obtain ⟨d', h1, h2⟩ := enumI_at h
    exact ⟨d', by simpa using h1, by rw [h2]; congr 2; omega⟩
theorem enumI_length : ∀ (ds : List PD) (k : Nat), (enumI k ds).length = ds.length
  | [], _ => rfl
  | d :: r, k => by simp [enumI, enumI_length r]
section
variable {Γ : List Fn} {G : List PD} {fu : Nat}
theorem evi_rg {a : E} {ρ ρ1 : Env'} {v : Vl} {n : Nat} (h : evZ Γ G a ρ = .ok v ρ1) (hv : rd ρ1 v = some (.d (.int n))) (hn : n ≤ 1000000) : eviZ Γ G (.r1 a) ρ = .ok (rgL 0 n) ρ1 := by
  rw [evi_r1, h, bind_ok, hv]
  dsimp only
  rw [if_pos (by omega), ← rangeI_rgL]
  rfl
theorem evi_rg2 {a b : E} {ρ ρ1 ρ2 : Env'} {v u : Vl} {lo n : Nat} {m : Int} (h : evZ Γ G a ρ = .ok v ρ1) (h2 : evZ Γ G b ρ1 = .ok u ρ2) (hv : rd ρ2 v = some (.d (.int lo))) (hu : rd ρ2 u = some (.d (.int m))) (hm : (m - lo).toNat = n) (hn : lo + n ≤ 1000000) (hm2 : -1000000 ≤ m) : eviZ Γ G (.r2 a b) ρ = .ok (rgL lo n) ρ2 := by
  rw [evi_r2, h, bind_ok, h2, bind_ok, hv, hu]
  dsimp only
  rw [if_pos (by omega), ← rangeI_rgL, hm]
theorem gLrg_of (a b : Int) (h : (a ≤ 1000000 ∧ -1000000 ≤ a) ∧ (b ≤ 1000000 ∧ -1000000 ≤ b)) : gLrg (.d (.int a)) (.d (.int b)) = some (.d (.list (rgD a b)), true) := by
  simp only [gLrg]
  exact if_pos h
theorem gLrg_eq (n : Nat) (hn : n + 1 ≤ 1000000) : gLrg (.d (.int 1)) (.d (.int ((n : Int) + 1))) = some (.d (.list ((List.range' 1 n).map nI)), true) := by
  have e : rgD 1 ((n : Int) + 1) = (List.range' 1 n).map nI := by
    unfold rgD
    have : ((n : Int) + 1 - 1).toNat = n := by omega
    rw [this, List.range'_eq_map_range, List.map_map]
    apply List.map_congr_left
    intro k _
    simp
  rw [gLrg_of 1 ((n : Int) + 1) (by omega), e]
theorem ev_o2_of {o : O2} {a b : E} {ρ ρ1 ρ2 : Env'} {v u : Vl} {x y : W} {r : W × Bool} (h : evZ Γ G a ρ = .ok v ρ1) (h2 : evZ Γ G b ρ1 = .ok u ρ2) (hv : rd ρ2 v = some x) (hu : rd ρ2 u = some y) (e : op2 o x y = some r) : evZ Γ G (.o2 o a b) ρ = .ok (mkV r) ρ2 := by
  rw [ev_o2, h, bind_ok, h2, bind_ok, hv, hu]
  dsimp only
  rw [e]
theorem op2_lrg : op2 .lrg = gLrg := rfl
theorem ev_lrg {a b : E} {ρ ρ1 ρ2 : Env'} {v u : Vl} {n : Nat} (h : evZ Γ G a ρ = .ok v ρ1) (h2 : evZ Γ G b ρ1 = .ok u ρ2) (hv : rd ρ2 v = some (.d (.int 1))) (hu : rd ρ2 u = some (.d (.int ((n : Int) + 1)))) (hn : n + 1 ≤ 1000000) : evZ Γ G (.o2 .lrg a b) ρ = .ok (.fre (.d (.list ((List.range' 1 n).map nI)))) ρ2 := by
  have e : op2 .lrg (.d (.int 1)) (.d (.int ((n : Int) + 1))) = some (.d (.list ((List.range' 1 n).map nI)), true) := by rw [op2_lrg, gLrg_eq n hn]
  exact ev_o2_of h h2 hv hu e
theorem op2_mul : op2 .mul = gMul := rfl
theorem gMul_of (a : List PD) (k : Int) (h : a.length ≤ 1000 ∧ 0 ≤ k ∧ k ≤ 1000) : gMul (.d (.list a)) (.d (.int k)) = some (.d (.list (List.replicate k.toNat a).flatten), true) := by
  simp only [gMul]
  exact if_pos h
/-- [d] * n -/
theorem ev_rep {a b : E} {ρ ρ1 ρ2 : Env'} {v u : Vl} {d : PD} {n : Nat} (h : evZ Γ G a ρ = .ok v ρ1) (h2 : evZ Γ G b ρ1 = .ok u ρ2) (hv : rd ρ2 v = some (.d (.list [d]))) (hu : rd ρ2 u = some (.d (.int n))) (hn : n ≤ 1000) : evZ Γ G (.o2 .mul a b) ρ = .ok (.fre (.d (.list (List.replicate n d)))) ρ2 := by
  have e : op2 .mul (.d (.list [d])) (.d (.int n)) = some (.d (.list (List.replicate n d)), true) := by
    rw [op2_mul, gMul_of [d] n ⟨by simp, by omega, by omega⟩, Int.toNat_natCast, List.flatten_replicate_singleton]
  exact ev_o2_of h h2 hv hu e
theorem set_un {ρ : Env'} {i : Nat} {s0 : Sl} (h0 : ρ[i]? = some s0) : (ρ.set i .un).set i (ρ.getD i .un) = ρ := by
  obtain ⟨hl, he⟩ := List.getElem?_eq_some_iff.mp h0
  have : ρ.getD i .un = ρ[i] := by simp [hl]
  rw [this, List.set_set, List.set_getElem_self]
/-- [..], with a state -/
theorem ev_lci {j : Nat} {it : It} {ft elt : E} {ρ ρ1 : Env'} {s0 : Sl} {ms : List Im} (hi : eviZ Γ G it ρ = .ok ms ρ1) (h0 : ρ1[j]? = some s0) (hF : Fre s0) (hm : ms.length ≤ 1000000) (I : Nat → Env' → List PD → Prop) (hI : I 0 (ρ1.set j .un) [])
    (step : ∀ (i : Nat) (m : Im) (ρ : Env') (acc : List PD), ms[i]? = some m → I i ρ acc → ∃ ρ1, asgI ρ (.n j) m = some ρ1 ∧ ∃ b ρ2, evZ Γ G ft ρ1 = .ok (.val (.d (.bool b))) ρ2 ∧
      ((b = true ∧ ∃ v ρ3 d ρ4, evZ Γ G elt ρ2 = .ok v ρ3 ∧ give ρ3 v = some (.d d, ρ4) ∧ I (i + 1) (ρ4.set j .un) (acc ++ [d])) ∨ (b = false ∧ I (i + 1) (ρ2.set j .un) acc))) :
    ∃ ds ρ2, evZ Γ G (.lc (.n j) it ft elt) ρ = .ok (.fre (.d (.list ds))) (ρ2.set j (ρ1.getD j .un)) ∧ I ms.length ρ2 ds := by
  obtain ⟨ds, ρ2, L, h2⟩ := lcE_inv (Γ := Γ) (G := G) (tg := .n j) (ft := ft) (elt := elt) (ms := ms) (ρ := ρ1.set j .un) I hI step
  exact ⟨ds, ρ2, ev_lc_of hi (hF.free h0) hm L, h2⟩
theorem set_id {ρ : Env'} {i : Nat} {s0 : Sl} (h0 : ρ[i]? = some s0) : ρ.set i (ρ.getD i .un) = ρ := by
  obtain ⟨hl, he⟩ := List.getElem?_eq_some_iff.mp h0
  have : ρ.getD i .un = ρ[i] := by simp [hl]
  rw [this, List.set_getElem_self]
/-- a comprehension with one name that leaves the slots as they are -/
theorem ev_lc1 {i : Nat} {it : It} {ft elt : E} {ρ ρ1 : Env'} {s0 : Sl} {ds : List PD} (hi : eviZ Γ G it ρ = .ok (ds.map .one) ρ1) (h0 : ρ1[i]? = some s0) (hF : Fre s0) (hm : ds.length ≤ 1000000) (c : PD → Bool) (g : PD → PD)
    (H : ∀ d ∈ ds, evZ Γ G ft (ρ1.set i (.sh (.d d))) = .ok (.val (.d (.bool (c d)))) (ρ1.set i (.sh (.d d))) ∧ (c d = true → ∃ v, evZ Γ G elt (ρ1.set i (.sh (.d d))) = .ok v (ρ1.set i (.sh (.d d))) ∧ give (ρ1.set i (.sh (.d d))) v = some (.d (g d), ρ1.set i (.sh (.d d))))) :
    evZ Γ G (.lc (.n i) it ft elt) ρ = .ok (.fre (.d (.list ((ds.filter c).map g)))) ρ1 := by
  have hl := (List.getElem?_eq_some_iff.mp h0).1
  rw [ev_lc, hi, bind_ok, if_pos ⟨hF.free h0, by simpa using hm⟩]
  have e : wipeE ρ1 (Tg.n i).slots = ρ1.set i .un := rfl
  rw [e, lcE_pure (fun m => ρ1.set i (.sh (.d m.d))) (fun m => c m.d) (fun m => g m.d)]
  · rw [bind_ok, List.nil_append]
    show Out.ok (Vl.fre (.d (.list (((ds.map Im.one).filter fun m => c m.d).map fun m => g m.d)))) ((ρ1.set i .un).set i (ρ1.getD i .un)) = _
    rw [set_un h0, List.filter_map, List.map_map]
    rfl
  · intro m hm
    obtain ⟨d, hd, rfl⟩ := one_mem hm
    obtain ⟨h1, h2⟩ := H d hd
    refine ⟨by simp [asgI, hl, Im.d], h1, h2, ?_⟩
    show (ρ1.set i (.sh (.d d))).set i .un = ρ1.set i .un
    rw [List.set_set]
theorem ev_lcR {i : Nat} {it : It} {ft elt : E} {ρ ρ1 : Env'} {s0 : Sl} {lo n : Nat} (hi : eviZ Γ G it ρ = .ok (rgL lo n) ρ1) (h0 : ρ1[i]? = some s0) (hF : Fre s0) (hm : n ≤ 1000000) (c : Nat → Bool) (g : Nat → PD)
    (H : ∀ k, k < n → evZ Γ G ft (ρ1.set i (.sh (.d (nI (lo + k))))) = .ok (.val (.d (.bool (c k)))) (ρ1.set i (.sh (.d (nI (lo + k))))) ∧ (c k = true → ∃ v, evZ Γ G elt (ρ1.set i (.sh (.d (nI (lo + k))))) = .ok v (ρ1.set i (.sh (.d (nI (lo + k))))) ∧ give (ρ1.set i (.sh (.d (nI (lo + k))))) v = some (.d (g k), ρ1.set i (.sh (.d (nI (lo + k))))))) :
    evZ Γ G (.lc (.n i) it ft elt) ρ = .ok (.fre (.d (.list (((List.range n).filter c).map g)))) ρ1 := by
  have e : rgL lo n = ((List.range n).map fun k => nI (lo + k)).map .one := by simp [rgL]
  rw [e] at hi
  have q : ∀ k, natOf (nI (lo + k)) - lo = k := fun k => by simp [natOf, nI]; omega
  rw [ev_lc1 hi h0 hF (by simpa using hm) (fun d => c (natOf d - lo)) (fun d => g (natOf d - lo))]
  · congr 4
    rw [List.filter_map, List.map_map]
    have e1 : ((fun d => c (natOf d - lo)) ∘ fun k => nI (lo + k)) = c := by funext k; simp [q]
    rw [e1]
    apply List.map_congr_left
    intro k _
    simp [q]
  · intro d hd
    simp only [List.mem_map, List.mem_range] at hd
    obtain ⟨k, hk, rfl⟩ := hd
    rw [q]
    exact H k hk
/-- with two names over pairs -/
theorem ev_lcP {i j : Nat} {it : It} {ft elt : E} {ρ ρ1 : Env'} {s0 s1 : Sl} {ms : List Im} (hij : i ≠ j) (h2 : ∀ m ∈ ms, ∃ a b, m = .two a b) (hi : eviZ Γ G it ρ = .ok ms ρ1) (h0 : ρ1[i]? = some s0) (hF : Fre s0) (h1 : ρ1[j]? = some s1) (hF1 : Fre s1) (hm : ms.length ≤ 1000000) (c : Im → Bool) (g : Im → PD)
    (H : ∀ a b, Im.two a b ∈ ms → evZ Γ G ft ((ρ1.set i (.sh (.d a))).set j (.sh (.d b))) = .ok (.val (.d (.bool (c (.two a b))))) ((ρ1.set i (.sh (.d a))).set j (.sh (.d b))) ∧ (c (.two a b) = true → ∃ v, evZ Γ G elt ((ρ1.set i (.sh (.d a))).set j (.sh (.d b))) = .ok v ((ρ1.set i (.sh (.d a))).set j (.sh (.d b))) ∧
      give ((ρ1.set i (.sh (.d a))).set j (.sh (.d b))) v = some (.d (g (.two a b)), (ρ1.set i (.sh (.d a))).set j (.sh (.d b))))) :
    evZ Γ G (.lc (.t (.cons (.n i) (.cons (.n j) .nil))) it ft elt) ρ = .ok (.fre (.d (.list ((ms.filter c).map g)))) ρ1 := by
  have l0 := (List.getElem?_eq_some_iff.mp h0).1
  have l1 := (List.getElem?_eq_some_iff.mp h1).1
  have hfree : freeE ρ1 (Tg.t (.cons (.n i) (.cons (.n j) .nil))).slots = true := by
    have a := hF.free h0
    have b := hF1.free h1
    simp only [Tg.slots, Tgs.slots, freeE, List.all_append, List.all_nil, Bool.and_true, Bool.and_eq_true] at a b ⊢
    exact ⟨a, b⟩
  rw [ev_lc, hi, bind_ok, if_pos ⟨hfree, hm⟩]
  have e : wipeE ρ1 (Tg.t (.cons (.n i) (.cons (.n j) .nil))).slots = (ρ1.set j .un).set i .un := rfl
  rw [e, lcE_pure (fun m => (ρ1.set i (.sh (.d m.d))).set j (.sh (.d m.d2))) c g]
  · rw [bind_ok, List.nil_append]
    show Out.ok _ ((((ρ1.set j .un).set i .un).set j (ρ1.getD j .un)).set i (ρ1.getD i .un)) = _
    have : (((ρ1.set j .un).set i .un).set j (ρ1.getD j .un)).set i (ρ1.getD i .un) = ρ1 := by
      rw [List.set_comm _ _ hij.symm, List.set_set, List.set_comm _ _ hij, set_un h1, set_id h0]
    rw [this]
  · intro m hm
    obtain ⟨d, d', rfl⟩ := h2 m hm
    obtain ⟨a, b⟩ := H d d' hm
    refine ⟨?_, a, b, ?_⟩
    · rcases s0 with _ | _ | _ | _ <;> rcases s1 with _ | _ | _ | _ <;> first
        | exact hF.elim
        | exact hF1.elim
        | (simp [asgI, asgP, asgN, Im.d, Im.d2, l0, l1, hij, hij.symm, List.getElem_set, List.getElem?_set]; try (rw [List.set_comm _ _ hij, List.set_set, List.set_comm _ _ hij.symm]))
    · show (((ρ1.set i (.sh (.d d))).set j (.sh (.d d'))).set j .un).set i .un = _
      rw [List.set_set, List.set_comm _ _ hij, List.set_set, List.set_comm _ _ hij.symm]
/-- with two names over numbered things -/
theorem ev_lcN {i j : Nat} {it : It} {ft elt : E} {ρ ρ1 : Env'} {s0 s1 : Sl} {ds : List PD} (hij : i ≠ j) (hi : eviZ Γ G it ρ = .ok (enumI 0 ds) ρ1) (h0 : ρ1[i]? = some s0) (hF : Fre s0) (h1 : ρ1[j]? = some s1) (hF1 : Fre s1) (hm : ds.length ≤ 1000000) (c : Nat → Bool) (g : Nat → PD)
    (H : ∀ k d, ds[k]? = some d → evZ Γ G ft ((ρ1.set i (.sh (.d (nI k)))).set j (.sh (.d d))) = .ok (.val (.d (.bool (c k)))) ((ρ1.set i (.sh (.d (nI k)))).set j (.sh (.d d))) ∧ (c k = true → ∃ v, evZ Γ G elt ((ρ1.set i (.sh (.d (nI k)))).set j (.sh (.d d))) = .ok v ((ρ1.set i (.sh (.d (nI k)))).set j (.sh (.d d))) ∧
      give ((ρ1.set i (.sh (.d (nI k)))).set j (.sh (.d d))) v = some (.d (g k), (ρ1.set i (.sh (.d (nI k)))).set j (.sh (.d d))))) :
    evZ Γ G (.lc (.t (.cons (.n i) (.cons (.n j) .nil))) it ft elt) ρ = .ok (.fre (.d (.list (((List.range ds.length).filter c).map g)))) ρ1 := by
  have l0 := (List.getElem?_eq_some_iff.mp h0).1
  have l1 := (List.getElem?_eq_some_iff.mp h1).1
  have hfree : freeE ρ1 (Tg.t (.cons (.n i) (.cons (.n j) .nil))).slots = true := by
    have a := hF.free h0
    have b := hF1.free h1
    simp only [Tg.slots, Tgs.slots, freeE, List.all_append, List.all_nil, Bool.and_true, Bool.and_eq_true] at a b ⊢
    exact ⟨a, b⟩
  have em : enumI 0 ds = (List.range ds.length).map fun k => .two (nI k) (ds.getD k .none) := by
    apply List.ext_getElem
    · simp [enumI_length]
    · intro k h2 h3
      obtain ⟨d, e1, e2⟩ := enumI_at (List.getElem?_eq_getElem h2)
      rw [e2]
      obtain ⟨q1, q2⟩ := List.getElem?_eq_some_iff.mp e1
      simp [q1, q2]
  have q : ∀ k, natOf (nI k) = k := fun k => by simp [natOf, nI]
  rw [ev_lc, hi, bind_ok, if_pos ⟨hfree, by rw [enumI_length]; exact hm⟩]
  have e : wipeE ρ1 (Tg.t (.cons (.n i) (.cons (.n j) .nil))).slots = (ρ1.set j .un).set i .un := rfl
  rw [e, lcE_pure (fun m => (ρ1.set i (.sh (.d m.d))).set j (.sh (.d m.d2))) (fun m => c (natOf m.d)) (fun m => g (natOf m.d))]
  · rw [bind_ok, List.nil_append, em, List.filter_map, List.map_map]
    have e1 : ((fun m : Im => c (natOf m.d)) ∘ fun k => Im.two (nI k) (ds.getD k .none)) = c := by funext k; simp [Im.d, q]
    have e2 : ((fun m : Im => g (natOf m.d)) ∘ fun k => Im.two (nI k) (ds.getD k .none)) = g := by funext k; simp [Im.d, q]
    rw [e1, e2]
    show Out.ok _ ((((ρ1.set j .un).set i .un).set j (ρ1.getD j .un)).set i (ρ1.getD i .un)) = _
    have : (((ρ1.set j .un).set i .un).set j (ρ1.getD j .un)).set i (ρ1.getD i .un) = ρ1 := by
      rw [List.set_comm _ _ hij.symm, List.set_set, List.set_comm _ _ hij, set_un h1, set_id h0]
    rw [this]
  · intro m hm
    obtain ⟨k, hk, e0⟩ := List.mem_iff_getElem.mp hm
    obtain ⟨d, e1, e2⟩ := enumI_at (List.getElem?_eq_getElem hk)
    rw [e0] at e2
    subst e2
    rw [Nat.zero_add]
    obtain ⟨a, b⟩ := H k d e1
    simp only [Im.d, Im.d2, q]
    refine ⟨?_, a, b, ?_⟩
    · rcases s0 with _ | _ | _ | _ <;> rcases s1 with _ | _ | _ | _ <;> first
        | exact hF.elim
        | exact hF1.elim
        | (simp [asgI, asgP, asgN, l0, l1, hij, hij.symm, List.getElem_set, List.getElem?_set]; try (rw [List.set_comm _ _ hij, List.set_set, List.set_comm _ _ hij.symm]))
    · show (((ρ1.set i (.sh (.d (nI k)))).set j (.sh (.d d))).set j .un).set i .un = _
      rw [List.set_set, List.set_comm _ _ hij, List.set_set, List.set_comm _ _ hij.symm]
end
def optP : Option Nat → PD
  | some k => nI k
  | none => .none
theorem atI_nI (t : List Nat) (h : Nat) (hh : h < t.length) : atI (t.map nI) (h : Int) = some (nI (t.getD h 0)) := by
  rw [atI_of _ _ (by simpa using hh)]
  simp [hh]
/-! ### whole numbers, signs -/
def isWhole (x : PD) (lo hi : Int) : Bool := match x with
  | .int i => decide (lo ≤ i) && decide (i ≤ hi)
  | _ => false
def CON : List PD := [.str "begin", .str "end", .str "halt", .str "spell", .str "strike", .str "word"]
def isSign (x : PD) : Bool := isWhole x 0 11 || (match x with
  | .str z => CON.any fun y => PyData.eqv y (.str z)
  | _ => false)
def RS' : PD := .str "rest"
def isRow (x : PD) : Bool := match x with
  | .list ds => decide (ds.length ≤ 160) && ds.all isSign
  | _ => false
def withRests (ds : List PD) : List PD := ds.flatMap fun d => [d, RS']
theorem withRests_length : ∀ ds : List PD, (withRests ds).length = 2 * ds.length
  | [] => rfl
  | d :: r => by
    have := withRests_length r
    unfold withRests at this ⊢
    simp only [List.flatMap_cons, List.length_append, this, List.length_cons, List.length_nil]
    omega
theorem isSign_ok {d : PD} (h : isSign d = true) : okAll d = true ∧ PyData.eqv d RS' = false := by
  cases d <;> first
    | (simp [isSign, isWhole] at h; done)
    | (exact ⟨rfl, rfl⟩)
    | skip
  rename_i z
  refine ⟨rfl, ?_⟩
  simp only [RS', eqv_str, decide_eq_false_iff_not]
  rintro rfl
  exact absurd h (by decide +kernel)
/-! ### trees -/
/-- whether a thing is a tree -/
def isTree (x : PD) : Bool := match x with
  | .tuple ds => (decide (1 ≤ ds.length) && decide (ds.length < 8)) && ((ds.all fun d => isWhole d 0 ds.length) && isT (ds.map natOf))
  | _ => false
theorem isWhole_nI (k : Nat) (n : Nat) : isWhole (nI k) 0 n = decide (k ≤ n) := by
  simp [isWhole, nI]
/-- the hills that take signs from h -/
def belowL (t : List Nat) (h : Nat) : List Nat := ((List.range t.length).filter fun k => decide (t.getD k 0 = h)).map (· + 1)
def leavesL (t : List Nat) : List Nat := ((List.range t.length).filter fun k => (belowL t (k + 1)).isEmpty).map (· + 1)
theorem map_nI {ks : List Nat} : (ks.map fun k : Nat => PyData.int ((k : Int) + 1)) = (ks.map (· + 1)).map nI := by
  rw [List.map_map]
  apply List.map_congr_left
  intro k _
  simp
theorem belowL_list (t : List Nat) (h : Nat) : (PyData.list (List.map (fun k => nI (k + 1)) (List.filter (fun k => decide (t.getD k 0 = h)) (List.range t.length)))) = nL (belowL t h) := by
  unfold belowL nL
  rw [List.map_map]
  rfl
theorem leavesL_list (t : List Nat) : (PyData.list (List.map (fun k => nI (k + 1)) (List.filter (fun k => (belowL t (k + 1)).isEmpty) (List.range t.length)))) = nL (leavesL t) := by
  unfold leavesL nL
  rw [List.map_map]
  rfl
theorem natOf_nI (t : List Nat) : (t.map nI).map natOf = t := by
  rw [List.map_map]
  conv => rhs; rw [← List.map_id t]
  apply List.map_congr_left
  intro k _
  simp [nI, natOf]
theorem isTree_nT (t : List Nat) : isTree (nT t) = isT t := by
  unfold isTree nT
  simp only [List.length_map, List.all_map, natOf_nI]
  unfold isT
  have : (t.all ((fun d => isWhole d 0 (t.length : Int)) ∘ nI)) = t.all fun h => decide (h ≤ t.length) := by
    congr 1
    funext k
    simp [isWhole_nI]
  rw [this]
  cases decide (1 ≤ t.length) <;> cases decide (t.length < 8) <;> cases (t.all fun h => decide (h ≤ t.length)) <;> simp
/-! ### fog, slips -/
def isPair (n : Nat) : PD → Bool
  | .tuple [a, b] => isWhole a 0 999 && isWhole b 1 n
  | _ => false
theorem isWhole_get {x : PD} {lo hi : Int} (h : isWhole x lo hi = true) : ∃ i, x = .int i ∧ lo ≤ i ∧ i ≤ hi := by
  unfold isWhole at h
  split at h
  · rename_i i
    simp at h
    exact ⟨i, rfl, h.1, h.2⟩
  · cases h
theorem isPair_get {n : Nat} {x : PD} (h : isPair n x = true) : ∃ a b : Int, x = .tuple [.int a, .int b] := by
  unfold isPair at h
  split at h
  · simp only [Bool.and_eq_true] at h
    obtain ⟨i, rfl, _⟩ := isWhole_get h.1
    obtain ⟨j, rfl, _⟩ := isWhole_get h.2
    exact ⟨i, j, rfl⟩
  · cases h
/-- one pair ahead of another -/
def ltPr : PD → PD → Bool
  | .tuple a, .tuple b => match intsOf a, intsOf b with
    | some x, some y => HT.lexLt x y
    | _, _ => false
  | _, _ => false
def isFog (n : Nat) : PD → Bool
  | .tuple ds => decide (ds.length ≤ 12) && (ds.all (isPair n) && (List.zipWith Im.two ds ds.tail).all fun m => ltPr m.d m.d2)
  | _ => false
def isSlip (n : Nat) : PD → Bool
  | .tuple [a, b, c] => isPair n (.tuple [a, b]) && isSign c
  | _ => false
def hd2 : PD → PD
  | .tuple (a :: b :: _) => .tuple [a, b]
  | x => x
def areSlips (n : Nat) : PD → Bool
  | .tuple ds => decide (ds.length ≤ 6) && (ds.all (isSlip n) && (List.zipWith Im.two ds ds.tail).all fun m => ltPr (hd2 m.d) (hd2 m.d2))
  | _ => false
/-- its first two are no texts alone -/
def okSlip : PD → Bool
  | .tuple [a, b, _] => !isSs [a, b]
  | _ => true
theorem isSlip_get {n : Nat} {x : PD} (h : isSlip n x = true) : ∃ (a b : Int) (c : PD), x = .tuple [.int a, .int b, c] := by
  unfold isSlip at h
  split at h
  · simp only [Bool.and_eq_true] at h
    obtain ⟨i, j, e⟩ := isPair_get h.1
    cases e
    exact ⟨i, j, _, rfl⟩
  · cases h
theorem zip_two {ds es : List PD} {m : Im} (h : m ∈ List.zipWith Im.two ds es) : ∃ a b, m = .two a b := by
  obtain ⟨i, hi, e⟩ := List.mem_iff_getElem.mp h
  rw [List.getElem_zipWith] at e
  exact ⟨_, _, e.symm⟩
theorem zip_mem2 {ds : List PD} {a b : PD} (h : Im.two a b ∈ List.zipWith Im.two ds ds.tail) : a ∈ ds ∧ b ∈ ds := by
  obtain ⟨i, hi, e⟩ := List.mem_iff_getElem.mp h
  rw [List.getElem_zipWith] at e
  cases e
  exact ⟨List.getElem_mem _, List.mem_of_mem_tail (List.getElem_mem _)⟩
/-! ### refusals -/
def refT (c : Nat) : PD := .tuple [.str "refused", .int (c : Int)]
theorem refu_eq (c : Nat) : refu c = .ret (.d (refT c)) false (.opq .non) := rfl
theorem lc_ref {Γ : List Fn} {G : List PD} {i n c : Nat} {m : Int} {elt : E} {ρ : Env'} (hm : m = n) (hn : n ≤ 1000000) (h0 : ρ[i]? = some .un) (h : ∀ k, k < n → evZ Γ G elt (ρ.set i (.sh (.d (nI k)))) = .ok (.val (.d (refT c))) (ρ.set i (.sh (.d (nI k))))) :
    evZ Γ G (.lc (.n i) (.r1 (.cst (.int m))) (.cst (.bool true)) elt) ρ = .ok (.fre (.d (.list (List.replicate n (refT c))))) ρ := by
  subst hm
  rw [ev_lcR (lo := 0) (n := n) (ρ1 := ρ) (evi_rg (v := .val (.d (.int n))) (ρ1 := ρ) (by simp) (by simp) hn) h0 .un hn (fun _ => true) (fun _ => refT c) (fun k hk => ⟨by simp, fun _ => ⟨.val (.d (refT c)), by rw [Nat.zero_add]; exact h k hk, rfl⟩⟩), filter_true']
  have : List.map (fun _ => refT c) (List.range n) = List.replicate n (refT c) := by apply List.ext_getElem <;> simp
  rw [this]
/-- a loop that asks each, and returns v at the first that fails -/
theorem st_forall {Γ : List Fn} {G : List PD} {fu : Nat} {P : SO → Prop} {tg : Tg} {it : It} {b r : Ss} {ρ ρ1 : Env'} {ms : List Im} (hi : eviZ Γ G it ρ = .ok ms ρ1) (p : Nat → Bool) (v : Vl) (I : Nat → Env' → Prop) (h0 : I 0 ρ1)
    (step : ∀ (i : Nat) (m : Im) (ρ : Env'), ms[i]? = some m → I i ρ → ∃ ρ1, asgI ρ tg m = some ρ1 ∧ ((p i = true ∧ ∃ ρ2, runsZ Γ G fu b ρ1 = .nx ρ2 ∧ I (i + 1) ρ2) ∨ (p i = false ∧ ∃ ρ2, runsZ Γ G fu b ρ1 = .rt v ρ2)))
    (k : (∀ i, i < ms.length → p i = true) → ∀ ρ', I ms.length ρ' → P (runsZ Γ G fu r ρ')) (k2 : ∀ i, i < ms.length → p i = false → ∀ ρ2, P (.rt v ρ2)) : P (runsZ Γ G fu (.cons (.fr tg it b) r) ρ) := by
  rw [runs_cons, run_fr, hi, of_ok]
  rcases forS_stop (Γ := Γ) (G := G) (fu := fu) (tg := tg) (b := b) (ms := ms) (ρ := ρ1) (fun i ρ => I i ρ ∧ ∀ j, j < i → p j = true) (fun o => ∃ i ρ2, i < ms.length ∧ p i = false ∧ o = .rt v ρ2) ⟨h0, by simp⟩ (fun i m ρ hm hI => by
      obtain ⟨ρ1, h1, h2⟩ := step i m ρ hm hI.1
      refine ⟨ρ1, h1, ?_⟩
      rcases h2 with ⟨hp, ρ2, h3, h4⟩ | ⟨hp, ρ2, h3⟩
      · refine .inl ⟨ρ2, h3, h4, fun j hj => ?_⟩
        by_cases e : j = i
        · rw [e]; exact hp
        · exact hI.2 j (by omega)
      · refine .inr ⟨fun ρ3 => ?_, i, ρ2, (List.getElem?_eq_some_iff.mp hm).1, hp, h3⟩
        rw [h3]
        exact fun z => by cases z) with ⟨ρ', h1, h2, h3⟩ | ⟨i, ρ2, hi', hp, h1⟩
  · rw [h1]
    exact k h3 ρ' h2
  · rw [h1]
    exact k2 i hi' hp ρ2
/-- a refusal, told by looking -/
def isRefu (c : Nat) : Option Res → Bool
  | some (.ret (.d (.tuple [.str s, .int n])) false (.opq .non)) => decide (s = "refused") && decide (n = (c : Int))
  | _ => false
theorem isRefu_eq {c : Nat} {r : Option Res} (h : isRefu c r = true) : r = some (refu c) := by
  unfold isRefu at h
  split at h
  · simp only [Bool.and_eq_true, decide_eq_true_eq] at h
    obtain ⟨rfl, rfl⟩ := h
    rfl
  · cases h
/-! ### all rest -/
def restL (n : Nat) : PD := .list (List.replicate n RS')
theorem depthAll_rep (d : PD) (h : d.depth = 0) : ∀ n, PyData.depthAll (List.replicate n d) = 0
  | 0 => rfl
  | n + 1 => by rw [List.replicate_succ, depthAll_cons, h, depthAll_rep d h n]; rfl
@[simp] theorem depth_restL (n : Nat) : (restL n).depth = 1 := by simp [restL, depthAll_rep RS' rfl n]
theorem okAll_restL (n : Nat) : okAll (restL n) = true := by
  unfold restL
  simp only [okAll]
  exact okAlls_of fun d hd => by rw [(List.mem_replicate.mp hd).2]; rfl
theorem eqv_restL (n : Nat) : PyData.eqv (restL n) (restL n) = true := eqv_self _ (okAll_restL n)
/-! ### one moment -/
def at' (xs : List PD) (h : Nat) : PD := xs.getD h .none
/-- all that take signs from h, and are seen, show what it shows -/
def repd (t : List Nat) (xs : List PD) (us : List Nat) (h : Nat) : Bool := (belowL t h).all fun o => !(us.any fun x => decide (x = o)) && PyData.eqv (at' xs o) (at' xs h)
def nextS (t : List Nat) (xs : List PD) (us : List Nat) (h : Nat) : PD :=
  if (us.any fun x => decide (x = h)) = true then at' xs h else if PyData.eqv (at' xs (up t h)) (at' xs h) = true then at' xs h else if repd t xs us h = true then at' xs (up t h) else at' xs h
theorem belowL_le {t : List Nat} {h o : Nat} (ho : o ∈ belowL t h) : 1 ≤ o ∧ o ≤ t.length ∧ up t o = h := by
  unfold belowL at ho
  simp only [List.mem_map, List.mem_filter, List.mem_range, decide_eq_true_eq] at ho
  obtain ⟨k, ⟨hk, e⟩, rfl⟩ := ho
  exact ⟨by omega, by omega, e⟩
theorem belowL_mem {t : List Nat} {h o : Nat} (h1 : 1 ≤ o) (h2 : o ≤ t.length) (e : up t o = h) : o ∈ belowL t h := by
  unfold belowL
  simp only [List.mem_map, List.mem_filter, List.mem_range, decide_eq_true_eq]
  exact ⟨o - 1, ⟨by omega, e⟩, by omega⟩
theorem atI_at (xs : List PD) (h : Nat) (hh : h < xs.length) : atI xs (h : Int) = some (at' xs h) := by
  rw [atI_of _ _ hh]
  simp [at', hh]
theorem at_mem {xs : List PD} {h : Nat} (hh : h < xs.length) : at' xs h ∈ xs := by
  have : at' xs h = xs[h] := by simp [at', hh]
  rw [this]; exact List.getElem_mem hh
theorem any_nI (us : List Nat) (h : Nat) : ((us.map nI).any fun z => PyData.eqv z (nI h)) = us.any fun x => decide (x = h) := by
  rw [List.any_map]
  congr 1
  funext x
  exact eqv_nI x h
theorem nextS_mem {t : List Nat} {xs : List PD} {us : List Nat} {h : Nat} (T : IsT t) (hx : xs.length = t.length + 1) (hh : h ≤ t.length) : nextS t xs us h ∈ xs := by
  have hu := up_le T hh
  unfold nextS
  split
  · exact at_mem (by omega)
  · split
    · exact at_mem (by omega)
    · split
      · exact at_mem (by omega)
      · exact at_mem (by omega)
/-- what a hill shows, by a slip another sign -/
def wrS (kvs : List (Key × PD)) (h : Nat) (v old : PD) : PD :=
  if PyData.eqv v old = true then v else if PyData.eqv v RS' = true then v else match kvs.find? (fun kv => decide (kv.1 = .inl (h : Int))) with
    | some kv => kv.2
    | none => v
def goes (t : List Nat) (xs its : List PD) (us : List Nat) : Bool := !its.isEmpty && repd t xs us 0
def stepX (t : List Nat) (xs its : List PD) (us : List Nat) : PD := if goes t xs its us = true then its.headD .none else at' xs 0
def stpI (t : List Nat) (xs its : List PD) (us : List Nat) : List PD := if goes t xs its us = true then its.tail else its
def stepL (t : List Nat) (xs its : List PD) (us : List Nat) (kvs : List (Key × PD)) (i : Nat) : List PD :=
  (List.range (t.length + 1)).map fun j => if j = 0 then stepX t xs its us else if j ≤ i then wrS kvs j (nextS t xs us j) (at' xs j) else at' xs j
theorem stepL_length (t : List Nat) (xs its : List PD) (us : List Nat) (kvs : List (Key × PD)) (i : Nat) : (stepL t xs its us kvs i).length = t.length + 1 := by simp [stepL]
theorem stepL_0 {t : List Nat} {xs its : List PD} {us : List Nat} {kvs : List (Key × PD)} (hx : xs.length = t.length + 1) : stepL t xs its us kvs 0 = xs.set 0 (stepX t xs its us) := by
  apply List.ext_getElem
  · simp [stepL, hx]
  · intro j h1 h2
    simp only [stepL, List.getElem_map, List.getElem_range, List.getElem_set]
    by_cases h0 : j = 0
    · subst h0; simp
    · have h3 : ¬ (0 = j) := fun e => h0 e.symm
      have h4 : ¬ (j ≤ 0) := by omega
      have h5 : j < xs.length := by simpa using h2
      rw [if_neg h0, if_neg h4, if_neg h3]
      simp [at', h5]
theorem stepL_succ {t : List Nat} {xs its : List PD} {us : List Nat} {kvs : List (Key × PD)} {i : Nat} : (stepL t xs its us kvs i).set (i + 1) (wrS kvs (i + 1) (nextS t xs us (i + 1)) (at' xs (i + 1))) = stepL t xs its us kvs (i + 1) := by
  apply List.ext_getElem
  · simp [stepL]
  · intro j h1 h2
    simp only [stepL, List.getElem_map, List.getElem_range, List.getElem_set]
    by_cases h0 : i + 1 = j
    · subst h0
      simp
    · rw [if_neg h0]
      by_cases h3 : j = 0
      · rw [if_pos h3, if_pos h3]
      · rw [if_neg h3, if_neg h3]
        by_cases h4 : j ≤ i
        · rw [if_pos h4, if_pos (by omega)]
        · rw [if_neg h4, if_neg (by omega)]
end Hil
/-! ClearM: how a row is passed on without fog, plainly. -/
namespace Hil
open PySem L2 HT0
theorem rs_self1 : PyData.eqv RS' RS' = true := by simp [RS']
/-- the i-th thing that a hill shows: at first rest, then sign, rest, sign, .. -/
def item (ds : List PD) (i : Nat) : PD := if i % 2 = 0 then RS' else ds.getD (i / 2) RS'
theorem item_even (ds : List PD) (j : Nat) : item ds (2 * j) = RS' := by
  unfold item; rw [if_pos (by omega)]
theorem item_odd (ds : List PD) (j : Nat) : item ds (2 * j + 1) = ds.getD j RS' := by
  unfold item
  rw [if_neg (by omega)]
  congr 1
  omega
theorem item_past {ds : List PD} {i : Nat} (h : 2 * ds.length ≤ i) : item ds i = RS' := by
  unfold item
  split
  · rfl
  · have : ¬ i / 2 < ds.length := by omega
    simp [Nat.not_lt.mp this]
section
variable {ds : List PD} (hs : ∀ d ∈ ds, isSign d = true)
include hs
theorem sign_rest (d : PD) (hd : d ∈ ds) : PyData.eqv d RS' = false ∧ PyData.eqv RS' d = false ∧ d.depth = 0 ∧ okAll d = true := by
  have h := hs d hd
  refine ⟨(isSign_ok h).2, ?_, ?_, (isSign_ok h).1⟩
  · cases d <;> first
      | (simp [isSign, isWhole] at h; done)
      | rfl
      | skip
    rename_i z
    have := (isSign_ok h).2
    simp only [RS', eqv_str, decide_eq_false_iff_not] at this ⊢
    exact fun e => this e.symm
  · cases d <;> first
      | (simp [isSign, isWhole] at h; done)
      | rfl
theorem item_depth (i : Nat) : (item ds i).depth = 0 ∧ okAll (item ds i) = true := by
  unfold item
  split
  · exact ⟨rfl, rfl⟩
  · by_cases h : i / 2 < ds.length
    · have : ds.getD (i / 2) RS' = ds[i / 2] := by simp [h]
      rw [this]
      have := sign_rest hs _ (List.getElem_mem h)
      exact ⟨this.2.2.1, this.2.2.2⟩
    · have : ds.getD (i / 2) RS' = RS' := by simp [Nat.not_lt.mp h]
      rw [this]
      exact ⟨rfl, rfl⟩
theorem item_self (i : Nat) : PyData.eqv (item ds i) (item ds i) = true := eqv_self _ (item_depth hs i).2
/-- two things one behind the other differ, till all is over -/
theorem item_next {i : Nat} (h : i < 2 * ds.length) : PyData.eqv (item ds (i + 1)) (item ds i) = false ∧ PyData.eqv (item ds i) (item ds (i + 1)) = false := by
  have key : ∀ j, j < ds.length → PyData.eqv (ds.getD j RS') RS' = false ∧ PyData.eqv RS' (ds.getD j RS') = false := by
    intro j hj
    have : ds.getD j RS' = ds[j] := by simp [hj]
    rw [this]
    have := sign_rest hs _ (List.getElem_mem hj)
    exact ⟨this.1, this.2.1⟩
  rcases Nat.mod_two_eq_zero_or_one i with e | e
  · obtain ⟨j, rfl⟩ : ∃ j, i = 2 * j := ⟨i / 2, by omega⟩
    rw [item_even, item_odd]
    exact key j (by omega)
  · obtain ⟨j, rfl⟩ : ∃ j, i = 2 * j + 1 := ⟨i / 2, by omega⟩
    rw [item_odd, show 2 * j + 1 + 1 = 2 * (j + 1) by omega, item_even]
    exact ⟨(key j (by omega)).2, (key j (by omega)).1⟩
end
theorem rests_item : ∀ (ds : List PD) (k : Nat), k < 2 * ds.length → (withRests ds)[k]? = some (item ds (k + 1))
  | [], k, h => by simp at h
  | d :: r, 0, _ => by
    show (d :: RS' :: withRests r)[0]? = some (item (d :: r) 1)
    have := item_odd (d :: r) 0
    rw [this]; rfl
  | d :: r, 1, _ => by
    show (d :: RS' :: withRests r)[1]? = some (item (d :: r) 2)
    have := item_even (d :: r) 1
    rw [this]; rfl
  | d :: r, k + 2, h => by
    have e : (withRests (d :: r))[k + 2]? = (withRests r)[k]? := rfl
    rw [e, rests_item r k (by simp at h; omega)]
    congr 1
    unfold item
    rcases Nat.mod_two_eq_zero_or_one (k + 1) with q | q
    · rw [if_pos q, if_pos (by omega)]
    · rw [if_neg (by omega), if_neg (by omega), show (k + 2 + 1) / 2 = (k + 1) / 2 + 1 by omega]
      rfl
theorem rests_drop {ds : List PD} {k : Nat} (h : k < 2 * ds.length) : (withRests ds).drop k = item ds (k + 1) :: (withRests ds).drop (k + 1) := by
  have hl : k < (withRests ds).length := by rw [withRests_length]; exact h
  rw [List.drop_eq_getElem_cons hl]
  have := rests_item ds k h
  rw [List.getElem?_eq_getElem hl] at this
  rw [Option.some.inj this]
/-- how many things a hill at r has begun -/
def idx (r m : Nat) : Nat := (m + 1 - r) / 2
/-- what all show at the moment m -/
def clr (t : List Nat) (ds : List PD) (m : Nat) : List PD := (List.range (t.length + 1)).map fun h => item ds (idx (rk t h) m)
def left (ds : List PD) (m : Nat) : List PD := (withRests ds).drop ((m + 1) / 2)
theorem clr_length (t : List Nat) (ds : List PD) (m : Nat) : (clr t ds m).length = t.length + 1 := by simp [clr]
theorem clr_at {t : List Nat} {ds : List PD} {m h : Nat} (hh : h ≤ t.length) : at' (clr t ds m) h = item ds (idx (rk t h) m) := by
  have : h < t.length + 1 := by omega
  simp [at', clr, this]
section
variable {t : List Nat} (T : IsT t)
include T
theorem child_of_0 : ∃ o, o ∈ belowL t 0 := by
  have aux : ∀ (n h : Nat), h ≠ 0 → h ≤ t.length → rk t h ≤ n → ∃ o, o ∈ belowL t 0 := by
    intro n
    induction n with
    | zero => intro h h0 hh hn; have := rk_pos T h0 hh; omega
    | succ n ih =>
      intro h h0 hh hn
      by_cases q : up t h = 0
      · exact ⟨h, belowL_mem (by omega) hh q⟩
      · have := rk_up T h0 hh
        exact ih (up t h) q (up_le T hh) (by omega)
  exact aux _ 1 (by omega) T.pos (Nat.le_refl _)
theorem rk_below {h o : Nat} (ho : o ∈ belowL t h) : rk t o = rk t h + 1 := by
  obtain ⟨a, b, c⟩ := belowL_le ho
  rw [rk_up T (by omega) b, c]
variable {ds : List PD} (hs : ∀ d ∈ ds, isSign d = true)
include hs
theorem repd_clr {m h : Nat} (hh : h ≤ t.length) : repd t (clr t ds m) [] h = (belowL t h).all fun o => PyData.eqv (item ds (idx (rk t h + 1) m)) (item ds (idx (rk t h) m)) := by
  unfold repd
  rw [Bool.eq_iff_iff, List.all_eq_true, List.all_eq_true]
  constructor
  · intro H o ho
    have := H o ho
    rw [clr_at (belowL_le ho).2.1, clr_at hh, rk_below T ho] at this
    simpa using this
  · intro H o ho
    have := H o ho
    rw [clr_at (belowL_le ho).2.1, clr_at hh, rk_below T ho]
    simpa using this
/-- hill 0 -/
theorem goes_clr (m : Nat) : goes t (clr t ds m) (left ds m) [] = decide (m % 2 = 0 ∧ (m + 1) / 2 < 2 * ds.length) := by
  unfold goes
  rw [repd_clr T hs (by omega), rk_zero]
  by_cases h : (m + 1) / 2 < 2 * ds.length
  · have hne : (left ds m).isEmpty = false := by unfold left; rw [rests_drop h]; rfl
    rw [hne]
    rcases Nat.mod_two_eq_zero_or_one m with e | e
    · have : idx (0 + 1) m = idx 0 m := by unfold idx; omega
      rw [this]
      simp only [item_self hs]
      have : (belowL t 0).all (fun _ => true) = true := by simp
      rw [this]
      simp [e, h]
    · have e1 : idx 0 m = idx (0 + 1) m + 1 := by unfold idx; omega
      have e2 := (item_next hs (i := idx (0 + 1) m) (by unfold idx; omega)).2
      rw [e1, e2]
      obtain ⟨o, ho⟩ := child_of_0 T
      have : (belowL t 0).all (fun _ => false) = false := by
        rw [List.all_eq_false]; exact ⟨o, ho, by simp⟩
      rw [this]
      simp [e]
  · have hne : (left ds m).isEmpty = true := by
      unfold left
      rw [List.drop_of_length_le (by rw [withRests_length]; omega)]
      rfl
    rw [hne]
    simp [h]
theorem left_step (m : Nat) : stpI t (clr t ds m) (left ds m) [] = left ds (m + 1) := by
  unfold stpI
  rw [goes_clr T hs]
  by_cases h : m % 2 = 0 ∧ (m + 1) / 2 < 2 * ds.length
  · rw [if_pos (by simp [h])]
    unfold left
    rw [rests_drop h.2, List.tail_cons]
    congr 1
    omega
  · rw [if_neg (by simpa using h)]
    unfold left
    by_cases q : m % 2 = 0
    · have q2 : 2 * ds.length ≤ (m + 1) / 2 := by omega
      rw [List.drop_of_length_le (by rw [withRests_length]; omega), List.drop_of_length_le (by rw [withRests_length]; omega)]
    · congr 1
      omega
theorem x0_step (m : Nat) : stepX t (clr t ds m) (left ds m) [] = item ds (idx 0 (m + 1)) := by
  unfold stepX
  rw [goes_clr T hs, clr_at (by omega), rk_zero]
  by_cases h : m % 2 = 0 ∧ (m + 1) / 2 < 2 * ds.length
  · rw [if_pos (by simp [h])]
    unfold left
    rw [rests_drop h.2, List.headD_cons]
    congr 1
    unfold idx; omega
  · rw [if_neg (by simpa using h)]
    by_cases q : m % 2 = 0
    · have q2 : 2 * ds.length ≤ (m + 1) / 2 := by omega
      rw [item_past (by unfold idx; omega), item_past (by unfold idx; omega)]
    · congr 1
      unfold idx; omega
theorem next_clr {m h : Nat} (h0 : h ≠ 0) (hh : h ≤ t.length) : nextS t (clr t ds m) [] h = item ds (idx (rk t h) (m + 1)) := by
  have hu := up_le T hh
  have hr := rk_up T h0 hh
  unfold nextS
  rw [if_neg (by simp), repd_clr T hs hh, clr_at hu, clr_at hh]
  generalize rk t (up t h) = r at hr
  rw [hr]
  have ea : idx (r + 1) (m + 1) = idx r m := by unfold idx; omega
  rw [ea]
  rcases (show idx r m = idx (r + 1) m ∨ idx r m = idx (r + 1) m + 1 by unfold idx; omega) with e | e
  · rw [e, if_pos (item_self hs _)]
  · by_cases q : idx (r + 1) m < 2 * ds.length
    · have n1 := (item_next hs q).1
      have e3 : idx (r + 1 + 1) m = idx (r + 1) m := by unfold idx at e ⊢; omega
      rw [e, if_neg (by rw [n1]; decide), e3]
      have : ((belowL t h).all fun o => PyData.eqv (item ds (idx (r + 1) m)) (item ds (idx (r + 1) m))) = true := by
        simp [item_self hs]
      rw [if_pos this]
    · have p1 : item ds (idx (r + 1) m) = RS' := item_past (by omega)
      have p2 : item ds (idx r m) = RS' := item_past (by omega)
      rw [p1, p2, if_pos rs_self1]
theorem clr_step (m : Nat) : stepL t (clr t ds m) (left ds m) [] [] t.length = clr t ds (m + 1) := by
  have w0 : ∀ h v old, wrS [] h v old = v := by
    intro h v old
    unfold wrS
    split
    · rfl
    · split <;> rfl
  unfold stepL
  conv => rhs; unfold clr
  apply List.map_congr_left
  intro h hh
  rw [List.mem_range] at hh
  by_cases h0 : h = 0
  · subst h0
    rw [if_pos rfl, x0_step T hs, rk_zero]
  · rw [if_neg h0, if_pos (by omega), w0, next_clr T hs h0 (by omega)]
theorem clr_depth (m : Nat) : ∀ x ∈ clr t ds m, x.depth = 0 := by
  intro x hx
  unfold clr at hx
  obtain ⟨h, _, rfl⟩ := List.mem_map.mp hx
  exact (item_depth hs _).1
/-- the deepest -/
def deep (t : List Nat) : Nat := ((List.range (t.length + 1)).map (rk t)).foldl max 0
omit T hs in
theorem foldl_max_spec (l : List Nat) : ∀ a, a ≤ l.foldl max a ∧ (∀ x ∈ l, x ≤ l.foldl max a) ∧ (l.foldl max a = a ∨ l.foldl max a ∈ l) := by
  induction l with
  | nil => intro a; exact ⟨Nat.le_refl _, by simp, .inl rfl⟩
  | cons y r ih =>
    intro a
    obtain ⟨h1, h2, h3⟩ := ih (max a y)
    simp only [List.foldl_cons]
    refine ⟨by omega, fun x hx => ?_, ?_⟩
    · rcases List.mem_cons.mp hx with rfl | hx
      · omega
      · exact h2 x hx
    · rcases h3 with h3 | h3
      · rw [h3]
        rcases Nat.le_total a y with q | q
        · rw [Nat.max_eq_right q]; exact .inr List.mem_cons_self
        · rw [Nat.max_eq_left q]; exact .inl rfl
      · exact .inr (List.mem_cons_of_mem _ h3)
omit hs in
theorem rk_deep {h : Nat} (hh : h ≤ t.length) : rk t h ≤ deep t := (foldl_max_spec _ 0).2.1 _ (List.mem_map.mpr ⟨h, by simp; omega, rfl⟩)
omit hs in
theorem deep_ex : ∃ h, h ≤ t.length ∧ rk t h = deep t := by
  rcases (foldl_max_spec ((List.range (t.length + 1)).map (rk t)) 0).2.2 with h | h
  · exact ⟨0, by omega, by rw [rk_zero]; exact h.symm⟩
  · obtain ⟨k, hk, e⟩ := List.mem_map.mp h
    exact ⟨k, by simp at hk; omega, e⟩
omit hs in
/-- there is a hill at each distance up to the deepest -/
theorem rk_each {r : Nat} (hr : r ≤ deep t) : ∃ h, h ≤ t.length ∧ rk t h = r := by
  obtain ⟨h, hh, e⟩ := deep_ex T
  have aux : ∀ (n h : Nat), h ≤ t.length → rk t h = r + n → ∃ g, g ≤ t.length ∧ rk t g = r := by
    intro n
    induction n with
    | zero => intro h hh e; exact ⟨h, hh, e⟩
    | succ n ih =>
      intro h hh e
      have h0 : h ≠ 0 := fun z => by rw [z, rk_zero] at e; omega
      have := rk_up T h0 hh
      exact ih (up t h) (up_le T hh) (by omega)
  exact aux (deep t - r) h hh (by omega)
/-- when all is over -/
def due (t : List Nat) (n : Nat) : Nat := if n = 0 then 0 else 4 * n + deep t - 1
theorem clr_end : clr t ds (due t ds.length) = List.replicate (t.length + 1) RS' ∧ left ds (due t ds.length) = [] := by
  constructor
  · apply List.ext_getElem
    · simp [clr]
    · intro h h1 h2
      simp only [clr, List.getElem_map, List.getElem_range, List.getElem_replicate]
      have hh : h ≤ t.length := by simp [clr] at h1; omega
      have := rk_deep T hh
      apply item_past
      unfold due idx
      split
      · omega
      · omega
  · unfold left
    apply List.drop_of_length_le
    rw [withRests_length]
    unfold due
    split
    · omega
    · omega
theorem clr_begin : clr t ds 0 = List.replicate (t.length + 1) RS' ∧ left ds 0 = withRests ds := by
  constructor
  · apply List.ext_getElem
    · simp [clr]
    · intro h h1 h2
      simp only [clr, List.getElem_map, List.getElem_range, List.getElem_replicate]
      have : idx (rk t h) 0 = 0 := by unfold idx; omega
      rw [this]
      rfl
  · rfl
omit T hs in
theorem eqvAll_ne : ∀ {a b : List PD} {i : Nat}, i < a.length → a.length = b.length → PyData.eqv (a.getD i .none) (b.getD i .none) = false → PyData.eqvAll a b = false
  | [], _, _, h, _, _ => by simp at h
  | _ :: _, [], _, _, h, _ => by simp at h
  | x :: a, y :: b, 0, _, _, h => by
    have : PyData.eqv x y = false := h
    rw [eqvAll_cons, this, Bool.false_and]
  | x :: a, y :: b, i + 1, h1, h2, h => by
    rw [eqvAll_cons, eqvAll_ne (a := a) (b := b) (i := i) (by simpa using h1) (by simpa using h2) h, Bool.and_false]
/-- before that not -/
theorem clr_busy {m : Nat} (hm : m < due t ds.length) : (left ds m).isEmpty = false ∨ PyData.eqv (.list (clr t ds m)) (restL (t.length + 1)) = false := by
  have hn : ds.length ≠ 0 := fun z => by unfold due at hm; rw [if_pos z] at hm; omega
  have hm' : m < 4 * ds.length + deep t - 1 := by unfold due at hm; rw [if_neg hn] at hm; exact hm
  by_cases q : (m + 1) / 2 < 2 * ds.length
  · left
    unfold left
    rw [rests_drop q]
    rfl
  · right
    obtain ⟨h, hh, e⟩ := rk_each T (r := m + 2 - 4 * ds.length) (by omega)
    unfold restL
    rw [eqv_list]
    refine eqvAll_ne (i := h) (by rw [clr_length]; omega) (by simp [clr_length]) ?_
    have a1 := clr_at (ds := ds) (m := m) hh
    unfold at' at a1
    rw [a1, e]
    have : (List.replicate (t.length + 1) RS').getD h .none = RS' := by
      have : h < t.length + 1 := by omega
      simp [this]
    rw [this]
    have ei : idx (m + 2 - 4 * ds.length) m = 2 * (ds.length - 1) + 1 := by unfold idx; omega
    rw [ei, item_odd]
    have hl : ds.length - 1 < ds.length := by omega
    have : ds.getD (ds.length - 1) RS' = ds[ds.length - 1] := by simp [hl]
    rw [this]
    exact (sign_rest hs _ (List.getElem_mem hl)).1
end
def rowsC (t : List Nat) (ds : List PD) (m : Nat) : List PD := (List.range (m + 1)).map fun k => .list (clr t ds k)
theorem rowsC_succ (t : List Nat) (ds : List PD) (m : Nat) : rowsC t ds (m + 1) = rowsC t ds m ++ [.list (clr t ds (m + 1))] := by
  unfold rowsC
  rw [List.range_succ, List.map_append]
  rfl
theorem rowsC_length (t : List Nat) (ds : List PD) (m : Nat) : (rowsC t ds m).length = m + 1 := by simp [rowsC]
theorem rowsC_last (t : List Nat) (ds : List PD) (m : Nat) : atI (rowsC t ds m) (-1) = some (.list (clr t ds m)) := by
  cases m with
  | zero => rfl
  | succ m => rw [rowsC_succ]; exact atI_last _ _
theorem rowsC_at (t : List Nat) (ds : List PD) (m k : Nat) (h : k ≤ m) : atI (rowsC t ds m) (k : Int) = some (.list (clr t ds k)) := by
  have hl : k < (rowsC t ds m).length := by rw [rowsC_length]; omega
  rw [atI_of _ _ hl]
  simp [rowsC]
/-- no slot of a caller -/
def Nmu (x : Sl) : Prop := ∀ w, x ≠ .mu w
theorem Nmu.asg {ρ : Env'} {i : Nat} {x y : Sl} (h : Nmu x) (e : ρ[i]? = some x) : asgN ρ i y = some (ρ.set i y) := by
  unfold asgN
  rw [e]
  cases x with
  | mu w => exact absurd rfl (h w)
  | _ => rfl
theorem Fre.nmu {x : Sl} (h : Fre x) : Nmu x := fun w e => by subst e; exact h.elim
section
variable {Γ : List Fn} {G : List PD} {fu : Nat}
theorem ev_lc_nil {tg : Tg} {it : It} {ft elt : E} {ρ ρ1 : Env'} (hi : eviZ Γ G it ρ = .ok [] ρ1) (hf : freeE ρ1 tg.slots = true) (hb : backE ρ1 (wipeE ρ1 tg.slots) tg.slots = ρ1) : evZ Γ G (.lc tg it ft elt) ρ = .ok (.fre (.d (.list []))) ρ1 := by
  have L : lcE Γ G tg ft elt [] (wipeE ρ1 tg.slots) [] = .ok [] (wipeE ρ1 tg.slots) := by simp [lcE, lcRun]
  rw [ev_lc_of hi hf (by simp) L, hb]
/-- name = a new value -/
theorem run_asgF {i : Nat} {e : E} {ρ ρ1 : Env'} {w : W} {x : Sl} (h : evZ Γ G e ρ = .ok (.fre w) ρ1) (hx : ρ1[i]? = some x) (hn : Nmu x) : runZ Γ G fu (.asg i e) ρ = .nx (ρ1.set i (.ow w)) := by
  rw [run_asg, h, of_ok]
  dsimp only
  rw [hn.asg hx]
theorem run_asgV {i : Nat} {e : E} {ρ ρ1 : Env'} {w : W} {x : Sl} (h : evZ Γ G e ρ = .ok (.val w) ρ1) (hx : ρ1[i]? = some x) (hn : Nmu x) : runZ Γ G fu (.asg i e) ρ = .nx (ρ1.set i (.sh w)) := by
  rw [run_asg, h, of_ok]
  simp only [give]
  rw [hn.asg hx]
/-- a test of or -/
theorem ev_or {a b : E} {ρ : Env'} {p q : Bool} (h1 : evZ Γ G a ρ = .ok (.val (.d (.bool p))) ρ) (h2 : evZ Γ G b ρ = .ok (.val (.d (.bool q))) ρ) : evZ Γ G (.bop false (.cons a (.cons b .nil))) ρ = .ok (.val (.d (.bool (p || q)))) ρ := by
  rw [ev_bop, evb_cons, h1, bind_ok]
  cases p with
  | true => rfl
  | false =>
    show evbZ Γ G false _ _ = _
    rw [evb_one, h2]
    rfl
end
/-! ### registers -/
def regC (t : List Nat) (ds : List PD) (h D : Nat) : List PD := ((List.range D).filter fun k => !PyData.eqv (item ds (idx (rk t h) (k + 1))) (item ds (idx (rk t h) k))).map fun k => .tuple [nI (k + 1), item ds (idx (rk t h) (k + 1))]
/-- the law's own -/
def thereL (ds : List PD) (r : Nat) (n : Nat) : List PD := (List.range n).flatMap fun k => [.tuple [nI (4 * k + 1 + r), ds.getD k RS'], .tuple [nI (4 * k + 3 + r), RS']]
theorem thereL_succ (ds : List PD) (r n : Nat) : thereL ds r (n + 1) = thereL ds r n ++ [.tuple [nI (4 * n + 1 + r), ds.getD n RS'], .tuple [nI (4 * n + 3 + r), RS']] := by
  unfold thereL
  rw [List.range_succ, List.flatMap_append]
  rfl
theorem thereL_eq (ds : List PD) (r : Nat) : ∀ n, (List.range (2 * n)).map (fun i => PyData.tuple [nI (r + 2 * i + 1), item ds (i + 1)]) = thereL ds r n
  | 0 => rfl
  | n + 1 => by
    rw [thereL_succ, ← thereL_eq ds r n, show 2 * (n + 1) = 2 * n + 1 + 1 by omega, List.range_succ, List.range_succ, List.map_append, List.map_append, List.append_assoc]
    congr 1
    simp only [List.map_cons, List.map_nil, List.singleton_append]
    rw [item_odd, show 2 * n + 1 + 1 = 2 * (n + 1) by omega, item_even, show r + 2 * (2 * n) + 1 = 4 * n + 1 + r by omega, show r + 2 * (2 * n + 1) + 1 = 4 * n + 3 + r by omega]
theorem nat_sorted_eq : ∀ {a b : List Nat}, (∀ x, x ∈ a ↔ x ∈ b) → a.Pairwise (· < ·) → b.Pairwise (· < ·) → a = b
  | [], [], _, _, _ => rfl
  | [], y :: b, p, _, _ => absurd ((p y).mpr List.mem_cons_self) (by simp)
  | x :: a, [], p, _, _ => absurd ((p x).mp List.mem_cons_self) (by simp)
  | x :: a, y :: b, p, ha, hb => by
    rw [List.pairwise_cons] at ha hb
    have e : x = y := by
      have h1 : x ∈ y :: b := (p x).mp List.mem_cons_self
      have h2 : y ∈ x :: a := (p y).mpr List.mem_cons_self
      rcases List.mem_cons.mp h1 with h1 | h1
      · exact h1
      · rcases List.mem_cons.mp h2 with h2 | h2
        · exact h2.symm
        · have := ha.1 y h2
          have := hb.1 x h1
          omega
    subst e
    congr 1
    refine nat_sorted_eq (fun z => ?_) ha.2 hb.2
    have := p z
    simp only [List.mem_cons] at this
    constructor
    · intro h
      rcases this.mp (.inr h) with e | e
      · have := ha.1 z h; omega
      · exact e
    · intro h
      rcases this.mpr (.inr h) with e | e
      · have := hb.1 z h; omega
      · exact e
theorem range_sorted (n : Nat) : (List.range n).Pairwise (· < ·) := List.pairwise_lt_range
theorem regC_eq {t : List Nat} (T : IsT t) {ds : List PD} (hs : ∀ d ∈ ds, isSign d = true) {h : Nat} (hh : h ≤ t.length) : regC t ds h (due t ds.length) = thereL ds (rk t h) ds.length := by
  have hd := rk_deep T hh
  generalize hr : rk t h = r at hd
  unfold regC
  rw [hr]
  have key : (List.range (due t ds.length)).filter (fun k => !PyData.eqv (item ds (idx r (k + 1))) (item ds (idx r k))) = (List.range (2 * ds.length)).map fun i => r + 2 * i := by
    refine nat_sorted_eq (fun k => ?_) ((range_sorted _).filter _) ?_
    · simp only [List.mem_filter, List.mem_range, List.mem_map, Bool.not_eq_true']
      constructor
      · rintro ⟨h1, h2⟩
        rcases (show idx r (k + 1) = idx r k ∨ idx r (k + 1) = idx r k + 1 by unfold idx; omega) with e | e
        · rw [e, item_self hs] at h2; cases h2
        · by_cases q : idx r k < 2 * ds.length
          · exact ⟨idx r k, q, by unfold idx at e ⊢; omega⟩
          · rw [e, item_past (by omega), item_past (by omega), rs_self1] at h2
            cases h2
      · rintro ⟨i, hi, rfl⟩
        have e1 : idx r (r + 2 * i + 1) = i + 1 := by unfold idx; omega
        have e2 : idx r (r + 2 * i) = i := by unfold idx; omega
        refine ⟨?_, ?_⟩
        · unfold due
          rw [if_neg (by omega)]
          omega
        · rw [e1, e2]
          exact (item_next hs hi).1
    · rw [List.pairwise_map]
      exact (range_sorted _).imp fun h => by omega
  rw [key, List.map_map, ← thereL_eq]
  apply List.map_congr_left
  intro i _
  have e1 : idx r (r + 2 * i + 1) = i + 1 := by unfold idx; omega
  simp only [Function.comp, e1]
theorem maxI_nat (l : List Nat) (m : Nat) (hm : m ∈ l) (hl : ∀ x ∈ l, x ≤ m) : maxI (l.map fun x : Nat => (x : Int)) = m := by
  have hne : (l.map fun x : Nat => (x : Int)) ≠ [] := by
    intro e
    rw [List.map_eq_nil_iff] at e
    rw [e] at hm
    cases hm
  have h1 := maxI_mem hne
  have h2 := maxI_le (ns := l.map fun x : Nat => (x : Int)) (m : Int) (List.mem_map_of_mem hm)
  obtain ⟨x, hx, e⟩ := List.mem_map.mp h1
  have := hl x hx
  omega
theorem maxI_deep {t : List Nat} (T : IsT t) : maxI ((List.range (t.length + 1)).map fun h => (rk t h : Int)) = deep t := by
  have := maxI_nat ((List.range (t.length + 1)).map (rk t)) (deep t) (by
    obtain ⟨h, hh, e⟩ := deep_ex T
    exact List.mem_map.mpr ⟨h, by simp; omega, e⟩) (fun x hx => by
    obtain ⟨h, hh, rfl⟩ := List.mem_map.mp hx
    exact rk_deep T (by simp at hh; omega))
  rw [List.map_map] at this
  exact this
end Hil
/-! PassM: a row is passed on with fog and slips, and all is over in the end: plainly. -/
namespace Hil
open PySem L2 HT0 Classical
/-- a number or a word -/
def isW : PD → Prop
  | .int _ => True
  | .str _ => True
  | _ => False
theorem eqv_isW {a b : PD} (ha : isW a) (hb : isW b) : PyData.eqv a b = true ↔ a = b := by
  cases a <;> cases b <;> simp_all [isW]
theorem isW_sign {d : PD} (h : isSign d = true) : isW d := by
  cases d <;> first
    | trivial
    | (simp [isSign, isWhole] at h; done)
/-! ### sums -/
def sumN (f : Nat → Nat) : Nat → Nat
  | 0 => 0
  | n + 1 => sumN f n + f n
theorem sumN_le {f g p q : Nat → Nat} {c : Nat} : ∀ {n : Nat}, (∀ k, k < n → f k + g k ≤ p k + c + q k) → sumN f n + sumN g n ≤ sumN p n + n * c + sumN q n
  | 0, _ => by simp [sumN]
  | n + 1, h => by
    have h1 := sumN_le (n := n) fun k hk => h k (by omega)
    have h2 := h n (by omega)
    simp only [sumN, Nat.succ_mul]
    omega
theorem sumN_pos {f : Nat → Nat} : ∀ {n k : Nat}, k < n → f k ≤ sumN f n
  | n + 1, k, h => by
    simp only [sumN]
    by_cases q : k = n
    · subst q; omega
    · have := sumN_pos (f := f) (n := n) (k := k) (by omega)
      omega
theorem sumN_bound {f : Nat → Nat} {b : Nat} : ∀ {n : Nat}, (∀ k, k < n → f k ≤ b) → sumN f n ≤ n * b
  | 0, _ => by simp [sumN]
  | n + 1, h => by
    have h1 := sumN_bound (n := n) fun k hk => h k (by omega)
    have h2 := h n (by omega)
    simp only [sumN, Nat.succ_mul]
    omega
/-! ### one moment, as functions of hills -/
structure Stp (t : List Nat) (us : List Nat) (sl : Nat → Nat) (x y : Nat → PD) (its : Prop) (g : Prop) : Prop where
  mvd : ∀ h, 1 ≤ h → h ≤ t.length → y h ≠ x h → x (up t h) ≠ x h ∧ (∀ o ∈ belowL t h, x o = x h) ∧ (sl h = 0 → y h = x (up t h))
  mv0 : y 0 ≠ x 0 → g
  g0 : g → ∀ o ∈ belowL t 0, x o = x 0
  stay : ∀ h, 1 ≤ h → h ≤ t.length → us = [] → sl h = 0 → x (up t h) ≠ x h → (∀ o ∈ belowL t h, x o = x h) → y h ≠ x h
  go : us = [] → its → (∀ o ∈ belowL t 0, x o = x 0) → g
/-- whether a hill has yet to repeat what it sees -/
noncomputable def bt (t : List Nat) (x : Nat → PD) (h : Nat) : Nat := if x (up t h) = x h then 0 else 1
noncomputable def mvN (x y : Nat → PD) (h : Nat) : Nat := if y h = x h then 0 else 1
def pd (t : List Nat) (f : Nat → Nat) : Nat → Nat → Nat
  | _, 0 => 0
  | 0, _ + 1 => 0
  | n + 1, h + 1 => pd t f n (up t (h + 1)) + f (h + 1)
theorem pd_le {t : List Nat} {f : Nat → Nat} {b : Nat} (hf : ∀ h, f h ≤ b) : ∀ n h, pd t f n h ≤ n * b
  | n, 0 => by cases n <;> simp [pd]
  | 0, h + 1 => by simp [pd]
  | n + 1, h + 1 => by
    have h1 := pd_le (t := t) hf n (up t (h + 1))
    have h2 := hf (h + 1)
    simp only [pd, Nat.succ_mul]
    omega
theorem pd_zero {t : List Nat} {f : Nat → Nat} (hf : ∀ h, f h = 0) (n h : Nat) : pd t f n h = 0 := by
  have := pd_le (t := t) (f := f) (b := 0) (fun h => by rw [hf h]; exact Nat.le_refl _) n h
  omega
section
variable {t : List Nat} (T : IsT t) {us : List Nat} {sl : Nat → Nat} {x y : Nat → PD} {its g : Prop} (S : Stp t us sl x y its g)
include T S
theorem bt_step {h : Nat} (h1 : 1 ≤ h) (h2 : h ≤ t.length) : bt t y h + mvN x y h ≤ bt t x h + mvN x y (up t h) + sl h := by
  have hb : h ∈ belowL t (up t h) := belowL_mem h1 h2 rfl
  unfold bt mvN
  by_cases q : y h = x h
  · rw [if_pos q]
    by_cases r : y (up t h) = x (up t h)
    · rw [q, r]; omega
    · rw [if_neg r]
      split <;> omega
  · obtain ⟨m1, m2, m3⟩ := S.mvd h h1 h2 q
    rw [if_neg q, if_neg m1]
    have r : y (up t h) = x (up t h) := by
      refine Classical.byContradiction fun r => ?_
      by_cases u0 : up t h = 0
      · rw [u0] at r hb m1
        exact m1 (S.g0 (S.mv0 r) h hb).symm
      · have := (S.mvd (up t h) (by omega) (up_le T h2) r).2.1 h hb
        exact m1 this.symm
    rw [if_pos r]
    by_cases s : sl h = 0
    · have := m3 s
      rw [if_pos (by rw [r, this])]
      omega
    · split <;> omega
theorem pd_step : ∀ {n h : Nat}, h ≤ t.length → rk t h ≤ n → pd t (bt t y) n h + mvN x y h ≤ pd t (bt t x) n h + mvN x y 0 + pd t sl n h
  | n, 0, _, _ => by cases n <;> simp [pd]
  | 0, h + 1, h2, hr => by
    have := rk_pos T (h := h + 1) (by omega) h2
    omega
  | n + 1, h + 1, h2, hr => by
    have e := rk_up T (h := h + 1) (by omega) h2
    have h3 := pd_step (n := n) (h := up t (h + 1)) (up_le T h2) (by omega)
    have h4 := bt_step T S (h := h + 1) (by omega) h2
    simp only [pd]
    omega
theorem sum_step : sumN (pd t (bt t y) t.length) (t.length + 1) + sumN (mvN x y) (t.length + 1) ≤ sumN (pd t (bt t x) t.length) (t.length + 1) + (t.length + 1) * mvN x y 0 + sumN (pd t sl t.length) (t.length + 1) :=
  sumN_le fun k hk => pd_step T S (by omega) (rk_le T (by omega))
/-- without fog and slips something is done, or all is over -/
theorem progress (hu : us = []) (hs : ∀ h, sl h = 0) : 1 ≤ sumN (mvN x y) (t.length + 1) ∨ g ∨ (¬ its ∧ ∀ h, h ≤ t.length → x h = x 0) := by
  by_cases hM : 1 ≤ sumN (mvN x y) (t.length + 1)
  · exact .inl hM
  by_cases hg : g
  · exact .inr (.inl hg)
  refine .inr (.inr ?_)
  have same : ∀ h, h ≤ t.length → y h = x h := by
    intro h hh
    refine Classical.byContradiction fun q => ?_
    have := sumN_pos (f := mvN x y) (n := t.length + 1) (k := h) (by omega)
    unfold mvN at this hM
    rw [if_neg q] at this
    omega
  have key : ∀ d h, 1 ≤ h → h ≤ t.length → t.length ≤ rk t h + d → x (up t h) = x h := by
    intro d
    induction d with
    | zero =>
      intro h h1 h2 hd
      refine Classical.byContradiction fun q => ?_
      refine S.stay h h1 h2 hu (hs h) q (fun o ho => ?_) (same h h2)
      have h3 := belowL_le ho
      have := rk_le T h3.2.1
      have := rk_up T (h := o) (by omega) h3.2.1
      rw [h3.2.2] at this
      omega
    | succ d ih =>
      intro h h1 h2 hd
      refine Classical.byContradiction fun q => ?_
      refine S.stay h h1 h2 hu (hs h) q (fun o ho => ?_) (same h h2)
      have h3 := belowL_le ho
      have := rk_up T (h := o) (by omega) h3.2.1
      rw [h3.2.2] at this
      have := ih o h3.1 h3.2.1 (by omega)
      rw [h3.2.2] at this
      exact this.symm
  have all : ∀ n h, h ≤ t.length → rk t h = n → x h = x 0 := by
    intro n
    induction n with
    | zero => intro h h2 hr; rw [rk_nil T h2 hr]
    | succ n ih =>
      intro h h2 hr
      have h0 : h ≠ 0 := by rintro rfl; rw [rk_zero] at hr; omega
      have := rk_up T h0 h2
      rw [← key t.length h (by omega) h2 (by omega)]
      exact ih _ (up_le T h2) (by omega)
  refine ⟨fun hi => hg (S.go hu hi fun o ho => all _ o (belowL_le ho).2.1 rfl), fun h hh => all _ h hh rfl⟩
end
/-! ### the moments of a row -/
def slN (kvs : List (Key × PD)) (h : Nat) : Nat := if (kvs.find? (fun kv => decide (kv.1 = .inl (h : Int)))).isSome = true then 1 else 0
theorem any_us {us : List Nat} {h : Nat} : (us.any fun x => decide (x = h)) = true ↔ h ∈ us := by
  simp [List.any_eq_true]
structure Wds (t : List Nat) (xs its : List PD) : Prop where
  len : xs.length = t.length + 1
  xw : ∀ d ∈ xs, isW d
  iw : ∀ d ∈ its, isW d
theorem Wds.at {t : List Nat} {xs its : List PD} (W : Wds t xs its) {h : Nat} (hh : h ≤ t.length) : isW (at' xs h) := by
  have h1 : h < xs.length := by have := W.len; omega
  have : at' xs h = xs[h] := by simp [at', h1]
  rw [this]
  exact W.xw _ (List.getElem_mem h1)
theorem stepL_at {t : List Nat} {xs its : List PD} {us : List Nat} {kvs : List (Key × PD)} {h : Nat} (hh : h ≤ t.length) : at' (stepL t xs its us kvs t.length) h = if h = 0 then stepX t xs its us else wrS kvs h (nextS t xs us h) (at' xs h) := by
  unfold stepL at'
  rw [List.getD_eq_getElem?_getD, List.getElem?_map, List.getElem?_range (by omega)]
  simp only [Option.map_some, Option.getD_some]
  by_cases h0 : h = 0
  · rw [if_pos h0, if_pos h0]
  · rw [if_neg h0, if_neg h0, if_pos hh]
section
variable {t : List Nat} (T : IsT t) {xs its : List PD} (W : Wds t xs its) {us : List Nat} {kvs : List (Key × PD)}
include T W
theorem nextS_w {h : Nat} (hh : h ≤ t.length) : isW (nextS t xs us h) := by
  unfold nextS
  split
  · exact W.at hh
  · split
    · exact W.at hh
    · split
      · exact W.at (up_le T hh)
      · exact W.at hh
theorem repd_iff {h : Nat} (hh : h ≤ t.length) : repd t xs us h = true ↔ ∀ o ∈ belowL t h, o ∉ us ∧ at' xs o = at' xs h := by
  unfold repd
  rw [List.all_eq_true]
  constructor
  · intro q o ho
    have := q o ho
    simp only [Bool.and_eq_true, Bool.not_eq_true', ← Bool.not_eq_true] at this
    rw [any_us] at this
    exact ⟨this.1, (eqv_isW (W.at (belowL_le ho).2.1) (W.at hh)).mp this.2⟩
  · intro q o ho
    have := q o ho
    simp only [Bool.and_eq_true, Bool.not_eq_true', ← Bool.not_eq_true]
    rw [any_us]
    exact ⟨this.1, (eqv_isW (W.at (belowL_le ho).2.1) (W.at hh)).mpr this.2⟩
theorem nextS_cases {h : Nat} (hh : h ≤ t.length) : (nextS t xs us h = at' xs h ∧ ¬ (h ∉ us ∧ at' xs (up t h) ≠ at' xs h ∧ ∀ o ∈ belowL t h, o ∉ us ∧ at' xs o = at' xs h)) ∨ (nextS t xs us h = at' xs (up t h) ∧ h ∉ us ∧ at' xs (up t h) ≠ at' xs h ∧ ∀ o ∈ belowL t h, o ∉ us ∧ at' xs o = at' xs h) := by
  have e := eqv_isW (W.at (up_le T hh)) (W.at hh)
  have r := repd_iff T W (us := us) hh
  unfold nextS
  by_cases h1 : (us.any fun x => decide (x = h)) = true
  · rw [if_pos h1]
    exact .inl ⟨rfl, fun q => q.1 (any_us.mp h1)⟩
  · rw [if_neg h1]
    by_cases h2 : PyData.eqv (at' xs (up t h)) (at' xs h) = true
    · rw [if_pos h2]
      exact .inl ⟨rfl, fun q => q.2.1 (e.mp h2)⟩
    · rw [if_neg h2]
      by_cases h3 : repd t xs us h = true
      · rw [if_pos h3]
        exact .inr ⟨rfl, fun q => h1 (any_us.mpr q), fun q => h2 (e.mpr q), r.mp h3⟩
      · rw [if_neg h3]
        exact .inl ⟨rfl, fun q => h3 (r.mpr q.2.2)⟩
theorem wrS_same {h : Nat} (hh : h ≤ t.length) (e : nextS t xs us h = at' xs h) : wrS kvs h (nextS t xs us h) (at' xs h) = at' xs h := by
  unfold wrS
  rw [e, if_pos ((eqv_isW (W.at hh) (W.at hh)).mpr rfl)]
theorem wrS_free {h : Nat} (e : slN kvs h = 0) (v old : PD) : wrS kvs h v old = v := by
  unfold slN at e
  unfold wrS
  split
  · rfl
  · split
    · rfl
    · cases q : kvs.find? (fun kv => decide (kv.1 = .inl (h : Int))) with
      | none => rfl
      | some kv => rw [q] at e; simp at e
theorem stp_of : Stp t us (slN kvs) (at' xs) (at' (stepL t xs its us kvs t.length)) (its ≠ []) (goes t xs its us = true) := by
  have G : goes t xs its us = true ↔ its ≠ [] ∧ ∀ o ∈ belowL t 0, o ∉ us ∧ at' xs o = at' xs 0 := by
    unfold goes
    rw [Bool.and_eq_true, repd_iff T W (Nat.zero_le _)]
    cases its <;> simp
  refine ⟨?_, ?_, ?_, ?_, ?_⟩
  · intro h h1 h2 q
    rw [stepL_at h2, if_neg (by omega)] at q ⊢
    rcases nextS_cases T W (us := us) h2 with ⟨e, -⟩ | ⟨e, a, b, c⟩
    · exact absurd (wrS_same T W h2 e) q
    · exact ⟨b, fun o ho => (c o ho).2, fun s => by rw [wrS_free T W s, e]⟩
  · intro q
    rw [stepL_at (Nat.zero_le _), if_pos rfl] at q
    unfold stepX at q
    by_cases g : goes t xs its us = true
    · exact g
    · rw [if_neg g] at q
      exact absurd rfl q
  · intro g o ho
    exact ((G.mp g).2 o ho).2
  · intro h h1 h2 hu s a b
    rw [stepL_at h2, if_neg (by omega), wrS_free T W s]
    rcases nextS_cases T W (us := us) h2 with ⟨e, n⟩ | ⟨e, -⟩
    · exact absurd ⟨by rw [hu]; simp, a, fun o ho => ⟨by rw [hu]; simp, b o ho⟩⟩ n
    · rw [e]; exact a
  · intro hu i a
    exact G.mpr ⟨i, fun o ho => ⟨by rw [hu]; simp, a o ho⟩⟩
theorem wds_step (hk : ∀ kv ∈ kvs, isW kv.2) : Wds t (stepL t xs its us kvs t.length) (stpI t xs its us) := by
  refine ⟨stepL_length _ _ _ _ _ _, ?_, ?_⟩
  · intro d hd
    obtain ⟨h, hh, rfl⟩ := List.mem_iff_getElem.mp hd
    rw [stepL_length] at hh
    have e : (stepL t xs its us kvs t.length)[h] = at' (stepL t xs its us kvs t.length) h := by
      unfold at'
      rw [List.getD_eq_getElem?_getD, List.getElem?_eq_getElem (by rw [stepL_length]; exact hh)]
      rfl
    rw [e, stepL_at (by omega)]
    split
    · unfold stepX
      by_cases g : goes t xs its us = true
      · rw [if_pos g]
        cases its with
        | nil => simp [goes] at g
        | cons d r => exact W.iw d (by simp)
      · rw [if_neg g]; exact W.at (Nat.zero_le _)
    · unfold wrS
      split
      · exact nextS_w T W (by omega)
      · split
        · exact nextS_w T W (by omega)
        · split
          · rename_i kv q
            exact hk kv (List.mem_of_find?_eq_some q)
          · exact nextS_w T W (by omega)
  · intro d hd
    unfold stpI at hd
    split at hd
    · exact W.iw d (List.mem_of_mem_tail hd)
    · exact W.iw d hd
end
/-- what is left to be done -/
noncomputable def PhiN (t : List Nat) (xs its : List PD) : Nat := (t.length + 1) * its.length + sumN (pd t (bt t (at' xs)) t.length) (t.length + 1)
theorem PhiN_le (t : List Nat) (xs its : List PD) : PhiN t xs its ≤ (t.length + 1) * its.length + (t.length + 1) * t.length := by
  unfold PhiN
  have : sumN (pd t (bt t (at' xs)) t.length) (t.length + 1) ≤ (t.length + 1) * t.length := sumN_bound fun k _ => by
    have := pd_le (t := t) (f := bt t (at' xs)) (b := 1) (fun h => by unfold bt; split <;> omega) t.length k
    omega
  omega
theorem Phi_step {t : List Nat} (T : IsT t) {xs its : List PD} (W : Wds t xs its) : PhiN t (stepL t xs its [] [] t.length) (stpI t xs its []) < PhiN t xs its ∨ (its = [] ∧ ∀ h, h ≤ t.length → at' xs h = at' xs 0) := by
  have S := stp_of T W (us := []) (kvs := [])
  have h1 := sum_step T S
  have h2 := progress T S rfl (fun h => rfl)
  have h3 : sumN (pd t (slN []) t.length) (t.length + 1) = 0 := by
    have := sumN_bound (f := pd t (slN []) t.length) (b := 0) (n := t.length + 1) fun k _ => by rw [pd_zero (f := slN []) (fun h => rfl)]; exact Nat.le_refl _
    omega
  rw [h3] at h1
  have hm : mvN (at' xs) (at' (stepL t xs its [] [] t.length)) 0 = 0 ∨ (mvN (at' xs) (at' (stepL t xs its [] [] t.length)) 0 = 1 ∧ goes t xs its [] = true) := by
    unfold mvN
    by_cases q : at' (stepL t xs its [] [] t.length) 0 = at' xs 0
    · rw [if_pos q]; exact .inl rfl
    · rw [if_neg q]; exact .inr ⟨rfl, S.mv0 q⟩
  have hI : goes t xs its [] = true → (stpI t xs its []).length + 1 = its.length := by
    intro g
    unfold stpI
    rw [if_pos g]
    cases its with
    | nil => simp [goes] at g
    | cons d r => rfl
  have hJ : ¬ goes t xs its [] = true → stpI t xs its [] = its := by
    intro g
    unfold stpI
    rw [if_neg g]
  have hP := sumN_pos (f := mvN (at' xs) (at' (stepL t xs its [] [] t.length))) (n := t.length + 1) (k := 0) (by omega)
  unfold PhiN
  by_cases g : goes t xs its [] = true
  · left
    have e := hI g
    rw [← e, Nat.mul_succ]
    rcases hm with m | ⟨m, -⟩ <;> rw [m] at h1 hP <;> omega
  · rw [hJ g]
    rcases hm with m | ⟨m, g'⟩
    · rw [m] at h1
      rcases h2 with a | a | ⟨a, b⟩
      · left; omega
      · exact absurd a g
      · right
        exact ⟨Classical.not_not.mp a, b⟩
    · exact absurd g' g
/-! ### all moments -/
def passS (t : List Nat) (ds : List PD) (us : Nat → List Nat) (kv : Nat → List (Key × PD)) : Nat → List PD × List PD
  | 0 => (List.replicate (t.length + 1) RS', withRests ds)
  | m + 1 => (stepL t (passS t ds us kv m).1 (passS t ds us kv m).2 (us m) (kv m) t.length, stpI t (passS t ds us kv m).1 (passS t ds us kv m).2 (us m))
def busy (t : List Nat) (ds : List PD) (us : Nat → List Nat) (kv : Nat → List (Key × PD)) (m : Nat) : Bool := !(passS t ds us kv m).2.isEmpty || !PyData.eqv (.list (passS t ds us kv m).1) (restL (t.length + 1))
theorem least {p : Nat → Bool} : ∀ {n : Nat}, (∃ m, m ≤ n ∧ p m = false) → ∃ D, D ≤ n ∧ p D = false ∧ ∀ m, m < D → p m = true
  | 0, ⟨m, h1, h2⟩ => ⟨0, Nat.le_refl _, by rwa [Nat.le_zero.mp h1] at h2, fun m h => absurd h (by omega)⟩
  | n + 1, ⟨m, h1, h2⟩ => by
    by_cases q : ∃ m, m ≤ n ∧ p m = false
    · obtain ⟨D, a, b⟩ := least q
      exact ⟨D, by omega, b⟩
    · have e : m = n + 1 := by
        refine Classical.byContradiction fun h => q ⟨m, by omega, h2⟩
      subst e
      refine ⟨n + 1, Nat.le_refl _, h2, fun k hk => ?_⟩
      cases r : p k with
      | true => rfl
      | false => exact absurd ⟨k, by omega, r⟩ q
theorem rests_last : ∀ ds : List PD, (RS' :: withRests ds).getLast? = some RS'
  | [] => rfl
  | d :: ds => by
    have e : withRests (d :: ds) = d :: RS' :: withRests ds := rfl
    rw [e, List.getLast?_cons_cons, List.getLast?_cons_cons]
    exact rests_last ds
section
variable {t : List Nat} (T : IsT t) {ds : List PD} (hs : ∀ d ∈ ds, isSign d = true) {us : Nat → List Nat} {kv : Nat → List (Key × PD)} (hk : ∀ m, ∀ e ∈ kv m, isW e.2)
include T hs hk
theorem pass_wds : ∀ m, Wds t (passS t ds us kv m).1 (passS t ds us kv m).2
  | 0 => ⟨by simp [passS], fun d hd => by
      have := (List.mem_replicate.mp hd).2
      subst this; trivial, fun d hd => by
      unfold passS withRests at hd
      simp only [List.mem_flatMap, List.mem_cons, List.not_mem_nil, or_false] at hd
      obtain ⟨e, he, hd⟩ := hd
      rcases hd with rfl | rfl
      · exact isW_sign (hs _ he)
      · trivial⟩
  | m + 1 => by
    have := pass_wds m
    exact wds_step T this (hk m)
omit T hs hk in
theorem pass_rest : ∀ m, (at' (passS t ds us kv m).1 0 :: (passS t ds us kv m).2).getLast? = some RS'
  | 0 => rests_last ds
  | m + 1 => by
    have ih := pass_rest m
    have e : at' (passS t ds us kv (m + 1)).1 0 = stepX t (passS t ds us kv m).1 (passS t ds us kv m).2 (us m) := by
      show at' (stepL t _ _ _ _ t.length) 0 = _
      rw [stepL_at (Nat.zero_le _), if_pos rfl]
    have e2 : (passS t ds us kv (m + 1)).2 = stpI t (passS t ds us kv m).1 (passS t ds us kv m).2 (us m) := rfl
    rw [e, e2]
    unfold stepX stpI
    by_cases g : goes t (passS t ds us kv m).1 (passS t ds us kv m).2 (us m) = true
    · rw [if_pos g, if_pos g]
      generalize (passS t ds us kv m).2 = its at *
      cases its with
      | nil => simp [goes] at g
      | cons d r => rw [List.getLast?_cons_cons] at ih; exact ih
    · rw [if_neg g, if_neg g]; exact ih
omit T hs hk in
theorem pass_left : ∀ m, (passS t ds us kv m).2.length ≤ 2 * ds.length
  | 0 => by show (withRests ds).length ≤ _; rw [withRests_length]; omega
  | m + 1 => by
    have ih := pass_left m
    show (stpI t _ _ _).length ≤ _
    unfold stpI
    split
    · rw [List.length_tail]; omega
    · exact ih
theorem pass_quiet {m : Nat} (h1 : (passS t ds us kv m).2 = []) (h2 : ∀ h, h ≤ t.length → at' (passS t ds us kv m).1 h = at' (passS t ds us kv m).1 0) : busy t ds us kv m = false := by
  have W := pass_wds T hs (us := us) hk m
  have r := pass_rest (t := t) (ds := ds) (us := us) (kv := kv) m
  rw [h1] at r
  have r0 : at' (passS t ds us kv m).1 0 = RS' := by simpa using r
  have e : (passS t ds us kv m).1 = List.replicate (t.length + 1) RS' := by
    apply List.ext_getElem
    · rw [W.len]; simp
    · intro h h3 h4
      have h5 := W.len
      have := h2 h (by omega)
      rw [r0] at this
      rw [List.getElem_replicate, ← this]
      simp [at', h3]
  unfold busy
  rw [h1, e]
  have : PyData.eqv (.list (List.replicate (t.length + 1) RS')) (restL (t.length + 1)) = true := eqv_restL _
  rw [this]
  rfl
theorem pass_end {M : Nat} (hM : ∀ m, M ≤ m → us m = [] ∧ kv m = []) : ∃ D, D ≤ M + ((t.length + 1) * (2 * ds.length) + (t.length + 1) * t.length) + 1 ∧ busy t ds us kv D = false ∧ ∀ m, m < D → busy t ds us kv m = true := by
  refine least (Classical.byContradiction fun q => ?_)
  have key : ∀ k, k ≤ (t.length + 1) * (2 * ds.length) + (t.length + 1) * t.length + 1 → PhiN t (passS t ds us kv (M + k)).1 (passS t ds us kv (M + k)).2 + k ≤ PhiN t (passS t ds us kv M).1 (passS t ds us kv M).2 := by
    intro k
    induction k with
    | zero => intro _; exact Nat.le_refl _
    | succ k ih =>
      intro hk'
      have h1 := ih (by omega)
      obtain ⟨u, v⟩ := hM (M + k) (by omega)
      have W := pass_wds T hs hk (us := us) (M + k)
      rcases Phi_step T W with h | ⟨h2, h3⟩
      · have e : passS t ds us kv (M + (k + 1)) = (stepL t (passS t ds us kv (M + k)).1 (passS t ds us kv (M + k)).2 [] [] t.length, stpI t (passS t ds us kv (M + k)).1 (passS t ds us kv (M + k)).2 []) := by
          show passS t ds us kv (M + k + 1) = _
          rw [passS, u, v]
        rw [e]
        show PhiN t (stepL t _ _ [] [] t.length) (stpI t _ _ []) + (k + 1) ≤ _
        omega
      · exact absurd ⟨M + k, by omega, pass_quiet T hs hk h2 h3⟩ q
  have h1 := key _ (Nat.le_refl _)
  have h2 := PhiN_le t (passS t ds us kv M).1 (passS t ds us kv M).2
  have h3 := pass_left (t := t) (ds := ds) (us := us) (kv := kv) M
  have h4 := Nat.mul_le_mul_left (t.length + 1) h3
  omega
end
/-- the rows of the first moments -/
def rowsF (f : Nat → List PD) (m : Nat) : List PD := (List.range (m + 1)).map fun k => .list (f k)
theorem rowsF_succ (f : Nat → List PD) (m : Nat) : rowsF f (m + 1) = rowsF f m ++ [.list (f (m + 1))] := by
  unfold rowsF
  rw [List.range_succ, List.map_append]
  rfl
theorem rowsF_length (f : Nat → List PD) (m : Nat) : (rowsF f m).length = m + 1 := by simp [rowsF]
theorem rowsF_last (f : Nat → List PD) (m : Nat) : atI (rowsF f m) (-1) = some (.list (f m)) := by
  cases m with
  | zero => rfl
  | succ m => rw [rowsF_succ]; exact atI_last _ _
theorem rowsF_at (f : Nat → List PD) (m k : Nat) (h : k ≤ m) : atI (rowsF f m) (k : Int) = some (.list (f k)) := by
  have hl : k < (rowsF f m).length := by rw [rowsF_length]; omega
  rw [atI_of _ _ hl]
  simp [rowsF]
/-! ### fog and slips, as they are handed in -/
def fogP (fog : List (Nat × Nat)) : PD := .tuple (fog.map fun p => .tuple [nI p.1, nI p.2])
def slipP (sl : List (Nat × Nat × PD)) : PD := .tuple (sl.map fun p => .tuple [nI p.1, nI p.2.1, p.2.2])
def usA (fog : List (Nat × Nat)) (m : Nat) : List Nat := (fog.filter fun p => decide (p.1 = m)).map Prod.snd
def kvA (sl : List (Nat × Nat × PD)) (m : Nat) : List (Key × PD) := mergeD [] ((sl.filter fun p => decide (p.1 = m + 1)).map fun p => (.inl (p.2.1 : Int), p.2.2))
theorem putD_w {kvs : List (Key × PD)} (h : ∀ e ∈ kvs, isW e.2) {k : Key} {v : PD} (hv : isW v) : ∀ e ∈ putD kvs k v, isW e.2 := by
  intro e he
  unfold putD at he
  split at he
  · simp only [List.mem_map] at he
    obtain ⟨a, ha, rfl⟩ := he
    split
    · exact hv
    · exact h a ha
  · rcases List.mem_append.mp he with he | he
    · exact h e he
    · simp only [List.mem_singleton] at he
      subst he; exact hv
theorem mergeD_w : ∀ {r kvs : List (Key × PD)}, (∀ e ∈ kvs, isW e.2) → (∀ e ∈ r, isW e.2) → ∀ e ∈ mergeD kvs r, isW e.2
  | [], _, h, _ => h
  | (k, v) :: r, kvs, h, hr => mergeD_w (r := r) (putD_w h (hr (k, v) (by simp))) fun e he => hr e (by simp [he])
theorem kvA_w {sl : List (Nat × Nat × PD)} (h : ∀ p ∈ sl, isSign p.2.2 = true) (m : Nat) : ∀ e ∈ kvA sl m, isW e.2 := by
  refine mergeD_w (by simp) fun e he => ?_
  simp only [List.mem_map, List.mem_filter] at he
  obtain ⟨p, ⟨hp, -⟩, rfl⟩ := he
  exact isW_sign (h p hp)
theorem usA_nil {fog : List (Nat × Nat)} {M m : Nat} (h : ∀ p ∈ fog, p.1 < M) (hm : M ≤ m) : usA fog m = [] := by
  unfold usA
  have : (fog.filter fun p => decide (p.1 = m)) = [] := by
    rw [List.filter_eq_nil_iff]
    intro p hp
    have := h p hp
    simp only [decide_eq_true_eq]
    omega
  rw [this]; rfl
theorem kvA_nil {sl : List (Nat × Nat × PD)} {M m : Nat} (h : ∀ p ∈ sl, p.1 < M) (hm : M ≤ m) : kvA sl m = [] := by
  unfold kvA
  have : (sl.filter fun p => decide (p.1 = m + 1)) = [] := by
    rw [List.filter_eq_nil_iff]
    intro p hp
    have := h p hp
    simp only [decide_eq_true_eq]
    omega
  rw [this]; rfl
theorem isW_depth {d : PD} (h : isW d) : d.depth = 0 := by cases d <;> first | rfl | exact h.elim
section
variable (t : List Nat) (ds : List PD) (fog : List (Nat × Nat)) (sl : List (Nat × Nat × PD))
/-- what all show at a moment; what is left; whether all is over -/
def paX (m : Nat) : List PD := (passS t ds (usA fog) (kvA sl) m).1
def paY (m : Nat) : List PD := (passS t ds (usA fog) (kvA sl) m).2
def paB (m : Nat) : Bool := busy t ds (usA fog) (kvA sl) m
/-- a tree, a row, fog, slips -/
structure PaOk : Prop where
  T : IsT t
  hs : ∀ d ∈ ds, isSign d = true
  hl : ds.length ≤ 160
  fg : isFog t.length (fogP fog) = true
  sp : areSlips t.length (slipP sl) = true
/-- the moment at which all is over -/
noncomputable def paD : Nat := if h : ∃ D, paB t ds fog sl D = false ∧ ∀ m, m < D → paB t ds fog sl m = true then Classical.choose h else 0
end
section
variable {t : List Nat} {ds : List PD} {fog : List (Nat × Nat)} {sl : List (Nat × Nat × PD)}
theorem paD_eq {D : Nat} (h1 : paB t ds fog sl D = false) (h2 : ∀ m, m < D → paB t ds fog sl m = true) : paD t ds fog sl = D := by
  have h : ∃ D, paB t ds fog sl D = false ∧ ∀ m, m < D → paB t ds fog sl m = true := ⟨D, h1, h2⟩
  have e : paD t ds fog sl = Classical.choose h := by unfold paD; rw [dif_pos h]
  obtain ⟨a, b⟩ := Classical.choose_spec h
  rw [e]
  rcases Nat.lt_trichotomy (Classical.choose h) D with q | q | q
  · rw [h2 _ q] at a; cases a
  · exact q
  · rw [b _ q] at h1; cases h1
variable (O : PaOk t ds fog sl)
include O
theorem PaOk.fl : fog.length ≤ 12 := by
  have := O.fg
  simp only [isFog, fogP, Bool.and_eq_true, decide_eq_true_eq, List.length_map] at this
  exact this.1
theorem PaOk.fp : ∀ p ∈ fog, p.1 < 1000 ∧ 1 ≤ p.2 ∧ p.2 ≤ t.length := by
  intro p hp
  have := O.fg
  simp only [isFog, fogP, Bool.and_eq_true, decide_eq_true_eq, List.all_eq_true, List.mem_map] at this
  have h := this.2.1 _ ⟨p, hp, rfl⟩
  simp only [isPair, isWhole, Bool.and_eq_true, decide_eq_true_eq] at h
  omega
theorem PaOk.fm : ∀ p ∈ fog, p.1 < 1000 := fun p hp => (O.fp p hp).1
theorem PaOk.sn : sl.length ≤ 6 := by
  have := O.sp
  simp only [areSlips, slipP, Bool.and_eq_true, decide_eq_true_eq, List.length_map] at this
  exact this.1
theorem PaOk.sq : ∀ p ∈ sl, p.1 < 1000 ∧ 1 ≤ p.2.1 ∧ p.2.1 ≤ t.length ∧ isSign p.2.2 = true := by
  intro p hp
  have := O.sp
  simp only [areSlips, slipP, Bool.and_eq_true, decide_eq_true_eq, List.all_eq_true, List.mem_map] at this
  have h := this.2.1 _ ⟨p, hp, rfl⟩
  simp only [isSlip, isPair, isWhole, Bool.and_eq_true, decide_eq_true_eq] at h
  refine ⟨by omega, by omega, by omega, h.2⟩
theorem PaOk.sm : ∀ p ∈ sl, p.1 < 1000 := fun p hp => (O.sq p hp).1
theorem PaOk.ss : ∀ p ∈ sl, isSign p.2.2 = true := fun p hp => (O.sq p hp).2.2.2
theorem PaOk.okF : okAll (fogP fog) = true := by
  simp only [fogP, okAll]
  refine okAlls_of fun d hd => ?_
  simp only [List.mem_map] at hd
  obtain ⟨p, -, rfl⟩ := hd
  rfl
theorem PaOk.okS : okAll (slipP sl) = true := by
  simp only [slipP, okAll]
  refine okAlls_of fun d hd => ?_
  simp only [List.mem_map] at hd
  obtain ⟨p, hp, rfl⟩ := hd
  simp only [okAll]
  refine okAlls_of fun x hx => ?_
  simp only [List.mem_cons, List.not_mem_nil, or_false] at hx
  rcases hx with rfl | rfl | rfl
  · rfl
  · rfl
  · exact (isSign_ok (O.ss p hp)).1
theorem PaOk.okS2 : ∀ es, slipP sl = .tuple es → ∀ d ∈ es, okSlip d = true := by
  intro es e d hd
  unfold slipP at e
  cases e
  simp only [List.mem_map] at hd
  obtain ⟨p, -, rfl⟩ := hd
  rfl
theorem PaOk.okR : okAll (.list ds) = true := by
  simp only [okAll]
  exact okAlls_of fun d hd => (isSign_ok (O.hs d hd)).1
theorem PaOk.row : isRow (.list ds) = true := by
  simp only [isRow, Bool.and_eq_true, decide_eq_true_eq]
  exact ⟨O.hl, List.all_eq_true.mpr O.hs⟩
theorem PaOk.wds (m : Nat) : Wds t (paX t ds fog sl m) (paY t ds fog sl m) := pass_wds O.T O.hs (us := usA fog) (kvA_w O.ss) m
theorem paD_le : paD t ds fog sl ≤ 10000 ∧ paB t ds fog sl (paD t ds fog sl) = false ∧ ∀ m, m < paD t ds fog sl → paB t ds fog sl m = true := by
  have tl := O.T.lt
  have hl := O.hl
  obtain ⟨D, D1, D2, D3⟩ := pass_end O.T O.hs (us := usA fog) (kv := kvA sl) (kvA_w O.ss) (M := 1000) fun m hm => ⟨usA_nil O.fm hm, kvA_nil O.sm hm⟩
  have e := paD_eq (t := t) (ds := ds) (fog := fog) (sl := sl) D2 D3
  rw [e]
  have h1 : (t.length + 1) * (2 * ds.length) ≤ 8 * (2 * 160) := Nat.mul_le_mul (by omega) (by omega)
  have h2 : (t.length + 1) * t.length ≤ 8 * 8 := Nat.mul_le_mul (by omega) (by omega)
  exact ⟨by omega, D2, D3⟩
end
/-- what a hill began to show -/
def regF (f : Nat → List PD) (h D : Nat) : List PD := ((List.range D).filter fun k => !PyData.eqv (at' (f (k + 1)) h) (at' (f k) h)).map fun k => .tuple [nI (k + 1), at' (f (k + 1)) h]
end Hil
namespace Hil
open PySem L2 HT0
/-! ### without fog and slips it is the closed form -/
theorem pass_clr {t : List Nat} (T : IsT t) {ds : List PD} (hs : ∀ d ∈ ds, isSign d = true) : ∀ m, passS t ds (usA []) (kvA []) m = (clr t ds m, left ds m)
  | 0 => by
    obtain ⟨a, b⟩ := clr_begin T hs
    rw [a, b]
    rfl
  | m + 1 => by
    have u : usA [] m = [] := rfl
    have k : kvA [] m = [] := rfl
    rw [passS, pass_clr T hs m, u, k, clr_step T hs, left_step T hs]
theorem paX_clr {t : List Nat} (T : IsT t) {ds : List PD} (hs : ∀ d ∈ ds, isSign d = true) (m : Nat) : paX t ds [] [] m = clr t ds m := by
  unfold paX
  rw [pass_clr T hs]
theorem paD_clr {t : List Nat} (T : IsT t) {ds : List PD} (hs : ∀ d ∈ ds, isSign d = true) : paD t ds [] [] = due t ds.length := by
  refine paD_eq ?_ ?_
  · obtain ⟨a, b⟩ := clr_end T hs
    unfold paB busy
    rw [pass_clr T hs]
    simp only [a, b]
    have : PyData.eqv (.list (List.replicate (t.length + 1) RS')) (restL (t.length + 1)) = true := eqv_restL _
    rw [this]
    rfl
  · intro m hm
    unfold paB busy
    rw [pass_clr T hs]
    rcases clr_busy T hs hm with h | h
    · simp only [h]; rfl
    · simp only [h]; rw [Bool.or_comm]; rfl
end Hil
/-! CountM: without slips a hill's show is told by how many things it has begun. -/
namespace Hil
open PySem L2 HT0
def seenB (us : List Nat) (h : Nat) : Bool := !(us.any fun x => decide (x = h))
theorem seenB_iff {us : List Nat} {h : Nat} : seenB us h = true ↔ h ∉ us := by
  simp only [seenB, Bool.not_eq_true', List.any_eq_false, decide_eq_true_eq]
  exact ⟨fun a q => a h q rfl, fun a x hx e => a (e ▸ hx)⟩
/-- whether a hill begins its next thing -/
def goB (t : List Nat) (n : Nat) (us : List Nat) (c : Nat → Nat) (h : Nat) : Bool :=
  (if h = 0 then decide (c 0 < n) else seenB us h && decide (c (up t h) ≠ c h)) && (belowL t h).all fun o => seenB us o && decide (c o = c h)
/-- how many things a hill has begun -/
def cs (t : List Nat) (n : Nat) (us : Nat → List Nat) : Nat → Nat → Nat
  | 0, _ => 0
  | m + 1, h => cs t n us m h + (if goB t n (us m) (cs t n us m) h = true then 1 else 0)
theorem goB_0 {t : List Nat} {n : Nat} {us : List Nat} {c : Nat → Nat} : goB t n us c 0 = true ↔ c 0 < n ∧ ∀ o ∈ belowL t 0, o ∉ us ∧ c o = c 0 := by
  simp only [goB, if_true, Bool.and_eq_true, decide_eq_true_eq, List.all_eq_true, seenB_iff]
theorem goB_h {t : List Nat} {n : Nat} {us : List Nat} {c : Nat → Nat} {h : Nat} (h0 : h ≠ 0) : goB t n us c h = true ↔ (h ∉ us ∧ c (up t h) ≠ c h) ∧ ∀ o ∈ belowL t h, o ∉ us ∧ c o = c h := by
  simp only [goB, h0, if_false, Bool.and_eq_true, decide_eq_true_eq, List.all_eq_true, seenB_iff]
theorem goB_below {t : List Nat} {n : Nat} {us : List Nat} {c : Nat → Nat} {h o : Nat} (g : goB t n us c h = true) (ho : o ∈ belowL t h) : o ∉ us ∧ c o = c h := by
  by_cases h0 : h = 0
  · subst h0; exact (goB_0.mp g).2 o ho
  · exact ((goB_h h0).mp g).2 o ho
/-- a hill is level with the one ahead of it, or one behind -/
structure Lev (t : List Nat) (n : Nat) (c : Nat → Nat) : Prop where
  top : c 0 ≤ n
  lev : ∀ h, h ≠ 0 → h ≤ t.length → c h ≤ c (up t h) ∧ c (up t h) ≤ c h + 1
section
variable {t : List Nat} (T : IsT t) {n : Nat}
include T
theorem Lev.le {c : Nat → Nat} (L : Lev t n c) : ∀ {k h : Nat}, h ≤ t.length → rk t h = k → c h ≤ c 0
  | 0, h, hh, e => by rw [rk_nil T hh e]; exact Nat.le_refl _
  | k + 1, h, hh, e => by
    have h0 : h ≠ 0 := by rintro rfl; rw [rk_zero] at e; omega
    have := rk_up T h0 hh
    have := Lev.le L (k := k) (up_le T hh) (by omega)
    have := (L.lev h h0 hh).1
    omega
theorem Lev.step {us : List Nat} {c c' : Nat → Nat} (L : Lev t n c) (e : ∀ h, c' h = c h + (if goB t n us c h = true then 1 else 0)) : Lev t n c' := by
  refine ⟨?_, fun h h0 hh => ?_⟩
  · rw [e]
    by_cases g : goB t n us c 0 = true
    · rw [if_pos g]; have := (goB_0.mp g).1; omega
    · rw [if_neg g]; exact L.top
  · have hb : h ∈ belowL t (up t h) := belowL_mem (by omega) hh rfl
    obtain ⟨l1, l2⟩ := L.lev h h0 hh
    rw [e, e]
    by_cases g : goB t n us c h = true
    · have g1 := ((goB_h h0).mp g).1.2
      have g2 : ¬ goB t n us c (up t h) = true := fun q => g1 (goB_below q hb).2.symm
      rw [if_pos g, if_neg g2]
      omega
    · rw [if_neg g]
      by_cases g2 : goB t n us c (up t h) = true
      · have := (goB_below g2 hb).2
        rw [if_pos g2]
        omega
      · rw [if_neg g2]
        omega
theorem cs_lev (us : Nat → List Nat) : ∀ m, Lev t n (cs t n us m)
  | 0 => ⟨Nat.zero_le _, fun h _ _ => ⟨Nat.le_refl _, Nat.zero_le _⟩⟩
  | m + 1 => Lev.step T (cs_lev us m) fun h => rfl
end
/-! ### more fog, nothing sooner -/
theorem step_mono {t : List Nat} (T : IsT t) {n : Nat} {us vs : List Nat} (huv : ∀ h ∈ us, h ∈ vs) {c d : Nat → Nat} (L : Lev t n c) (L' : Lev t n d) (ih : ∀ h, h ≤ t.length → d h ≤ c h) {h : Nat} (hh : h ≤ t.length) :
    d h + (if goB t n vs d h = true then 1 else 0) ≤ c h + (if goB t n us c h = true then 1 else 0) := by
  have i1 := ih h hh
  by_cases g : goB t n vs d h = true
  · rw [if_pos g]
    by_cases q : d h < c h
    · split <;> omega
    · have e : d h = c h := by omega
      have g' : goB t n us c h = true := by
        by_cases h0 : h = 0
        · subst h0
          obtain ⟨a, b⟩ := goB_0.mp g
          refine goB_0.mpr ⟨by omega, fun o ho => ?_⟩
          obtain ⟨b1, b2⟩ := b o ho
          obtain ⟨o1, o2, o3⟩ := belowL_le ho
          have := ih o o2
          have := (L.lev o (by omega) o2).1
          rw [o3] at this
          exact ⟨fun x => b1 (huv o x), by omega⟩
        · obtain ⟨⟨a1, a2⟩, b⟩ := (goB_h h0).mp g
          have u1 := ih (up t h) (up_le T hh)
          have u2 := (L'.lev h h0 hh).1
          refine (goB_h h0).mpr ⟨⟨fun x => a1 (huv h x), by omega⟩, fun o ho => ?_⟩
          obtain ⟨b1, b2⟩ := b o ho
          obtain ⟨o1, o2, o3⟩ := belowL_le ho
          have := ih o o2
          have := (L.lev o (by omega) o2).1
          rw [o3] at this
          exact ⟨fun x => b1 (huv o x), by omega⟩
      rw [if_pos g']
      omega
  · rw [if_neg g]
    omega
theorem cs_mono {t : List Nat} (T : IsT t) {n : Nat} {us vs : Nat → List Nat} (huv : ∀ m, ∀ h ∈ us m, h ∈ vs m) : ∀ m h, h ≤ t.length → cs t n vs m h ≤ cs t n us m h
  | 0, h, _ => Nat.le_refl _
  | m + 1, h, hh => step_mono T (huv m) (cs_lev T us m) (cs_lev T vs m) (fun k hk => cs_mono T huv m k hk) hh
/-- how many moments ahead of m are foggy in vs -/
def fogN (vs : Nat → List Nat) : Nat → Nat
  | 0 => 0
  | m + 1 => fogN vs m + (if (vs m).isEmpty then 0 else 1)
theorem fogN_le (vs : Nat → List Nat) : ∀ m, fogN vs m ≤ m
  | 0 => Nat.le_refl _
  | m + 1 => by
    have := fogN_le vs m
    simp only [fogN]
    split <;> omega
/-- each foggy moment is worth one moment at most -/
theorem cs_late {t : List Nat} (T : IsT t) {n : Nat} {us vs : Nat → List Nat} (hu : ∀ m, us m = []) : ∀ m h, h ≤ t.length → cs t n us (m - fogN vs m) h ≤ cs t n vs m h
  | 0, h, _ => Nat.le_refl _
  | m + 1, h, hh => by
    have ih := fun k hk => cs_late T (n := n) (vs := vs) hu m k hk
    have hf := fogN_le vs m
    by_cases q : (vs m).isEmpty = true
    · have e : m + 1 - fogN vs (m + 1) = (m - fogN vs m) + 1 := by
        simp only [fogN, q, if_true]
        omega
      rw [e]
      refine step_mono T (fun k hk => ?_) (cs_lev T vs m) (cs_lev T us _) ih hh
      rw [List.isEmpty_iff.mp q] at hk
      cases hk
    · have e : m + 1 - fogN vs (m + 1) = m - fogN vs m := by
        rw [fogN, if_neg q]
        omega
      rw [e]
      have := ih h hh
      show _ ≤ cs t n vs m h + _
      omega
/-! ### what is shown, by counts -/
theorem isW_item {ds : List PD} (hs : ∀ d ∈ ds, isSign d = true) (i : Nat) : isW (item ds i) := by
  unfold item
  split
  · trivial
  · by_cases h : i / 2 < ds.length
    · have : ds.getD (i / 2) RS' = ds[i / 2] := by simp [h]
      rw [this]
      exact isW_sign (hs _ (List.getElem_mem h))
    · have : ds.getD (i / 2) RS' = RS' := by simp [Nat.not_lt.mp h]
      rw [this]
      trivial
def cX (t : List Nat) (ds : List PD) (c : Nat → Nat) : List PD := (List.range (t.length + 1)).map fun h => item ds (c h)
theorem cX_at {t : List Nat} {ds : List PD} {c : Nat → Nat} {h : Nat} (hh : h ≤ t.length) : at' (cX t ds c) h = item ds (c h) := by
  unfold cX at'
  rw [List.getD_eq_getElem?_getD, List.getElem?_map, List.getElem?_range (by omega)]
  rfl
theorem pass_cs {t : List Nat} (T : IsT t) {ds : List PD} (hs : ∀ d ∈ ds, isSign d = true) (us : Nat → List Nat) : ∀ m, passS t ds us (fun _ => []) m = (cX t ds (cs t (2 * ds.length) us m), (withRests ds).drop (cs t (2 * ds.length) us m 0))
  | 0 => by
    have : cX t ds (cs t (2 * ds.length) us 0) = List.replicate (t.length + 1) RS' := by
      apply List.ext_getElem
      · simp [cX]
      · intro i h1 h2
        simp [cX, cs, item]
    rw [this]
    rfl
  | m + 1 => by
    have ih := pass_cs T hs us m
    have W := pass_wds T hs (us := us) (kv := fun _ => []) (by simp) m
    have L := cs_lev T (n := 2 * ds.length) us m
    rw [passS, ih]
    rw [ih] at W
    have hc : ∀ h, cs t (2 * ds.length) us (m + 1) h = cs t (2 * ds.length) us m h + (if goB t (2 * ds.length) (us m) (cs t (2 * ds.length) us m) h = true then 1 else 0) := fun h => rfl
    generalize cs t (2 * ds.length) us (m + 1) = c' at *
    generalize cs t (2 * ds.length) us m = c at *
    generalize us m = U at *
    simp only at W ⊢
    have tops : ∀ h, h ≤ t.length → c h ≤ 2 * ds.length := fun h hh => Nat.le_trans (Lev.le T L hh rfl) L.top
    have eqc : ∀ h, h ≠ 0 → h ≤ t.length → (at' (cX t ds c) (up t h) = at' (cX t ds c) h ↔ c (up t h) = c h) := by
      intro h h0 hh
      rw [cX_at hh, cX_at (up_le T hh)]
      refine ⟨fun q => ?_, fun q => by rw [q]⟩
      obtain ⟨a, b⟩ := L.lev h h0 hh
      refine Classical.byContradiction fun r => ?_
      have e : c (up t h) = c h + 1 := by omega
      have := tops _ (up_le T hh)
      have n := (item_next hs (i := c h) (by omega)).1
      rw [e] at q
      rw [(eqv_isW (isW_item hs _) (isW_item hs _)).mpr q] at n
      cases n
    have eqb : ∀ h, h ≤ t.length → ((∀ o ∈ belowL t h, o ∉ U ∧ at' (cX t ds c) o = at' (cX t ds c) h) ↔ ∀ o ∈ belowL t h, o ∉ U ∧ c o = c h) := by
      intro h hh
      have one : ∀ o ∈ belowL t h, (at' (cX t ds c) o = at' (cX t ds c) h ↔ c o = c h) := by
        intro o ho
        obtain ⟨o1, o2, o3⟩ := belowL_le ho
        have := eqc o (by omega) o2
        rw [o3] at this
        exact ⟨fun q => (this.mp q.symm).symm, fun q => (this.mpr q.symm).symm⟩
      exact ⟨fun q o ho => ⟨(q o ho).1, (one o ho).mp (q o ho).2⟩, fun q o ho => ⟨(q o ho).1, (one o ho).mpr (q o ho).2⟩⟩
    have G : goes t (cX t ds c) ((withRests ds).drop (c 0)) U = true ↔ goB t (2 * ds.length) U c 0 = true := by
      unfold goes
      rw [Bool.and_eq_true, repd_iff T W (Nat.zero_le _), eqb 0 (Nat.zero_le _), goB_0]
      have : ((!((withRests ds).drop (c 0)).isEmpty) = true) ↔ c 0 < 2 * ds.length := by
        rw [Bool.not_eq_true', ← Bool.not_eq_true, List.isEmpty_iff, List.drop_eq_nil_iff, withRests_length]
        omega
      rw [this]
    refine Prod.ext ?_ ?_
    · apply List.ext_getElem
      · simp [stepL, cX]
      · intro h h1 h2
        have hh : h ≤ t.length := by rw [stepL_length] at h1; omega
        have e1 : (stepL t (cX t ds c) ((withRests ds).drop (c 0)) U [] t.length)[h] = at' (stepL t (cX t ds c) ((withRests ds).drop (c 0)) U [] t.length) h := by simp [at', h1]
        have e2 : (cX t ds c')[h] = item ds (c' h) := by rw [← cX_at hh]; simp [at', h2]
        show (stepL t (cX t ds c) ((withRests ds).drop (c 0)) U [] t.length)[h] = (cX t ds c')[h]
        rw [e1, e2, stepL_at hh, hc]
        by_cases h0 : h = 0
        · subst h0
          rw [if_pos rfl]
          unfold stepX
          by_cases g : goB t (2 * ds.length) U c 0 = true
          · have g1 := (goB_0.mp g).1
            rw [if_pos (G.mpr g), if_pos g, rests_drop (by omega)]
            rfl
          · rw [if_neg (fun q => g (G.mp q)), if_neg g, cX_at hh]
            rfl
        · rw [if_neg h0, wrS_free T W rfl]
          have gi := goB_h (t := t) (n := 2 * ds.length) (us := U) (c := c) h0
          rcases nextS_cases T W (us := U) hh with ⟨e, q⟩ | ⟨e, a, b, d⟩
          · have g : ¬ goB t (2 * ds.length) U c h = true := fun g => by
              obtain ⟨⟨g1, g2⟩, g3⟩ := gi.mp g
              exact q ⟨g1, fun x => g2 ((eqc h h0 hh).mp x), (eqb h hh).mpr g3⟩
            rw [if_neg g, e, cX_at hh]
            rfl
          · have b' : c (up t h) ≠ c h := fun x => b ((eqc h h0 hh).mpr x)
            have g : goB t (2 * ds.length) U c h = true := gi.mpr ⟨⟨a, b'⟩, (eqb h hh).mp d⟩
            rw [if_pos g, e, cX_at (up_le T hh)]
            obtain ⟨l1, l2⟩ := L.lev h h0 hh
            congr 1
            omega
    · show stpI t (cX t ds c) ((withRests ds).drop (c 0)) U = (withRests ds).drop (c' 0)
      unfold stpI
      rw [hc]
      by_cases g : goB t (2 * ds.length) U c 0 = true
      · rw [if_pos (G.mpr g), if_pos g, List.tail_drop]
      · rw [if_neg (fun q => g (G.mp q)), if_neg g]
        rfl
end Hil
/-! FogM: drawn fog is fog. -/
namespace Hil
open PySem L2 HT0
theorem insU_length (x : Int) : ∀ l : List Int, (insU x l).length ≤ l.length + 1
  | [] => Nat.le_refl _
  | y :: r => by
    have := insU_length x r
    unfold insU
    split
    · simp
    · split
      · simp
      · simp; omega
theorem sortU_length : ∀ l : List Int, (sortU l).length ≤ l.length
  | [] => Nat.le_refl _
  | x :: r => by
    have h1 := sortU_length r
    have h2 := insU_length x (sortU r)
    show (insU x (sortU r)).length ≤ _
    simp only [List.length_cons]
    omega
def codeN (p : Nat × Nat) : Int := (p.1 : Int) * 64 + p.2
def uncN (c : Int) : Nat × Nat := ((c / 64).toNat, (c % 64).toNat)
/-- drawn pairs, in order, each once -/
def fogD (raws : List (Nat × Nat)) : List (Nat × Nat) := (sortU (raws.map codeN)).map uncN
theorem pairsC_raws : ∀ {raws : List (Nat × Nat)}, (∀ p ∈ raws, p.1 < 64 ∧ p.2 < 64) → pairsC (raws.map fun p => PyData.tuple [nI p.1, nI p.2]) = some (raws.map codeN)
  | [], _ => rfl
  | p :: r, h => by
    obtain ⟨h1, h2⟩ := h p (by simp)
    have ih := pairsC_raws (raws := r) fun q hq => h q (by simp [hq])
    have e : pairC (.tuple [nI p.1, nI p.2]) = some (codeN p) := by
      unfold pairC
      simp [codeN]
      omega
    rw [List.map_cons, List.map_cons, pairsC, e]
    show (match some (codeN p), pairsC (r.map fun p => PyData.tuple [nI p.1, nI p.2]) with
      | some c, some cs => some (c :: cs)
      | _, _ => none) = _
    rw [ih]
theorem unc_code {p : Nat × Nat} (h : p.2 < 64) : uncN (codeN p) = p := by
  obtain ⟨a, b⟩ := p
  unfold uncN codeN
  simp only at h ⊢
  refine Prod.ext ?_ ?_ <;> simp only <;> omega
section
variable {raws : List (Nat × Nat)} (h : ∀ p ∈ raws, p.1 < 64 ∧ p.2 < 64)
include h
theorem fogD_mem {p : Nat × Nat} : p ∈ fogD raws ↔ p ∈ raws := by
  unfold fogD
  simp only [List.mem_map, sortU_mem]
  constructor
  · rintro ⟨c, ⟨q, hq, rfl⟩, rfl⟩
    rw [unc_code (h q hq).2]
    exact hq
  · intro hp
    exact ⟨_, ⟨p, hp, rfl⟩, unc_code (h p hp).2⟩
theorem fogD_un : (sortU (raws.map codeN)).map unC = (fogD raws).map fun p => PyData.tuple [nI p.1, nI p.2] := by
  unfold fogD
  rw [List.map_map]
  apply List.map_congr_left
  intro c hc
  rw [sortU_mem, List.mem_map] at hc
  obtain ⟨q, hq, rfl⟩ := hc
  have h2 := (h q hq).2
  show unC (codeN q) = .tuple [nI (uncN (codeN q)).1, nI (uncN (codeN q)).2]
  rw [unc_code h2]
  exact unC_code (by omega)
theorem zip_pairs : ∀ {cs : List Int}, cs.Pairwise (· < ·) → (∀ c ∈ cs, 0 ≤ c) → ((List.zipWith Im.two ((cs.map uncN).map fun p => PyData.tuple [nI p.1, nI p.2]) ((cs.map uncN).map fun p => PyData.tuple [nI p.1, nI p.2]).tail).all fun m => ltPr m.d m.d2) = true
  | [], _, _ => rfl
  | [c], _, _ => rfl
  | c :: d :: r, hp, h0 => by
    have ih := zip_pairs (cs := d :: r) (List.pairwise_cons.mp hp).2 fun x hx => h0 x (by simp [hx])
    have h1 := (List.pairwise_cons.mp hp).1 d (by simp)
    have h2 := h0 c (by simp)
    simp only [List.map_cons, List.tail_cons, List.zipWith_cons_cons, List.all_cons, Bool.and_eq_true] at ih ⊢
    refine ⟨?_, ih⟩
    have e1 : (((c / 64).toNat : Nat) : Int) = c / 64 := Int.toNat_of_nonneg (by omega)
    have e2 : (((c % 64).toNat : Nat) : Int) = c % 64 := Int.toNat_of_nonneg (by omega)
    have e3 : (((d / 64).toNat : Nat) : Int) = d / 64 := Int.toNat_of_nonneg (by omega)
    have e4 : (((d % 64).toNat : Nat) : Int) = d % 64 := Int.toNat_of_nonneg (by omega)
    show HT.lexLt [((uncN c).1 : Int), ((uncN c).2 : Int)] [((uncN d).1 : Int), ((uncN d).2 : Int)] = true
    show HT.lexLt [(((c / 64).toNat : Nat) : Int), (((c % 64).toNat : Nat) : Int)] [(((d / 64).toNat : Nat) : Int), (((d % 64).toNat : Nat) : Int)] = true
    rw [e1, e2, e3, e4]
    by_cases q : c / 64 < d / 64
    · rw [HT.lexLt_cons, if_neg (by omega)]
      exact decide_eq_true q
    · have e : c / 64 = d / 64 := by omega
      have e5 : c % 64 < d % 64 := by omega
      rw [HT.lexLt_cons, if_pos e, HT.lexLt_cons, if_neg (by omega)]
      exact decide_eq_true e5
theorem fogD_fog {n most : Nat} (hl : raws.length ≤ 12) (hn : ∀ p ∈ raws, 1 ≤ p.2 ∧ p.2 ≤ n) : isFog n (fogP (fogD raws)) = true := by
  have hlen : (fogD raws).length ≤ 12 := by
    unfold fogD
    rw [List.length_map]
    have := sortU_length (raws.map codeN)
    rw [List.length_map] at this
    omega
  unfold isFog fogP
  simp only [Bool.and_eq_true, decide_eq_true_eq, List.length_map]
  refine ⟨hlen, ?_, ?_⟩
  · rw [List.all_eq_true]
    intro d hd
    simp only [List.mem_map] at hd
    obtain ⟨p, hp, rfl⟩ := hd
    rw [fogD_mem h] at hp
    have a := h p hp
    have b := hn p hp
    simp [isPair, isWhole]
    omega
  · refine zip_pairs h (sortU_sorted _) fun c hc => ?_
    rw [sortU_mem, List.mem_map] at hc
    obtain ⟨q, hq, rfl⟩ := hc
    unfold codeN
    omega
end
end Hil
/-! RegM: registers by counts (no slips). -/
namespace Hil
open PySem L2 HT0
theorem regF_cs {t : List Nat} (T : IsT t) {ds : List PD} (hs : ∀ d ∈ ds, isSign d = true) (us : Nat → List Nat) {h : Nat} (hh : h ≤ t.length) (D : Nat) :
    regF (fun m => cX t ds (cs t (2 * ds.length) us m)) h D = ((List.range D).filter fun m => goB t (2 * ds.length) (us m) (cs t (2 * ds.length) us m) h).map fun m => .tuple [nI (m + 1), item ds (cs t (2 * ds.length) us m h + 1)] := by
  have hc : ∀ m, cs t (2 * ds.length) us (m + 1) h = cs t (2 * ds.length) us m h + (if goB t (2 * ds.length) (us m) (cs t (2 * ds.length) us m) h = true then 1 else 0) := fun m => rfl
  have tops : ∀ m, cs t (2 * ds.length) us m h ≤ 2 * ds.length := fun m => Nat.le_trans (Lev.le T (cs_lev T us m) hh rfl) (cs_lev T us m).top
  have e : ∀ m, (!PyData.eqv (at' (cX t ds (cs t (2 * ds.length) us (m + 1))) h) (at' (cX t ds (cs t (2 * ds.length) us m)) h)) = goB t (2 * ds.length) (us m) (cs t (2 * ds.length) us m) h := by
    intro m
    rw [cX_at hh, cX_at hh]
    by_cases g : goB t (2 * ds.length) (us m) (cs t (2 * ds.length) us m) h = true
    · have t1 := tops (m + 1)
      have c1 := hc m
      rw [if_pos g] at c1
      rw [c1, (item_next hs (i := cs t (2 * ds.length) us m h) (by omega)).1, g]
      rfl
    · have c1 := hc m
      rw [if_neg g] at c1
      rw [c1, Nat.add_zero, item_self hs]
      simp only [Bool.not_eq_true] at g
      rw [g]
      rfl
  unfold regF
  simp only [e]
  apply List.map_congr_left
  intro m hm
  have g := (List.mem_filter.mp hm).2
  have c1 := hc m
  rw [if_pos g] at c1
  rw [cX_at hh, c1]
/-- the things of a register, in order -/
theorem reg_shows (t : List Nat) (ds : List PD) (n : Nat) (us : Nat → List Nat) (h : Nat) : ∀ D, ((List.range D).filter fun m => goB t n (us m) (cs t n us m) h).map (fun m => item ds (cs t n us m h + 1)) = (List.range (cs t n us D h)).map fun j => item ds (j + 1)
  | 0 => rfl
  | D + 1 => by
    have ih := reg_shows t ds n us h D
    have c : cs t n us (D + 1) h = cs t n us D h + (if goB t n (us D) (cs t n us D) h = true then 1 else 0) := rfl
    rw [List.range_succ, List.filter_append, List.map_append, ih, c]
    by_cases g : goB t n (us D) (cs t n us D) h = true
    · rw [if_pos g, List.filter_cons_of_pos (by exact g), List.range_succ, List.map_append]
      rfl
    · rw [if_neg g, List.filter_cons_of_neg (by exact g)]
      simp
theorem items_all (ds : List PD) : (List.range (2 * ds.length)).map (fun j => item ds (j + 1)) = withRests ds := by
  apply List.ext_getElem
  · simp [withRests_length]
  · intro i h1 h2
    have h3 : i < 2 * ds.length := by simpa using h1
    have := rests_item ds i h3
    rw [List.getElem?_eq_getElem h2] at this
    simp only [List.getElem_map, List.getElem_range]
    exact (Option.some.inj this).symm
/-- when all is over each hill has begun all -/
theorem cs_end {t : List Nat} (T : IsT t) {ds : List PD} (hs : ∀ d ∈ ds, isSign d = true) (us : Nat → List Nat) {D : Nat} (hb : busy t ds us (fun _ => []) D = false) : ∀ h, h ≤ t.length → cs t (2 * ds.length) us D h = 2 * ds.length := by
  have L := cs_lev T (n := 2 * ds.length) us D
  unfold busy at hb
  rw [pass_cs T hs us D] at hb
  simp only [Bool.or_eq_false_iff, Bool.not_eq_false'] at hb
  obtain ⟨b1, b2⟩ := hb
  generalize cs t (2 * ds.length) us D = c at *
  have top : c 0 = 2 * ds.length := by
    rw [List.isEmpty_iff, List.drop_eq_nil_iff, withRests_length] at b1
    have := L.top
    omega
  have each : ∀ h, h ≤ t.length → item ds (c h) = RS' := by
    intro h hh
    refine Classical.byContradiction fun q => ?_
    have n : PyData.eqv ((cX t ds c).getD h .none) ((List.replicate (t.length + 1) RS').getD h .none) = false := by
      have e1 : (cX t ds c).getD h .none = item ds (c h) := cX_at hh
      have e2 : (List.replicate (t.length + 1) RS').getD h .none = RS' := by
        rw [List.getD_eq_getElem?_getD, List.getElem?_replicate, if_pos (by omega)]
        rfl
      rw [e1, e2]
      cases r : PyData.eqv (item ds (c h)) RS' with
      | false => rfl
      | true => exact absurd ((eqv_isW (b := RS') (isW_item hs _) True.intro).mp r) q
    have l1 : (cX t ds c).length = t.length + 1 := by simp [cX]
    have := eqvAll_ne (a := cX t ds c) (b := List.replicate (t.length + 1) RS') (i := h) (by omega) (by simp [l1]) n
    have b3 : PyData.eqvAll (cX t ds c) (List.replicate (t.length + 1) RS') = true := b2
    rw [this] at b3
    cases b3
  have key : ∀ k h, h ≤ t.length → rk t h = k → c h = c 0 := by
    intro k
    induction k with
    | zero => intro h hh e; rw [rk_nil T hh e]
    | succ k ih =>
      intro h hh e
      have h0 : h ≠ 0 := by rintro rfl; rw [rk_zero] at e; omega
      have r := rk_up T h0 hh
      have e1 := ih (up t h) (up_le T hh) (by omega)
      obtain ⟨a, b⟩ := L.lev h h0 hh
      refine Classical.byContradiction fun q => ?_
      have e2 : c (up t h) = c h + 1 := by omega
      have n := (item_next hs (i := c h) (by omega)).1
      rw [← e2, each _ (up_le T hh), each h hh, rs_self1] at n
      cases n
  intro h hh
  rw [key _ h hh rfl, top]
end Hil
/-! DepM: flat data, comprehensions over what a function tells. -/
namespace Hil
open PySem L2 HT0
/-- without dicts, no deeper than n -/
def okDep (n : Nat) (x : PD) : Prop := okAll x = true ∧ x.depth ≤ n
theorem okDep.list {n : Nat} {ds : List PD} (h : ∀ d ∈ ds, okDep n d) : okDep (n + 1) (.list ds) := by
  refine ⟨by simp only [okAll]; exact okAlls_of fun d hd => (h d hd).1, ?_⟩
  rw [depth_list]
  have := depthAll_le (n := n) (ds := ds) fun d hd => (h d hd).2
  omega
theorem okDep.tuple {n : Nat} {ds : List PD} (h : ∀ d ∈ ds, okDep n d) : okDep (n + 1) (.tuple ds) := by
  refine ⟨by simp only [okAll]; exact okAlls_of fun d hd => (h d hd).1, ?_⟩
  rw [depth_tuple]
  have := depthAll_le (n := n) (ds := ds) fun d hd => (h d hd).2
  omega
theorem okDep.mono {n m : Nat} {x : PD} (h : okDep n x) (hm : n ≤ m) : okDep m x := ⟨h.1, Nat.le_trans h.2 hm⟩
theorem okDep.int (n : Nat) (i : Int) : okDep n (.int i) := ⟨rfl, Nat.zero_le _⟩
theorem okDep.self {n : Nat} {x : PD} (h : okDep n x) : PyData.eqv x x = true := eqv_self x h.1
theorem okDep.sign {d : PD} (h : isSign d = true) : okDep 0 d := ⟨(isSign_ok h).1, by rw [isW_depth (isW_sign h)]; exact Nat.le_refl _⟩
theorem okDep.w {d : PD} (h : isW d) : okDep 0 d := by
  cases d <;> first
    | exact ⟨rfl, Nat.le_refl _⟩
    | exact h.elim
theorem okDep.nL (t : List Nat) : okDep 1 (nL t) := okDep.list fun d hd => by
  obtain ⟨k, _, rfl⟩ := List.mem_map.mp hd
  exact okDep.int 0 _
theorem okDep.nT (t : List Nat) : okDep 1 (nT t) := okDep.tuple fun d hd => by
  obtain ⟨k, _, rfl⟩ := List.mem_map.mp hd
  exact okDep.int 0 _
theorem atI_c0 {α : Type} (a : α) (r : List α) : atI (a :: r) 0 = some a := atI_of (a :: r) 0 (by simp)
theorem atI_c1 {α : Type} (a b : α) (r : List α) : atI (a :: b :: r) 1 = some b := atI_of (a :: b :: r) 1 (by simp)
/-- a list of a function's values, item by item -/
theorem atI_mapR (f : Nat → PD) (n k : Nat) (h : k < n) : atI ((List.range n).map f) (k : Int) = some (f k) := by
  rw [atI_of _ _ (by simpa using h)]
  simp
theorem cutD_init (ds : List PD) : cutD ds none (some (-1)) = ds.dropLast := by
  unfold cutD HT.sIx
  simp only [List.drop_zero, Nat.sub_zero]
  rw [List.dropLast_eq_take]
  congr 1
  split <;> omega
theorem map_dropLast {α : Type} (f : Nat → α) (n : Nat) : ((List.range (n + 1)).map f).dropLast = (List.range n).map f := by
  rw [List.range_succ, List.map_append]
  simp
section
variable {Γ : List Fn} {G : List PD} {fu : Nat}
/-- a comprehension over what f tells of the things of l -/
theorem lcE_A {α : Type} {tg : Tg} {ft elt : E} {ρ : Env'} (f : α → Im) (pre : α → Env') (c : α → Bool) (g : α → PD) : ∀ {l : List α} {acc : List PD},
    (∀ x ∈ l, asgI ρ tg (f x) = some (pre x) ∧ evZ Γ G ft (pre x) = .ok (.val (.d (.bool (c x)))) (pre x) ∧ (c x = true → ∃ v, evZ Γ G elt (pre x) = .ok v (pre x) ∧ give (pre x) v = some (.d (g x), pre x)) ∧ wipeE (pre x) tg.slots = ρ) →
    lcE Γ G tg ft elt (l.map f) ρ acc = .ok (acc ++ (l.filter c).map g) ρ
  | [], acc, _ => by simp [lcE, lcRun]
  | x :: l, acc, h => by
    obtain ⟨h1, h2, h3, h4⟩ := h x List.mem_cons_self
    have ih := fun acc => lcE_A f pre c g (acc := acc) fun y hy => h y (List.mem_cons_of_mem _ hy)
    unfold lcE at ih ⊢
    rw [List.map_cons]
    unfold lcRun
    rw [h1]
    dsimp only
    rw [h2]
    cases hc : c x with
    | false =>
      dsimp only
      rw [h4, ih]
      simp [hc]
    | true =>
      obtain ⟨v, h5, h6⟩ := h3 hc
      dsimp only
      rw [h5]
      dsimp only
      rw [h6]
      dsimp only
      rw [h4, ih]
      simp [hc]
theorem ev_lcA {α : Type} {tg : Tg} {it : It} {ft elt : E} {ρ ρ1 : Env'} (l : List α) (f : α → Im) (pre : α → Env') (c : α → Bool) (g : α → PD) (hi : eviZ Γ G it ρ = .ok (l.map f) ρ1) (hf : freeE ρ1 tg.slots = true) (hb : backE ρ1 (wipeE ρ1 tg.slots) tg.slots = ρ1) (hm : l.length ≤ 1000000)
    (H : ∀ x ∈ l, asgI (wipeE ρ1 tg.slots) tg (f x) = some (pre x) ∧ evZ Γ G ft (pre x) = .ok (.val (.d (.bool (c x)))) (pre x) ∧ (c x = true → ∃ v, evZ Γ G elt (pre x) = .ok v (pre x) ∧ give (pre x) v = some (.d (g x), pre x)) ∧ wipeE (pre x) tg.slots = wipeE ρ1 tg.slots) :
    evZ Γ G (.lc tg it ft elt) ρ = .ok (.fre (.d (.list ((l.filter c).map g)))) ρ1 := by
  rw [ev_lc_of hi hf (by simpa using hm) (lcE_A f pre c g (l := l) (acc := []) H), List.nil_append, hb]
/-- ..., every one kept -/
theorem ev_lcB {α : Type} {tg : Tg} {it : It} {elt : E} {ρ ρ1 : Env'} (l : List α) (f : α → Im) (pre : α → Env') (g : α → PD) (hi : eviZ Γ G it ρ = .ok (l.map f) ρ1) (hf : freeE ρ1 tg.slots = true) (hb : backE ρ1 (wipeE ρ1 tg.slots) tg.slots = ρ1) (hm : l.length ≤ 1000000)
    (H : ∀ x ∈ l, asgI (wipeE ρ1 tg.slots) tg (f x) = some (pre x) ∧ (∃ v, evZ Γ G elt (pre x) = .ok v (pre x) ∧ give (pre x) v = some (.d (g x), pre x)) ∧ wipeE (pre x) tg.slots = wipeE ρ1 tg.slots) :
    evZ Γ G (.lc tg it (.cst (.bool true)) elt) ρ = .ok (.fre (.d (.list (l.map g)))) ρ1 := by
  have := ev_lcA (Γ := Γ) (G := G) (tg := tg) (it := it) (ft := .cst (.bool true)) (elt := elt) l f pre (fun _ => true) g hi hf hb hm fun x hx => ⟨(H x hx).1, by simp, fun _ => (H x hx).2.1, (H x hx).2.2⟩
  rw [filter_true'] at this
  exact this
/-- a comprehension with a state, told in the end -/
theorem ev_lcK {tg : Tg} {it : It} {ft elt : E} {ρ ρ1 : Env'} {ms : List Im} (J : List PD → Env' → Prop) (hi : eviZ Γ G it ρ = .ok ms ρ1) (hf : freeE ρ1 tg.slots = true) (hm : ms.length ≤ 1000000) (I : Nat → Env' → List PD → Prop) (hI : I 0 (wipeE ρ1 tg.slots) [])
    (step : ∀ (i : Nat) (m : Im) (ρ : Env') (acc : List PD), ms[i]? = some m → I i ρ acc → ∃ ρ1, asgI ρ tg m = some ρ1 ∧ ∃ b ρ2, evZ Γ G ft ρ1 = .ok (.val (.d (.bool b))) ρ2 ∧
      ((b = true ∧ ∃ v ρ3 d ρ4, evZ Γ G elt ρ2 = .ok v ρ3 ∧ give ρ3 v = some (.d d, ρ4) ∧ I (i + 1) (wipeE ρ4 tg.slots) (acc ++ [d])) ∨ (b = false ∧ I (i + 1) (wipeE ρ2 tg.slots) acc)))
    (hJ : ∀ ds ρ2, I ms.length ρ2 ds → J ds (backE ρ1 ρ2 tg.slots)) : ∃ ds ρ2, evZ Γ G (.lc tg it ft elt) ρ = .ok (.fre (.d (.list ds))) ρ2 ∧ J ds ρ2 := by
  obtain ⟨ds, ρ2, L, h2⟩ := lcE_inv (Γ := Γ) (G := G) (tg := tg) (ft := ft) (elt := elt) (ms := ms) (ρ := wipeE ρ1 tg.slots) I hI step
  exact ⟨ds, _, ev_lc_of hi hf hm L, hJ ds ρ2 h2⟩
theorem ev_and2 {a b : E} {ρ : Env'} {p q : Bool} (h1 : evZ Γ G a ρ = .ok (.val (.d (.bool p))) ρ) (h2 : p = true → evZ Γ G b ρ = .ok (.val (.d (.bool q))) ρ) : evZ Γ G (.bop true (.cons a (.cons b .nil))) ρ = .ok (.val (.d (.bool (p && q)))) ρ := by
  rw [ev_bop, evb_cons, h1, bind_ok]
  cases p with
  | false => rfl
  | true =>
    show evbZ Γ G true _ _ = _
    rw [evb_one, h2 rfl]
    rfl
theorem ev_and3 {a b c : E} {ρ : Env'} {p q r : Bool} (h1 : evZ Γ G a ρ = .ok (.val (.d (.bool p))) ρ) (h2 : p = true → evZ Γ G b ρ = .ok (.val (.d (.bool q))) ρ) (h3 : p = true → q = true → evZ Γ G c ρ = .ok (.val (.d (.bool r))) ρ) : evZ Γ G (.bop true (.cons a (.cons b (.cons c .nil)))) ρ = .ok (.val (.d (.bool (p && (q && r))))) ρ := by
  rw [ev_bop, evb_cons, h1, bind_ok]
  cases p with
  | false => rfl
  | true =>
    show evbZ Γ G true _ _ = _
    rw [evb_cons, h2 rfl, bind_ok]
    cases q with
    | false => rfl
    | true =>
      show evbZ Γ G true _ _ = _
      rw [evb_one, h3 rfl rfl]
      rfl
theorem ev_or3 {a b c : E} {ρ : Env'} {p q r : Bool} (h1 : evZ Γ G a ρ = .ok (.val (.d (.bool p))) ρ) (h2 : p = false → evZ Γ G b ρ = .ok (.val (.d (.bool q))) ρ) (h3 : p = false → q = false → evZ Γ G c ρ = .ok (.val (.d (.bool r))) ρ) : evZ Γ G (.bop false (.cons a (.cons b (.cons c .nil)))) ρ = .ok (.val (.d (.bool (p || (q || r))))) ρ := by
  rw [ev_bop, evb_cons, h1, bind_ok]
  cases p with
  | true => rfl
  | false =>
    show evbZ Γ G false _ _ = _
    rw [evb_cons, h2 rfl, bind_ok]
    cases q with
    | true => rfl
    | false =>
      show evbZ Γ G false _ _ = _
      rw [evb_one, h3 rfl rfl]
      rfl
/-- whether a number is among others -/
theorem ev_ninN {a b : E} {ρ : Env'} {us : List Nat} {h : Nat} {v u : Vl} (h1 : evZ Γ G a ρ = .ok v ρ) (h2 : evZ Γ G b ρ = .ok u ρ) (hv : rd ρ v = some (.d (nI h))) (hu : rd ρ u = some (.d (nL us))) : evZ Γ G (.o2 .nin a b) ρ = .ok (.val (.d (.bool (!(us.any fun x => decide (x = h)))))) ρ := by
  have r0 : op2 .nin (.d (nI h)) (.d (nL us)) = some (.d (.bool (!((us.map nI).any fun z => PyData.eqv z (nI h)))), false) := rfl
  rw [any_nI us h] at r0
  exact ev_o2_of h1 h2 hv hu r0
theorem ev_innN {a b : E} {ρ : Env'} {us : List Nat} {h : Nat} {v u : Vl} (h1 : evZ Γ G a ρ = .ok v ρ) (h2 : evZ Γ G b ρ = .ok u ρ) (hv : rd ρ v = some (.d (nI h))) (hu : rd ρ u = some (.d (nL us))) : evZ Γ G (.o2 .inn a b) ρ = .ok (.val (.d (.bool (us.any fun x => decide (x = h))))) ρ := by
  have r0 : op2 .inn (.d (nI h)) (.d (nL us)) = some (.d (.bool ((us.map nI).any fun z => PyData.eqv z (nI h))), false) := rfl
  rw [any_nI us h] at r0
  exact ev_o2_of h1 h2 hv hu r0
/-- the same thing on both sides -/
theorem ev_neS {a b : E} {ρ ρ1 ρ2 : Env'} {v u : Vl} {x : PD} {n : Nat} (h : evZ Γ G a ρ = .ok v ρ1) (h2 : evZ Γ G b ρ1 = .ok u ρ2) (hv : rd ρ2 v = some (.d x)) (hu : rd ρ2 u = some (.d x)) (ok : okDep n x) (hn : n ≤ 60) : evZ Γ G (.o2 .ne a b) ρ = .ok (.val (.d (.bool false))) ρ2 :=
  ev_o2_of (o := .ne) (r := (.d (.bool false), false)) h h2 hv hu (by
    have := ok.2
    show (if min x.depth x.depth ≤ 60 then _ else _) = _
    rw [if_pos (by omega), ok.self] <;> rfl)
theorem ev_eqS {a b : E} {ρ ρ1 ρ2 : Env'} {v u : Vl} {x : PD} {n : Nat} (h : evZ Γ G a ρ = .ok v ρ1) (h2 : evZ Γ G b ρ1 = .ok u ρ2) (hv : rd ρ2 v = some (.d x)) (hu : rd ρ2 u = some (.d x)) (ok : okDep n x) (hn : n ≤ 60) : evZ Γ G (.o2 .eq a b) ρ = .ok (.val (.d (.bool true))) ρ2 :=
  ev_o2_of (o := .eq) (r := (.d (.bool true), false)) h h2 hv hu (by
    have := ok.2
    show (if min x.depth x.depth ≤ 60 then _ else _) = _
    rw [if_pos (by omega), ok.self] <;> rfl)
/-- ..., the slots left as they are -/
theorem ev_o2R {o : O2} {a b : E} {ρ : Env'} {v u : Vl} {x y : W} {r : W × Bool} (h : evZ Γ G a ρ = .ok v ρ) (h2 : evZ Γ G b ρ = .ok u ρ) (hv : rd ρ v = some x) (hu : rd ρ u = some y) (e : op2 o x y = some r) : evZ Γ G (.o2 o a b) ρ = .ok (mkV r) ρ := ev_o2_of h h2 hv hu e
theorem ev_neR {a b : E} {ρ : Env'} {v u : Vl} {x : PD} {n : Nat} (h : evZ Γ G a ρ = .ok v ρ) (h2 : evZ Γ G b ρ = .ok u ρ) (hv : rd ρ v = some (.d x)) (hu : rd ρ u = some (.d x)) (ok : okDep n x) (hn : n ≤ 60) : evZ Γ G (.o2 .ne a b) ρ = .ok (.val (.d (.bool false))) ρ := ev_neS h h2 hv hu ok hn
theorem ev_eqR {a b : E} {ρ : Env'} {v u : Vl} {x : PD} {n : Nat} (h : evZ Γ G a ρ = .ok v ρ) (h2 : evZ Γ G b ρ = .ok u ρ) (hv : rd ρ v = some (.d x)) (hu : rd ρ u = some (.d x)) (ok : okDep n x) (hn : n ≤ 60) : evZ Γ G (.o2 .eq a b) ρ = .ok (.val (.d (.bool true))) ρ := ev_eqS h h2 hv hu ok hn
/-- == of two flat things -/
theorem op_eq {x y : PD} {n : Nat} (ok : okDep n x) (hn : n ≤ 60) : op2 .eq (.d x) (.d y) = some (.d (.bool (PyData.eqv x y)), false) := by
  have := ok.2
  show (if min x.depth y.depth ≤ 60 then _ else _) = _
  rw [if_pos (by omega)]
theorem op_ne {x y : PD} {n : Nat} (ok : okDep n x) (hn : n ≤ 60) : op2 .ne (.d x) (.d y) = some (.d (.bool (!PyData.eqv x y)), false) := by
  have := ok.2
  show (if min x.depth y.depth ≤ 60 then _ else _) = _
  rw [if_pos (by omega)]
end
end Hil
/-! BfsM: hills by sight: levels from hill 0 on. -/
namespace Hil
open PySem L2 HT0
section
variable (ps : List (Nat × Nat)) (C : List Nat)
/-- there is a sight between them -/
def adjB (h o : Nat) : Bool := decide ((min h o, max h o) ∈ ps) && decide (o ≠ h)
theorem adjB_comm (h o : Nat) : adjB ps h o = adjB ps o h := by
  unfold adjB
  rw [Nat.min_comm, Nat.max_comm]
  congr 1
  exact decide_eq_decide.mpr ⟨fun e z => e z.symm, fun e z => e z.symm⟩
/-- those that it sees, rising -/
def nb (h : Nat) : List Nat := (List.range 8).filter (adjB ps h)
theorem nb_mem {h o : Nat} : o ∈ nb ps h ↔ o < 8 ∧ adjB ps h o = true := by
  unfold nb
  rw [List.mem_filter, List.mem_range]
/-- the level k, and all up to it -/
def bfs : Nat → List Nat × List Nat
  | 0 => ([0], [0])
  | k + 1 => ((List.range 8).filter fun o => !((bfs k).2.any fun x => decide (x = o)) && (!(C.any fun x => decide (x = o)) && (bfs k).1.any fun h => adjB ps h o),
      (bfs k).2 ++ (List.range 8).filter fun o => !((bfs k).2.any fun x => decide (x = o)) && (!(C.any fun x => decide (x = o)) && (bfs k).1.any fun h => adjB ps h o))
def lvl (k : Nat) : List Nat := (bfs ps C k).1
def seen (k : Nat) : List Nat := (bfs ps C k).2
theorem any_in {l : List Nat} {o : Nat} : (l.any fun x => decide (x = o)) = true ↔ o ∈ l := by
  rw [List.any_eq_true]
  constructor
  · rintro ⟨x, hx, e⟩
    rw [← of_decide_eq_true e]
    exact hx
  · exact fun h => ⟨o, h, by simp⟩
theorem any_nin {l : List Nat} {o : Nat} : (!(l.any fun x => decide (x = o))) = true ↔ o ∉ l := by
  rw [Bool.not_eq_true', ← Bool.not_eq_true, any_in]
theorem lvl_0 : lvl ps C 0 = [0] := rfl
theorem seen_0 : seen ps C 0 = [0] := rfl
theorem seen_succ (k : Nat) : seen ps C (k + 1) = seen ps C k ++ lvl ps C (k + 1) := rfl
theorem lvl_succ {k o : Nat} : o ∈ lvl ps C (k + 1) ↔ o < 8 ∧ o ∉ seen ps C k ∧ o ∉ C ∧ ∃ h ∈ lvl ps C k, adjB ps h o = true := by
  have e : lvl ps C (k + 1) = (List.range 8).filter fun o => !((seen ps C k).any fun x => decide (x = o)) && (!(C.any fun x => decide (x = o)) && (lvl ps C k).any fun h => adjB ps h o) := rfl
  rw [e, List.mem_filter, List.mem_range, Bool.and_eq_true, Bool.and_eq_true, any_nin, any_nin, List.any_eq_true]
theorem lvl_lt {k o : Nat} (h : o ∈ lvl ps C k) : o < 8 := by
  cases k with
  | zero => simp only [lvl_0, List.mem_singleton] at h; omega
  | succ k => exact ((lvl_succ ps C).mp h).1
theorem seen_iff {o : Nat} : ∀ {k : Nat}, o ∈ seen ps C k ↔ ∃ j, j ≤ k ∧ o ∈ lvl ps C j
  | 0 => by
    constructor
    · exact fun h => ⟨0, Nat.le_refl _, h⟩
    · rintro ⟨j, hj, h⟩
      rw [Nat.le_zero.mp hj] at h
      exact h
  | k + 1 => by
    rw [seen_succ, List.mem_append, seen_iff (k := k)]
    constructor
    · rintro (⟨j, hj, h⟩ | h)
      · exact ⟨j, by omega, h⟩
      · exact ⟨k + 1, Nat.le_refl _, h⟩
    · rintro ⟨j, hj, h⟩
      rcases Nat.lt_or_ge k j with q | q
      · have : j = k + 1 := by omega
        subst this
        exact .inr h
      · exact .inl ⟨j, q, h⟩
/-- of one level only -/
theorem lvl_one {o j k : Nat} (h1 : o ∈ lvl ps C j) (h2 : o ∈ lvl ps C k) : j = k := by
  have key : ∀ {j k : Nat}, j < k → o ∈ lvl ps C j → o ∈ lvl ps C k → False := by
    intro j k hjk h1 h2
    cases k with
    | zero => omega
    | succ k => exact ((lvl_succ ps C).mp h2).2.1 ((seen_iff ps C).mpr ⟨j, by omega, h1⟩)
  rcases Nat.lt_trichotomy j k with q | q | q
  · exact (key q h1 h2).elim
  · exact q
  · exact (key q h2 h1).elim
theorem lvl_rise (k : Nat) : (lvl ps C k).Pairwise (· < ·) := by
  cases k with
  | zero => simp [lvl_0]
  | succ k => exact List.pairwise_lt_range.filter _
theorem seen_nodup : ∀ k, (seen ps C k).Nodup
  | 0 => by simp [seen_0]
  | k + 1 => by
    rw [seen_succ, List.nodup_append]
    refine ⟨seen_nodup k, (lvl_rise ps C (k + 1)).imp fun h => Nat.ne_of_lt h, fun a ha b hb e => ?_⟩
    subst e
    exact ((lvl_succ ps C).mp hb).2.1 ha
theorem seen_lt {k o : Nat} (h : o ∈ seen ps C k) : o < 8 := by
  obtain ⟨j, -, h⟩ := (seen_iff ps C).mp h
  exact lvl_lt ps C h
theorem nodup_lt : ∀ {n : Nat} {l : List Nat}, l.Nodup → (∀ x ∈ l, x < n) → l.length ≤ n := by
  intro n l h1 h2
  have := List.Nodup.length_le_of_subset h1 (l₂ := List.range n) fun x hx => List.mem_range.mpr (h2 x hx)
  rwa [List.length_range] at this
theorem seen_len (k : Nat) : (seen ps C k).length ≤ 8 := nodup_lt (seen_nodup ps C k) fun _ h => seen_lt ps C h
theorem lvl_nil {k : Nat} (h : lvl ps C k = []) : lvl ps C (k + 1) = [] := by
  rw [List.eq_nil_iff_forall_not_mem]
  intro o ho
  obtain ⟨-, -, -, x, hx, -⟩ := (lvl_succ ps C).mp ho
  rw [h] at hx
  cases hx
theorem lvl_nils {k j : Nat} (h : lvl ps C k = []) (hj : k ≤ j) : lvl ps C j = [] := by
  induction j with
  | zero => rw [Nat.le_zero.mp hj] at h; exact h
  | succ j ih =>
    rcases Nat.lt_or_ge j k with q | q
    · have : k = j + 1 := by omega
      rw [← this]; exact h
    · exact lvl_nil ps C (ih q)
theorem seen_many : ∀ k, (∀ j, j ≤ k → lvl ps C j ≠ []) → k + 1 ≤ (seen ps C k).length
  | 0, _ => by simp [seen_0]
  | k + 1, h => by
    have ih := seen_many k fun j hj => h j (by omega)
    have := h (k + 1) (Nat.le_refl _)
    rw [seen_succ, List.length_append]
    have : (lvl ps C (k + 1)).length ≠ 0 := fun e => this (List.eq_nil_of_length_eq_zero e)
    omega
theorem lvl_8 : lvl ps C 8 = [] := by
  refine Classical.byContradiction fun q => ?_
  have h := seen_many ps C 8 fun j hj e => q (lvl_nils ps C e hj)
  have := seen_len ps C 8
  omega
/-- how many levels -/
theorem lvl_end : ∃ K, K ≤ 8 ∧ 1 ≤ K ∧ lvl ps C K = [] ∧ ∀ j, j < K → lvl ps C j ≠ [] := by
  obtain ⟨K, h1, h2, h3⟩ := least (p := fun k => !(lvl ps C k).isEmpty) (n := 8) ⟨8, Nat.le_refl _, by rw [lvl_8]; rfl⟩
  have h2 : lvl ps C K = [] := by
    cases e : lvl ps C K with
    | nil => rfl
    | cons a r => simp only [e] at h2; cases h2
  refine ⟨K, h1, ?_, h2, fun j hj e => ?_⟩
  · cases K with
    | zero => cases h2
    | succ K => omega
  · have := h3 j hj
    simp only [e] at this
    cases this
/-- what is found: each hill with its level -/
def foundL (K : Nat) : List (Nat × Nat) := (List.range K).flatMap fun k => (lvl ps C k).map fun h => (h, k)
theorem foundL_succ (K : Nat) : foundL ps C (K + 1) = foundL ps C K ++ (lvl ps C K).map fun h => (h, K) := by
  unfold foundL
  rw [List.range_succ, List.flatMap_append]
  simp
theorem foundL_mem {K : Nat} {p : Nat × Nat} : p ∈ foundL ps C K ↔ p.2 < K ∧ p.1 ∈ lvl ps C p.2 := by
  unfold foundL
  simp only [List.mem_flatMap, List.mem_range, List.mem_map]
  constructor
  · rintro ⟨k, hk, h, hh, rfl⟩
    exact ⟨hk, hh⟩
  · rintro ⟨h1, h2⟩
    exact ⟨p.2, h1, p.1, h2, rfl⟩
theorem foundL_keys : ∀ K, (foundL ps C (K + 1)).map (·.1) = seen ps C K
  | 0 => rfl
  | K + 1 => by
    rw [foundL_succ, List.map_append, foundL_keys K, seen_succ, List.map_map]
    congr 1
    exact List.map_id _
/-! ### hill by hill, in a queue -/
/-- found F, to be walked Qa (of level d), then Qb (of the next) -/
structure QI (d : Nat) (Qa Qb : List Nat) (F : List (Nat × Nat)) : Prop where
  nod : (F.map (·.1)).Nodup
  val : ∀ p ∈ F, p.1 ∈ lvl ps C p.2
  all : ∀ j, j ≤ d → ∀ h ∈ lvl ps C j, (h, j) ∈ F
  top : ∀ p ∈ F, p.2 ≤ d + 1
  qa : ∀ h ∈ Qa, h ∈ lvl ps C d
  qb : ∀ h ∈ Qb, (h, d + 1) ∈ F
  nxt : ∀ o ∈ lvl ps C (d + 1), (o, d + 1) ∈ F ∨ ∃ h ∈ Qa, adjB ps h o = true
  pend : ∀ h, (h, d + 1) ∈ F → h ∈ Qb
/-- those newly seen from h -/
def newO (F : List (Nat × Nat)) (h : Nat) : List Nat := (nb ps h).filter fun o => !((F.map (·.1)).any fun x => decide (x = o)) && !(C.any fun x => decide (x = o))
theorem newO_mem {F : List (Nat × Nat)} {h o : Nat} : o ∈ newO ps C F h ↔ (o < 8 ∧ adjB ps h o = true) ∧ o ∉ F.map (·.1) ∧ o ∉ C := by
  unfold newO
  rw [List.mem_filter, nb_mem, Bool.and_eq_true, any_nin, any_nin]
theorem newO_rise (F : List (Nat × Nat)) (h : Nat) : (newO ps C F h).Pairwise (· < ·) := (List.pairwise_lt_range.filter _).filter _
theorem QI_0 : QI ps C 0 [0] [] [(0, 0)] where
  nod := by simp
  val := by
    intro p hp
    simp only [List.mem_singleton] at hp
    subst hp
    exact List.mem_singleton.mpr rfl
  all := by
    intro j hj h hh
    rw [Nat.le_zero.mp hj] at hh ⊢
    simp only [lvl_0, List.mem_singleton] at hh
    subst hh
    exact List.mem_singleton.mpr rfl
  top := by
    intro p hp
    simp only [List.mem_singleton] at hp
    subst hp
    exact Nat.zero_le _
  qa := fun h hh => hh
  qb := fun h hh => by cases hh
  nxt := fun o ho => .inr (((lvl_succ ps C).mp ho).2.2.2)
  pend := fun h hh => by
    simp only [List.mem_singleton, Prod.mk.injEq] at hh
    omega
theorem QI.next {d : Nat} {Qb : List Nat} {F : List (Nat × Nat)} (I : QI ps C d [] Qb F) : QI ps C (d + 1) Qb [] F := by
  have hall : ∀ o ∈ lvl ps C (d + 1), (o, d + 1) ∈ F := fun o ho => by
    rcases I.nxt o ho with h | ⟨h, hh, -⟩
    · exact h
    · cases hh
  refine ⟨I.nod, I.val, fun j hj h hh => ?_, fun p hp => (by have := I.top p hp; omega), fun h hh => I.val _ (I.qb h hh), fun h hh => (by cases hh), fun o ho => .inr ?_, fun h hh => ?_⟩
  · rcases Nat.lt_or_ge d j with q | q
    · have : j = d + 1 := by omega
      subst this
      exact hall h hh
    · exact I.all j q h hh
  · obtain ⟨-, -, -, h, hh, ha⟩ := (lvl_succ ps C).mp ho
    exact ⟨h, I.pend h (hall h hh), ha⟩
  · have := I.top _ hh
    simp only at this
    omega
theorem QI.val_at {d : Nat} {Qa Qb : List Nat} {F : List (Nat × Nat)} (I : QI ps C d Qa Qb F) {h j : Nat} (hh : h ∈ lvl ps C j) (hk : h ∈ F.map (·.1)) : (h, j) ∈ F := by
  obtain ⟨p, hp, rfl⟩ := List.mem_map.mp hk
  rw [← lvl_one ps C (I.val p hp) hh]
  exact hp
theorem QI.step {d h : Nat} {Qa Qb : List Nat} {F : List (Nat × Nat)} (I : QI ps C d (h :: Qa) Qb F) : QI ps C d Qa (Qb ++ newO ps C F h) (F ++ (newO ps C F h).map fun o => (o, d + 1)) := by
  have hh := I.qa h List.mem_cons_self
  have hn : ∀ o ∈ newO ps C F h, o ∈ lvl ps C (d + 1) := fun o ho => by
    obtain ⟨⟨h1, h2⟩, h3, h4⟩ := (newO_mem ps C).mp ho
    refine (lvl_succ ps C).mpr ⟨h1, fun q => h3 ?_, h4, h, hh, h2⟩
    obtain ⟨j, hj, q⟩ := (seen_iff ps C).mp q
    exact List.mem_map.mpr ⟨_, I.all j hj o q, rfl⟩
  refine ⟨?_, ?_, fun j hj x hx => List.mem_append_left _ (I.all j hj x hx), ?_, fun x hx => I.qa x (List.mem_cons_of_mem _ hx), ?_, ?_, ?_⟩
  · rw [List.map_append, List.map_map, List.nodup_append]
    refine ⟨I.nod, ?_, ?_⟩
    · have e : (newO ps C F h).map ((fun p : Nat × Nat => p.1) ∘ fun o => (o, d + 1)) = newO ps C F h := List.map_id _
      rw [e]
      exact (newO_rise ps C F h).imp fun q => Nat.ne_of_lt q
    · intro a ha b hb e
      subst e
      obtain ⟨o, ho, rfl⟩ := List.mem_map.mp hb
      exact ((newO_mem ps C).mp ho).2.1 ha
  · intro p hp
    rcases List.mem_append.mp hp with hp | hp
    · exact I.val p hp
    · obtain ⟨o, ho, rfl⟩ := List.mem_map.mp hp
      exact hn o ho
  · intro p hp
    rcases List.mem_append.mp hp with hp | hp
    · exact I.top p hp
    · obtain ⟨o, ho, rfl⟩ := List.mem_map.mp hp
      exact Nat.le_refl _
  · intro x hx
    rcases List.mem_append.mp hx with hx | hx
    · exact List.mem_append_left _ (I.qb x hx)
    · exact List.mem_append_right _ (List.mem_map.mpr ⟨x, hx, rfl⟩)
  · intro o ho
    rcases I.nxt o ho with q | ⟨x, hx, ha⟩
    · exact .inl (List.mem_append_left _ q)
    · rcases List.mem_cons.mp hx with rfl | hx
      · left
        by_cases q : o ∈ F.map (·.1)
        · exact List.mem_append_left _ (I.val_at ps C ho q)
        · exact List.mem_append_right _ (List.mem_map.mpr ⟨o, (newO_mem ps C).mpr ⟨⟨lvl_lt ps C ho, ha⟩, q, ((lvl_succ ps C).mp ho).2.2.1⟩, rfl⟩)
      · exact .inr ⟨x, hx, ha⟩
  · intro x hx
    rcases List.mem_append.mp hx with hx | hx
    · exact List.mem_append_left _ (I.pend x hx)
    · obtain ⟨o, ho, e⟩ := List.mem_map.mp hx
      have : o = x := congrArg Prod.fst e
      rw [← this]
      exact List.mem_append_right _ ho
/-- in the end all is found -/
theorem QI.done {d : Nat} {F : List (Nat × Nat)} (I : QI ps C d [] [] F) (p : Nat × Nat) : p ∈ F ↔ p.1 ∈ lvl ps C p.2 := by
  refine ⟨I.val p, fun h => ?_⟩
  have e : lvl ps C (d + 1) = [] := by
    rw [List.eq_nil_iff_forall_not_mem]
    intro o ho
    rcases I.nxt o ho with q | ⟨x, hx, -⟩
    · have := I.pend o q
      cases this
    · cases hx
  rcases Nat.lt_or_ge d p.2 with q | q
  · rw [lvl_nils ps C e q] at h
    cases h
  · exact I.all p.2 q p.1 h
theorem QI.len {d : Nat} {Qa Qb : List Nat} {F : List (Nat × Nat)} (I : QI ps C d Qa Qb F) : F.length ≤ 8 := by
  have := nodup_lt I.nod (n := 8) fun x hx => by
    obtain ⟨p, hp, rfl⟩ := List.mem_map.mp hx
    exact lvl_lt ps C (I.val p hp)
  rwa [List.length_map] at this
/-- what both ways find: each hill once, with its level -/
structure Found (F : List (Nat × Nat)) : Prop where
  nod : (F.map (·.1)).Nodup
  mem : ∀ p, p ∈ F ↔ p.1 ∈ lvl ps C p.2
theorem foundL_found {K : Nat} (hK : lvl ps C K = []) (h1 : 1 ≤ K) : Found ps C (foundL ps C K) := by
  obtain ⟨k, rfl⟩ : ∃ k, K = k + 1 := ⟨K - 1, by omega⟩
  refine ⟨by rw [foundL_keys]; exact seen_nodup ps C k, fun p => ?_⟩
  rw [foundL_mem]
  refine ⟨fun h => h.2, fun h => ⟨?_, h⟩⟩
  refine Classical.byContradiction fun q => ?_
  rw [lvl_nils ps C hK (by omega)] at h
  cases h
theorem Found.perm {F G : List (Nat × Nat)} (a : Found ps C F) (b : Found ps C G) : F.Perm G := by
  have nd : ∀ {F : List (Nat × Nat)}, (F.map (·.1)).Nodup → F.Nodup := fun h => by
    unfold List.Nodup at h ⊢
    rw [List.pairwise_map] at h
    exact h.imp fun {x y} q e => q (congrArg Prod.fst e)
  exact (List.perm_ext_iff_of_nodup (nd a.nod) (nd b.nod)).mpr fun p => by rw [a.mem, b.mem]
end
end Hil
/-! TimeM: when a hill begins its things. -/
namespace Hil
open PySem L2 HT0
def cnt (g : Nat → Bool) (m : Nat) : Nat := ((List.range m).filter g).length
theorem cnt_succ (g : Nat → Bool) (m : Nat) : cnt g (m + 1) = cnt g m + (if g m = true then 1 else 0) := by
  unfold cnt
  rw [List.range_succ, List.filter_append, List.length_append]
  by_cases q : g m = true
  · rw [if_pos q, List.filter_cons_of_pos q]; rfl
  · rw [if_neg q, List.filter_cons_of_neg q]; rfl
theorem cnt_mono (g : Nat → Bool) {a b : Nat} (h : a ≤ b) : cnt g a ≤ cnt g b := by
  induction b with
  | zero => rw [Nat.le_zero.mp h]; exact Nat.le_refl _
  | succ b ih =>
    by_cases q : a = b + 1
    · rw [q]; exact Nat.le_refl _
    · have := ih (by omega)
      rw [cnt_succ]
      omega
theorem filt_get (g : Nat → Bool) : ∀ (D i : Nat), i < cnt g D → ((List.range D).filter g).getD i 0 < D ∧ g (((List.range D).filter g).getD i 0) = true ∧ cnt g (((List.range D).filter g).getD i 0) = i
  | 0, i, h => absurd h (by simp [cnt])
  | D + 1, i, h => by
    rw [cnt_succ] at h
    rw [List.range_succ, List.filter_append]
    by_cases q : i < cnt g D
    · obtain ⟨a, b, c⟩ := filt_get g D i q
      have e : (((List.range D).filter g) ++ ([D].filter g)).getD i 0 = ((List.range D).filter g).getD i 0 := by
        rw [List.getD_eq_getElem?_getD, List.getElem?_append_left q, List.getD_eq_getElem?_getD]
      rw [e]
      exact ⟨by omega, b, c⟩
    · by_cases r : g D = true
      · rw [if_pos r] at h
        have ei : i = cnt g D := by omega
        have e : (((List.range D).filter g) ++ ([D].filter g)).getD i 0 = D := by
          rw [List.getD_eq_getElem?_getD, List.getElem?_append_right (by rw [ei]; exact Nat.le_refl _), List.filter_cons_of_pos r, ei]
          show ((D :: _)[cnt g D - cnt g D]?).getD 0 = D
          rw [Nat.sub_self]
          rfl
        rw [e]
        exact ⟨by omega, r, ei.symm⟩
      · rw [if_neg r] at h
        omega
theorem filt_iff (g : Nat → Bool) {D i : Nat} (h : i < cnt g D) (m : Nat) : ((List.range D).filter g).getD i 0 + 1 ≤ m ↔ i < cnt g m := by
  obtain ⟨a, b, c⟩ := filt_get g D i h
  generalize ((List.range D).filter g).getD i 0 = x at *
  have d : cnt g (x + 1) = i + 1 := by rw [cnt_succ, if_pos b, c]
  constructor
  · intro q
    have := cnt_mono g q
    omega
  · intro q
    refine Classical.byContradiction fun r => ?_
    have := cnt_mono g (a := m) (b := x) (by omega)
    omega
theorem cs_cnt (t : List Nat) (n : Nat) (us : Nat → List Nat) (h : Nat) : ∀ m, cs t n us m h = cnt (fun m => goB t n (us m) (cs t n us m) h) m
  | 0 => rfl
  | m + 1 => by
    rw [cnt_succ, ← cs_cnt t n us h m]
    rfl
/-- the moment at which h begins its thing i (of those begun by D) -/
def tmB (t : List Nat) (n : Nat) (us : Nat → List Nat) (h D i : Nat) : Nat := ((List.range D).filter fun m => goB t n (us m) (cs t n us m) h).getD i 0 + 1
theorem tmB_iff {t : List Nat} {n : Nat} {us : Nat → List Nat} {h D i : Nat} (hi : i < cs t n us D h) (m : Nat) : tmB t n us h D i ≤ m ↔ i < cs t n us m h := by
  rw [cs_cnt] at hi ⊢
  exact filt_iff _ hi m
theorem tmB_le {t : List Nat} {n : Nat} {us : Nat → List Nat} {h D i : Nat} (hi : i < cs t n us D h) : tmB t n us h D i ≤ D := (tmB_iff hi D).mpr hi
/-- a register is its moments and its things -/
def regT (ds : List PD) (N : Nat) (tm : Nat → Nat) : List PD := (List.range N).map fun i => .tuple [nI (tm i), item ds (i + 1)]
theorem okDep.item {ds : List PD} (hs : ∀ d ∈ ds, isSign d = true) (i : Nat) : okDep 0 (item ds i) := okDep.w (isW_item hs i)
theorem regT_ok {ds : List PD} (hs : ∀ d ∈ ds, isSign d = true) (N : Nat) (tm : Nat → Nat) : okDep 2 (.list (regT ds N tm)) := okDep.list fun d hd => by
  obtain ⟨i, _, rfl⟩ := List.mem_map.mp hd
  refine okDep.tuple (n := 0) fun x hx => ?_
  simp only [List.mem_cons, List.not_mem_nil, or_false] at hx
  rcases hx with rfl | rfl
  · exact okDep.int 0 _
  · exact okDep.item hs _
theorem regT_length (ds : List PD) (N : Nat) (tm : Nat → Nat) : (regT ds N tm).length = N := by simp [regT]
theorem regT_at (ds : List PD) {N i : Nat} (h : i < N) (tm : Nat → Nat) : atI (regT ds N tm) (i : Int) = some (.tuple [nI (tm i), item ds (i + 1)]) := atI_mapR _ N i h
theorem regF_tm {t : List Nat} (T : IsT t) {ds : List PD} (hs : ∀ d ∈ ds, isSign d = true) (us : Nat → List Nat) {h : Nat} (hh : h ≤ t.length) (D : Nat) :
    regF (fun m => cX t ds (cs t (2 * ds.length) us m)) h D = regT ds (cs t (2 * ds.length) us D h) (tmB t (2 * ds.length) us h D) := by
  rw [regF_cs T hs us hh D]
  have hl : ((List.range D).filter fun m => goB t (2 * ds.length) (us m) (cs t (2 * ds.length) us m) h).length = cs t (2 * ds.length) us D h := by rw [cs_cnt]; rfl
  apply List.ext_getElem
  · rw [List.length_map, hl]; simp [regT]
  · intro i h1 h2
    have hi : i < cs t (2 * ds.length) us D h := by simpa [regT] using h2
    have hi' := hi
    rw [cs_cnt] at hi'
    obtain ⟨a, b, c⟩ := filt_get _ _ _ hi'
    rw [← cs_cnt] at c
    have e : ((List.range D).filter fun m => goB t (2 * ds.length) (us m) (cs t (2 * ds.length) us m) h)[i]'(by rw [hl]; exact hi) = ((List.range D).filter fun m => goB t (2 * ds.length) (us m) (cs t (2 * ds.length) us m) h).getD i 0 := by
      rw [List.getD_eq_getElem?_getD, List.getElem?_eq_getElem (by rw [hl]; exact hi)]; rfl
    have q : (regT ds (cs t (2 * ds.length) us D h) (tmB t (2 * ds.length) us h D))[i] = .tuple [nI (tmB t (2 * ds.length) us h D i), item ds (i + 1)] := by simp [regT]
    rw [q, List.getElem_map, e, c]
    rfl
section
variable {t : List Nat} {ds : List PD} {fog : List (Nat × Nat)} (O : PaOk t ds fog [])
include O
theorem pa_cs (m : Nat) : paX t ds fog [] m = cX t ds (cs t (2 * ds.length) (usA fog) m) := by
  have := pass_cs O.T O.hs (usA fog) m
  have e : (kvA [] : Nat → List (Key × PD)) = fun _ => [] := by funext m; rfl
  unfold paX
  rw [e, this]
theorem pa_end : ∀ h, h ≤ t.length → cs t (2 * ds.length) (usA fog) (paD t ds fog []) h = 2 * ds.length := by
  have e : (kvA [] : Nat → List (Key × PD)) = fun _ => [] := by funext m; rfl
  have hb := (paD_le O).2.1
  unfold paB at hb
  rw [e] at hb
  exact cs_end O.T O.hs (usA fog) hb
theorem pa_reg {h : Nat} (hh : h ≤ t.length) : regF (paX t ds fog []) h (paD t ds fog []) = regT ds (2 * ds.length) (tmB t (2 * ds.length) (usA fog) h (paD t ds fog [])) := by
  have e : paX t ds fog [] = fun m => cX t ds (cs t (2 * ds.length) (usA fog) m) := by funext m; exact pa_cs O m
  rw [e, regF_tm O.T O.hs (usA fog) hh, pa_end O h hh]
/-- all is over as soon as all have begun all -/
theorem pa_least {m : Nat} (h : ∀ h, h ≤ t.length → cs t (2 * ds.length) (usA fog) m h = 2 * ds.length) : paD t ds fog [] ≤ m := by
  refine Classical.byContradiction fun q => ?_
  have b := (paD_le O).2.2 m (by omega)
  have e : (kvA [] : Nat → List (Key × PD)) = fun _ => [] := by funext m; rfl
  unfold paB busy at b
  rw [e, pass_cs O.T O.hs (usA fog) m] at b
  simp only at b
  have e1 : (withRests ds).drop (cs t (2 * ds.length) (usA fog) m 0) = [] := by
    rw [List.drop_eq_nil_iff, withRests_length, h 0 (Nat.zero_le _)]
    exact Nat.le_refl _
  have e2 : cX t ds (cs t (2 * ds.length) (usA fog) m) = List.replicate (t.length + 1) RS' := by
    apply List.ext_getElem
    · simp [cX]
    · intro i h1 h2
      have hi : i ≤ t.length := by simp at h2; omega
      simp only [cX, List.getElem_map, List.getElem_range, List.getElem_replicate]
      rw [h i hi]
      exact item_past (Nat.le_refl _)
  rw [e1, e2] at b
  have e3 : PyData.eqv (.list (List.replicate (t.length + 1) RS')) (restL (t.length + 1)) = true := eqv_restL _
  rw [e3] at b
  cases b
end
end Hil
/-! GrowM: a tree with a hill more. -/
namespace Hil
open PySem L2 HT0
section
variable {t : List Nat} (T : IsT t) {k : Nat} (hk : k ≤ t.length)
theorem getD_grown {i : Nat} (hi : i < t.length) : (t ++ [k]).getD i 0 = t.getD i 0 := by
  rw [List.getD_eq_getElem?_getD, List.getElem?_append_left hi, List.getD_eq_getElem?_getD]
theorem up_grown {h : Nat} (h0 : h ≠ 0) (hh : h ≤ t.length) : up (t ++ [k]) h = up t h := by
  unfold up
  exact getD_grown (by omega)
theorem up_new : up (t ++ [k]) (t.length + 1) = k := by
  unfold up
  simp
include T
theorem getD_le {i : Nat} : t.getD i 0 ≤ t.length := by
  by_cases q : i < t.length
  · rw [List.getD_eq_getElem?_getD, List.getElem?_eq_getElem q]
    exact T.le _ (List.getElem_mem q)
  · rw [List.getD_eq_getElem?_getD, List.getElem?_eq_none (by omega)]
    exact Nat.zero_le _
theorem farL_grown : ∀ n h, h ≤ t.length → farL (t ++ [k]) n h = farL t n h
  | n, 0, _ => by rw [farL_zero, farL_zero]
  | 0, h + 1, _ => rfl
  | n + 1, h + 1, hh => by
    simp only [farL]
    rw [getD_grown (by omega), farL_grown n _ (getD_le T)]
include hk
theorem isT_grown (hl : t.length < 7) : IsT (t ++ [k]) := by
  refine ⟨by simp, by simp; omega, fun h hh => ?_, fun h hh => ?_⟩
  · rw [List.length_append, List.length_singleton]
    rcases List.mem_append.mp hh with hh | hh
    · have := T.le h hh; omega
    · simp only [List.mem_singleton] at hh; omega
  · rw [List.length_append, List.length_singleton] at hh ⊢
    by_cases q : h ≤ t.length
    · obtain ⟨m, e⟩ := T.led h q
      exact ⟨m, by rw [farL_grown T _ _ q]; exact farL_mono e _ (by omega)⟩
    · have e : h = t.length + 1 := by omega
      obtain ⟨m, e2⟩ := T.led k hk
      subst e
      refine ⟨m + 1, ?_⟩
      simp only [farL]
      have e3 : (t ++ [k]).getD t.length 0 = k := up_new
      rw [e3, farL_grown T _ _ hk, e2]
      rfl
omit hk in
theorem rk_grown {h : Nat} (hh : h ≤ t.length) : rk (t ++ [k]) h = rk t h := by
  unfold rk
  rw [List.length_append, List.length_singleton, farL_grown T _ _ hh, farL_rk T hh (by have := rk_le T hh; omega)]
  rfl
theorem rk_new (hl : t.length < 7) : rk (t ++ [k]) (t.length + 1) = rk t k + 1 := by
  have G := isT_grown T hk hl
  rw [rk_up G (by omega) (by simp), up_new, rk_grown T hk]
omit hk in
theorem way_grown : ∀ n h, h ≤ t.length → HT0.way (t ++ [k]) n h = HT0.way t n h
  | 0, h, _ => rfl
  | n + 1, h, hh => by
    simp only [HT0.way]
    by_cases h0 : h = 0
    · rw [if_pos h0, if_pos h0]
    · rw [if_neg h0, if_neg h0, up_grown h0 hh, way_grown n _ (up_le T hh)]
theorem way_new (hl : t.length < 7) : HT0.way (t ++ [k]) (rk (t ++ [k]) (t.length + 1)) (t.length + 1) = (t.length + 1) :: HT0.way t (rk t k) k := by
  rw [rk_new T hk hl]
  simp only [HT0.way]
  rw [if_neg (by omega), up_new, way_grown T _ _ hk]
omit T hk in
theorem below_grown (h : Nat) : belowL (t ++ [k]) h = belowL t h ++ (if k = h then [t.length + 1] else []) := by
  unfold belowL
  rw [List.length_append, List.length_singleton, List.range_succ, List.filter_append, List.map_append]
  have e1 : (List.range t.length).filter (fun j => decide ((t ++ [k]).getD j 0 = h)) = (List.range t.length).filter (fun j => decide (t.getD j 0 = h)) := by
    apply List.filter_congr
    intro j hj
    rw [getD_grown (by simpa using hj)]
  have e2 : (t ++ [k]).getD t.length 0 = k := up_new
  rw [e1]
  congr 1
  by_cases q : k = h
  · rw [if_pos q, List.filter_cons_of_pos (by rw [e2]; exact decide_eq_true q)]
    rfl
  · rw [if_neg q, List.filter_cons_of_neg (by rw [e2]; simpa using q)]
    rfl
theorem leaves_grown : leavesL (t ++ [k]) = (leavesL t).filter (fun h => !decide (h = k)) ++ [t.length + 1] := by
  unfold leavesL
  rw [List.length_append, List.length_singleton, List.range_succ, List.filter_append, List.map_append]
  congr 1
  · rw [List.filter_map, List.filter_filter]
    congr 1
    apply List.filter_congr
    intro j hj
    rw [below_grown]
    simp only [Function.comp]
    by_cases q : k = j + 1
    · rw [if_pos q]
      simp [q]
    · rw [if_neg q, List.append_nil]
      have : ¬ (j + 1 = k) := fun e => q e.symm
      simp [this]
  · have : belowL (t ++ [k]) (t.length + 1) = [] := by
      rw [below_grown, if_neg (by omega), List.append_nil]
      refine List.eq_nil_iff_forall_not_mem.mpr fun o ho => ?_
      obtain ⟨a, b, c⟩ := belowL_le ho
      have := up_le T b
      omega
    rw [List.filter_cons_of_pos (by rw [this]; rfl)]
    rfl
theorem deep_grown (hl : t.length < 7) : deep t ≤ deep (t ++ [k]) ∧ deep (t ++ [k]) ≤ deep t + 1 := by
  have G := isT_grown T hk hl
  constructor
  · obtain ⟨h, h1, h2⟩ := deep_ex T
    have := rk_deep G (h := h) (by simp; omega)
    rw [rk_grown T h1] at this
    omega
  · obtain ⟨h, h1, h2⟩ := deep_ex G
    rw [List.length_append, List.length_singleton] at h1
    by_cases q : h ≤ t.length
    · have := rk_deep T q
      rw [rk_grown T q] at h2
      omega
    · have e : h = t.length + 1 := by omega
      subst e
      rw [rk_new T hk hl] at h2
      have := rk_deep T hk
      omega
theorem step_grown (hl : t.length < 7) {n : Nat} {us vs : List Nat} (huv : ∀ h ∈ us, h ∈ vs) {c d : Nat → Nat} (L : Lev t n c) (L' : Lev (t ++ [k]) n d) (ih : ∀ h, h ≤ t.length → d h ≤ c h) {h : Nat} (hh : h ≤ t.length) :
    d h + (if goB (t ++ [k]) n vs d h = true then 1 else 0) ≤ c h + (if goB t n us c h = true then 1 else 0) := by
  have i1 := ih h hh
  have sub : ∀ o ∈ belowL t h, o ∈ belowL (t ++ [k]) h := fun o ho => by rw [below_grown]; exact List.mem_append_left _ ho
  by_cases g : goB (t ++ [k]) n vs d h = true
  · rw [if_pos g]
    by_cases q : d h < c h
    · split <;> omega
    · have e : d h = c h := by omega
      have g' : goB t n us c h = true := by
        by_cases h0 : h = 0
        · subst h0
          obtain ⟨a, b⟩ := goB_0.mp g
          refine goB_0.mpr ⟨by omega, fun o ho => ?_⟩
          obtain ⟨b1, b2⟩ := b o (sub o ho)
          obtain ⟨o1, o2, o3⟩ := belowL_le ho
          have := ih o o2
          have := (L.lev o (by omega) o2).1
          rw [o3] at this
          exact ⟨fun x => b1 (huv o x), by omega⟩
        · obtain ⟨⟨a1, a2⟩, b⟩ := (goB_h h0).mp g
          have u1 := ih (up t h) (up_le T hh)
          have u2 := (L'.lev h h0 (by simp; omega)).1
          rw [up_grown h0 hh] at a2 u2
          refine (goB_h h0).mpr ⟨⟨fun x => a1 (huv h x), by omega⟩, fun o ho => ?_⟩
          obtain ⟨b1, b2⟩ := b o (sub o ho)
          obtain ⟨o1, o2, o3⟩ := belowL_le ho
          have := ih o o2
          have := (L.lev o (by omega) o2).1
          rw [o3] at this
          exact ⟨fun x => b1 (huv o x), by omega⟩
      rw [if_pos g']
      omega
  · rw [if_neg g]
    omega
theorem cs_grown (hl : t.length < 7) {n : Nat} {us vs : Nat → List Nat} (huv : ∀ m, ∀ h ∈ us m, h ∈ vs m) : ∀ m h, h ≤ t.length → cs (t ++ [k]) n vs m h ≤ cs t n us m h
  | 0, h, _ => Nat.le_refl _
  | m + 1, h, hh => step_grown T hk hl (huv m) (cs_lev T us m) (cs_lev (isT_grown T hk hl) vs m) (fun k hk' => cs_grown hl huv m k hk') hh
end
section
variable {t : List Nat} {k : Nat} {ds : List PD} {fog more : List (Nat × Nat)} (O : PaOk t ds fog []) (O' : PaOk (t ++ [k]) ds more []) (hk : k ≤ t.length) (hl : t.length < 7) (hf : ∀ p ∈ fog, p ∈ more)
include O O' hk hl hf
theorem us_more : ∀ m, ∀ h ∈ usA fog m, h ∈ usA more m := by
  intro m h hh
  unfold usA at hh ⊢
  simp only [List.mem_map, List.mem_filter] at hh ⊢
  obtain ⟨p, ⟨a, b⟩, c⟩ := hh
  exact ⟨p, ⟨hf p a, b⟩, c⟩
theorem tm_grown {h i : Nat} (hh : h ≤ t.length) (hi : i < 2 * ds.length) : tmB t (2 * ds.length) (usA fog) h (paD t ds fog []) i ≤ tmB (t ++ [k]) (2 * ds.length) (usA more) h (paD (t ++ [k]) ds more []) i := by
  have e1 := pa_end O h hh
  have e2 := pa_end O' h (by simp; omega)
  have q := (tmB_iff (t := t ++ [k]) (us := usA more) (h := h) (D := paD (t ++ [k]) ds more []) (i := i) (by rw [e2]; exact hi) _).mp (Nat.le_refl _)
  refine (tmB_iff (by rw [e1]; exact hi) _).mpr ?_
  have := cs_grown O.T hk hl (n := 2 * ds.length) (us_more O O' hk hl hf) (tmB (t ++ [k]) (2 * ds.length) (usA more) h (paD (t ++ [k]) ds more []) i) h hh
  omega
theorem end_grown : paD t ds fog [] ≤ paD (t ++ [k]) ds more [] := by
  refine pa_least O fun h hh => ?_
  have e2 := pa_end O' h (by simp; omega)
  have := cs_grown O.T hk hl (n := 2 * ds.length) (us_more O O' hk hl hf) (paD (t ++ [k]) ds more []) h hh
  have L := cs_lev O.T (n := 2 * ds.length) (usA fog) (paD (t ++ [k]) ds more [])
  have := Nat.le_trans (Lev.le O.T L hh rfl) L.top
  omega
theorem late_grown : (paD t ds fog [] : Int) - due t ds.length - 1 ≤ (paD (t ++ [k]) ds more [] : Int) - due (t ++ [k]) ds.length := by
  have := end_grown O O' hk hl hf
  have := deep_grown O.T hk hl
  unfold due
  split <;> omega
end
theorem reg_clr {t : List Nat} (T : IsT t) {ds : List PD} (hs : ∀ d ∈ ds, isSign d = true) {h : Nat} (hh : h ≤ t.length) : regF (paX t ds [] []) h (paD t ds [] []) = thereL ds (rk t h) ds.length := by
  have e : paX t ds [] [] = clr t ds := by funext m; exact paX_clr T hs m
  rw [e, paD_clr T hs, ← regC_eq T hs hh]
  unfold regF regC
  simp only [clr_at hh]
theorem there_ok {ds : List PD} (hs : ∀ d ∈ ds, isSign d = true) (r n : Nat) : okDep 2 (.list (thereL ds r n)) := okDep.list fun x hx => by
  unfold thereL at hx
  simp only [List.mem_flatMap, List.mem_range] at hx
  obtain ⟨k, hk, hx⟩ := hx
  simp only [List.mem_cons, List.not_mem_nil, or_false] at hx
  rcases hx with rfl | rfl
  · refine okDep.tuple (n := 0) fun x hx => ?_
    simp only [List.mem_cons, List.not_mem_nil, or_false] at hx
    rcases hx with rfl | rfl
    · exact okDep.int 0 _
    · by_cases h : k < ds.length
      · rw [List.getD_eq_getElem?_getD, List.getElem?_eq_getElem h]
        exact okDep.sign (hs _ (List.getElem_mem h))
      · rw [List.getD_eq_getElem?_getD, List.getElem?_eq_none (by omega)]
        exact okDep.w (d := RS') trivial
  · refine okDep.tuple (n := 0) fun x hx => ?_
    simp only [List.mem_cons, List.not_mem_nil, or_false] at hx
    rcases hx with rfl | rfl
    · exact okDep.int 0 _
    · exact okDep.w (d := RS') trivial
theorem clr_ok {ds : List PD} (hs : ∀ d ∈ ds, isSign d = true) (t : List Nat) (m : Nat) : okDep 1 (.list (clr t ds m)) := okDep.list fun d hd => by
  obtain ⟨i, _, rfl⟩ := List.mem_map.mp hd
  exact okDep.item hs _
theorem shown_grown {t : List Nat} (T : IsT t) {k : Nat} (hk : k ≤ t.length) (hl : t.length < 7) (ds : List PD) {m : Nat} (hm : m ≤ due (t ++ [k]) ds.length) : (clr (t ++ [k]) ds m).dropLast = clr t ds (min m (due t ds.length)) := by
  unfold clr
  rw [List.length_append, List.length_singleton, map_dropLast]
  apply List.map_congr_left
  intro h hh
  have hh' : h ≤ t.length := by have := List.mem_range.mp hh; omega
  rw [rk_grown T hh']
  by_cases q : m ≤ due t ds.length
  · rw [Nat.min_eq_left q]
  · rw [Nat.min_eq_right (by omega)]
    have hr := rk_deep T hh'
    by_cases z : ds.length = 0
    · unfold due at q hm
      rw [if_pos z] at q hm
      omega
    · have e : due t ds.length = 4 * ds.length + deep t - 1 := by unfold due; rw [if_neg z]
      rw [item_past, item_past]
      · unfold idx; omega
      · unfold idx; omega
/-! ### pairs put in order -/
def tupN (p : Nat × Nat) : PD := .tuple [nI p.1, nI p.2]
/-- unlike pairs, in order -/
def fogS (L : List (Nat × Nat)) : List (Nat × Nat) := (sortI (L.map codeN)).map uncN
section
variable {L : List (Nat × Nat)} (h : ∀ p ∈ L, p.1 < 64 ∧ p.2 < 64)
include h
theorem fogS_mem {p : Nat × Nat} : p ∈ fogS L ↔ p ∈ L := by
  unfold fogS
  simp only [List.mem_map, (sortI_perm _).mem_iff]
  constructor
  · rintro ⟨c, ⟨q, hq, rfl⟩, rfl⟩
    rw [unc_code (h q hq).2]
    exact hq
  · intro hp
    exact ⟨_, ⟨p, hp, rfl⟩, unc_code (h p hp).2⟩
theorem fogS_un : (sortI (L.map codeN)).map unC = (fogS L).map tupN := by
  unfold fogS
  rw [List.map_map]
  apply List.map_congr_left
  intro c hc
  rw [(sortI_perm _).mem_iff, List.mem_map] at hc
  obtain ⟨q, hq, rfl⟩ := hc
  have h2 := (h q hq).2
  show unC (codeN q) = .tuple [nI (uncN (codeN q)).1, nI (uncN (codeN q)).2]
  rw [unc_code h2]
  exact unC_code (by omega)
theorem fogS_strict (hn : L.Nodup) : (sortI (L.map codeN)).Pairwise (· < ·) := by
  have n1 : (L.map codeN).Nodup := by
    unfold List.Nodup at hn ⊢
    rw [List.pairwise_map]
    refine hn.imp_of_mem fun {a b} ha hb ne e => ne ?_
    rw [← unc_code (h a ha).2, ← unc_code (h b hb).2, e]
  have n2 : (sortI (L.map codeN)).Nodup := (sortI_perm _).nodup_iff.mpr n1
  exact ((sortI_sorted _).and n2).imp fun {a b} q => by omega
theorem fogS_fog {n : Nat} (hn : L.Nodup) (hl : L.length ≤ 12) (hb : ∀ p ∈ L, 1 ≤ p.2 ∧ p.2 ≤ n) : isFog n (fogP (fogS L)) = true := by
  have hlen : (fogS L).length ≤ 12 := by
    unfold fogS
    rw [List.length_map, (sortI_perm _).length_eq, List.length_map]
    exact hl
  unfold isFog fogP
  simp only [Bool.and_eq_true, decide_eq_true_eq, List.length_map]
  refine ⟨hlen, ?_, ?_⟩
  · rw [List.all_eq_true]
    intro d hd
    simp only [List.mem_map] at hd
    obtain ⟨p, hp, rfl⟩ := hd
    rw [fogS_mem h] at hp
    have a := h p hp
    have b := hb p hp
    simp [isPair, isWhole]
    omega
  · refine zip_pairs h (fogS_strict h hn) fun c hc => ?_
    rw [(sortI_perm _).mem_iff, List.mem_map] at hc
    obtain ⟨q, hq, rfl⟩ := hc
    unfold codeN
    omega
end
theorem fogD_nodup {raws : List (Nat × Nat)} (h : ∀ p ∈ raws, p.1 < 64 ∧ p.2 < 64) : (fogD raws).Nodup := by
  have e : (fogD raws).map codeN = sortU (raws.map codeN) := by
    unfold fogD
    rw [List.map_map]
    conv => rhs; rw [← List.map_id (sortU (raws.map codeN))]
    apply List.map_congr_left
    intro c hc
    rw [sortU_mem, List.mem_map] at hc
    obtain ⟨q, hq, rfl⟩ := hc
    show codeN (uncN (codeN q)) = codeN q
    rw [unc_code (h q hq).2]
  have s := sortU_sorted (raws.map codeN)
  rw [← e, List.pairwise_map] at s
  exact s.imp fun {a b} q z => by rw [z] at q; omega
/-- the fog of k36: some more on the new pair -/
def newP (z w : Nat) : List (Nat × Nat) := (List.range z).map fun j => (3 * j, w)
theorem more_ok {raws : List (Nat × Nat)} {n z : Nat} (h : ∀ p ∈ raws, p.1 < 25 ∧ 1 ≤ p.2 ∧ p.2 ≤ n) (hn : n < 8) (hl : raws.length ≤ 6) (hz : z < 5) : (∀ p ∈ fogD raws ++ newP z (n + 1), p.1 < 64 ∧ p.2 < 64) ∧ (fogD raws ++ newP z (n + 1)).Nodup ∧ (fogD raws ++ newP z (n + 1)).length ≤ 12 ∧ ∀ p ∈ fogD raws ++ newP z (n + 1), 1 ≤ p.2 ∧ p.2 ≤ n + 1 := by
  have h64 : ∀ p ∈ raws, p.1 < 64 ∧ p.2 < 64 := fun p hp => by have := h p hp; omega
  have hm : ∀ p ∈ fogD raws, p.1 < 25 ∧ 1 ≤ p.2 ∧ p.2 ≤ n := fun p hp => h p ((fogD_mem h64).mp hp)
  have hw : ∀ p ∈ newP z (n + 1), p.1 < 15 ∧ p.2 = n + 1 := fun p hp => by
    obtain ⟨j, hj, rfl⟩ := List.mem_map.mp hp
    have := List.mem_range.mp hj
    exact ⟨by simp only; omega, rfl⟩
  refine ⟨fun p hp => ?_, ?_, ?_, fun p hp => ?_⟩
  · rcases List.mem_append.mp hp with hp | hp
    · have := hm p hp; omega
    · have := hw p hp; omega
  · refine List.nodup_append.mpr ⟨fogD_nodup h64, ?_, fun a ha b hb e => ?_⟩
    · unfold newP List.Nodup
      rw [List.pairwise_map]
      exact List.pairwise_lt_range.imp fun {a b} q e => by
        have := congrArg Prod.fst e
        simp only at this
        omega
    · have h1 := hm a ha
      have h2 := hw b hb
      rw [e] at h1
      omega
  · rw [List.length_append]
    have : (fogD raws).length ≤ raws.length := by
      unfold fogD
      rw [List.length_map]
      have := sortU_length (raws.map codeN)
      rw [List.length_map] at this
      exact this
    simp [newP]
    omega
  · rcases List.mem_append.mp hp with hp | hp
    · have := hm p hp; omega
    · have := hw p hp; omega
end Hil
/-! ShowM: the passing, reckoned in the law's own way; drawn slips. -/
namespace Hil
open PySem L2 HT0
theorem get_at {xs : List PD} {i : Nat} (h : i < xs.length) : xs[i] = at' xs i := by simp [at', h]
/-! ### what hill 0 shows, what is left -/
theorem pass_top (t : List Nat) (ds : List PD) (us : Nat → List Nat) (kv : Nat → List (Key × PD)) : ∀ m, ∃ j, j ≤ 2 * ds.length ∧ at' (passS t ds us kv m).1 0 = item ds j ∧ (passS t ds us kv m).2 = (withRests ds).drop j
  | 0 => ⟨0, Nat.zero_le _, rfl, rfl⟩
  | m + 1 => by
    obtain ⟨j, h1, h2, h3⟩ := pass_top t ds us kv m
    have e1 : at' (passS t ds us kv (m + 1)).1 0 = stepX t (passS t ds us kv m).1 (passS t ds us kv m).2 (us m) := by
      show at' (stepL t _ _ _ _ t.length) 0 = _
      rw [stepL_at (Nat.zero_le _), if_pos rfl]
    have e2 : (passS t ds us kv (m + 1)).2 = stpI t (passS t ds us kv m).1 (passS t ds us kv m).2 (us m) := rfl
    rw [e1, e2]
    unfold stepX stpI
    by_cases g : goes t (passS t ds us kv m).1 (passS t ds us kv m).2 (us m) = true
    · rw [if_pos g, if_pos g]
      have hj : j < 2 * ds.length := by
        refine Classical.byContradiction fun q => ?_
        have : (passS t ds us kv m).2 = [] := by rw [h3, List.drop_eq_nil_iff, withRests_length]; omega
        unfold goes at g
        rw [this] at g
        cases g
      refine ⟨j + 1, hj, ?_, ?_⟩
      · rw [h3, rests_drop hj]; rfl
      · rw [h3, List.tail_drop]
    · rw [if_neg g, if_neg g]
      exact ⟨j, h1, h2, h3⟩
/-- the next item is another one -/
theorem pass_head {t : List Nat} {ds : List PD} (hs : ∀ d ∈ ds, isSign d = true) {us : Nat → List Nat} {kv : Nat → List (Key × PD)} {m : Nat} {d : PD} {r : List PD} (e : (passS t ds us kv m).2 = d :: r) : PyData.eqv d (at' (passS t ds us kv m).1 0) = false := by
  obtain ⟨j, h1, h2, h3⟩ := pass_top t ds us kv m
  have hj : j < 2 * ds.length := by
    refine Classical.byContradiction fun q => ?_
    have : (passS t ds us kv m).2 = [] := by rw [h3, List.drop_eq_nil_iff, withRests_length]; omega
    rw [this] at e
    cases e
  rw [h3, rests_drop hj] at e
  cases e
  rw [h2]
  exact (item_next hs hj).1
/-! ### the law's next shows -/
def gGo0 (t : List Nat) (xs : List PD) (wish : PD) (us : List Nat) (h : Nat) : Bool := !(PyData.eqv wish .none) && (!PyData.eqv wish (at' xs h) && !(us.any fun x => decide (x = h)))
/-- ..., and so many of those that take from h repeat it -/
def gGoN (t : List Nat) (xs : List PD) (wish : PD) (us : List Nat) (h : Nat) (os : List Nat) : Bool := gGo0 t xs wish us h && os.all fun o => !(us.any fun x => decide (x = o)) && PyData.eqv (at' xs o) (at' xs h)
def gWish (t : List Nat) (xs : List PD) (it : PD) (h : Nat) : PD := if h = 0 then it else at' xs (up t h)
def gnx (t : List Nat) (xs : List PD) (it : PD) (us : List Nat) (h : Nat) : PD := if gGoN t xs (gWish t xs it h) us h (belowL t h) = true then gWish t xs it h else at' xs h
theorem isW_none {d : PD} (h : isW d) : PyData.eqv d .none = false := by
  cases d <;> first
    | rfl
    | exact h.elim
/-- for a hill but the first it is the program's -/
theorem gnx_next {t : List Nat} (T : IsT t) {xs its : List PD} (W : Wds t xs its) {us : List Nat} {it : PD} {h : Nat} (h0 : h ≠ 0) (hh : h ≤ t.length) : gnx t xs it us h = nextS t xs us h := by
  have hw : isW (at' xs (up t h)) := W.xw _ (at_mem (by have := W.len; have := up_le T hh; omega))
  unfold gnx gGoN gGo0 gWish nextS repd
  rw [if_neg h0, isW_none hw]
  by_cases q1 : (us.any fun x => decide (x = h)) = true
  · simp [q1]
  · by_cases q2 : PyData.eqv (at' xs (up t h)) (at' xs h) = true
    · simp [q2]
    · simp only [Bool.not_eq_true] at q1 q2
      simp [q1, q2]
/-- for the first one too -/
theorem gnx_top {t : List Nat} {ds : List PD} (hs : ∀ d ∈ ds, isSign d = true) {us : Nat → List Nat} {kv : Nat → List (Key × PD)} {m : Nat} (W : Wds t (passS t ds us kv m).1 (passS t ds us kv m).2) (hu : ∀ x ∈ us m, x ≠ 0) :
    gnx t (passS t ds us kv m).1 ((passS t ds us kv m).2.headD .none) (us m) 0 = stepX t (passS t ds us kv m).1 (passS t ds us kv m).2 (us m) := by
  have q1 : ((us m).any fun x => decide (x = 0)) = false := by
    rw [List.any_eq_false]
    intro x hx
    simpa using hu x hx
  unfold gnx gGoN gGo0 gWish stepX goes repd
  rw [if_pos rfl, q1]
  cases e : (passS t ds us kv m).2 with
  | nil => simp
  | cons d r =>
    have q2 := pass_head hs e
    have q3 : PyData.eqv d .none = false := isW_none (W.iw d (by rw [e]; exact List.mem_cons_self))
    simp [q2, q3]
theorem gnx_moved {t : List Nat} {ds : List PD} (hs : ∀ d ∈ ds, isSign d = true) {us : Nat → List Nat} {kv : Nat → List (Key × PD)} {m : Nat} (W : Wds t (passS t ds us kv m).1 (passS t ds us kv m).2) :
    (!PyData.eqv (stepX t (passS t ds us kv m).1 (passS t ds us kv m).2 (us m)) (at' (passS t ds us kv m).1 0)) = goes t (passS t ds us kv m).1 (passS t ds us kv m).2 (us m) := by
  unfold stepX
  by_cases g : goes t (passS t ds us kv m).1 (passS t ds us kv m).2 (us m) = true
  · rw [if_pos g, g]
    cases e : (passS t ds us kv m).2 with
    | nil => unfold goes at g; rw [e] at g; cases g
    | cons d r =>
      have := pass_head hs e
      simp [this]
  · rw [if_neg g]
    simp only [Bool.not_eq_true] at g
    rw [g, (okDep.w (W.xw _ (at_mem (by have := W.len; omega)))).self]
    rfl
/-! ### slips by moment and hill -/
def keyN (p : Nat × Nat) : List Key := [.inl (p.1 : Int), .inl (p.2 : Int)]
theorem keyN_inj {p q : Nat × Nat} (h : keyN p = keyN q) : p = q := by
  unfold keyN at h
  simp only [List.cons.injEq, Sum.inl.injEq, Int.natCast_inj, and_true] at h
  exact Prod.ext h.1 h.2
/-- the slips as a dict -/
def slD (sl : List (Nat × Nat × PD)) : List (List Key × PD) := sl.map fun p => (keyN (p.1, p.2.1), p.2.2)
def slK (sl : List (Nat × Nat × PD)) : List (Nat × Nat) := sl.map fun p => (p.1, p.2.1)
theorem slD_nodup {sl : List (Nat × Nat × PD)} (h : (slK sl).Nodup) : ((slD sl).map (·.1)).Nodup := by
  unfold slD slK List.Nodup at *
  rw [List.map_map, List.pairwise_map]
  rw [List.pairwise_map] at h
  exact h.imp fun {a b} ne e => ne (keyN_inj e)
theorem find_map {α κ κ' : Type} [DecidableEq κ] [DecidableEq κ'] (f : α → κ) (g : α → κ') (v : α → PD) (k : κ) (k' : κ') : ∀ {l : List α}, (∀ x ∈ l, f x = k ↔ g x = k') → ((l.map fun x => (f x, v x)).find? fun kv => decide (kv.1 = k)).map (·.2) = ((l.map fun x => (g x, v x)).find? fun kv => decide (kv.1 = k')).map (·.2)
  | [], _ => rfl
  | x :: l, h => by
    have h1 := h x List.mem_cons_self
    have ih := find_map f g v k k' (l := l) fun y hy => h y (List.mem_cons_of_mem _ hy)
    rw [List.map_cons, List.map_cons]
    by_cases q : f x = k
    · rw [List.find?_cons_of_pos (by simpa using q), List.find?_cons_of_pos (by simpa using h1.mp q)]
      rfl
    · rw [List.find?_cons_of_neg (by simpa using q), List.find?_cons_of_neg (by simpa using fun z => q (h1.mpr z))]
      exact ih
theorem find_filter {α κ : Type} [DecidableEq κ] (c : α → Bool) (f : α → κ) (v : α → PD) (k : κ) : ∀ {l : List α}, (∀ x ∈ l, f x = k → c x = true) → ((l.map fun x => (f x, v x)).find? fun kv => decide (kv.1 = k)) = (((l.filter c).map fun x => (f x, v x)).find? fun kv => decide (kv.1 = k))
  | [], _ => rfl
  | x :: l, h => by
    have h1 := h x List.mem_cons_self
    have ih := find_filter c f v k (l := l) fun y hy => h y (List.mem_cons_of_mem _ hy)
    rw [List.map_cons]
    by_cases q : f x = k
    · rw [List.find?_cons_of_pos (by simpa using q), List.filter_cons_of_pos (h1 q), List.map_cons, List.find?_cons_of_pos (by simpa using q)]
    · rw [List.find?_cons_of_neg (by simpa using q), ih]
      by_cases z : c x = true
      · rw [List.filter_cons_of_pos z, List.map_cons, List.find?_cons_of_neg (by simpa using q)]
      · rw [List.filter_cons_of_neg z]
/-- one moment's slips are those of the dict -/
theorem kvA_find {sl : List (Nat × Nat × PD)} (hn : (slK sl).Nodup) (m h : Nat) : ((kvA sl m).find? fun kv => decide (kv.1 = .inl (h : Int))).map (·.2) = ((slD sl).find? fun kv => decide (kv.1 = keyN (m + 1, h))).map (·.2) := by
  have hk : ((sl.filter fun p => decide (p.1 = m + 1)).map fun p => ((.inl (p.2.1 : Int), p.2.2) : Key × PD)).map (·.1) = (sl.filter fun p => decide (p.1 = m + 1)).map fun p => (.inl (p.2.1 : Int) : Key) := by rw [List.map_map]; rfl
  have nd : (((sl.filter fun p => decide (p.1 = m + 1)).map fun p => ((.inl (p.2.1 : Int), p.2.2) : Key × PD)).map (·.1)).Nodup := by
    rw [hk]
    unfold slK List.Nodup at *
    rw [List.pairwise_map] at hn ⊢
    refine (hn.filter _).imp_of_mem fun {a b} ha hb ne e => ne ?_
    have h1 := (List.mem_filter.mp ha).2
    have h2 := (List.mem_filter.mp hb).2
    simp only [decide_eq_true_eq] at h1 h2
    simp only [Sum.inl.injEq, Int.natCast_inj] at e
    exact Prod.ext (by simp only; omega) e
  have e0 : kvA sl m = (sl.filter fun p => decide (p.1 = m + 1)).map fun p => (.inl (p.2.1 : Int), p.2.2) := by
    unfold kvA
    rw [mergeD_app (by simpa using nd)]
    rfl
  have e1 : slD sl = sl.map fun p => (keyN (p.1, p.2.1), p.2.2) := rfl
  rw [e0, e1, find_filter (fun p : Nat × Nat × PD => decide (p.1 = m + 1)) (fun p => keyN (p.1, p.2.1)) (fun p => p.2.2) (keyN (m + 1, h)) (fun x _ e => by
    have := congrArg Prod.fst (keyN_inj e)
    simpa using this)]
  refine find_map (fun p : Nat × Nat × PD => (.inl (p.2.1 : Int) : Key)) (fun p => keyN (p.1, p.2.1)) (fun p => p.2.2) _ _ fun x hx => ?_
  have := (List.mem_filter.mp hx).2
  simp only [decide_eq_true_eq] at this
  constructor
  · intro e
    simp only [Sum.inl.injEq, Int.natCast_inj] at e
    rw [this, e]
  · intro e
    have := congrArg Prod.snd (keyN_inj e)
    simp only at this
    rw [this]
/-- what a hill shows, by a slip another sign: in the law's way -/
def wrG (sl : List (Nat × Nat × PD)) (m h : Nat) (v old : PD) : PD := if (!PyData.eqv v old && !PyData.eqv v RS') = true then (((slD sl).find? fun kv => decide (kv.1 = keyN (m + 1, h))).map (·.2)).getD v else v
theorem wrG_wrS {sl : List (Nat × Nat × PD)} (hn : (slK sl).Nodup) (m h : Nat) (v old : PD) : wrG sl m h v old = wrS (kvA sl m) h v old := by
  unfold wrG wrS
  rw [← kvA_find hn]
  by_cases q1 : PyData.eqv v old = true
  · simp [q1]
  · by_cases q2 : PyData.eqv v RS' = true
    · simp [q2]
    · simp only [Bool.not_eq_true] at q1 q2
      rw [q1, q2]
      simp only [Bool.not_false, Bool.and_self, if_true, Bool.false_eq_true, if_false]
      cases (kvA sl m).find? fun kv => decide (kv.1 = .inl (h : Int)) <;> rfl
/-- the first i hills behind hill 0 corrected -/
def wrL (t : List Nat) (sl : List (Nat × Nat × PD)) (m : Nat) (made old : List PD) (i : Nat) : List PD := (List.range (t.length + 1)).map fun h => if 1 ≤ h ∧ h ≤ i then wrG sl m h (at' made h) (at' old h) else at' made h
theorem wrL_length (t : List Nat) (sl : List (Nat × Nat × PD)) (m : Nat) (made old : List PD) (i : Nat) : (wrL t sl m made old i).length = t.length + 1 := by simp [wrL]
theorem wrL_at {t : List Nat} {sl : List (Nat × Nat × PD)} {m : Nat} {made old : List PD} {i h : Nat} (hh : h ≤ t.length) : at' (wrL t sl m made old i) h = if 1 ≤ h ∧ h ≤ i then wrG sl m h (at' made h) (at' old h) else at' made h := by
  unfold wrL at'
  rw [List.getD_eq_getElem?_getD, List.getElem?_map, List.getElem?_range (by omega)]
  rfl
theorem wrL_0 {t : List Nat} {sl : List (Nat × Nat × PD)} {m : Nat} {made old : List PD} (hl : made.length = t.length + 1) : wrL t sl m made old 0 = made := by
  apply List.ext_getElem
  · simp [wrL, hl]
  · intro i h1 h2
    have : ¬ (1 ≤ i ∧ i ≤ 0) := by omega
    simp only [wrL, List.getElem_map, List.getElem_range]
    rw [if_neg this, get_at h2]
theorem wrL_succ {t : List Nat} {sl : List (Nat × Nat × PD)} {m : Nat} {made old : List PD} {i : Nat} : (wrL t sl m made old i).set (i + 1) (wrG sl m (i + 1) (at' made (i + 1)) (at' old (i + 1))) = wrL t sl m made old (i + 1) := by
  apply List.ext_getElem
  · simp [wrL]
  · intro j h1 h2
    have hj : j < t.length + 1 := by simpa [wrL] using h2
    simp only [List.getElem_set, wrL, List.getElem_map, List.getElem_range]
    by_cases e : i + 1 = j
    · subst e
      simp
    · rw [if_neg e]
      by_cases q : 1 ≤ j ∧ j ≤ i
      · rw [if_pos q, if_pos (by omega)]
      · rw [if_neg q, if_neg (by omega)]
/-- the law's next shows, all of them -/
def gNx (t : List Nat) (xs : List PD) (it : PD) (us : List Nat) : List PD := (List.range (t.length + 1)).map fun h => gnx t xs it us h
theorem gNx_length (t : List Nat) (xs : List PD) (it : PD) (us : List Nat) : (gNx t xs it us).length = t.length + 1 := by simp [gNx]
theorem gNx_at {t : List Nat} {xs : List PD} {it : PD} {us : List Nat} {h : Nat} (hh : h ≤ t.length) : at' (gNx t xs it us) h = gnx t xs it us h := by
  unfold gNx at'
  rw [List.getD_eq_getElem?_getD, List.getElem?_map, List.getElem?_range (by omega)]
  rfl
section
variable {t : List Nat} {ds : List PD} {fog : List (Nat × Nat)} {sl : List (Nat × Nat × PD)} (O : PaOk t ds fog sl)
include O
theorem usA_pos (m : Nat) : ∀ x ∈ usA fog m, x ≠ 0 := by
  intro x hx
  unfold usA at hx
  obtain ⟨p, hp, rfl⟩ := List.mem_map.mp hx
  have := O.fp p (List.mem_filter.mp hp).1
  omega
/-- one moment, in the law's way, is the program's -/
theorem law_step (hn : (slK sl).Nodup) (m : Nat) : wrL t sl m (gNx t (paX t ds fog sl m) ((paY t ds fog sl m).headD .none) (usA fog m)) (paX t ds fog sl m) t.length = paX t ds fog sl (m + 1) := by
  have W := O.wds m
  apply List.ext_getElem
  · rw [wrL_length, (O.wds (m + 1)).len]
  · intro h h1 h2
    have hh : h ≤ t.length := by rw [wrL_length] at h1; omega
    have e2 : at' (paX t ds fog sl (m + 1)) h = at' (stepL t (paX t ds fog sl m) (paY t ds fog sl m) (usA fog m) (kvA sl m) t.length) h := rfl
    rw [get_at h1, get_at h2, e2, wrL_at hh, stepL_at hh, gNx_at hh]
    by_cases h0 : h = 0
    · subst h0
      rw [if_neg (by omega), if_pos rfl]
      exact gnx_top O.hs W (usA_pos O m)
    · rw [if_pos (by omega), if_neg h0, wrG_wrS hn, gnx_next O.T W h0 hh]
theorem law_items (m : Nat) : (if (!PyData.eqv (at' (gNx t (paX t ds fog sl m) ((paY t ds fog sl m).headD .none) (usA fog m)) 0) (at' (paX t ds fog sl m) 0)) = true then (paY t ds fog sl m).drop 1 else paY t ds fog sl m) = paY t ds fog sl (m + 1) := by
  have W := O.wds m
  have e0 : at' (gNx t (paX t ds fog sl m) ((paY t ds fog sl m).headD .none) (usA fog m)) 0 = stepX t (paX t ds fog sl m) (paY t ds fog sl m) (usA fog m) := by
    rw [gNx_at (Nat.zero_le _)]
    exact gnx_top O.hs W (usA_pos O m)
  have e1 := gnx_moved (t := t) O.hs (us := usA fog) (kv := kvA sl) (m := m) W
  have e1 : (!PyData.eqv (stepX t (paX t ds fog sl m) (paY t ds fog sl m) (usA fog m)) (at' (paX t ds fog sl m) 0)) = goes t (paX t ds fog sl m) (paY t ds fog sl m) (usA fog m) := e1
  have e2 : paY t ds fog sl (m + 1) = stpI t (paX t ds fog sl m) (paY t ds fog sl m) (usA fog m) := rfl
  rw [e0, e1, e2]
  unfold stpI
  by_cases g : goes t (paX t ds fog sl m) (paY t ds fog sl m) (usA fog m) = true
  · rw [if_pos g, if_pos g, List.drop_one]
  · rw [if_neg g, if_neg g]
end
/-! ### drawn slips -/
def dB (bk : List ((Nat × Nat) × PD)) : List (List Key × PD) := bk.map fun e => (keyN e.1, e.2)
theorem dB_length (bk : List ((Nat × Nat) × PD)) : (dB bk).length = bk.length := by simp [dB]
theorem any_inj {α β : Type} [DecidableEq α] [DecidableEq β] (f : α → β) (hf : ∀ a b, f a = f b → a = b) (k : α) (l : List (α × PD)) : ((l.map fun e => (f e.1, e.2)).any fun kv => decide (kv.1 = f k)) = l.any fun kv => decide (kv.1 = k) := by
  rw [List.any_map]
  congr 1
  funext e
  simp only [Function.comp, decide_eq_decide]
  exact ⟨hf _ _, fun q => by rw [q]⟩
theorem dB_put (bk : List ((Nat × Nat) × PD)) (p : Nat × Nat) (d : PD) : putD (dB bk) (keyN p) d = dB (putD bk p d) := by
  unfold putD dB
  rw [any_inj keyN (fun _ _ => keyN_inj)]
  split
  · rw [List.map_map, List.map_map]
    apply List.map_congr_left
    intro e _
    simp only [Function.comp]
    by_cases q : e.1 = p
    · rw [if_pos q, if_pos (by rw [q])]
    · rw [if_neg q, if_neg (fun z => q (keyN_inj z))]
  · rw [List.map_append]
    rfl
theorem putD_len {κ : Type} [DecidableEq κ] (l : List (κ × PD)) (k : κ) (d : PD) : (putD l k d).length ≤ l.length + 1 := by
  unfold putD
  split
  · simp
  · simp
theorem putD_mem {κ : Type} [DecidableEq κ] {l : List (κ × PD)} {k : κ} {d : PD} {e : κ × PD} (h : e ∈ putD l k d) : e ∈ l ∨ (e.1 = k ∧ e.2 = d) := by
  unfold putD at h
  split at h
  · obtain ⟨x, hx, rfl⟩ := List.mem_map.mp h
    by_cases q : x.1 = k
    · rw [if_pos q]; exact .inr ⟨q, rfl⟩
    · rw [if_neg q]; exact .inl hx
  · rcases List.mem_append.mp h with h | h
    · exact .inl h
    · simp only [List.mem_singleton] at h
      subst h
      exact .inr ⟨rfl, rfl⟩
theorem keysC_dB : ∀ {bk : List ((Nat × Nat) × PD)}, (∀ e ∈ bk, e.1.1 < 64 ∧ e.1.2 < 64) → keysC ((dB bk).map (·.1)) = some ((bk.map (·.1)).map codeN)
  | [], _ => rfl
  | e :: r, h => by
    have ih := keysC_dB (bk := r) fun x hx => h x (by simp [hx])
    obtain ⟨h1, h2⟩ := h e (by simp)
    have e0 : keyC (keyN e.1) = some (codeN e.1) := by
      unfold keyC keyN
      simp only [codeN]
      rw [if_pos (by omega)]
    show keysC (keyN e.1 :: (dB r).map (·.1)) = _
    rw [keysC, e0, ih]
    rfl
/-- the slips of a book -/
def slV (bk : List ((Nat × Nat) × PD)) (p : Nat × Nat) : PD := ((bk.find? fun e => decide (e.1 = p)).map (·.2)).getD .none
def slB (bk : List ((Nat × Nat) × PD)) : List (Nat × Nat × PD) := (fogS (bk.map (·.1))).map fun p => (p.1, p.2, slV bk p)
theorem slV_find (bk : List ((Nat × Nat) × PD)) {p : Nat × Nat} (h : p ∈ bk.map (·.1)) : ∃ e ∈ bk, (bk.find? fun e => decide (e.1 = p)) = some e ∧ slV bk p = e.2 := by
  obtain ⟨e0, he0, rfl⟩ := List.mem_map.mp h
  cases q : bk.find? fun e => decide (e.1 = e0.1) with
  | none =>
    have := List.find?_eq_none.mp q e0 he0
    simp at this
  | some e =>
    exact ⟨e, List.mem_of_find?_eq_some q, rfl, by unfold slV; rw [q]; rfl⟩
theorem dB_find (bk : List ((Nat × Nat) × PD)) (p : Nat × Nat) : ((dB bk).find? fun kv => decide (kv.1 = keyN p)).map (·.2) = (bk.find? fun e => decide (e.1 = p)).map (·.2) := by
  have := find_map (fun e : (Nat × Nat) × PD => keyN e.1) (fun e => e.1) (fun e => e.2) (keyN p) p (l := bk) fun x _ => ⟨keyN_inj, fun z => by rw [z]⟩
  have e0 : (bk.map fun x => (x.1, x.2)) = bk := by simp
  rw [e0] at this
  exact this
theorem zip_hd (f : Nat × Nat → PD) (hf : ∀ p, hd2 (f p) = tupN p) : ∀ S : List (Nat × Nat), ((List.zipWith Im.two (S.map f) (S.map f).tail).all fun m => ltPr (hd2 m.d) (hd2 m.d2)) = (List.zipWith Im.two (S.map tupN) (S.map tupN).tail).all fun m => ltPr m.d m.d2
  | [] => rfl
  | [_] => rfl
  | a :: b :: r => by
    have ih := zip_hd f hf (b :: r)
    simp only [List.map_cons, List.tail_cons, List.zipWith_cons_cons, List.all_cons] at ih ⊢
    rw [ih]
    simp only [Im.d, Im.d2, hf]
section
variable {bk : List ((Nat × Nat) × PD)} (h : ∀ e ∈ bk, e.1.1 < 64 ∧ e.1.2 < 64) (hn : (bk.map (·.1)).Nodup)
include h hn
theorem slB_keys : slK (slB bk) = fogS (bk.map (·.1)) := by
  unfold slK slB
  rw [List.map_map]
  conv => rhs; rw [← List.map_id (fogS (bk.map (·.1)))]
  apply List.map_congr_left
  intro p _
  rfl
theorem slB_b : ∀ p ∈ bk.map (·.1), p.1 < 64 ∧ p.2 < 64 := fun p hp => by
  obtain ⟨e, he, rfl⟩ := List.mem_map.mp hp
  exact h e he
theorem slB_nodup : (slK (slB bk)).Nodup := by
  rw [slB_keys h hn]
  have s := fogS_strict (slB_b h hn) hn
  unfold fogS List.Nodup
  rw [List.pairwise_map]
  refine s.imp_of_mem fun {a b} ha hb q e => ?_
  rw [(sortI_perm _).mem_iff, List.mem_map] at ha hb
  obtain ⟨x, hx, rfl⟩ := ha
  obtain ⟨y, hy, rfl⟩ := hb
  rw [unc_code (slB_b h hn x hx).2, unc_code (slB_b h hn y hy).2] at e
  rw [e] at q
  omega
theorem slB_mem {s : Nat × Nat × PD} (hs : s ∈ slB bk) : ∃ e ∈ bk, s = (e.1.1, e.1.2, e.2) := by
  unfold slB at hs
  obtain ⟨p, hp, rfl⟩ := List.mem_map.mp hs
  rw [fogS_mem (slB_b h hn)] at hp
  obtain ⟨e, he, q, v⟩ := slV_find bk hp
  have := List.find?_some q
  simp only [decide_eq_true_eq] at this
  exact ⟨e, he, by rw [v, this]⟩
theorem slB_slips {n : Nat} (hl : bk.length ≤ 6) (hb : ∀ e ∈ bk, 1 ≤ e.1.2 ∧ e.1.2 ≤ n) (hs : ∀ e ∈ bk, isSign e.2 = true) : areSlips n (slipP (slB bk)) = true := by
  have hlen : (slB bk).length ≤ 6 := by
    unfold slB fogS
    rw [List.length_map, List.length_map, (sortI_perm _).length_eq, List.length_map, List.length_map]
    exact hl
  unfold areSlips slipP
  simp only [Bool.and_eq_true, decide_eq_true_eq, List.length_map]
  refine ⟨hlen, ?_, ?_⟩
  · rw [List.all_eq_true]
    intro d hd
    obtain ⟨s, hs', rfl⟩ := List.mem_map.mp hd
    obtain ⟨e, he, rfl⟩ := slB_mem h hn hs'
    have a := h e he
    have b := hb e he
    have c := hs e he
    simp [isSlip, isPair, isWhole, c]
    omega
  · have e1 : ((slB bk).map fun p => PyData.tuple [nI p.1, nI p.2.1, p.2.2]) = (fogS (bk.map (·.1))).map fun p => .tuple [nI p.1, nI p.2, slV bk p] := by
      unfold slB
      rw [List.map_map]
      rfl
    rw [e1, zip_hd _ (fun p => rfl)]
    exact zip_pairs (slB_b h hn) (fogS_strict (slB_b h hn) hn) fun c hc => by
      rw [(sortI_perm _).mem_iff, List.mem_map] at hc
      obtain ⟨q, hq, rfl⟩ := hc
      unfold codeN
      omega
end
theorem gGet_sl (sl : List (Nat × Nat × PD)) (m h : Nat) (y : PD) : gGet (.dt (slD sl)) (.d (.tuple [.int ((m : Int) + 1), nI h])) (.d y) = some (.d ((((slD sl).find? fun kv => decide (kv.1 = keyN (m + 1, h))).map (·.2)).getD y)) := by
  have e1 : intsOf [PyData.int ((m : Int) + 1), nI h] = some [(m : Int) + 1, (h : Int)] := rfl
  have e2 : ([(m : Int) + 1, (h : Int)].map Sum.inl : List Key) = keyN (m + 1, h) := by unfold keyN; simp
  unfold gGet
  dsimp only
  rw [e1, Option.map_some, e2]
  cases (slD sl).find? fun kv => decide (kv.1 = keyN (m + 1, h)) <;> rfl
section
variable {t : List Nat} {ds : List PD} {fog : List (Nat × Nat)} {sl : List (Nat × Nat × PD)} (O : PaOk t ds fog sl)
include O
/-- all is over not long behind the last fog and slip -/
theorem paD_bound {M : Nat} (hf : ∀ p ∈ fog, p.1 < M) (hsl : ∀ p ∈ sl, p.1 < M) : paD t ds fog sl ≤ M + ((t.length + 1) * (2 * ds.length) + (t.length + 1) * t.length) + 1 := by
  obtain ⟨D, D1, D2, D3⟩ := pass_end O.T O.hs (us := usA fog) (kv := kvA sl) (kvA_w O.ss) (M := M) fun m hm => ⟨usA_nil hf hm, kvA_nil hsl hm⟩
  rw [paD_eq (t := t) (ds := ds) (fog := fog) (sl := sl) D2 D3]
  exact D1
/-- in the end all rest -/
theorem paX_end : paY t ds fog sl (paD t ds fog sl) = [] ∧ PyData.eqv (.list (paX t ds fog sl (paD t ds fog sl))) (restL (t.length + 1)) = true := by
  have hb := (paD_le O).2.1
  unfold paB busy at hb
  simp only [Bool.or_eq_false_iff, Bool.not_eq_false'] at hb
  exact ⟨List.isEmpty_iff.mp hb.1, hb.2⟩
theorem paX_ok (m : Nat) : okDep 1 (.list (paX t ds fog sl m)) := okDep.list fun d hd => okDep.w ((O.wds m).xw d hd)
end
theorem restL_ok (n : Nat) : okDep 1 (restL n) := okDep.list fun d hd => by
  rw [(List.mem_replicate.mp hd).2]
  exact okDep.w (d := RS') trivial
theorem enumI_range (f : Nat → PD) : ∀ (n k : Nat), enumI k ((List.range n).map fun i => f (k + i)) = (List.range n).map fun i => Im.two (nI (k + i)) (f (k + i))
  | 0, k => rfl
  | n + 1, k => by
    rw [List.range_succ_eq_map, List.map_cons, List.map_cons, List.map_map, List.map_map]
    show Im.two (.int (k : Int)) (f (k + 0)) :: enumI (k + 1) _ = _
    have ih := enumI_range f n (k + 1)
    have e1 : ((fun i => f (k + i)) ∘ Nat.succ) = fun i => f (k + 1 + i) := by funext i; simp only [Function.comp]; congr 1; omega
    have e2 : ((fun i => Im.two (nI (k + i)) (f (k + i))) ∘ Nat.succ) = fun i => Im.two (nI (k + 1 + i)) (f (k + 1 + i)) := by
      funext i
      simp only [Function.comp]
      have : k + Nat.succ i = k + 1 + i := by omega
      rw [this]
    rw [e1, ih, e2]
    rfl
theorem enumI_rowsF (f : Nat → List PD) (D : Nat) : enumI 0 (rowsF f D) = (List.range (D + 1)).map fun k => Im.two (nI k) (.list (f k)) := by
  have := enumI_range (fun k => .list (f k)) (D + 1) 0
  simp only [Nat.zero_add] at this
  exact this
/-- the moments at which all rest -/
def restsL (f : Nat → List PD) (n D : Nat) : List Nat := (List.range (D + 1)).filter fun k => PyData.eqv (.list (f k)) (restL n)
theorem regF_ok {f : Nat → List PD} {n h D : Nat} (hh : h ≤ n) (hx : ∀ k, (f k).length = n + 1 ∧ ∀ x ∈ f k, isW x) : okDep 2 (.list (regF f h D)) := okDep.list fun d hd => by
  obtain ⟨k, _, rfl⟩ := List.mem_map.mp hd
  refine okDep.tuple (n := 0) fun x hx' => ?_
  simp only [List.mem_cons, List.not_mem_nil, or_false] at hx'
  rcases hx' with rfl | rfl
  · exact okDep.int 0 _
  · exact okDep.w ((hx (k + 1)).2 _ (at_mem (by have := (hx (k + 1)).1; omega)))
end Hil
/-! HearM: each hill counts just the row, whatever fog and slips. -/
namespace Hil
open PySem L2 HT0
/-- the signs that count: those ahead of a rest -/
def countedL : List PD → List PD
  | a :: b :: r => if (!PyData.eqv a RS' && PyData.eqv b RS') = true then a :: countedL (b :: r) else countedL (b :: r)
  | _ => []
theorem eqv_RS {a : PD} (h : isW a) : PyData.eqv a RS' = true ↔ a = RS' := eqv_isW h True.intro
theorem counted_snoc : ∀ (l : List PD) (y : PD), countedL (l ++ [y]) = countedL l ++ (match l.getLast? with
    | some x => if (!PyData.eqv x RS' && PyData.eqv y RS') = true then [x] else []
    | none => [])
  | [], y => rfl
  | [a], y => by
    show countedL [a, y] = [] ++ _
    simp only [countedL, List.getLast?_singleton, List.nil_append]
  | a :: b :: r, y => by
    have ih := counted_snoc (b :: r) y
    show countedL (a :: b :: (r ++ [y])) = _
    rw [List.getLast?_cons_cons]
    have ih : countedL (b :: (r ++ [y])) = _ := ih
    simp only [countedL, ih]
    split <;> simp
theorem counted_more {l : List PD} {y : PD} (h : PyData.eqv y RS' = false) : countedL (l ++ [y]) = countedL l := by
  rw [counted_snoc]
  cases l.getLast? <;> simp [h]
theorem counted_mores : ∀ {ws l : List PD}, (∀ w ∈ ws, PyData.eqv w RS' = false) → countedL (l ++ ws) = countedL l
  | [], l, _ => by simp
  | w :: ws, l, h => by
    have e : l ++ w :: ws = (l ++ [w]) ++ ws := by simp
    rw [e, counted_mores fun x hx => h x (List.mem_cons_of_mem _ hx), counted_more (h w List.mem_cons_self)]
theorem counted_rests {ds : List PD} (hs : ∀ d ∈ ds, isSign d = true) : countedL (RS' :: withRests ds) = ds := by
  induction ds with
  | nil => rfl
  | cons d ds ih =>
    have h1 := (isSign_ok (hs d List.mem_cons_self)).2
    have ih := ih fun x hx => hs x (List.mem_cons_of_mem _ hx)
    show countedL (RS' :: d :: RS' :: withRests ds) = _
    have e1 : (!PyData.eqv RS' RS' && PyData.eqv d RS') = false := by rw [rs_self1]; rfl
    have e2 : (!PyData.eqv d RS' && PyData.eqv RS' RS') = true := by rw [rs_self1, h1]; rfl
    rw [countedL, if_neg (by rw [e1]; decide), countedL, if_pos e2, ih]
theorem counted_rests' {ds : List PD} (hs : ∀ d ∈ ds, isSign d = true) : countedL (withRests ds) = ds := by
  cases ds with
  | nil => rfl
  | cons d ds =>
    have := counted_rests hs
    have h1 := (isSign_ok (hs d List.mem_cons_self)).2
    have e1 : (!PyData.eqv RS' RS' && PyData.eqv d RS') = false := by rw [rs_self1]; rfl
    have e : withRests (d :: ds) = d :: RS' :: withRests ds := rfl
    rw [e] at this ⊢
    rw [countedL, if_neg (by rw [e1]; decide)] at this
    exact this
/-- b is a with some wrong signs ahead of its signs -/
inductive Ex : List PD → List PD → Prop
  | nil : Ex [] []
  | snoc {a b ws : List PD} {y : PD} : Ex a b → (∀ w ∈ ws, PyData.eqv w RS' = false) → (PyData.eqv y RS' = true → ws = []) → Ex (a ++ [y]) (b ++ ws ++ [y])
theorem Ex.last {a b : List PD} (h : Ex a b) : a.getLast? = b.getLast? := by
  cases h with
  | nil => rfl
  | snoc _ _ _ => simp
theorem Ex.counted {a b : List PD} (h : Ex a b) : countedL b = countedL a := by
  induction h with
  | nil => rfl
  | @snoc a b ws y h hw hy ih =>
    by_cases q : PyData.eqv y RS' = true
    · rw [hy q, List.append_nil, counted_snoc, counted_snoc, ih, h.last]
    · simp only [Bool.not_eq_true] at q
      rw [counted_more q, counted_more q, counted_mores hw, ih]
/-! ### what a hill began to show -/
def bg (f : Nat → List PD) (h : Nat) : Nat → List PD
  | 0 => []
  | m + 1 => bg f h m ++ (if PyData.eqv (at' (f (m + 1)) h) (at' (f m) h) = true then [] else [at' (f (m + 1)) h])
theorem regF_succ (f : Nat → List PD) (h D : Nat) : regF f h (D + 1) = regF f h D ++ (if PyData.eqv (at' (f (D + 1)) h) (at' (f D) h) = true then [] else [.tuple [nI (D + 1), at' (f (D + 1)) h]]) := by
  unfold regF
  rw [List.range_succ, List.filter_append, List.map_append]
  congr 1
  by_cases q : PyData.eqv (at' (f (D + 1)) h) (at' (f D) h) = true
  · rw [if_pos q, List.filter_cons_of_neg (by rw [q]; decide)]
    rfl
  · rw [if_neg q]
    simp only [Bool.not_eq_true] at q
    rw [List.filter_cons_of_pos (by rw [q]; rfl)]
    rfl
/-- the moments at which it began something -/
def bgM (f : Nat → List PD) (h : Nat) : Nat → List Nat
  | 0 => []
  | m + 1 => bgM f h m ++ (if PyData.eqv (at' (f (m + 1)) h) (at' (f m) h) = true then [] else [m + 1])
theorem bgM_length (f : Nat → List PD) (h : Nat) : ∀ D, (bgM f h D).length = (bg f h D).length
  | 0 => rfl
  | D + 1 => by
    simp only [bg, bgM, List.length_append, bgM_length f h D]
    split <;> rfl
theorem regF_zip (f : Nat → List PD) (h : Nat) : ∀ D, regF f h D = List.zipWith (fun m d => .tuple [nI m, d]) (bgM f h D) (bg f h D)
  | 0 => rfl
  | D + 1 => by
    rw [regF_succ, regF_zip f h D]
    simp only [bg, bgM]
    rw [List.zipWith_append (bgM_length f h D)]
    congr 1
    split <;> rfl
theorem bgM_le (f : Nat → List PD) (h : Nat) : ∀ D, ∀ m ∈ bgM f h D, m ≤ D
  | 0, m, hm => by cases hm
  | D + 1, m, hm => by
    simp only [bgM] at hm
    rcases List.mem_append.mp hm with hm | hm
    · have := bgM_le f h D m hm; omega
    · split at hm
      · cases hm
      · simp only [List.mem_singleton] at hm; omega
theorem bg_last {f : Nat → List PD} {h : Nat} (h0 : at' (f 0) h = RS') (hw : ∀ m, isW (at' (f m) h)) : ∀ m, (RS' :: bg f h m).getLast? = some (at' (f m) h)
  | 0 => by rw [h0]; rfl
  | m + 1 => by
    have ih := bg_last h0 hw m
    simp only [bg]
    by_cases q : PyData.eqv (at' (f (m + 1)) h) (at' (f m) h) = true
    · rw [if_pos q, List.append_nil, ih, (eqv_isW (hw _) (hw _)).mp q]
    · rw [if_neg q, ← List.cons_append]
      exact List.getLast?_concat
/-- neighbours differ -/
theorem bg_diff {f : Nat → List PD} {h : Nat} (h0 : at' (f 0) h = RS') (hw : ∀ m, isW (at' (f m) h)) : ∀ m i, i + 1 < (RS' :: bg f h m).length → PyData.eqv ((RS' :: bg f h m).getD i .none) ((RS' :: bg f h m).getD (i + 1) .none) = false
  | 0, i, hi => by simp [bg] at hi
  | m + 1, i, hi => by
    have ih := bg_diff h0 hw m
    have la := bg_last h0 hw m
    have e : RS' :: bg f h (m + 1) = (RS' :: bg f h m) ++ (if PyData.eqv (at' (f (m + 1)) h) (at' (f m) h) = true then [] else [at' (f (m + 1)) h]) := rfl
    rw [e] at hi ⊢
    generalize RS' :: bg f h m = L at *
    by_cases q : PyData.eqv (at' (f (m + 1)) h) (at' (f m) h) = true
    · rw [if_pos q, List.append_nil] at hi ⊢
      exact ih i hi
    · rw [if_neg q] at hi ⊢
      simp only [Bool.not_eq_true] at q
      by_cases z : i + 1 < L.length
      · have e1 : (L ++ [at' (f (m + 1)) h]).getD i .none = L.getD i .none := by
          rw [List.getD_eq_getElem?_getD, List.getElem?_append_left (by omega), List.getD_eq_getElem?_getD]
        have e2 : (L ++ [at' (f (m + 1)) h]).getD (i + 1) .none = L.getD (i + 1) .none := by
          rw [List.getD_eq_getElem?_getD, List.getElem?_append_left z, List.getD_eq_getElem?_getD]
        rw [e1, e2]
        exact ih i z
      · rw [List.length_append, List.length_singleton] at hi
        have ei : i + 1 = L.length := by omega
        have e1 : (L ++ [at' (f (m + 1)) h]).getD i .none = at' (f m) h := by
          rw [List.getLast?_eq_getElem?] at la
          have : L.length - 1 = i := by omega
          rw [this] at la
          rw [List.getD_eq_getElem?_getD, List.getElem?_append_left (by omega), la]
          rfl
        have e2 : (L ++ [at' (f (m + 1)) h]).getD (i + 1) .none = at' (f (m + 1)) h := by
          rw [List.getD_eq_getElem?_getD, List.getElem?_append_right (by omega), ei, Nat.sub_self]
          rfl
        rw [e1, e2]
        cases r : PyData.eqv (at' (f m) h) (at' (f (m + 1)) h) with
        | false => rfl
        | true =>
          rw [(eqv_isW (hw _) (hw _)).mp r, (okDep.w (hw _)).self] at q
          cases q
theorem kvA_sign {sl : List (Nat × Nat × PD)} (hs : ∀ p ∈ sl, isSign p.2.2 = true) (m : Nat) : ∀ e ∈ kvA sl m, isSign e.2 = true := by
  have aux : ∀ {r kvs : List (Key × PD)}, (∀ e ∈ kvs, isSign e.2 = true) → (∀ e ∈ r, isSign e.2 = true) → ∀ e ∈ mergeD kvs r, isSign e.2 = true := by
    intro r
    induction r with
    | nil => intro kvs h _; exact h
    | cons kv r ih =>
      intro kvs h hr
      obtain ⟨k, v⟩ := kv
      refine ih (fun e he => ?_) fun e he => hr e (List.mem_cons_of_mem _ he)
      rcases putD_mem he with he | ⟨_, e2⟩
      · exact h e he
      · rw [e2]; exact hr (k, v) List.mem_cons_self
  refine aux (by simp) fun e he => ?_
  simp only [List.mem_map, List.mem_filter] at he
  obtain ⟨p, ⟨hp, -⟩, rfl⟩ := he
  exact hs p hp
theorem kvA_mem {sl : List (Nat × Nat × PD)} {m h : Nat} {kv : Key × PD} (e : (kvA sl m).find? (fun kv => decide (kv.1 = .inl (h : Int))) = some kv) : ∃ s ∈ sl, s.1 = m + 1 ∧ s.2.1 = h := by
  have h1 := List.mem_of_find?_eq_some e
  have h2 := List.find?_some e
  simp only [decide_eq_true_eq] at h2
  have aux : ∀ {r kvs : List (Key × PD)} {x : Key × PD}, x ∈ mergeD kvs r → (∃ y ∈ kvs, y.1 = x.1) ∨ ∃ y ∈ r, y.1 = x.1 := by
    intro r
    induction r with
    | nil => intro kvs x hx; exact .inl ⟨x, hx, rfl⟩
    | cons kv r ih =>
      intro kvs x hx
      obtain ⟨k, v⟩ := kv
      rcases ih hx with ⟨y, hy, ey⟩ | ⟨y, hy, ey⟩
      · rcases putD_mem hy with hy | ⟨e1, _⟩
        · exact .inl ⟨y, hy, ey⟩
        · exact .inr ⟨(k, v), List.mem_cons_self, by rw [← ey, e1]⟩
      · exact .inr ⟨y, List.mem_cons_of_mem _ hy, ey⟩
  rcases aux h1 with ⟨y, hy, _⟩ | ⟨y, hy, ey⟩
  · cases hy
  · simp only [List.mem_map, List.mem_filter, decide_eq_true_eq] at hy
    obtain ⟨s, ⟨hs, e1⟩, rfl⟩ := hy
    rw [h2] at ey
    simp only [Sum.inl.injEq, Int.natCast_inj] at ey
    exact ⟨s, hs, e1, ey⟩
/-- so many slips of a hill by a moment -/
def usedS (sl : List (Nat × Nat × PD)) (h m : Nat) : Nat := (sl.filter fun s => decide (s.2.1 = h ∧ s.1 ≤ m)).length
theorem usedS_mono (sl : List (Nat × Nat × PD)) (h m : Nat) : usedS sl h m ≤ usedS sl h (m + 1) := by
  unfold usedS
  induction sl with
  | nil => exact Nat.le_refl _
  | cons s r ih =>
    simp only [List.filter_cons, decide_eq_true_eq]
    by_cases q : s.2.1 = h ∧ s.1 ≤ m
    · rw [if_pos q, if_pos ⟨q.1, by omega⟩]
      simp only [List.length_cons]
      omega
    · rw [if_neg q]
      split
      · simp only [List.length_cons]; omega
      · exact ih
theorem usedS_more {sl : List (Nat × Nat × PD)} {h m : Nat} (e : ∃ s ∈ sl, s.1 = m + 1 ∧ s.2.1 = h) : usedS sl h m + 1 ≤ usedS sl h (m + 1) := by
  obtain ⟨s, hs, e1, e2⟩ := e
  unfold usedS
  induction sl with
  | nil => cases hs
  | cons x r ih =>
    have mono := usedS_mono r h m
    unfold usedS at mono
    simp only [List.filter_cons, decide_eq_true_eq]
    rcases List.mem_cons.mp hs with rfl | hs
    · rw [if_neg (by omega), if_pos ⟨e2, by omega⟩]
      simp only [List.length_cons]
      omega
    · have ih := ih hs
      by_cases q : x.2.1 = h ∧ x.1 ≤ m
      · rw [if_pos q, if_pos ⟨q.1, by omega⟩]
        simp only [List.length_cons]
        omega
      · rw [if_neg q]
        split
        · simp only [List.length_cons]; omega
        · exact ih
/-! ### a hill and the one ahead of it -/
section
variable {t : List Nat} {ds : List PD} {fog : List (Nat × Nat)} {sl : List (Nat × Nat × PD)} (O : PaOk t ds fog sl)
include O
theorem pa_rs (h : Nat) (hh : h ≤ t.length) : at' (paX t ds fog sl 0) h = RS' := by
  show at' (List.replicate (t.length + 1) RS') h = RS'
  unfold at'
  rw [List.getD_eq_getElem?_getD, List.getElem?_replicate, if_pos (by omega)]
  rfl
theorem pa_w {h : Nat} (hh : h ≤ t.length) (m : Nat) : isW (at' (paX t ds fog sl m) h) := (O.wds m).at hh
/-- how a hill may move -/
theorem pa_move {h m : Nat} (h0 : h ≠ 0) (hh : h ≤ t.length) (q : at' (paX t ds fog sl (m + 1)) h ≠ at' (paX t ds fog sl m) h) :
    at' (paX t ds fog sl (m + 1)) h = at' (paX t ds fog sl m) (up t h) ∨ (PyData.eqv (at' (paX t ds fog sl m) (up t h)) RS' = false ∧ isSign (at' (paX t ds fog sl (m + 1)) h) = true ∧ ∃ s ∈ sl, s.1 = m + 1 ∧ s.2.1 = h) := by
  have W := O.wds m
  have e : at' (paX t ds fog sl (m + 1)) h = wrS (kvA sl m) h (nextS t (paX t ds fog sl m) (usA fog m) h) (at' (paX t ds fog sl m) h) := by
    show at' (stepL t _ _ _ _ t.length) h = _
    rw [stepL_at hh, if_neg h0]
    rfl
  rcases nextS_cases O.T W (us := usA fog m) hh with ⟨e1, -⟩ | ⟨e1, -⟩
  · rw [e, wrS_same O.T W hh e1] at q
    exact absurd rfl q
  · rw [e1] at e
    unfold wrS at e
    by_cases q1 : PyData.eqv (at' (paX t ds fog sl m) (up t h)) (at' (paX t ds fog sl m) h) = true
    · rw [if_pos q1] at e
      exact .inl e
    · rw [if_neg q1] at e
      by_cases q2 : PyData.eqv (at' (paX t ds fog sl m) (up t h)) RS' = true
      · rw [if_pos q2] at e
        exact .inl e
      · rw [if_neg q2] at e
        cases f : (kvA sl m).find? fun kv => decide (kv.1 = .inl (h : Int)) with
        | none => rw [f] at e; exact .inl e
        | some kv =>
          rw [f] at e
          simp only [Bool.not_eq_true] at q2
          refine .inr ⟨q2, ?_, kvA_mem f⟩
          rw [e]
          exact kvA_sign O.ss m kv (List.mem_of_find?_eq_some f)
def Syn (Rp Rc : List PD) (xp xc : PD) : Prop := (xc = xp ∧ Ex Rp Rc) ∨ (xc ≠ xp ∧ ∃ a b ws, Rp = a ++ [xp] ∧ Ex a b ∧ Rc = b ++ ws ∧ (∀ w ∈ ws, PyData.eqv w RS' = false) ∧ (PyData.eqv xp RS' = true → ws = []))
theorem bg_step (h m : Nat) (hh : h ≤ t.length) : (at' (paX t ds fog sl (m + 1)) h = at' (paX t ds fog sl m) h ∧ bg (paX t ds fog sl) h (m + 1) = bg (paX t ds fog sl) h m) ∨ (at' (paX t ds fog sl (m + 1)) h ≠ at' (paX t ds fog sl m) h ∧ bg (paX t ds fog sl) h (m + 1) = bg (paX t ds fog sl) h m ++ [at' (paX t ds fog sl (m + 1)) h]) := by
  have e := eqv_isW (pa_w O hh (m + 1)) (pa_w O hh m)
  simp only [bg]
  by_cases q : PyData.eqv (at' (paX t ds fog sl (m + 1)) h) (at' (paX t ds fog sl m) h) = true
  · rw [if_pos q, List.append_nil]
    exact .inl ⟨e.mp q, rfl⟩
  · rw [if_neg q]
    exact .inr ⟨fun z => q (e.mpr z), rfl⟩
theorem pa_syn {h : Nat} (h0 : h ≠ 0) (hh : h ≤ t.length) : ∀ m, Syn (bg (paX t ds fog sl) (up t h) m) (bg (paX t ds fog sl) h m) (at' (paX t ds fog sl m) (up t h)) (at' (paX t ds fog sl m) h) ∧
    (bg (paX t ds fog sl) h m).length + (if PyData.eqv (at' (paX t ds fog sl m) h) (at' (paX t ds fog sl m) (up t h)) = true then 0 else 1) ≤ (bg (paX t ds fog sl) (up t h) m).length + usedS sl h m
  | 0 => by
    have hu := up_le O.T hh
    rw [pa_rs O h hh, pa_rs O _ hu]
    refine ⟨.inl ⟨rfl, .nil⟩, ?_⟩
    rw [rs_self1, if_pos rfl]
    simp [bg]
  | m + 1 => by
    obtain ⟨ih, ihn⟩ := pa_syn h0 hh m
    have hu := up_le O.T hh
    have hb : h ∈ belowL t (up t h) := belowL_mem (by omega) hh rfl
    have S : Stp t (usA fog m) (slN (kvA sl m)) (at' (paX t ds fog sl m)) (at' (paX t ds fog sl (m + 1))) (paY t ds fog sl m ≠ []) (goes t (paX t ds fog sl m) (paY t ds fog sl m) (usA fog m) = true) := stp_of O.T (O.wds m)
    have um := usedS_mono sl h m
    have w1 := pa_w O hh (m + 1)
    have w2 := pa_w O hu (m + 1)
    have w3 := pa_w O hh m
    have w4 := pa_w O hu m
    -- the one ahead moves only when this one shows the same
    have pm : at' (paX t ds fog sl (m + 1)) (up t h) ≠ at' (paX t ds fog sl m) (up t h) → at' (paX t ds fog sl m) h = at' (paX t ds fog sl m) (up t h) := fun q => by
      by_cases u0 : up t h = 0
      · rw [u0] at q hb ⊢
        exact S.g0 (S.mv0 q) h hb
      · exact (S.mvd (up t h) (by omega) hu q).2.1 h hb
    have cm : at' (paX t ds fog sl (m + 1)) h ≠ at' (paX t ds fog sl m) h → at' (paX t ds fog sl m) (up t h) ≠ at' (paX t ds fog sl m) h := fun q => (S.mvd h (by omega) hh q).1
    have mv := pa_move O h0 hh (m := m)
    rcases bg_step O (up t h) m hu with ⟨p1, p2⟩ | ⟨p1, p2⟩
    · rw [p2, p1]
      rcases bg_step O h m hh with ⟨c1, c2⟩ | ⟨c1, c2⟩
      · rw [c2, c1]
        exact ⟨ih, by omega⟩
      · have ne := cm c1
        have mv' := mv c1
        rw [c2]
        generalize at' (paX t ds fog sl (m + 1)) h = y at *
        generalize at' (paX t ds fog sl m) h = x at *
        generalize at' (paX t ds fog sl m) (up t h) = xp at *
        generalize bg (paX t ds fog sl) (up t h) m = Rp at *
        generalize bg (paX t ds fog sl) h m = Rc at *
        have n1 : ¬ PyData.eqv x xp = true := fun z => ne ((eqv_isW w3 w4).mp z).symm
        rw [if_neg n1] at ihn
        rcases ih with ⟨e, _⟩ | ⟨_, a, b, ws, e1, e2, e3, e4, e5⟩
        · exact absurd e.symm ne
        · by_cases q : y = xp
          · subst q
            refine ⟨.inl ⟨rfl, ?_⟩, ?_⟩
            · rw [e1, e3]
              exact .snoc e2 e4 e5
            · rw [if_pos ((eqv_isW w1 w1).mpr rfl)]
              simp only [List.length_append, List.length_singleton]
              omega
          · rcases mv' with r | ⟨r1, r2, r3⟩
            · exact absurd r q
            · refine ⟨.inr ⟨q, a, b, ws ++ [y], e1, e2, by rw [e3, List.append_assoc], fun w hw => ?_, fun z => by rw [z] at r1; cases r1⟩, ?_⟩
              · rcases List.mem_append.mp hw with hw | hw
                · exact e4 w hw
                · simp only [List.mem_singleton] at hw
                  rw [hw]; exact (isSign_ok r2).2
              · have := usedS_more r3
                rw [if_neg (fun z => q ((eqv_isW w1 w4).mp z))]
                simp only [List.length_append, List.length_singleton]
                omega
    · have e := pm p1
      have c1 : at' (paX t ds fog sl (m + 1)) h = at' (paX t ds fog sl m) h := by
        refine Classical.byContradiction fun q => ?_
        exact cm q e.symm
      have c2 : bg (paX t ds fog sl) h (m + 1) = bg (paX t ds fog sl) h m := by
        rcases bg_step O h m hh with ⟨_, c2⟩ | ⟨c3, _⟩
        · exact c2
        · exact absurd c1 c3
      rw [p2, c2, c1, e]
      rw [e, if_pos ((eqv_isW w4 w4).mpr rfl)] at ihn
      rcases ih with ⟨_, ex⟩ | ⟨ne, _⟩
      · refine ⟨.inr ⟨fun z => p1 z.symm, _, _, [], rfl, ex, by simp, by simp, fun _ => rfl⟩, ?_⟩
        rw [if_neg (fun z => p1 ((eqv_isW w4 w2).mp z).symm)]
        simp only [List.length_append, List.length_singleton]
        omega
      · exact absurd e ne
/-- hill 0 shows the items -/
theorem bg_top : ∀ m, ∃ j, j ≤ 2 * ds.length ∧ at' (paX t ds fog sl m) 0 = item ds j ∧ paY t ds fog sl m = (withRests ds).drop j ∧ bg (paX t ds fog sl) 0 m = (withRests ds).take j
  | 0 => ⟨0, Nat.zero_le _, rfl, rfl, rfl⟩
  | m + 1 => by
    obtain ⟨j, h1, h2, h3, h4⟩ := bg_top m
    have e1 : at' (paX t ds fog sl (m + 1)) 0 = stepX t (paX t ds fog sl m) (paY t ds fog sl m) (usA fog m) := by
      show at' (stepL t _ _ _ _ t.length) 0 = _
      rw [stepL_at (Nat.zero_le _), if_pos rfl]
      rfl
    have e2 : paY t ds fog sl (m + 1) = stpI t (paX t ds fog sl m) (paY t ds fog sl m) (usA fog m) := rfl
    unfold stepX at e1
    unfold stpI at e2
    by_cases g : goes t (paX t ds fog sl m) (paY t ds fog sl m) (usA fog m) = true
    · rw [if_pos g] at e1 e2
      have hj : j < 2 * ds.length := by
        refine Classical.byContradiction fun q => ?_
        have : paY t ds fog sl m = [] := by rw [h3, List.drop_eq_nil_iff, withRests_length]; omega
        unfold goes at g
        rw [this] at g
        cases g
      rw [h3, rests_drop hj] at e1
      have e1 : at' (paX t ds fog sl (m + 1)) 0 = item ds (j + 1) := e1
      refine ⟨j + 1, hj, e1, by rw [e2, h3, List.tail_drop], ?_⟩
      have n := (item_next O.hs hj).1
      simp only [bg]
      rw [e1, h2, if_neg (by rw [n]; decide), h4, List.take_add_one, rests_item ds j hj]
      rfl
    · rw [if_neg g] at e1 e2
      refine ⟨j, h1, by rw [e1, h2], by rw [e2, h3], ?_⟩
      simp only [bg]
      rw [e1, if_pos ((okDep.w (pa_w O (Nat.zero_le _) m)).self), List.append_nil, h4]
theorem bg_top_end : bg (paX t ds fog sl) 0 (paD t ds fog sl) = withRests ds := by
  obtain ⟨j, h1, h2, h3, h4⟩ := bg_top O (paD t ds fog sl)
  have e := (paX_end O).1
  rw [h3, List.drop_eq_nil_iff] at e
  rw [h4, List.take_of_length_le e]
theorem pa_rest {h : Nat} (hh : h ≤ t.length) : at' (paX t ds fog sl (paD t ds fog sl)) h = RS' := by
  have e := (paX_end O).2
  refine Classical.byContradiction fun q => ?_
  have l := (O.wds (paD t ds fog sl)).len
  have n : PyData.eqv ((paX t ds fog sl (paD t ds fog sl)).getD h .none) ((List.replicate (t.length + 1) RS').getD h .none) = false := by
    have e2 : (List.replicate (t.length + 1) RS').getD h .none = RS' := by
      rw [List.getD_eq_getElem?_getD, List.getElem?_replicate, if_pos (by omega)]
      rfl
    rw [e2]
    cases r : PyData.eqv ((paX t ds fog sl (paD t ds fog sl)).getD h .none) RS' with
    | false => rfl
    | true => exact absurd ((eqv_RS (pa_w O hh _)).mp r) q
  have := eqvAll_ne (i := h) (by omega) (by simp [l]) n
  have e : PyData.eqvAll (paX t ds fog sl (paD t ds fog sl)) (List.replicate (t.length + 1) RS') = true := e
  rw [this] at e
  cases e
/-- each hill counts just the row -/
theorem bg_counted : ∀ k h, h ≤ t.length → rk t h = k → countedL (bg (paX t ds fog sl) h (paD t ds fog sl)) = ds
  | 0, h, hh, e => by
    rw [rk_nil O.T hh e, bg_top_end O]
    exact counted_rests' O.hs
  | k + 1, h, hh, e => by
    have h0 : h ≠ 0 := by rintro rfl; rw [rk_zero] at e; omega
    have r := rk_up O.T h0 hh
    have ih := bg_counted k (up t h) (up_le O.T hh) (by omega)
    obtain ⟨s, _⟩ := pa_syn O h0 hh (paD t ds fog sl)
    rw [pa_rest O hh, pa_rest O (up_le O.T hh)] at s
    rcases s with ⟨_, ex⟩ | ⟨ne, _⟩
    · rw [ex.counted, ih]
    · exact absurd rfl ne
theorem way_succ {h : Nat} (h0 : h ≠ 0) (hh : h ≤ t.length) : HT0.way t (rk t h) h = h :: HT0.way t (rk t (up t h)) (up t h) := by
  rw [rk_up O.T h0 hh]
  simp only [HT0.way]
  rw [if_neg h0]
theorem bg_len : ∀ k h, h ≤ t.length → rk t h = k → (bg (paX t ds fog sl) h (paD t ds fog sl)).length ≤ 2 * ds.length + (sl.filter fun s => (HT0.way t (rk t h) h).any fun x => decide (x = s.2.1)).length
  | 0, h, hh, e => by
    rw [rk_nil O.T hh e, bg_top_end O, withRests_length]
    omega
  | k + 1, h, hh, e => by
    have h0 : h ≠ 0 := by rintro rfl; rw [rk_zero] at e; omega
    have r := rk_up O.T h0 hh
    have hu := up_le O.T hh
    have ih := bg_len k (up t h) hu (by omega)
    obtain ⟨_, s⟩ := pa_syn O h0 hh (paD t ds fog sl)
    rw [pa_rest O hh, pa_rest O hu, if_pos rs_self1] at s
    have nin : ∀ x ∈ HT0.way t (rk t (up t h)) (up t h), x ≠ h := fun x hx z => by
      have := (way_mem O.T hu hx).2
      rw [z] at this
      omega
    rw [way_succ O h0 hh]
    have key : ∀ l : List (Nat × Nat × PD), (l.filter fun s => decide (s.2.1 = h ∧ s.1 ≤ paD t ds fog sl)).length + (l.filter fun s => (HT0.way t (rk t (up t h)) (up t h)).any fun x => decide (x = s.2.1)).length ≤ (l.filter fun s => (h :: HT0.way t (rk t (up t h)) (up t h)).any fun x => decide (x = s.2.1)).length := by
      intro l
      induction l with
      | nil => exact Nat.le_refl _
      | cons s r ih =>
        simp only [List.any_cons] at ih
        simp only [List.filter_cons, List.any_cons, decide_eq_true_eq, Bool.or_eq_true]
        by_cases q1 : ((HT0.way t (rk t (up t h)) (up t h)).any fun x => decide (x = s.2.1)) = true
        · have q2 : ¬ (s.2.1 = h ∧ s.1 ≤ paD t ds fog sl) := fun z => by
            obtain ⟨x, hx, ex⟩ := List.any_eq_true.mp q1
            simp only [decide_eq_true_eq] at ex
            exact nin x hx (by rw [ex, z.1])
          rw [if_neg q2, if_pos q1, if_pos (.inr q1)]
          simp only [List.length_cons]
          omega
        · rw [if_neg q1]
          by_cases q2 : s.2.1 = h ∧ s.1 ≤ paD t ds fog sl
          · rw [if_pos q2, if_pos (.inl q2.1.symm)]
            simp only [List.length_cons]
            omega
          · rw [if_neg q2]
            split
            · simp only [List.length_cons]; omega
            · exact ih
    have := key sl
    unfold usedS at s
    omega
/-- somebody begins to rest when all is over -/
theorem pa_lastM (h0 : 0 < paD t ds fog sl) : ∃ h, h ≤ t.length ∧ PyData.eqv (at' (paX t ds fog sl (paD t ds fog sl)) h) (at' (paX t ds fog sl (paD t ds fog sl - 1)) h) = false := by
  have hb := (paD_le O).2.2 (paD t ds fog sl - 1) (by omega)
  obtain ⟨e1, -⟩ := paX_end O
  have e1' := e1
  generalize hD : paD t ds fog sl = D at *
  obtain ⟨m, rfl⟩ : ∃ m, D = m + 1 := ⟨D - 1, by omega⟩
  rw [Nat.add_sub_cancel] at hb ⊢
  refine Classical.byContradiction fun no => ?_
  have same : ∀ h, h ≤ t.length → at' (paX t ds fog sl (m + 1)) h = at' (paX t ds fog sl m) h := fun h hh => by
    refine Classical.byContradiction fun q => no ⟨h, hh, ?_⟩
    cases r : PyData.eqv (at' (paX t ds fog sl (m + 1)) h) (at' (paX t ds fog sl m) h) with
    | false => rfl
    | true => exact absurd ((eqv_isW (pa_w O hh _) (pa_w O hh _)).mp r) q
  have ends : ∀ h, h ≤ t.length → at' (paX t ds fog sl m) h = RS' := fun h hh => by
    rw [← same h hh, ← hD]
    exact pa_rest O hh
  have hx : paX t ds fog sl m = List.replicate (t.length + 1) RS' := by
    apply List.ext_getElem
    · rw [(O.wds m).len]; simp
    · intro i h1 h2
      rw [List.getElem_replicate, get_at h1]
      exact ends i (by have := (O.wds m).len; omega)
  have hy : paY t ds fog sl m ≠ [] := fun z => by
    unfold paB busy at hb
    have z' : (passS t ds (usA fog) (kvA sl) m).2 = [] := z
    have x' : (passS t ds (usA fog) (kvA sl) m).1 = List.replicate (t.length + 1) RS' := hx
    rw [z', x'] at hb
    have : PyData.eqv (.list (List.replicate (t.length + 1) RS')) (restL (t.length + 1)) = true := eqv_restL _
    rw [this] at hb
    cases hb
  -- then hill 0 moves
  obtain ⟨j, j1, j2, j3, _⟩ := bg_top O m
  obtain ⟨j', k1, k2, k3, _⟩ := bg_top O (m + 1)
  have e2 : paY t ds fog sl (m + 1) = stpI t (paX t ds fog sl m) (paY t ds fog sl m) (usA fog m) := rfl
  unfold stpI at e2
  by_cases g : goes t (paX t ds fog sl m) (paY t ds fog sl m) (usA fog m) = true
  · have mv := gnx_moved (t := t) O.hs (us := usA fog) (kv := kvA sl) (m := m) (O.wds m)
    have mv : (!PyData.eqv (stepX t (paX t ds fog sl m) (paY t ds fog sl m) (usA fog m)) (at' (paX t ds fog sl m) 0)) = goes t (paX t ds fog sl m) (paY t ds fog sl m) (usA fog m) := mv
    have e3 : at' (paX t ds fog sl (m + 1)) 0 = stepX t (paX t ds fog sl m) (paY t ds fog sl m) (usA fog m) := by
      show at' (stepL t _ _ _ _ t.length) 0 = _
      rw [stepL_at (Nat.zero_le _), if_pos rfl]
      rfl
    rw [g, ← e3, same 0 (Nat.zero_le _), (okDep.w (pa_w O (Nat.zero_le _) m)).self] at mv
    cases mv
  · rw [if_neg g] at e2
    rw [e2] at e1
    exact hy e1
/-- signs and rests alone are shown -/
theorem pa_SR : ∀ m h, h ≤ t.length → isSign (at' (paX t ds fog sl m) h) = true ∨ at' (paX t ds fog sl m) h = RS'
  | 0, h, hh => .inr (pa_rs O h hh)
  | m + 1, h, hh => by
    by_cases h0 : h = 0
    · subst h0
      obtain ⟨j, h1, h2, _⟩ := bg_top O (m + 1)
      rw [h2]
      unfold item
      split
      · exact .inr rfl
      · by_cases q : j / 2 < ds.length
        · left
          rw [List.getD_eq_getElem?_getD, List.getElem?_eq_getElem q]
          exact O.hs _ (List.getElem_mem q)
        · right
          rw [List.getD_eq_getElem?_getD, List.getElem?_eq_none (by omega)]
          rfl
    · by_cases q : at' (paX t ds fog sl (m + 1)) h = at' (paX t ds fog sl m) h
      · rw [q]; exact pa_SR m h hh
      · rcases pa_move O h0 hh q with e | ⟨_, e, _⟩
        · rw [e]; exact pa_SR m _ (up_le O.T hh)
        · exact .inl e
theorem bg_SR {h : Nat} (hh : h ≤ t.length) : ∀ m, ∀ d ∈ bg (paX t ds fog sl) h m, isSign d = true ∨ d = RS'
  | 0, d, hd => by cases hd
  | m + 1, d, hd => by
    simp only [bg] at hd
    rcases List.mem_append.mp hd with hd | hd
    · exact bg_SR hh m d hd
    · split at hd
      · cases hd
      · simp only [List.mem_singleton] at hd
        rw [hd]; exact pa_SR O (m + 1) h hh
end
theorem SR_w {d : PD} (h : isSign d = true ∨ d = RS') : isW d := by
  rcases h with h | rfl
  · exact isW_sign h
  · trivial
theorem bg_length (f : Nat → List PD) (h : Nat) : ∀ D, (bg f h D).length ≤ D
  | 0 => Nat.le_refl _
  | D + 1 => by
    have := bg_length f h D
    simp only [bg, List.length_append]
    split <;> simp <;> omega
theorem regF_pairs (f : Nat → List PD) (h D : Nat) : regF f h D = ((bgM f h D).zip (bg f h D)).map fun p => .tuple [nI p.1, p.2] := by
  rw [regF_zip, List.zip, List.map_zipWith]
theorem bg_zip (f : Nat → List PD) (h D : Nat) : ((bgM f h D).zip (bg f h D)).map (·.2) = bg f h D := by
  have := List.map_snd_zip (l₁ := bgM f h D) (l₂ := bg f h D) (by rw [bgM_length]; exact Nat.le_refl _)
  exact this
theorem countedZ : ∀ S : List PD, ((List.zipWith Im.two S (S.drop 1)).filter fun m => !PyData.eqv m.d RS' && PyData.eqv m.d2 RS').map Im.d = countedL S
  | [] => rfl
  | [_] => rfl
  | a :: b :: r => by
    have ih := countedZ (b :: r)
    simp only [List.drop_succ_cons, List.drop_zero, List.zipWith_cons_cons] at ih ⊢
    show _ = if (!PyData.eqv a RS' && PyData.eqv b RS') = true then a :: countedL (b :: r) else countedL (b :: r)
    by_cases q : (!PyData.eqv a RS' && PyData.eqv b RS') = true
    · rw [if_pos q, List.filter_cons_of_pos (by exact q), List.map_cons, ih]; rfl
    · rw [if_neg q, List.filter_cons_of_neg (by exact q), ih]
/-- the last moment of a register -/
theorem regF_last {f : Nat → List PD} {h D : Nat} (ne : bg f h D ≠ []) : ∃ m d, m ∈ bgM f h D ∧ (bgM f h D).getLastD 0 = m ∧ atI (regF f h D) (-1) = some (.tuple [nI m, d]) := by
  have hl := bgM_length f h D
  rw [regF_zip]
  rcases List.eq_nil_or_concat (bg f h D) with e | ⟨bs, b, e⟩
  · exact absurd e ne
  · rcases List.eq_nil_or_concat (bgM f h D) with e2 | ⟨ms, m, e2⟩
    · rw [e, e2] at hl
      simp at hl
    · rw [e, e2] at hl ⊢
      simp only [List.concat_eq_append, List.length_append, List.length_singleton] at hl ⊢
      refine ⟨m, b, by simp, by simp [List.getLastD_eq_getLast?], ?_⟩
      rw [List.zipWith_append (by omega)]
      exact atI_last _ _
theorem regF_nil (f : Nat → List PD) (h D : Nat) : (regF f h D).isEmpty = (bg f h D).isEmpty := by
  have e : (regF f h D).length = (bg f h D).length := by rw [regF_zip, List.length_zipWith, bgM_length, Nat.min_self]
  cases h1 : regF f h D <;> cases h2 : bg f h D <;> first
    | rfl
    | (rw [h1, h2] at e; simp at e)
section
variable {Γ : List Fn} {G : List PD} {fu : Nat}
/-- [show for moment, show in register] -/
theorem ev_shows {i j : Nat} {it : Hil.It} {ρ ρ1 : Env'} {f : Nat → List PD} {h D : Nat} (pre : Nat × PD → Env') (hi : eviZ Γ G it ρ = .ok ((regF f h D).map .one) ρ1) (hf : freeE ρ1 [i, j] = true) (hb : backE ρ1 (wipeE ρ1 [i, j]) [i, j] = ρ1) (hN : D ≤ 1000000)
    (H : ∀ p : Nat × PD, asgI (wipeE ρ1 [i, j]) (.t (.cons (.n i) (.cons (.n j) .nil))) (.one (.tuple [nI p.1, p.2])) = some (pre p) ∧ (∃ v, evZ Γ G (.var j) (pre p) = .ok v (pre p) ∧ give (pre p) v = some (.d p.2, pre p)) ∧ wipeE (pre p) [i, j] = wipeE ρ1 [i, j]) :
    evZ Γ G (.lc (.t (.cons (.n i) (.cons (.n j) .nil))) it (.cst (.bool true)) (.var j)) ρ = .ok (.fre (.d (.list (bg f h D)))) ρ1 := by
  rw [ev_lcB (tg := .t (.cons (.n i) (.cons (.n j) .nil))) ((bgM f h D).zip (bg f h D)) (fun p => .one (.tuple [nI p.1, p.2])) pre (fun p => p.2) (by rw [hi, regF_pairs, List.map_map]; rfl) hf hb (by
    have := bg_length f h D
    rw [List.length_zip, bgM_length]
    omega) fun p _ => H p, bg_zip]
theorem ev_orF {a b : E} {ρ ρ1 ρ2 : Env'} {q : Bool} (h1 : evZ Γ G a ρ = .ok (.val (.d (.bool false))) ρ1) (h2 : evZ Γ G b ρ1 = .ok (.val (.d (.bool q))) ρ2) : evZ Γ G (.bop false (.cons a (.cons b .nil))) ρ = .ok (.val (.d (.bool q))) ρ2 := by
  rw [ev_bop, evb_cons, h1, bind_ok]
  show evbZ Γ G false _ _ = _
  rw [evb_one, h2]
theorem evi_rgI {a : E} {ρ ρ1 : Env'} {v : Vl} {n : Int} (h : evZ Γ G a ρ = .ok v ρ1) (hv : rd ρ1 v = some (.d (.int n))) (hn : n ≤ 1000000) (hn2 : -1000000 ≤ n) : eviZ Γ G (.r1 a) ρ = .ok (rgL 0 n.toNat) ρ1 := by
  rw [evi_r1, h, bind_ok, hv]
  dsimp only
  rw [if_pos ⟨hn, hn2⟩, ← rangeI_rgL]
  rfl
end
theorem gMax_nat {l : List Nat} {m : Nat} (hm : m ∈ l) (hl : ∀ x ∈ l, x ≤ m) : op1 .max (.d (.list (l.map nI))) = some (.d (nI m), false) := by
  have e : intsOf (l.map nI) = some (l.map fun x : Nat => (x : Int)) := by
    have := intsOf_map (l.map fun x : Nat => (x : Int))
    rw [List.map_map] at this
    exact this
  have hx := maxI_nat l m hm hl
  have e0 : op1 .max = Hil.gMax := rfl
  rw [e0]
  unfold Hil.gMax
  simp only [e]
  cases l with
  | nil => cases hm
  | cons a r =>
    simp only [List.map_cons] at hx ⊢
    rw [hx]
end Hil
/-! JoinM: one row behind the other. -/
namespace Hil
open PySem L2 HT0
def thL (ds : List PD) (r n : Nat) : List (Nat × PD) := (List.range n).flatMap fun k => [(4 * k + 1 + r, ds.getD k RS'), (4 * k + 3 + r, RS')]
theorem thereL_pairs (ds : List PD) (r n : Nat) : thereL ds r n = (thL ds r n).map fun p => .tuple [nI p.1, p.2] := by
  unfold thereL thL
  rw [List.map_flatMap]
  rfl
theorem thL_length (ds : List PD) (r : Nat) : ∀ n, (thL ds r n).length = 2 * n
  | 0 => rfl
  | n + 1 => by
    have := thL_length ds r n
    unfold thL at this ⊢
    rw [List.range_succ, List.flatMap_append, List.length_append, this]
    simp
    omega
theorem getD_right (a b : List PD) (n : Nat) (d : PD) : (a ++ b).getD (a.length + n) d = b.getD n d := by
  rw [List.getD_eq_getElem?_getD, List.getD_eq_getElem?_getD, List.getElem?_append_right (by omega), Nat.add_sub_cancel_left]
theorem thereL_join (a b : List PD) (r : Nat) : ∀ n, n ≤ b.length → thereL (a ++ b) r (a.length + n) = thereL a r a.length ++ (thL b r n).map fun p => .tuple [nI (p.1 + 4 * a.length), p.2]
  | 0, _ => by
    have e : (thL b r 0).map (fun p : Nat × PD => PyData.tuple [nI (p.1 + 4 * a.length), p.2]) = [] := rfl
    rw [e, List.append_nil, Nat.add_zero]
    unfold thereL
    rw [List.flatMap_def, List.flatMap_def]
    congr 1
    refine List.map_congr_left fun k hk => ?_
    have := List.mem_range.mp hk
    rw [List.getD_eq_getElem?_getD, List.getElem?_append_left this, ← List.getD_eq_getElem?_getD]
  | n + 1, h => by
    have ih := thereL_join a b r n (by omega)
    have e : thL b r (n + 1) = thL b r n ++ [(4 * n + 1 + r, b.getD n RS'), (4 * n + 3 + r, RS')] := by
      unfold thL
      rw [List.range_succ, List.flatMap_append]
      simp
    rw [← Nat.add_assoc, thereL_succ, ih, e, List.map_append, List.append_assoc, getD_right]
    congr 2
    simp only [List.map_cons, List.map_nil]
    have e1 : 4 * (a.length + n) + 1 + r = 4 * n + 1 + r + 4 * a.length := by omega
    have e2 : 4 * (a.length + n) + 3 + r = 4 * n + 3 + r + 4 * a.length := by omega
    rw [e1, e2]
theorem cutD_take (ds : List PD) (n : Nat) : cutD ds none (some (n : Int)) = ds.take n := by
  unfold cutD HT.sIx
  simp only
  rw [if_neg (by omega)]
  rcases Nat.le_total n ds.length with q | q
  · simp [Nat.min_eq_left q]
  · simp [Nat.min_eq_right q, List.take_of_length_le q]
theorem regF_pre (f : Nat → List PD) (h m : Nat) : ∀ D, m ≤ D → ∃ l, regF f h D = regF f h m ++ l
  | 0, hD => ⟨[], by rw [Nat.le_zero.mp hD]; simp⟩
  | D + 1, hD => by
    rcases Nat.lt_or_ge m (D + 1) with q | q
    · obtain ⟨l, e⟩ := regF_pre f h m D (by omega)
      rw [regF_succ, e, List.append_assoc]
      exact ⟨_, rfl⟩
    · have : m = D + 1 := by omega
      subst this
      exact ⟨[], by simp⟩
theorem regF_congr {f g : Nat → List PD} {h m : Nat} (e : ∀ k, k ≤ m → f k = g k) : regF f h m = regF g h m := by
  unfold regF
  have : (List.range m).filter (fun k => !PyData.eqv (at' (f (k + 1)) h) (at' (f k) h)) = (List.range m).filter (fun k => !PyData.eqv (at' (g (k + 1)) h) (at' (g k) h)) := by
    refine List.filter_congr fun k hk => ?_
    have := List.mem_range.mp hk
    rw [e k (by omega), e (k + 1) (by omega)]
  rw [this]
  refine List.map_congr_left fun k hk => ?_
  have := List.mem_range.mp (List.mem_filter.mp hk).1
  rw [e (k + 1) (by omega)]
theorem withRests_append (a b : List PD) : withRests (a ++ b) = withRests a ++ withRests b := by
  simp [withRests]
section
variable {t : List Nat} {a b : List PD} {fog : List (Nat × Nat)} {sl : List (Nat × Nat × PD)}
theorem pa_join : ∀ m, (∀ k, k < m → paY t a fog sl k ≠ []) → paX t (a ++ b) fog sl m = paX t a fog sl m ∧ paY t (a ++ b) fog sl m = paY t a fog sl m ++ withRests b
  | 0, _ => ⟨rfl, withRests_append a b⟩
  | m + 1, hk => by
    obtain ⟨e1, e2⟩ := pa_join m fun k q => hk k (by omega)
    have n := hk m (by omega)
    have x1 : ∀ ds : List PD, paX t ds fog sl (m + 1) = stepL t (paX t ds fog sl m) (paY t ds fog sl m) (usA fog m) (kvA sl m) t.length := fun _ => rfl
    have y1 : ∀ ds : List PD, paY t ds fog sl (m + 1) = stpI t (paX t ds fog sl m) (paY t ds fog sl m) (usA fog m) := fun _ => rfl
    rw [x1, y1, x1, y1, e1, e2]
    cases hY : paY t a fog sl m with
    | nil => exact absurd hY n
    | cons d r =>
      have g : goes t (paX t a fog sl m) (d :: r ++ withRests b) (usA fog m) = goes t (paX t a fog sl m) (d :: r) (usA fog m) := rfl
      constructor
      · unfold stepL stepX
        rw [g]
        rfl
      · unfold stpI
        rw [g]
        split <;> rfl
theorem join_top (O : PaOk t (a ++ b) fog sl) (O1 : PaOk t a fog sl) : (regF (paX t (a ++ b) fog sl) 0 (paD t (a ++ b) fog sl)).take (2 * a.length) = regF (paX t a fog sl) 0 (paD t a fog sl) := by
  obtain ⟨m, hm1, hm2, hm3⟩ := least (p := fun k => !(paY t a fog sl k).isEmpty) (n := paD t a fog sl) ⟨paD t a fog sl, Nat.le_refl _, by rw [(paX_end O1).1]; rfl⟩
  have hm2 : paY t a fog sl m = [] := by
    cases h : paY t a fog sl m with
    | nil => rfl
    | cons d r => simp only [h] at hm2; cases hm2
  have hm3 : ∀ k, k < m → paY t a fog sl k ≠ [] := fun k hk e => by
    have := hm3 k hk
    simp only [e] at this
    cases this
  have same : ∀ k, k ≤ m → paX t (a ++ b) fog sl k = paX t a fog sl k := fun k hk => (pa_join k fun j hj => hm3 j (by omega)).1
  have hD : m ≤ paD t (a ++ b) fog sl := by
    refine Classical.byContradiction fun q => ?_
    have e := (pa_join (b := b) (paD t (a ++ b) fog sl) fun j hj => hm3 j (by omega)).2
    rw [(paX_end O).1] at e
    exact hm3 _ (by omega) (List.append_eq_nil_iff.mp e.symm).1
  have len : ∀ D, (regF (paX t a fog sl) 0 D).length = (bg (paX t a fog sl) 0 D).length := fun D => by rw [regF_zip, List.length_zipWith, bgM_length, Nat.min_self]
  have lm : (regF (paX t a fog sl) 0 m).length = 2 * a.length := by
    obtain ⟨j, h1, h2, h3, h4⟩ := bg_top O1 m
    rw [hm2] at h3
    rw [len, h4, List.take_of_length_le (List.drop_eq_nil_iff.mp h3.symm), withRests_length]
  obtain ⟨l, e⟩ := regF_pre (paX t (a ++ b) fog sl) 0 m _ hD
  obtain ⟨l', e'⟩ := regF_pre (paX t a fog sl) 0 m _ hm1
  have l0 : l' = [] := by
    have := congrArg List.length e'
    rw [len, bg_top_end O1, withRests_length, List.length_append, lm] at this
    exact List.eq_nil_of_length_eq_zero (by omega)
  rw [e, regF_congr same, e', l0, List.append_nil, List.take_append_of_le_length (by omega), List.take_of_length_le (by omega)]
theorem due_join (t : List Nat) {x y : Nat} (h : y ≠ 0) : due t (x + y) = 4 * x + due t y := by
  unfold due
  rw [if_neg (by omega), if_neg h]
  omega
end
end Hil
/-! IdleM: fog with one pair less; hills that are held. -/
namespace Hil
open PySem L2 HT0
theorem cutD_drop (ds : List PD) (n : Nat) : cutD ds (some (n : Int)) none = ds.drop n := by
  unfold cutD HT.sIx
  simp only
  rw [if_neg (by omega)]
  rcases Nat.le_total n ds.length with q | q
  · simp [Nat.min_eq_left q, List.take_of_length_le]
  · simp [Nat.min_eq_right q, List.drop_of_length_le q]
theorem isSs_tups (L : List (Nat × Nat)) : isSs (L.map fun p => PyData.tuple [nI p.1, nI p.2]) = false := by
  cases L with
  | nil => rfl
  | cons a r => simp [isSs, isStr]
/-- without the k-th -/
def rmN {α : Type} (L : List α) (k : Nat) : List α := L.take k ++ L.drop (k + 1)
theorem rmN_map {α β : Type} (f : α → β) (L : List α) (k : Nat) : rmN (L.map f) k = (rmN L k).map f := by
  unfold rmN
  rw [List.map_append, List.map_take, List.map_drop]
theorem rmN_sub {α : Type} (L : List α) (k : Nat) : (rmN L k).Sublist L := by
  unfold rmN
  have h : (L.take k ++ L.drop (k + 1)).Sublist (L.take k ++ L.drop k) := List.Sublist.append_left (by
    rw [← List.drop_drop]
    exact List.drop_sublist 1 _) _
  rwa [List.take_append_drop] at h
theorem rmN_mem {α : Type} {L : List α} {k : Nat} {x : α} (h : x ∈ rmN L k) : x ∈ L := (rmN_sub L k).subset h
theorem rmN_fog {raws : List (Nat × Nat)} {n k : Nat} (h : ∀ p ∈ raws, p.1 < 64 ∧ p.2 < 64) (hl : raws.length ≤ 12) (hb : ∀ p ∈ raws, 1 ≤ p.2 ∧ p.2 ≤ n) : isFog n (fogP (rmN (fogD raws) k)) = true := by
  have hlen : (rmN (fogD raws) k).length ≤ 12 := by
    have h1 := (rmN_sub (fogD raws) k).length_le
    have h2 : (fogD raws).length ≤ 12 := by
      unfold fogD
      rw [List.length_map]
      have := sortU_length (raws.map codeN)
      rw [List.length_map] at this
      omega
    omega
  have hmem : ∀ p ∈ rmN (fogD raws) k, p ∈ raws := fun p hp => (fogD_mem h).mp (rmN_mem hp)
  unfold isFog fogP
  simp only [Bool.and_eq_true, decide_eq_true_eq, List.length_map]
  refine ⟨hlen, ?_, ?_⟩
  · rw [List.all_eq_true]
    intro d hd
    simp only [List.mem_map] at hd
    obtain ⟨p, hp, rfl⟩ := hd
    have a := h p (hmem p hp)
    have b := hb p (hmem p hp)
    simp [isPair, isWhole]
    omega
  · unfold fogD
    rw [rmN_map]
    refine zip_pairs h ((sortU_sorted _).sublist (rmN_sub _ k)) fun c hc => ?_
    have := rmN_mem hc
    rw [sortU_mem, List.mem_map] at this
    obtain ⟨q, hq, rfl⟩ := this
    unfold codeN
    omega
theorem tup_ok (p : Nat × Nat) : okDep 1 (.tuple [nI p.1, nI p.2]) := okDep.tuple (n := 0) fun d hd => by
  simp only [List.mem_cons, List.not_mem_nil, or_false] at hd
  rcases hd with rfl | rfl <;> exact okDep.int _ _
section
variable {t : List Nat} {ds : List PD} {fog : List (Nat × Nat)} {sl : List (Nat × Nat × PD)} (O : PaOk t ds fog sl)
include O
theorem rowsF_ok (D : Nat) : okDep 2 (.list (rowsF (paX t ds fog sl) D)) := okDep.list fun d hd => by
  unfold rowsF at hd
  obtain ⟨k, -, rfl⟩ := List.mem_map.mp hd
  exact paX_ok O k
end
/-- the moments of all with and without the k-th of the fog are alike -/
noncomputable def idleC (t : List Nat) (ds : List PD) (fog : List (Nat × Nat)) (sl : List (Nat × Nat × PD)) (k : Nat) : Bool :=
  PyData.eqv (.list (rowsF (paX t ds (rmN fog k) sl) (paD t ds (rmN fog k) sl))) (.list (rowsF (paX t ds fog sl) (paD t ds fog sl)))
noncomputable def idleL (t : List Nat) (ds : List PD) (fog : List (Nat × Nat)) (sl : List (Nat × Nat × PD)) (n : Nat) : List PD :=
  ((List.range n).filter (idleC t ds fog sl)).map fun k => .tuple [nI (fog.getD k (0, 0)).1, nI (fog.getD k (0, 0)).2]
theorem idleL_succ (t : List Nat) (ds : List PD) (fog : List (Nat × Nat)) (sl : List (Nat × Nat × PD)) (n : Nat) : idleL t ds fog sl (n + 1) = idleL t ds fog sl n ++ (if idleC t ds fog sl n = true then [.tuple [nI (fog.getD n (0, 0)).1, nI (fog.getD n (0, 0)).2]] else []) := by
  unfold idleL
  rw [List.range_succ, List.filter_append, List.map_append]
  congr 1
  by_cases q : idleC t ds fog sl n = true
  · rw [if_pos q, List.filter_cons_of_pos q]
    rfl
  · rw [if_neg q, List.filter_cons_of_neg q]
    rfl
theorem idleL_ok (t : List Nat) (ds : List PD) (fog : List (Nat × Nat)) (sl : List (Nat × Nat × PD)) (n : Nat) : okDep 2 (.list (idleL t ds fog sl n)) := okDep.list fun d hd => by
  unfold idleL at hd
  obtain ⟨k, -, rfl⟩ := List.mem_map.mp hd
  exact tup_ok _
theorem idleL_length (t : List Nat) (ds : List PD) (fog : List (Nat × Nat)) (sl : List (Nat × Nat × PD)) (n : Nat) : (idleL t ds fog sl n).length ≤ n := by
  unfold idleL
  have := List.length_filter_le (idleC t ds fog sl) (List.range n)
  rw [List.length_range] at this
  rw [List.length_map]
  exact this
theorem fog_at {fog : List (Nat × Nat)} {k : Nat} (h : k < fog.length) : atI (fog.map fun p => PyData.tuple [nI p.1, nI p.2]) (k : Int) = some (.tuple [nI (fog.getD k (0, 0)).1, nI (fog.getD k (0, 0)).2]) := by
  rw [atI_of _ k (by rw [List.length_map]; exact h)]
  simp [List.getD_eq_getElem?_getD, h]
theorem fogP_rm (fog : List (Nat × Nat)) (k : Nat) : fogP (rmN fog k) = .tuple ((fog.map fun p => PyData.tuple [nI p.1, nI p.2]).take k ++ (fog.map fun p => PyData.tuple [nI p.1, nI p.2]).drop (k + 1)) := by
  unfold fogP
  rw [← rmN_map]
  rfl
/-! ### held -/
theorem wr_nil (h : Nat) (v old : PD) : wrS [] h v old = v := by
  unfold wrS
  simp
section
variable {t : List Nat} {ds : List PD} {fog : List (Nat × Nat)} (O : PaOk t ds fog [])
include O
theorem kv_nil (m : Nat) : kvA [] m = [] := rfl
theorem rep_mono {xs : List PD} {us : List Nat} {h : Nat} (q : repd t xs us h = true) : repd t xs [] h = true := by
  unfold repd at q ⊢
  rw [List.all_eq_true] at q ⊢
  intro o ho
  have := q o ho
  simp only [Bool.and_eq_true] at this ⊢
  exact ⟨rfl, this.2⟩
/-- what would be shown without fog -/
def dueF (t : List Nat) (ds : List PD) (fog : List (Nat × Nat)) (m : Nat) : List PD := stepL t (paX t ds fog [] m) (paY t ds fog [] m) [] [] t.length
theorem dueF_gnx {m h : Nat} (hh : h ≤ t.length) : at' (dueF t ds fog m) h = gnx t (paX t ds fog [] m) ((paY t ds fog [] m).headD .none) [] h := by
  have W := O.wds m
  unfold dueF
  rw [stepL_at hh]
  by_cases h0 : h = 0
  · subst h0
    rw [if_pos rfl]
    unfold gnx gGoN gGo0 gWish stepX goes repd
    rw [if_pos rfl]
    cases e : paY t ds fog [] m with
    | nil => simp
    | cons d r =>
      have q2 := pass_head (us := usA fog) (kv := kvA []) (m := m) O.hs e
      have q2 : PyData.eqv d (at' (paX t ds fog [] m) 0) = false := q2
      have q3 : PyData.eqv d .none = false := isW_none (W.iw d (by rw [e]; exact List.mem_cons_self))
      simp [q2, q3]
  · rw [if_neg h0, wr_nil, gnx_next O.T W h0 hh]
theorem dueF_gNx (m : Nat) : gNx t (paX t ds fog [] m) ((paY t ds fog [] m).headD .none) [] = dueF t ds fog m := by
  apply List.ext_getElem
  · rw [gNx_length]
    unfold dueF
    rw [stepL_length]
  · intro h h1 h2
    have hh : h ≤ t.length := by rw [gNx_length] at h1; omega
    rw [get_at h1, get_at h2, gNx_at hh, dueF_gnx O hh]
theorem pa_next (m h : Nat) (hh : h ≤ t.length) : at' (paX t ds fog [] (m + 1)) h = at' (paX t ds fog [] m) h ∨ at' (paX t ds fog [] (m + 1)) h = at' (dueF t ds fog m) h := by
  have e : paX t ds fog [] (m + 1) = stepL t (paX t ds fog [] m) (paY t ds fog [] m) (usA fog m) [] t.length := rfl
  rw [e]
  unfold dueF
  rw [stepL_at hh, stepL_at hh]
  by_cases h0 : h = 0
  · subst h0
    rw [if_pos rfl, if_pos rfl]
    unfold stepX
    by_cases g : goes t (paX t ds fog [] m) (paY t ds fog [] m) (usA fog m) = true
    · right
      rw [if_pos g, if_pos]
      unfold goes at g ⊢
      simp only [Bool.and_eq_true] at g ⊢
      exact ⟨g.1, rep_mono O g.2⟩
    · left
      rw [if_neg g]
  · rw [if_neg h0, if_neg h0, wr_nil, wr_nil]
    unfold nextS
    by_cases q1 : ((usA fog m).any fun x => decide (x = h)) = true
    · left; rw [if_pos q1]
    · by_cases q2 : PyData.eqv (at' (paX t ds fog [] m) (up t h)) (at' (paX t ds fog [] m) h) = true
      · left; rw [if_neg q1, if_pos q2]
      · by_cases q3 : repd t (paX t ds fog [] m) (usA fog m) h = true
        · right
          rw [if_neg q1, if_neg q2, if_pos q3, if_neg (by simp), if_neg q2, if_pos (rep_mono O q3)]
        · left; rw [if_neg q1, if_neg q2, if_neg q3]
theorem dueF_w {m h : Nat} (hh : h ≤ t.length) : isW (at' (dueF t ds fog m) h) := by
  have W := O.wds m
  rw [dueF_gnx O hh]
  unfold gnx
  split
  · rename_i g
    unfold gWish at g ⊢
    by_cases h0 : h = 0
    · subst h0
      rw [if_pos rfl] at g ⊢
      cases e : paY t ds fog [] m with
      | nil => rw [e] at g; simp [gGoN, gGo0] at g
      | cons d r => exact W.iw d (by rw [e]; exact List.mem_cons_self)
    · rw [if_neg h0]
      exact W.at (up_le O.T hh)
  · exact W.at hh
def heldC (t : List Nat) (ds : List PD) (fog : List (Nat × Nat)) (m h : Nat) : Bool := PyData.eqv (at' (paX t ds fog [] (m + 1)) h) (at' (paX t ds fog [] m) h) && !PyData.eqv (at' (dueF t ds fog m) h) (at' (paX t ds fog [] m) h)
theorem held_iff (m h : Nat) (hh : h ≤ t.length) : (!PyData.eqv (at' (dueF t ds fog m) h) (at' (paX t ds fog [] (m + 1)) h)) = heldC t ds fog m h := by
  have w1 := pa_w O hh m
  have w2 := pa_w O hh (m + 1)
  have w3 := dueF_w O (m := m) hh
  unfold heldC
  by_cases e : at' (paX t ds fog [] (m + 1)) h = at' (paX t ds fog [] m) h
  · rw [e, (okDep.w w1).self, Bool.true_and]
  · rcases pa_next O m h hh with a | a
    · exact absurd a e
    · have : PyData.eqv (at' (paX t ds fog [] (m + 1)) h) (at' (paX t ds fog [] m) h) = false := by
        cases q : PyData.eqv (at' (paX t ds fog [] (m + 1)) h) (at' (paX t ds fog [] m) h) with
        | false => rfl
        | true => exact absurd ((eqv_isW w2 w1).mp q) e
      rw [this, Bool.false_and, ← a, (okDep.w w2).self]
      rfl
theorem pa_items (m : Nat) : paY t ds fog [] (m + 1) = if (!PyData.eqv (at' (paX t ds fog [] (m + 1)) 0) (at' (paX t ds fog [] m) 0)) = true then (paY t ds fog [] m).drop 1 else paY t ds fog [] m := by
  have e1 := gnx_moved (t := t) O.hs (us := usA fog) (kv := kvA []) (m := m) (O.wds m)
  have e1 : (!PyData.eqv (stepX t (paX t ds fog [] m) (paY t ds fog [] m) (usA fog m)) (at' (paX t ds fog [] m) 0)) = goes t (paX t ds fog [] m) (paY t ds fog [] m) (usA fog m) := e1
  have e2 : paY t ds fog [] (m + 1) = stpI t (paX t ds fog [] m) (paY t ds fog [] m) (usA fog m) := rfl
  have e3 : at' (paX t ds fog [] (m + 1)) 0 = stepX t (paX t ds fog [] m) (paY t ds fog [] m) (usA fog m) := by
    show at' (stepL t _ _ _ _ t.length) 0 = _
    rw [stepL_at (Nat.zero_le _), if_pos rfl]
    rfl
  rw [e3, e1, e2]
  unfold stpI
  split <;> simp
/-- what the program keeps -/
theorem pa_left (m : Nat) : paY t ds fog [] (m + 1) = if (!PyData.eqv (at' (paX t ds fog [] (m + 1)) 0) (at' (paX t ds fog [] m) 0)) = true then stpI t (paX t ds fog [] m) (paY t ds fog [] m) [] else paY t ds fog [] m := by
  have e1 := gnx_moved (t := t) O.hs (us := usA fog) (kv := kvA []) (m := m) (O.wds m)
  have e1 : (!PyData.eqv (stepX t (paX t ds fog [] m) (paY t ds fog [] m) (usA fog m)) (at' (paX t ds fog [] m) 0)) = goes t (paX t ds fog [] m) (paY t ds fog [] m) (usA fog m) := e1
  have e2 : paY t ds fog [] (m + 1) = stpI t (paX t ds fog [] m) (paY t ds fog [] m) (usA fog m) := rfl
  have e3 : at' (paX t ds fog [] (m + 1)) 0 = stepX t (paX t ds fog [] m) (paY t ds fog [] m) (usA fog m) := by
    show at' (stepL t _ _ _ _ t.length) 0 = _
    rw [stepL_at (Nat.zero_le _), if_pos rfl]
    rfl
  rw [e3, e1, e2]
  unfold stpI
  by_cases g : goes t (paX t ds fog [] m) (paY t ds fog [] m) (usA fog m) = true
  · rw [if_pos g, if_pos g, if_pos]
    unfold goes at g ⊢
    simp only [Bool.and_eq_true] at g ⊢
    exact ⟨g.1, rep_mono O g.2⟩
  · rw [if_neg g, if_neg g]
end
def heldH (t : List Nat) (ds : List PD) (fog : List (Nat × Nat)) (m i : Nat) : List PD := ((List.range i).filter (heldC t ds fog m)).map fun h => .tuple [nI m, nI h]
theorem heldH_succ (t : List Nat) (ds : List PD) (fog : List (Nat × Nat)) (m i : Nat) : heldH t ds fog m (i + 1) = heldH t ds fog m i ++ (if heldC t ds fog m i = true then [.tuple [nI m, nI i]] else []) := by
  unfold heldH
  rw [List.range_succ, List.filter_append, List.map_append]
  congr 1
  by_cases q : heldC t ds fog m i = true
  · rw [if_pos q, List.filter_cons_of_pos q]
    rfl
  · rw [if_neg q, List.filter_cons_of_neg q]
    rfl
theorem heldH_length (t : List Nat) (ds : List PD) (fog : List (Nat × Nat)) (m i : Nat) : (heldH t ds fog m i).length ≤ i := by
  unfold heldH
  have := List.length_filter_le (heldC t ds fog m) (List.range i)
  rw [List.length_range] at this
  rw [List.length_map]
  exact this
def heldL (t : List Nat) (ds : List PD) (fog : List (Nat × Nat)) : Nat → List PD
  | 0 => []
  | m + 1 => heldL t ds fog m ++ heldH t ds fog m (t.length + 1)
theorem heldL_length (t : List Nat) (ds : List PD) (fog : List (Nat × Nat)) : ∀ m, (heldL t ds fog m).length ≤ m * (t.length + 1)
  | 0 => Nat.zero_le _
  | m + 1 => by
    have := heldL_length t ds fog m
    have := heldH_length t ds fog m (t.length + 1)
    rw [heldL, List.length_append, Nat.add_mul, Nat.one_mul]
    omega
theorem heldL_ok (t : List Nat) (ds : List PD) (fog : List (Nat × Nat)) : ∀ m, okDep 2 (.list (heldL t ds fog m)) := fun m => okDep.list fun d hd => by
  induction m with
  | zero => cases hd
  | succ m ih =>
    rcases List.mem_append.mp hd with hd | hd
    · exact ih hd
    · unfold heldH at hd
      obtain ⟨k, -, rfl⟩ := List.mem_map.mp hd
      exact tup_ok (m, k)
end Hil
/-! StepM: a hill begins each thing behind the one ahead of it; every second of what it begins. -/
namespace Hil
open PySem L2 HT0
section
variable {t : List Nat} (T : IsT t) {n : Nat} (us : Nat → List Nat)
include T
theorem cs_move {h m i : Nat} (h1 : ¬ i < cs t n us m h) (h2 : i < cs t n us (m + 1) h) : cs t n us m h = i ∧ goB t n (us m) (cs t n us m) h = true := by
  have e : cs t n us (m + 1) h = cs t n us m h + (if goB t n (us m) (cs t n us m) h = true then 1 else 0) := rfl
  rw [e] at h2
  by_cases g : goB t n (us m) (cs t n us m) h = true
  · rw [if_pos g] at h2
    exact ⟨by omega, g⟩
  · rw [if_neg g] at h2
    omega
/-- the moment at which it moves -/
theorem tm_at {h D i : Nat} (hi : i < cs t n us D h) : ∃ m, tmB t n us h D i = m + 1 ∧ cs t n us m h = i ∧ goB t n (us m) (cs t n us m) h = true := by
  refine ⟨((List.range D).filter fun m => goB t n (us m) (cs t n us m) h).getD i 0, rfl, ?_⟩
  have a := (tmB_iff hi (tmB t n us h D i)).mp (Nat.le_refl _)
  have b : ¬ i < cs t n us (((List.range D).filter fun m => goB t n (us m) (cs t n us m) h).getD i 0) h := fun q => by
    have := (tmB_iff hi _).mpr q
    unfold tmB at this
    omega
  exact cs_move T us b a
/-- behind the one ahead of it -/
theorem tm_behind {h o D i : Nat} (ho : o ∈ belowL t h) (h1 : i < cs t n us D h) (h2 : i < cs t n us D o) : tmB t n us h D i < tmB t n us o D i := by
  obtain ⟨m, e, c, g⟩ := tm_at T us h2
  obtain ⟨o1, o2, o3⟩ := belowL_le ho
  have q := ((goB_h (by omega)).mp g).1.2
  rw [o3] at q
  obtain ⟨l1, l2⟩ := (cs_lev T (n := n) us m).lev o (by omega) o2
  rw [o3] at l1 l2
  have := (tmB_iff h1 m).mpr (by omega)
  omega
/-- ahead of what that one begins next -/
theorem tm_ahead {h o D i : Nat} (ho : o ∈ belowL t h) (h1 : i + 1 < cs t n us D h) (h2 : i < cs t n us D o) : tmB t n us o D i < tmB t n us h D (i + 1) := by
  obtain ⟨m, e, c, g⟩ := tm_at T us h1
  have q := (goB_below g ho).2
  have := (tmB_iff h2 m).mpr (by omega)
  omega
end
/-! ### every second -/
theorem stpIx_f (n : Nat) : stpIx false (2 * n) = (List.range n).map fun k => 2 * k := by
  unfold stpIx sliceRange
  have h : (2 : Int) > 0 := by decide
  simp only [h, if_true]
  have e : (if (false = true) then ((min 1 (2 * n) : Nat) : Int) else 0) = 0 := rfl
  rw [e]
  have hc : (if (0 : Int) < ((2 * n : Nat) : Int) then (((2 * n : Nat) : Int) - 0 + 2 - 1) / 2 else 0).toNat = n := by
    split <;> omega
  rw [hc]
  refine List.map_congr_left fun k _ => ?_
  omega
theorem stpIx_t (n : Nat) : stpIx true (2 * n) = (List.range n).map fun k => 2 * k + 1 := by
  unfold stpIx sliceRange
  have h : (2 : Int) > 0 := by decide
  simp only [h, if_true]
  have hc : (if ((min 1 (2 * n) : Nat) : Int) < ((2 * n : Nat) : Int) then (((2 * n : Nat) : Int) - ((min 1 (2 * n) : Nat) : Int) + 2 - 1) / 2 else 0).toNat = n := by
    split <;> omega
  rw [hc]
  refine List.map_congr_left fun k hk => ?_
  have := List.mem_range.mp hk
  omega
theorem filterMap_all {α β : Type} (f : α → Option β) (g : α → β) : ∀ {l : List α}, (∀ x ∈ l, f x = some (g x)) → l.filterMap f = l.map g
  | [], _ => rfl
  | a :: r, h => by
    rw [List.filterMap_cons, h a List.mem_cons_self, List.map_cons, filterMap_all f g fun x hx => h x (List.mem_cons_of_mem _ hx)]
theorem stp_signs (ds : List PD) : stpD false (withRests ds) = ds := by
  unfold stpD
  rw [withRests_length, stpIx_f, List.filterMap_map, filterMap_all _ (fun k => ds.getD k RS') fun k hk => by
    have := List.mem_range.mp hk
    show (withRests ds)[2 * k]? = _
    rw [rests_item ds (2 * k) (by omega), item_odd]]
  apply List.ext_getElem
  · simp
  · intro i h1 h2
    simp [List.getD_eq_getElem?_getD, h2]
theorem stp_rests (ds : List PD) : stpD true (withRests ds) = List.replicate ds.length RS' := by
  unfold stpD
  rw [withRests_length, stpIx_t, List.filterMap_map, filterMap_all _ (fun _ => RS') fun k hk => by
    have := List.mem_range.mp hk
    show (withRests ds)[2 * k + 1]? = _
    have e : 2 * k + 1 + 1 = 2 * (k + 1) := by omega
    rw [rests_item ds (2 * k + 1) (by omega), e, item_even]]
  rw [List.map_const', List.length_range]
section
variable {t : List Nat} {ds : List PD} {fog : List (Nat × Nat)} (O : PaOk t ds fog [])
include O
theorem bg_rests {h : Nat} (hh : h ≤ t.length) : bg (paX t ds fog []) h (paD t ds fog []) = withRests ds := by
  have e := pa_reg O hh
  have e2 := bg_zip (paX t ds fog []) h (paD t ds fog [])
  have e3 := regF_pairs (paX t ds fog []) h (paD t ds fog [])
  rw [e] at e3
  have key : ∀ (l : List (Nat × PD)) (N : Nat) (tm : Nat → Nat) (g : Nat → PD), (List.range N).map (fun i => PyData.tuple [nI (tm i), g i]) = l.map (fun p => .tuple [nI p.1, p.2]) → l.map (·.2) = (List.range N).map g := by
    intro l N tm g h
    apply List.ext_getElem
    · have := congrArg List.length h
      simpa using this.symm
    · intro i h1 h2
      have h3 : i < N := by simpa using h2
      have h4 : i < l.length := by simpa using h1
      have q := congrArg (fun z => z[i]?) h
      simp only [List.getElem?_map, List.getElem?_range h3, List.getElem?_eq_getElem h4, Option.map_some, Option.some.injEq, PyData.tuple.injEq, List.cons.injEq, and_true] at q
      simp [q.2]
  rw [← e2, key _ _ _ _ e3]
  apply List.ext_getElem?
  intro i
  rcases Nat.lt_or_ge i (2 * ds.length) with q | q
  · rw [rests_item ds i q, List.getElem?_map, List.getElem?_range q]
    rfl
  · rw [List.getElem?_eq_none (by simpa using q), List.getElem?_eq_none (by rw [withRests_length]; exact q)]
theorem paD_zero : paD t ds fog [] = 0 ↔ ds = [] := by
  constructor
  · intro e
    have := pa_end O 0 (Nat.zero_le _)
    rw [e] at this
    have : 0 = 2 * ds.length := this
    exact List.eq_nil_of_length_eq_zero (by omega)
  · rintro rfl
    exact Nat.le_zero.mp (pa_least O (m := 0) fun h _ => rfl)
end
theorem restsL_first {f : Nat → List PD} {n : Nat} (D : Nat) (h : PyData.eqv (.list (f 0)) (restL n) = true) : atI ((restsL f n D).map nI) 0 = some (nI 0) := by
  unfold restsL
  rw [List.range_succ_eq_map, List.filter_cons_of_pos (by exact h), List.map_cons]
  exact atI_c0 _ _
theorem restsL_last {f : Nat → List PD} {n D : Nat} (h : PyData.eqv (.list (f D)) (restL n) = true) : atI ((restsL f n D).map nI) (-1) = some (nI D) := by
  unfold restsL
  rw [List.range_succ, List.filter_append, List.filter_cons_of_pos (by exact h), List.filter_nil, List.map_append]
  exact atI_last _ _
theorem restsL_few (f : Nat → List PD) (n D : Nat) : ((restsL f n D).filter fun m => decide (0 < m)).length ≤ D := by
  unfold restsL
  rw [List.range_succ_eq_map, List.filter_filter]
  have h := List.length_filter_le (fun a => decide (0 < a) && PyData.eqv (.list (f a)) (restL n)) ((List.range D).map Nat.succ)
  rw [List.length_map, List.length_range] at h
  rw [List.filter_cons_of_neg (by simp)]
  exact h
/-- an entry of a register -/
theorem regF_mem {f : Nat → List PD} {h D : Nat} {e : PD} (he : e ∈ regF f h D) : ∃ k, k < D ∧ e = .tuple [nI (k + 1), at' (f (k + 1)) h] ∧ PyData.eqv (at' (f (k + 1)) h) (at' (f k) h) = false := by
  unfold regF at he
  obtain ⟨k, hk, rfl⟩ := List.mem_map.mp he
  obtain ⟨h1, h2⟩ := List.mem_filter.mp hk
  exact ⟨k, List.mem_range.mp h1, rfl, by simpa using h2⟩
end Hil
/-! MoreM: with more fog; fog at moments at which all is over. -/
namespace Hil
open PySem L2 HT0
section
variable {t : List Nat} {ds : List PD} {fog more : List (Nat × Nat)}
theorem usA_sub (hf : ∀ p ∈ fog, p ∈ more) : ∀ m, ∀ h ∈ usA fog m, h ∈ usA more m := by
  intro m h hh
  unfold usA at hh ⊢
  simp only [List.mem_map, List.mem_filter] at hh ⊢
  obtain ⟨p, ⟨a, b⟩, c⟩ := hh
  exact ⟨p, ⟨hf p a, b⟩, c⟩
theorem tm_more (O : PaOk t ds fog []) (O' : PaOk t ds more []) (hf : ∀ p ∈ fog, p ∈ more) {h i : Nat} (hh : h ≤ t.length) (hi : i < 2 * ds.length) : tmB t (2 * ds.length) (usA fog) h (paD t ds fog []) i ≤ tmB t (2 * ds.length) (usA more) h (paD t ds more []) i := by
  have e1 := pa_end O h hh
  have e2 := pa_end O' h hh
  have q := (tmB_iff (t := t) (us := usA more) (h := h) (D := paD t ds more []) (i := i) (by rw [e2]; exact hi) _).mp (Nat.le_refl _)
  refine (tmB_iff (by rw [e1]; exact hi) _).mpr ?_
  have := cs_mono O.T (n := 2 * ds.length) (usA_sub hf) (tmB t (2 * ds.length) (usA more) h (paD t ds more []) i) h hh
  omega
theorem end_more (O : PaOk t ds fog []) (O' : PaOk t ds more []) (hf : ∀ p ∈ fog, p ∈ more) : paD t ds fog [] ≤ paD t ds more [] := by
  refine pa_least O fun h hh => ?_
  have e2 := pa_end O' h hh
  have := cs_mono O.T (n := 2 * ds.length) (usA_sub hf) (paD t ds more []) h hh
  have L := cs_lev O.T (n := 2 * ds.length) (usA fog) (paD t ds more [])
  have := Nat.le_trans (Lev.le O.T L hh rfl) L.top
  omega
theorem fogN_few (fog : List (Nat × Nat)) : ∀ m, fogN (usA fog) m ≤ (fog.filter fun p => decide (p.1 < m)).length
  | 0 => Nat.zero_le _
  | m + 1 => by
    have ih := fogN_few fog m
    have key : ∀ l : List (Nat × Nat), (l.filter fun p => decide (p.1 < m + 1)).length = (l.filter fun p => decide (p.1 < m)).length + (l.filter fun p => decide (p.1 = m)).length := by
      intro l
      induction l with
      | nil => rfl
      | cons a r ih =>
        simp only [List.filter_cons]
        by_cases h1 : a.1 < m
        · have h2 : a.1 < m + 1 := by omega
          have h3 : a.1 ≠ m := by omega
          simp [h1, h2, h3]
          omega
        · by_cases h3 : a.1 = m
          · simp [h3]
            omega
          · have h2 : ¬ a.1 < m + 1 := by omega
            simp [h1, h2, h3]
            omega
    rw [key]
    simp only [fogN]
    have hu : (usA fog m).length = (fog.filter fun p => decide (p.1 = m)).length := by
      unfold usA
      rw [List.length_map]
    split
    · omega
    · rename_i q
      have : (usA fog m).length ≠ 0 := fun e => q (by rw [List.eq_nil_of_length_eq_zero e]; rfl)
      omega
/-- late by no more moments than fog has pairs -/
theorem late_few (O : PaOk t ds fog []) : paD t ds fog [] ≤ due t ds.length + fog.length := by
  have O0 : PaOk t ds [] [] := ⟨O.T, O.hs, O.hl, rfl, rfl⟩
  refine pa_least O fun h hh => ?_
  have h1 := fogN_few fog (due t ds.length + fog.length)
  have h2 := List.length_filter_le (fun p : Nat × Nat => decide (p.1 < due t ds.length + fog.length)) fog
  have h3 := cs_late O.T (n := 2 * ds.length) (us := usA []) (vs := usA fog) (fun _ => rfl) (due t ds.length + fog.length) h hh
  have h4 := pa_end O0 h hh
  rw [paD_clr O.T O.hs] at h4
  have mono : ∀ {a b : Nat}, a ≤ b → cs t (2 * ds.length) (usA []) a h ≤ cs t (2 * ds.length) (usA []) b h := by
    intro a b hab
    rw [cs_cnt, cs_cnt]
    exact cnt_mono _ hab
  have h5 := mono (a := due t ds.length) (b := due t ds.length + fog.length - fogN (usA fog) (due t ds.length + fog.length)) (by omega)
  have L := cs_lev O.T (n := 2 * ds.length) (usA fog) (due t ds.length + fog.length)
  have := Nat.le_trans (Lev.le O.T L hh rfl) L.top
  omega
theorem goB_same {t : List Nat} {n : Nat} {us vs : List Nat} (h : ∀ x, x ∈ us ↔ x ∈ vs) {c : Nat → Nat} (k : Nat) : goB t n us c k = goB t n vs c k := by
  have e : ∀ x, seenB us x = seenB vs x := fun x => by
    have := h x
    by_cases q : x ∈ us
    · have q2 := this.mp q
      have a : ¬ seenB us x = true := fun z => seenB_iff.mp z q
      have b : ¬ seenB vs x = true := fun z => seenB_iff.mp z q2
      simp only [Bool.not_eq_true] at a b
      rw [a, b]
    · have q2 := fun z => q (this.mpr z)
      rw [seenB_iff.mpr q, seenB_iff.mpr q2]
  unfold goB
  rw [e]
  simp only [e]
theorem cs_same {t : List Nat} {n : Nat} {us vs : Nat → List Nat} {M : Nat} (h : ∀ m, m < M → ∀ x, x ∈ us m ↔ x ∈ vs m) : ∀ m, m ≤ M → cs t n us m = cs t n vs m
  | 0, _ => rfl
  | m + 1, hm => by
    have ih := cs_same (t := t) (n := n) h m (by omega)
    funext k
    show cs t n us m k + _ = cs t n vs m k + _
    rw [ih, goB_same (h m (by omega)) k]
/-- fog that differs only from the end on -/
theorem pa_same (O : PaOk t ds fog []) (O' : PaOk t ds more []) (h : ∀ m, m < paD t ds fog [] → ∀ x, x ∈ usA fog m ↔ x ∈ usA more m) : paD t ds more [] = paD t ds fog [] ∧ ∀ m, m ≤ paD t ds fog [] → paX t ds more [] m = paX t ds fog [] m := by
  have e := cs_same (t := t) (n := 2 * ds.length) h
  have h1 : paD t ds more [] ≤ paD t ds fog [] := pa_least O' fun k hk => by
    rw [← e _ (Nat.le_refl _)]
    exact pa_end O k hk
  have h2 : paD t ds fog [] ≤ paD t ds more [] := pa_least O fun k hk => by
    rw [e _ h1]
    exact pa_end O' k hk
  refine ⟨by omega, fun m hm => ?_⟩
  rw [pa_cs O', pa_cs O, e m hm]
end
theorem fog_sub {raws : List (Nat × Nat)} {n : Nat} {c : Nat × Nat → Bool} (h : ∀ p ∈ raws, p.1 < 64 ∧ p.2 < 64) (hl : raws.length ≤ 12) (hb : ∀ p ∈ raws, 1 ≤ p.2 ∧ p.2 ≤ n) {cs : List Int} (hs : cs.Sublist (sortU (raws.map codeN))) : isFog n (fogP (cs.map uncN)) = true := by
  have hlen : (cs.map uncN).length ≤ 12 := by
    have h1 := hs.length_le
    have := sortU_length (raws.map codeN)
    rw [List.length_map] at this
    rw [List.length_map]
    omega
  have hmem : ∀ p ∈ cs.map uncN, p ∈ raws := fun p hp => by
    refine (fogD_mem h).mp ?_
    unfold fogD
    obtain ⟨x, hx, rfl⟩ := List.mem_map.mp hp
    exact List.mem_map.mpr ⟨x, hs.subset hx, rfl⟩
  unfold isFog fogP
  simp only [Bool.and_eq_true, decide_eq_true_eq, List.length_map]
  refine ⟨by simpa using hlen, ?_, ?_⟩
  · rw [List.all_eq_true]
    intro d hd
    simp only [List.mem_map] at hd
    obtain ⟨p, hp, rfl⟩ := hd
    have hp := List.mem_map.mpr hp
    have a := h p (hmem p hp)
    have b := hb p (hmem p hp)
    simp [isPair, isWhole]
    omega
  · refine zip_pairs h ((sortU_sorted _).sublist hs) fun c hc => ?_
    have := hs.subset hc
    rw [sortU_mem, List.mem_map] at this
    obtain ⟨q, hq, rfl⟩ := this
    unfold codeN
    omega
theorem rest_fog {raws : List (Nat × Nat)} {n : Nat} (c : Nat × Nat → Bool) (h : ∀ p ∈ raws, p.1 < 64 ∧ p.2 < 64) (hl : raws.length ≤ 12) (hb : ∀ p ∈ raws, 1 ≤ p.2 ∧ p.2 ≤ n) : isFog n (fogP ((fogD raws).filter c)) = true ∧ ∀ k, isFog n (fogP (rmN ((fogD raws).filter c) k)) = true := by
  have e : (fogD raws).filter c = ((sortU (raws.map codeN)).filter fun x => c (uncN x)).map uncN := by
    unfold fogD
    rw [List.filter_map]
    rfl
  rw [e]
  refine ⟨fog_sub (c := c) h hl hb List.filter_sublist, fun k => ?_⟩
  rw [rmN_map]
  exact fog_sub (c := c) h hl hb ((rmN_sub _ k).trans List.filter_sublist)
theorem pair_eqv (p q : Nat × Nat) : PyData.eqv (.tuple [nI p.1, nI p.2]) (.tuple [nI q.1, nI q.2]) = decide (p = q) := by
  have e : decide (p = q) = (decide (p.1 = q.1) && decide (p.2 = q.2)) := by
    by_cases h : p = q
    · subst h; simp
    · rw [decide_eq_false h]
      by_cases h1 : p.1 = q.1
      · have h2 : p.2 ≠ q.2 := fun e => h (Prod.ext h1 e)
        simp [h2]
      · simp [h1]
  have e2 : ∀ a b : Nat, ((a : Int) == (b : Int)) = decide (a = b) := fun a b => by
    by_cases q : a = b
    · simp [q]
    · have : (a : Int) ≠ b := by omega
      simp [q, this]
  rw [e]
  simp [PyData.eqv, PyData.eqvAll, nI, e2]
theorem any_pair (p : Nat × Nat) (L : List (Nat × Nat)) : ((L.map fun p => PyData.tuple [nI p.1, nI p.2]).any fun z => PyData.eqv z (.tuple [nI p.1, nI p.2])) = decide (p ∈ L) := by
  rw [List.any_map]
  have : (fun q : Nat × Nat => PyData.eqv (.tuple [nI q.1, nI q.2]) (.tuple [nI p.1, nI p.2])) = fun q => decide (q = p) := by
    funext q
    exact pair_eqv q p
  show (L.any fun q => PyData.eqv (.tuple [nI q.1, nI q.2]) (.tuple [nI p.1, nI p.2])) = _
  rw [this]
  by_cases h : p ∈ L
  · rw [decide_eq_true h]
    exact List.any_eq_true.mpr ⟨p, h, by simp⟩
  · rw [decide_eq_false h, List.any_eq_false]
    intro q hq
    simp only [decide_eq_true_eq]
    rintro rfl
    exact h hq
section
variable {t : List Nat} {ds : List PD} {fog : List (Nat × Nat)}
/-- a pair at a moment at which all is over is idle -/
theorem idle_late (O : PaOk t ds fog []) {k : Nat} (hk : k < fog.length) (O' : PaOk t ds (rmN fog k) []) (hp : paD t ds fog [] ≤ (fog.getD k (0, 0)).1) : idleC t ds fog [] k = true := by
  have us : ∀ m, m < paD t ds fog [] → ∀ x, x ∈ usA fog m ↔ x ∈ usA (rmN fog k) m := fun m hm x => by
    constructor
    · intro hx
      unfold usA at hx ⊢
      simp only [List.mem_map, List.mem_filter, decide_eq_true_eq] at hx ⊢
      obtain ⟨p, ⟨a, b⟩, c⟩ := hx
      refine ⟨p, ⟨?_, b⟩, c⟩
      obtain ⟨i, hi, e⟩ := List.mem_iff_getElem.mp a
      have ne : i ≠ k := by
        rintro rfl
        have : fog.getD i (0, 0) = p := by rw [List.getD_eq_getElem?_getD, List.getElem?_eq_getElem hi, e]; rfl
        rw [this] at hp
        omega
      unfold rmN
      rcases Nat.lt_or_gt_of_ne ne with q | q
      · exact List.mem_append_left _ (List.mem_iff_getElem.mpr ⟨i, by rw [List.length_take]; omega, by rw [List.getElem_take, e]⟩)
      · exact List.mem_append_right _ (List.mem_iff_getElem.mpr ⟨i - (k + 1), by rw [List.length_drop]; omega, by
          rw [List.getElem_drop]
          have : k + 1 + (i - (k + 1)) = i := by omega
          simp only [this, e]⟩)
    · intro hx
      exact usA_sub (fun p hp => rmN_mem hp) m x hx
  obtain ⟨e1, e2⟩ := pa_same O O' us
  have e3 : rowsF (paX t ds (rmN fog k) []) (paD t ds (rmN fog k) []) = rowsF (paX t ds fog []) (paD t ds fog []) := by
    rw [e1]
    unfold rowsF
    refine List.map_congr_left fun j hj => ?_
    have := List.mem_range.mp hj
    rw [e2 j (by omega)]
  unfold idleC
  rw [e3]
  exact (rowsF_ok O _).self
theorem idle_has (O : PaOk t ds fog []) (Ok : ∀ k, PaOk t ds (rmN fog k) []) {p : Nat × Nat} (hp : p ∈ fog) (hl : paD t ds fog [] ≤ p.1) : ((idleL t ds fog [] fog.length).any fun z => PyData.eqv z (.tuple [nI p.1, nI p.2])) = true := by
  obtain ⟨i, hi, e⟩ := List.mem_iff_getElem.mp hp
  have e2 : fog.getD i (0, 0) = p := by rw [List.getD_eq_getElem?_getD, List.getElem?_eq_getElem hi, e]; rfl
  refine List.any_eq_true.mpr ⟨.tuple [nI p.1, nI p.2], ?_, (tup_ok p).self⟩
  unfold idleL
  exact List.mem_map.mpr ⟨i, List.mem_filter.mpr ⟨List.mem_range.mpr hi, idle_late O hi (Ok i) (by rw [e2]; exact hl)⟩, by rw [e2]⟩
end
end Hil
/-! SeenM: what a hill sees, by sorted sums; found hills as a dict. -/
namespace Hil
open PySem L2 HT0
/-- sights: pairs, each once, the lesser one first -/
structure Sights (ps : List (Nat × Nat)) : Prop where
  lt : ∀ p ∈ ps, p.1 < p.2 ∧ p.2 < 8
  nod : ps.Nodup
  few : ps.length ≤ 64
/-- a tuple or a list of them -/
def SightW (P : PD) (ps : List (Nat × Nat)) : Prop := P = .tuple (ps.map fun p => .tuple [nI p.1, nI p.2]) ∨ P = .list (ps.map fun p => .tuple [nI p.1, nI p.2])
def sightP (ps : List (Nat × Nat)) : PD := .tuple (ps.map fun p => .tuple [nI p.1, nI p.2])
theorem sights_sorted {ps : List (Nat × Nat)} (S : Sights ps) (h : Nat) : sortI ((ps.filter fun p => decide (p.1 = h) || decide (p.2 = h)).map fun p => ((p.1 : Int) + p.2 - h)) = (nb ps h).map fun o : Nat => (o : Int) := by
  have mem : ∀ z : Int, z ∈ ((ps.filter fun p => decide (p.1 = h) || decide (p.2 = h)).map fun p => ((p.1 : Int) + p.2 - h)) ↔ z ∈ (nb ps h).map fun o : Nat => (o : Int) := by
    intro z
    simp only [List.mem_map, List.mem_filter, Bool.or_eq_true, decide_eq_true_eq]
    constructor
    · rintro ⟨p, ⟨hp, e⟩, rfl⟩
      obtain ⟨h1, h2⟩ := S.lt p hp
      rcases e with e | e
      · refine ⟨p.2, (nb_mem ps).mpr ⟨h2, ?_⟩, by omega⟩
        unfold adjB
        rw [Nat.min_eq_left (by omega), Nat.max_eq_right (by omega), ← e]
        simp [hp]
        omega
      · refine ⟨p.1, (nb_mem ps).mpr ⟨by omega, ?_⟩, by omega⟩
        unfold adjB
        rw [Nat.min_eq_right (by omega), Nat.max_eq_left (by omega), ← e]
        simp [hp]
        omega
    · rintro ⟨o, ho, rfl⟩
      obtain ⟨h1, h2⟩ := (nb_mem ps).mp ho
      unfold adjB at h2
      simp only [Bool.and_eq_true, decide_eq_true_eq] at h2
      refine ⟨(min h o, max h o), ⟨h2.1, ?_⟩, ?_⟩
      · simp only
        omega
      · simp only
        omega
  have nd : ((ps.filter fun p => decide (p.1 = h) || decide (p.2 = h)).map fun p => ((p.1 : Int) + p.2 - h)).Nodup := by
    unfold List.Nodup
    rw [List.pairwise_map]
    have := S.nod.filter (fun p => decide (p.1 = h) || decide (p.2 = h))
    refine List.Pairwise.imp_of_mem (fun {p q} hp hq ne e => ne ?_) this
    have hp' := List.mem_filter.mp hp
    have hq' := List.mem_filter.mp hq
    have l1 := S.lt p hp'.1
    have l2 := S.lt q hq'.1
    have c1 := hp'.2
    have c2 := hq'.2
    simp only [Bool.or_eq_true, decide_eq_true_eq] at c1 c2
    apply Prod.ext
    · omega
    · omega
  have nd2 : (sortI ((ps.filter fun p => decide (p.1 = h) || decide (p.2 = h)).map fun p => ((p.1 : Int) + p.2 - h))).Nodup := (sortI_perm _).nodup_iff.mpr nd
  refine strict_unique (fun z => by rw [(sortI_perm _).mem_iff]; exact mem z) (((sortI_sorted _).and nd2).imp fun {a b} q => by omega) ?_
  rw [List.pairwise_map]
  exact (List.pairwise_lt_range.filter _).imp fun q => by omega
/-! ### found hills as a dict -/
def dkF (F : List (Nat × Nat)) : List (Key × PD) := F.map fun p => (.inl (p.1 : Int), nI p.2)
theorem dkF_length (F : List (Nat × Nat)) : (dkF F).length = F.length := by simp [dkF]
theorem dkF_any (F : List (Nat × Nat)) (o : Nat) : ((dkF F).any fun kv => decide (kv.1 = .inl (o : Int))) = (F.map (·.1)).any fun x => decide (x = o) := by
  unfold dkF
  rw [List.any_map, List.any_map]
  congr 1
  funext p
  show decide ((Sum.inl (p.1 : Int) : Key) = .inl (o : Int)) = decide (p.1 = o)
  refine decide_eq_decide.mpr ?_
  rw [Sum.inl.injEq]
  omega
theorem dkF_find : ∀ {F : List (Nat × Nat)} {h d : Nat}, (F.map (·.1)).Nodup → (h, d) ∈ F → ((dkF F).find? fun kv => decide (kv.1 = .inl (h : Int))) = some (.inl (h : Int), nI d)
  | [], _, _, _, m => by cases m
  | p :: F, h, d, n, m => by
    rw [List.map_cons, List.nodup_cons] at n
    show List.find? _ ((Sum.inl (p.1 : Int), nI p.2) :: dkF F) = _
    rcases List.mem_cons.mp m with e | m
    · subst e
      rw [List.find?_cons_of_pos (by simp)]
    · have ne : p.1 ≠ h := by
        rintro rfl
        exact n.1 (List.mem_map.mpr ⟨_, m, rfl⟩)
      rw [List.find?_cons_of_neg (by
        simp only [decide_eq_true_eq, Sum.inl.injEq]
        omega)]
      exact dkF_find n.2 m
theorem dkF_put {F : List (Nat × Nat)} {o d : Nat} (h : o ∉ F.map (·.1)) : putD (dkF F) (.inl (o : Int)) (nI d) = dkF (F ++ [(o, d)]) := by
  unfold putD
  rw [dkF_any, if_neg (by rw [any_in]; exact h)]
  unfold dkF
  rw [List.map_append]
  rfl
/-! ### levels, by sets -/
theorem pairsC_ints {L : List Nat} (h : L ≠ []) : pairsC (L.map nI) = none := by
  cases L with
  | nil => exact absurd rfl h
  | cons a r => rfl
theorem op_sset (L : List Nat) (hl : L.length < 64) : op1 .sset (.d (nL L)) = some (.d (.list ((sortU (L.map fun x : Nat => (x : Int))).map .int)), true) := by
  have e0 : op1 .sset = Hil.gSsetC := rfl
  rw [e0]
  unfold Hil.gSsetC nL
  simp only [List.length_map]
  rw [if_pos hl]
  by_cases h : L = []
  · subst h
    rfl
  · rw [pairsC_ints h]
    have e : intsOf (L.map nI) = some (L.map fun x : Nat => (x : Int)) := by
      have := intsOf_map (L.map fun x : Nat => (x : Int))
      rw [List.map_map] at this
      exact this
    simp only [e, Option.map_some]
/-- what one level sees anew -/
def laterL (ps : List (Nat × Nat)) (C : List Nat) (k : Nat) (H : List Nat) : List Nat := H.flatMap fun h => (nb ps h).filter fun o => !((seen ps C k).any fun x => decide (x = o)) && !(C.any fun x => decide (x = o))
theorem nb_len {ps : List (Nat × Nat)} {h : Nat} (hh : h < 8) : (nb ps h).length ≤ 7 := by
  have n : (h :: nb ps h).Nodup := by
    rw [List.nodup_cons]
    refine ⟨fun q => ?_, (List.pairwise_lt_range.filter _).imp fun q => Nat.ne_of_lt q⟩
    have := ((nb_mem ps).mp q).2
    unfold adjB at this
    simp at this
  have := nodup_lt n (n := 8) fun x hx => by
    rcases List.mem_cons.mp hx with rfl | hx
    · exact hh
    · exact ((nb_mem ps).mp hx).1
  simpa using this
theorem laterL_len (ps : List (Nat × Nat)) (C : List Nat) (k : Nat) : ∀ {H : List Nat}, (∀ h ∈ H, h < 8) → (laterL ps C k H).length ≤ 7 * H.length
  | [], _ => Nat.zero_le _
  | h :: r, hH => by
    have ih := laterL_len ps C k (H := r) fun x hx => hH x (List.mem_cons_of_mem _ hx)
    have l1 := nb_len (ps := ps) (hH h List.mem_cons_self)
    have l2 := List.length_filter_le (fun o => !((seen ps C k).any fun x => decide (x = o)) && !(C.any fun x => decide (x = o))) (nb ps h)
    unfold laterL at ih ⊢
    rw [List.flatMap_cons, List.length_append, List.length_cons]
    omega
theorem lvl_len (ps : List (Nat × Nat)) (C : List Nat) (k : Nat) : (lvl ps C k).length ≤ 8 := nodup_lt ((lvl_rise ps C k).imp fun q => Nat.ne_of_lt q) fun _ h => lvl_lt ps C h
theorem later_lvl (ps : List (Nat × Nat)) (C : List Nat) (k : Nat) : op1 .sset (.d (nL (laterL ps C k (lvl ps C k)))) = some (.d (nL (lvl ps C (k + 1))), true) := by
  have h1 := laterL_len ps C k (H := lvl ps C k) fun h hh => lvl_lt ps C hh
  have h2 := lvl_len ps C k
  rw [op_sset _ (by omega)]
  have e : sortU ((laterL ps C k (lvl ps C k)).map fun x : Nat => (x : Int)) = (lvl ps C (k + 1)).map fun x : Nat => (x : Int) := by
    refine strict_unique (fun z => ?_) (sortU_sorted _) ?_
    · rw [sortU_mem, List.mem_map, List.mem_map]
      have key : ∀ o, o ∈ laterL ps C k (lvl ps C k) ↔ o ∈ lvl ps C (k + 1) := fun o => by
        unfold laterL
        rw [List.mem_flatMap, lvl_succ]
        simp only [List.mem_filter, Bool.and_eq_true, any_nin, nb_mem]
        constructor
        · rintro ⟨h, hh, ⟨h1, h2⟩, h3, h4⟩
          exact ⟨h1, h3, h4, h, hh, h2⟩
        · rintro ⟨h1, h3, h4, h, hh, h2⟩
          exact ⟨h, hh, ⟨h1, h2⟩, h3, h4⟩
      constructor
      · rintro ⟨o, ho, rfl⟩
        exact ⟨o, (key o).mp ho, rfl⟩
      · rintro ⟨o, ho, rfl⟩
        exact ⟨o, (key o).mpr ho, rfl⟩
    · rw [List.pairwise_map]
      exact (lvl_rise ps C (k + 1)).imp fun q => by omega
  rw [e, List.map_map]
  rfl
/-- the part of what is found, in the middle of a level -/
def foundI (ps : List (Nat × Nat)) (C : List Nat) (k i : Nat) : List (Nat × Nat) := foundL ps C k ++ ((lvl ps C k).take i).map fun h => (h, k)
theorem foundI_0 (ps : List (Nat × Nat)) (C : List Nat) (k : Nat) : foundI ps C k 0 = foundL ps C k := by
  unfold foundI
  simp
theorem foundI_all (ps : List (Nat × Nat)) (C : List Nat) (k : Nat) : foundI ps C k (lvl ps C k).length = foundL ps C (k + 1) := by
  unfold foundI
  rw [List.take_length, foundL_succ]
theorem foundI_succ {ps : List (Nat × Nat)} {C : List Nat} {k i h : Nat} (hh : (lvl ps C k)[i]? = some h) : foundI ps C k (i + 1) = foundI ps C k i ++ [(h, k)] ∧ h ∉ (foundI ps C k i).map (·.1) := by
  have e : foundI ps C k (i + 1) = foundI ps C k i ++ [(h, k)] := by
    unfold foundI
    rw [List.take_add_one, hh, List.map_append, List.append_assoc]
    rfl
  refine ⟨e, fun q => ?_⟩
  have nd : ((foundI ps C k (i + 1)).map (·.1)).Nodup := by
    have s : (foundI ps C k (i + 1)).Sublist (foundL ps C (k + 1)) := by
      rw [foundL_succ]
      exact List.Sublist.append_left ((List.take_sublist _ _).map _) _
    have := seen_nodup ps C k
    rw [← foundL_keys] at this
    exact this.sublist (s.map _)
  rw [e, List.map_append, List.nodup_append] at nd
  exact nd.2.2 h q h (by simp) rfl
theorem foundI_len (ps : List (Nat × Nat)) (C : List Nat) (k i : Nat) : (foundI ps C k i).length ≤ 8 := by
  have s : (foundI ps C k i).Sublist (foundL ps C (k + 1)) := by
    rw [foundL_succ]
    exact List.Sublist.append_left ((List.take_sublist _ _).map _) _
  have h := seen_len ps C k
  rw [← foundL_keys, List.length_map] at h
  exact Nat.le_trans s.length_le h
/-! ### the queue's inner walk -/
section
variable (ps : List (Nat × Nat)) (C : List Nat)
def newC (F : List (Nat × Nat)) (o : Nat) : Bool := !((F.map (·.1)).any fun x => decide (x = o)) && !(C.any fun x => decide (x = o))
def newI (F : List (Nat × Nat)) (h i : Nat) : List Nat := ((nb ps h).take i).filter (newC C F)
theorem newI_all (F : List (Nat × Nat)) (h : Nat) : newI ps C F h (nb ps h).length = newO ps C F h := by
  unfold newI
  rw [List.take_length]
  rfl
theorem newI_succ {F : List (Nat × Nat)} {h i o : Nat} (ho : (nb ps h)[i]? = some o) : newI ps C F h (i + 1) = newI ps C F h i ++ (if newC C F o = true then [o] else []) := by
  unfold newI
  rw [List.take_add_one, ho, List.filter_append]
  congr 1
  by_cases q : newC C F o = true
  · rw [if_pos q]
    exact List.filter_cons_of_pos q
  · rw [if_neg q]
    exact List.filter_cons_of_neg q
theorem nb_nodup (h : Nat) : (nb ps h).Nodup := (List.pairwise_lt_range.filter _).imp fun q => Nat.ne_of_lt q
theorem newI_nin {F : List (Nat × Nat)} {h i o : Nat} (ho : (nb ps h)[i]? = some o) : o ∉ newI ps C F h i := by
  intro q
  unfold newI at q
  have q := (List.mem_filter.mp q).1
  have nd : ((nb ps h).take (i + 1)).Nodup := (nb_nodup ps h).sublist (List.take_sublist _ _)
  rw [List.take_add_one, ho, List.nodup_append] at nd
  exact nd.2.2 o q o (by simp) rfl
def FI (F : List (Nat × Nat)) (h d i : Nat) : List (Nat × Nat) := F ++ (newI ps C F h i).map fun o => (o, d + 1)
theorem FI_keys {F : List (Nat × Nat)} {h d i o : Nat} (ho : (nb ps h)[i]? = some o) : (!(((FI ps C F h d i).map (·.1)).any fun x => decide (x = o))) = !((F.map (·.1)).any fun x => decide (x = o)) := by
  have e : (FI ps C F h d i).map (·.1) = F.map (·.1) ++ newI ps C F h i := by
    unfold FI
    rw [List.map_append, List.map_map]
    congr 1
    exact List.map_id _
  have n : ((newI ps C F h i).any fun x => decide (x = o)) = false := by
    rw [← Bool.not_eq_true, any_in]
    exact newI_nin ps C ho
  rw [e, List.any_append, n, Bool.or_false]
theorem FI_sub {F : List (Nat × Nat)} {h d i : Nat} : (FI ps C F h d i).Sublist (F ++ (newO ps C F h).map fun o => (o, d + 1)) := by
  unfold FI
  refine List.Sublist.append_left (List.Sublist.map _ ?_) _
  exact (List.take_sublist _ _).filter _
theorem FI_succ {F : List (Nat × Nat)} {h d i o : Nat} (ho : (nb ps h)[i]? = some o) : FI ps C F h d (i + 1) = FI ps C F h d i ++ (if newC C F o = true then [(o, d + 1)] else []) := by
  unfold FI
  rw [newI_succ ps C ho, List.map_append, List.append_assoc]
  congr 2
  split <;> rfl
end
end Hil
/-! SightM: what is led to, with hills or sights closed. -/
namespace Hil
open PySem L2 HT0
def risP (a b : Nat × Nat) : Prop := a.1 < b.1 ∨ (a.1 = b.1 ∧ a.2 < b.2)
theorem lt_pr {a b : Nat × Nat} (h : risP a b) : ltPr (.tuple [nI a.1, nI a.2]) (.tuple [nI b.1, nI b.2]) = true := by
  show HT.lexLt [(a.1 : Int), (a.2 : Int)] [(b.1 : Int), (b.2 : Int)] = true
  rcases h with h | ⟨h1, h2⟩
  · rw [HT.lexLt_cons, if_neg (by omega)]
    exact decide_eq_true (by omega)
  · rw [HT.lexLt_cons, if_pos (by omega), HT.lexLt_cons, if_neg (by omega)]
    exact decide_eq_true (by omega)
theorem rise_zip : ∀ {ps : List (Nat × Nat)}, ps.Pairwise risP → ((List.zipWith Im.two (ps.map fun p => PyData.tuple [nI p.1, nI p.2]) (ps.map fun p => PyData.tuple [nI p.1, nI p.2]).tail).all fun m => ltPr m.d m.d2) = true
  | [], _ => rfl
  | [a], _ => rfl
  | a :: b :: r, h => by
    obtain ⟨h1, h2⟩ := List.pairwise_cons.mp h
    have ih := rise_zip h2
    simp only [List.map_cons, List.tail_cons, List.zipWith_cons_cons, List.all_cons, Bool.and_eq_true] at ih ⊢
    exact ⟨lt_pr (h1 b List.mem_cons_self), ih⟩
theorem ris_nodup {ps : List (Nat × Nat)} (h : ps.Pairwise risP) : ps.Nodup := h.imp fun {a b} q e => by
  subst e
  unfold risP at q
  omega
section
variable (ps : List (Nat × Nat)) (C : List Nat)
/-- led to from hill 0, by open hills -/
def Led (o : Nat) : Prop := ∃ k, o ∈ lvl ps C k
theorem led_0 : Led ps C 0 := ⟨0, List.mem_singleton.mpr rfl⟩
theorem led_next {h o : Nat} (hl : Led ps C h) (ho : o < 8) (ha : adjB ps h o = true) (hc : o ∉ C) : Led ps C o := by
  obtain ⟨k, hk⟩ := hl
  by_cases q : o ∈ seen ps C k
  · obtain ⟨j, -, hj⟩ := (seen_iff ps C).mp q
    exact ⟨j, hj⟩
  · exact ⟨k + 1, (lvl_succ ps C).mpr ⟨ho, q, hc, h, hk, ha⟩⟩
theorem found_led {F : List (Nat × Nat)} (hF : Found ps C F) (o : Nat) : o ∈ F.map (·.1) ↔ Led ps C o := by
  rw [List.mem_map]
  constructor
  · rintro ⟨p, hp, rfl⟩
    exact ⟨p.2, (hF.mem p).mp hp⟩
  · rintro ⟨k, hk⟩
    exact ⟨(o, k), (hF.mem (o, k)).mpr hk, rfl⟩
end
theorem led_open {ps : List (Nat × Nat)} {C : List Nat} : ∀ {k o : Nat}, o ∈ lvl ps C k → Led ps [] o
  | 0, o, h => by
    rw [lvl_0, List.mem_singleton] at h
    subst h
    exact led_0 ps []
  | k + 1, o, h => by
    obtain ⟨h1, -, -, x, hx, ha⟩ := (lvl_succ ps C).mp h
    exact led_next ps [] (led_open hx) h1 ha (by simp)
theorem led_closed {ps : List (Nat × Nat)} {C : List Nat} {o : Nat} (h0 : o ≠ 0) (h : Led ps C o) : o ∉ C := by
  obtain ⟨k, hk⟩ := h
  cases k with
  | zero => rw [lvl_0, List.mem_singleton] at hk; exact absurd hk h0
  | succ k => exact ((lvl_succ ps C).mp hk).2.2.1
/-- fewer sights lead to fewer -/
theorem led_sub {ps qs : List (Nat × Nat)} (hs : ∀ p ∈ qs, p ∈ ps) {C : List Nat} : ∀ {k o : Nat}, o ∈ lvl qs C k → Led ps C o
  | 0, o, h => by
    rw [lvl_0, List.mem_singleton] at h
    subst h
    exact led_0 ps C
  | k + 1, o, h => by
    obtain ⟨h1, -, h3, x, hx, ha⟩ := (lvl_succ qs C).mp h
    refine led_next ps C (led_sub hs hx) h1 ?_ h3
    unfold adjB at ha ⊢
    simp only [Bool.and_eq_true, decide_eq_true_eq] at ha ⊢
    exact ⟨hs _ ha.1, ha.2⟩
/-- without one hill: one more than that hill is lost just when fewer are found -/
theorem fewer {F G : List (Nat × Nat)} {ps : List (Nat × Nat)} {h : Nat} (h0 : h ≠ 0) (hF : Found ps [] F) (hG : Found ps [h] G) (hh : h ∈ F.map (·.1)) : G.length < F.length - 1 ↔ ∃ o ∈ F.map (·.1), o ≠ h ∧ o ∉ G.map (·.1) := by
  have sub : ∀ o ∈ G.map (·.1), o ∈ F.map (·.1) := fun o ho => by
    obtain ⟨k, hk⟩ := (found_led ps [h] hG o).mp ho
    exact (found_led ps [] hF o).mpr (led_open hk)
  have nh : h ∉ G.map (·.1) := fun q => led_closed h0 ((found_led ps [h] hG h).mp q) (by simp)
  have nE : ((F.map (·.1)).erase h).Nodup := hF.nod.erase h
  have lE : ((F.map (·.1)).erase h).length = F.length - 1 := by rw [List.length_erase_of_mem hh, List.length_map]
  have subE : ∀ o ∈ G.map (·.1), o ∈ (F.map (·.1)).erase h := fun o ho => (List.mem_erase_of_ne (fun e : o = h => nh (by rw [← e]; exact ho))).mpr (sub o ho)
  have le := List.Nodup.length_le_of_subset hG.nod subE
  rw [List.length_map, lE] at le
  constructor
  · intro lt
    refine Classical.byContradiction fun q => ?_
    have all : ∀ o ∈ (F.map (·.1)).erase h, o ∈ G.map (·.1) := fun o ho => Classical.byContradiction fun z => q ⟨o, List.mem_of_mem_erase ho, fun e => by
      subst e
      exact (List.Nodup.not_mem_erase hF.nod) ho, z⟩
    have := List.Nodup.length_le_of_subset nE all
    rw [List.length_map, lE] at this
    omega
  · rintro ⟨o, ho, ne, z⟩
    have n2 : (o :: G.map (·.1)).Nodup := List.nodup_cons.mpr ⟨z, hG.nod⟩
    have := List.Nodup.length_le_of_subset n2 (l₂ := (F.map (·.1)).erase h) fun x hx => by
      rcases List.mem_cons.mp hx with rfl | hx
      · exact (List.mem_erase_of_ne ne).mpr ho
      · exact subE x hx
    rw [List.length_cons, List.length_map, lE] at this
    omega
/-! ### one sight less -/
/-- without the sight e -/
def noE (ps : List (Nat × Nat)) (e : Nat × Nat) : List (Nat × Nat) := ps.filter fun p => decide (p ≠ e)
theorem noE_mem {ps : List (Nat × Nat)} {e p : Nat × Nat} : p ∈ noE ps e ↔ p ∈ ps ∧ p ≠ e := by
  unfold noE
  rw [List.mem_filter, decide_eq_true_eq]
theorem noE_rm {ps : List (Nat × Nat)} (n : ps.Nodup) {k : Nat} (hk : k < ps.length) : rmN ps k = noE ps ps[k] := by
  induction ps generalizing k with
  | nil => cases hk
  | cons a r ih =>
    rw [List.nodup_cons] at n
    cases k with
    | zero =>
      unfold noE
      rw [List.getElem_cons_zero, List.filter_cons_of_neg (by simp)]
      have : r.filter (fun p => decide (p ≠ a)) = r := List.filter_eq_self.mpr fun p hp => by
        rw [decide_eq_true_eq]
        rintro rfl
        exact n.1 hp
      rw [this]
      rfl
    | succ k =>
      have hk' : k < r.length := by simpa using hk
      have i := ih n.2 hk'
      have ne : a ≠ r[k] := fun e => n.1 (by rw [e]; exact List.getElem_mem hk')
      unfold noE at i ⊢
      rw [List.getElem_cons_succ, List.filter_cons_of_pos (by simpa using ne), ← i]
      rfl
theorem adj_no {ps : List (Nat × Nat)} {e : Nat × Nat} {h o : Nat} (a : adjB ps h o = true) (n : (min h o, max h o) ≠ e) : adjB (noE ps e) h o = true := by
  unfold adjB at a ⊢
  simp only [Bool.and_eq_true, decide_eq_true_eq] at a ⊢
  exact ⟨noE_mem.mpr ⟨a.1, n⟩, a.2⟩
/-- where neither end is lost none is lost -/
theorem none_lost {ps : List (Nat × Nat)} {e : Nat × Nat} (h1 : Led ps [] e.1 → Led (noE ps e) [] e.1) (h2 : Led ps [] e.2 → Led (noE ps e) [] e.2) : ∀ {k o : Nat}, o ∈ lvl ps [] k → Led (noE ps e) [] o
  | 0, o, h => by
    rw [lvl_0, List.mem_singleton] at h
    subst h
    exact led_0 _ _
  | k + 1, o, h => by
    obtain ⟨hl, -, -, x, hx, ha⟩ := (lvl_succ ps []).mp h
    by_cases q : (min x o, max x o) = e
    · have ho : Led ps [] o := ⟨k + 1, h⟩
      rcases Nat.le_total x o with z | z
      · have : o = e.2 := by rw [← q]; exact (Nat.max_eq_right z).symm
        rw [this] at ho ⊢
        exact h2 ho
      · have : o = e.1 := by rw [← q]; exact (Nat.min_eq_right z).symm
        rw [this] at ho ⊢
        exact h1 ho
    · exact led_next _ [] (none_lost h1 h2 hx) hl (adj_no ha q) (by simp)
/-- nearer ones are led to without that sight -/
theorem near_kept {ps : List (Nat × Nat)} {e : Nat × Nat} {x l : Nat} (hx : x ∈ lvl ps [] l) (he : e.1 = x ∨ e.2 = x) : ∀ {k o : Nat}, k < l → o ∈ lvl ps [] k → Led (noE ps e) [] o
  | 0, o, _, h => by
    rw [lvl_0, List.mem_singleton] at h
    subst h
    exact led_0 _ _
  | k + 1, o, hk, h => by
    obtain ⟨hl, -, -, y, hy, ha⟩ := (lvl_succ ps []).mp h
    refine led_next _ [] (near_kept hx he (by omega) hy) hl (adj_no ha fun q => ?_) (by simp)
    have : x = y ∨ x = o := by
      rw [← q] at he
      simp only at he
      omega
    rcases this with rfl | rfl
    · have := lvl_one ps [] hx hy
      omega
    · have := lvl_one ps [] hx h
      omega
/-- the lost end is behind the other one -/
theorem lost_behind {ps : List (Nat × Nat)} {e : Nat × Nat} {x p l : Nat} (hx : x ∈ lvl ps [] (l + 1)) (he : e.1 = x ∨ e.2 = x) (hlost : ¬ Led (noE ps e) [] x) (hp : p ∈ lvl ps [] l) (ha : adjB ps p x = true) : (min p x, max p x) = e := by
  refine Classical.byContradiction fun q => hlost ?_
  exact led_next _ [] (near_kept hx he (Nat.lt_succ_self l) hp) (lvl_lt ps [] hx) (adj_no ha q) (by simp)
/-! ### as truth values, as numbers -/
def ledB (ps : List (Nat × Nat)) (C : List Nat) (o : Nat) : Bool := (seen ps C 8).any fun x => decide (x = o)
def ledN (ps : List (Nat × Nat)) (C : List Nat) : Nat := (seen ps C 8).length
theorem ledB_iff {ps : List (Nat × Nat)} {C : List Nat} {o : Nat} : ledB ps C o = true ↔ Led ps C o := by
  unfold ledB
  rw [any_in, seen_iff]
  constructor
  · rintro ⟨j, -, h⟩
    exact ⟨j, h⟩
  · rintro ⟨j, h⟩
    refine ⟨j, Classical.byContradiction fun q => ?_, h⟩
    rw [lvl_nils ps C (lvl_8 ps C) (by omega)] at h
    cases h
theorem found_any {ps : List (Nat × Nat)} {C : List Nat} {F : List (Nat × Nat)} (hF : Found ps C F) (o : Nat) : ((F.map (·.1)).any fun x => decide (x = o)) = ledB ps C o := by
  have h : ((F.map (·.1)).any fun x => decide (x = o)) = true ↔ ledB ps C o = true := by rw [any_in, found_led ps C hF, ledB_iff]
  cases a : ((F.map (·.1)).any fun x => decide (x = o)) <;> cases b : ledB ps C o
  · rfl
  · rw [b] at h; rw [a] at h; exact absurd (h.mpr rfl) (by decide)
  · rw [b] at h; rw [a] at h; exact absurd (h.mp rfl) (by decide)
  · rfl
theorem found_len {ps : List (Nat × Nat)} {C : List Nat} {F : List (Nat × Nat)} (hF : Found ps C F) : F.length = ledN ps C := by
  have h := (hF.perm ps C (foundL_found ps C (K := 9) (lvl_nil ps C (lvl_8 ps C)) (by decide))).length_eq
  have e := congrArg List.length (foundL_keys ps C 8)
  rw [List.length_map] at e
  rw [h, e]
  rfl
/-- the level of a hill -/
def levelOf (ps : List (Nat × Nat)) (o : Nat) : Nat := ((List.range 9).filter fun k => (lvl ps [] k).any fun x => decide (x = o)).headD 0
theorem levelOf_mem {ps : List (Nat × Nat)} {o : Nat} (h : Led ps [] o) : o ∈ lvl ps [] (levelOf ps o) := by
  obtain ⟨j, hj⟩ := h
  have hj9 : j < 9 := Classical.byContradiction fun q => by
    rw [lvl_nils ps [] (lvl_8 ps []) (by omega)] at hj
    cases hj
  unfold levelOf
  have m : j ∈ (List.range 9).filter fun k => (lvl ps [] k).any fun x => decide (x = o) := List.mem_filter.mpr ⟨List.mem_range.mpr hj9, any_in.mpr hj⟩
  cases e : (List.range 9).filter fun k => (lvl ps [] k).any fun x => decide (x = o) with
  | nil => rw [e] at m; cases m
  | cons a r =>
    have : a ∈ (List.range 9).filter fun k => (lvl ps [] k).any fun x => decide (x = o) := by rw [e]; exact List.mem_cons_self
    exact any_in.mp (List.mem_filter.mp this).2
theorem levelOf_eq {ps : List (Nat × Nat)} {o k : Nat} (h : o ∈ lvl ps [] k) : levelOf ps o = k := lvl_one ps [] (levelOf_mem ⟨k, h⟩) h
theorem found_at {ps : List (Nat × Nat)} {F : List (Nat × Nat)} (hF : Found ps [] F) {o : Nat} (h : Led ps [] o) : (o, levelOf ps o) ∈ F := (hF.mem _).mpr (levelOf_mem h)
/-- those nearer by one -/
def nearer (ps : List (Nat × Nat)) (h : Nat) : List Nat := (nb ps h).filter fun o => decide (levelOf ps o + 1 = levelOf ps h)
theorem nearer_some {ps : List (Nat × Nat)} {h : Nat} (h0 : h ≠ 0) (hl : Led ps [] h) : ∃ o r, nearer ps h = o :: r := by
  have m := levelOf_mem hl
  cases e : levelOf ps h with
  | zero =>
    rw [e, lvl_0, List.mem_singleton] at m
    exact absurd m h0
  | succ k =>
    rw [e] at m
    obtain ⟨-, -, -, x, hx, ha⟩ := (lvl_succ ps []).mp m
    have : x ∈ nearer ps h := by
      unfold nearer
      rw [List.mem_filter, nb_mem, adjB_comm, decide_eq_true_eq, levelOf_eq hx, e]
      exact ⟨⟨lvl_lt ps [] hx, ha⟩, rfl⟩
    cases q : nearer ps h with
    | nil => rw [q] at this; cases this
    | cons o r => exact ⟨o, r, rfl⟩
/-- the tree of the nearest -/
def nearT (ps : List (Nat × Nat)) (n : Nat) : List Nat := (List.range n).map fun k => (nearer ps (k + 1)).headD 0
theorem led_lt {ps : List (Nat × Nat)} {m : Nat} (hm : 1 ≤ m) (hp : ∀ p ∈ ps, p.1 < p.2 ∧ p.2 < m) {k o : Nat} (h : o ∈ lvl ps [] k) : o < m := by
  cases k with
  | zero => rw [lvl_0, List.mem_singleton] at h; omega
  | succ k =>
    obtain ⟨-, -, -, x, -, ha⟩ := (lvl_succ ps []).mp h
    unfold adjB at ha
    simp only [Bool.and_eq_true, decide_eq_true_eq] at ha
    have := hp _ ha.1
    simp only at this
    omega
theorem led_all {ps : List (Nat × Nat)} {m : Nat} (hm : 1 ≤ m) (hp : ∀ p ∈ ps, p.1 < p.2 ∧ p.2 < m) (h : ¬ ledN ps [] < m) : ∀ o, o < m → Led ps [] o := by
  intro o ho
  rw [← ledB_iff]
  unfold ledB
  rw [any_in]
  refine Classical.byContradiction fun q => h ?_
  have n : (o :: seen ps [] 8).Nodup := List.nodup_cons.mpr ⟨q, seen_nodup ps [] 8⟩
  have := nodup_lt n (n := m) fun x hx => by
    rcases List.mem_cons.mp hx with rfl | hx
    · exact ho
    · obtain ⟨j, -, hj⟩ := (seen_iff ps []).mp hx
      exact led_lt hm hp hj
  rw [List.length_cons] at this
  unfold ledN
  omega
theorem nearT_succ (ps : List (Nat × Nat)) (i : Nat) : nearT ps (i + 1) = nearT ps i ++ [(nearer ps (i + 1)).headD 0] := by
  unfold nearT
  rw [List.range_succ, List.map_append]
  rfl
theorem nearT_length (ps : List (Nat × Nat)) (n : Nat) : (nearT ps n).length = n := by simp [nearT]
/-! ### the nearest tree is a tree, of the sights, each hill as near as can be -/
section
variable {ps : List (Nat × Nat)} {m : Nat} (hm : 2 ≤ m ∧ m ≤ 8) (hp : ∀ p ∈ ps, p.1 < p.2 ∧ p.2 < m) (hN : ¬ ledN ps [] < m)
include hm hp hN
theorem near_up {h : Nat} (h0 : h ≠ 0) (hh : h < m) : up (nearT ps (m - 1)) h ∈ nb ps h ∧ levelOf ps (up (nearT ps (m - 1)) h) + 1 = levelOf ps h := by
  have la := led_all (ps := ps) (m := m) (by omega) hp hN
  obtain ⟨o, r, e⟩ := nearer_some h0 (la h hh)
  have eu : up (nearT ps (m - 1)) h = o := by
    unfold up nearT
    rw [List.getD_eq_getElem?_getD, List.getElem?_map, List.getElem?_range (by omega)]
    have : h - 1 + 1 = h := by omega
    simp [this, e]
  have : o ∈ nearer ps h := by rw [e]; exact List.mem_cons_self
  unfold nearer at this
  rw [List.mem_filter, decide_eq_true_eq] at this
  rw [eu]
  exact this
theorem near_lt {h o : Nat} (hh : h < m) (ho : o ∈ nb ps h) : o < m := by
  have ha := ((nb_mem ps).mp ho).2
  unfold adjB at ha
  simp only [Bool.and_eq_true, decide_eq_true_eq] at ha
  have := hp _ ha.1
  simp only at this
  omega
theorem near_far : ∀ {l f h : Nat}, h < m → levelOf ps h = l → l ≤ f → farL (nearT ps (m - 1)) f h = some l
  | 0, f, h, hh, hl, _ => by
    have la := led_all (ps := ps) (m := m) (by omega) hp hN
    have := levelOf_mem (la h hh)
    rw [hl, lvl_0, List.mem_singleton] at this
    subst this
    cases f <;> rfl
  | l + 1, 0, h, _, _, hf => by omega
  | l + 1, f + 1, h, hh, hl, hf => by
    have h0 : h ≠ 0 := by
      rintro rfl
      have := levelOf_eq (ps := ps) (o := 0) (k := 0) (List.mem_singleton.mpr rfl)
      omega
    obtain ⟨u1, u2⟩ := near_up hm hp hN h0 hh
    have ih := near_far (l := l) (f := f) (near_lt hm hp hN hh u1) (by omega) (by omega)
    obtain ⟨k, rfl⟩ : ∃ k, h = k + 1 := ⟨h - 1, by omega⟩
    show (farL (nearT ps (m - 1)) f ((nearT ps (m - 1)).getD k 0)).map (· + 1) = _
    have e : (nearT ps (m - 1)).getD k 0 = up (nearT ps (m - 1)) (k + 1) := rfl
    rw [e, ih]
    rfl
theorem level_lt {h : Nat} (hh : h < m) : levelOf ps h < m := by
  have la := led_all (ps := ps) (m := m) (by omega) hp hN
  have hl := levelOf_mem (la h hh)
  have sm := seen_many ps [] (levelOf ps h) fun j hj e => by
    rw [lvl_nils ps [] e hj] at hl
    cases hl
  have := nodup_lt (seen_nodup ps [] (levelOf ps h)) (n := m) fun x hx => by
    obtain ⟨j, -, hj⟩ := (seen_iff ps []).mp hx
    exact led_lt (by omega) hp hj
  omega
theorem near_isT : IsT (nearT ps (m - 1)) := by
  refine ⟨by rw [nearT_length]; omega, by rw [nearT_length]; omega, fun x hx => ?_, fun h hh => ?_⟩
  · obtain ⟨k, hk, rfl⟩ := List.mem_map.mp hx
    have hk := List.mem_range.mp hk
    have la := led_all (ps := ps) (m := m) (by omega) hp hN
    obtain ⟨o, r, e⟩ := nearer_some (ps := ps) (h := k + 1) (by omega) (la (k + 1) (by omega))
    have : o ∈ nearer ps (k + 1) := by rw [e]; exact List.mem_cons_self
    unfold nearer at this
    have := near_lt hm hp hN (h := k + 1) (by omega) (List.mem_filter.mp this).1
    rw [e, List.headD_cons, nearT_length]
    omega
  · rw [nearT_length] at hh ⊢
    have := level_lt hm hp hN (h := h) (by omega)
    exact ⟨_, near_far hm hp hN (by omega) rfl (by omega)⟩
theorem near_rk {h : Nat} (hh : h < m) : rk (nearT ps (m - 1)) h = levelOf ps h := by
  unfold rk
  rw [nearT_length]
  have := level_lt hm hp hN hh
  rw [near_far hm hp hN hh rfl (by omega)]
  rfl
end
/-- whether a tree is of the sights -/
def ofB (ps : List (Nat × Nat)) (us : List Nat) : Bool := (List.range us.length).all fun k => decide ((min (k + 1) (us.getD k 0), max (k + 1) (us.getD k 0)) ∈ ps)
end Hil
namespace HL
open PySem PySem.Spec PyProof.Rows L2 Hil
def top (i : Nat) : Stmt := PySem.Challenge.pw_hillarms_k21_whole_nearest_tree.main.body.getD i (.Pass ⟨0, 0, 0, 0⟩)
def nms : List Str := (["_law_cell_at", "_law_mixed", "_law_draw", "_law_sights", "_law_near", "_law_away", "is_whole", "is_sight", "need_sights", "seen_from", "distances", "nearest_tree", "far_of", "is_tree", "unreached", "is_of", "_law_pick", "need_tree", "need_hill", "far", "law"] : List Str)
def gls : List Str := ["HILLS"]
def G : List PD := [.int 8]
@[simp] theorem gl0 : G[0]? = some (.int 8) := rfl
def xcs : List Str := ["NoTree", "NoHill", "NoSights"]
def fu : Nat := 100000
/-- _law_cell_at -/
def N0 : List Str := ["_law_script", "_law_k"]
def P0 : List Str := ["_law_script", "_law_k"]
def b0 : Ss := (.cons (.ife (.o2 .lt (.var 1) (.o1 .len (.var 0))) (.cons (.ret (.o2 .ix (.var 0) (.var 1))) .nil) .nil) (.cons (.ife (.o2 .eq (.var 0) (.lst .nil)) (.cons (.ret (.cst (.int 0))) .nil) .nil) (.cons (.ret (.o2 .add (.o2 .mul (.o2 .ix (.var 0) (.o2 .mod (.var 1) (.o1 .len (.var 0)))) (.cst (.int 31))) (.var 1))) .nil)))
/-- _law_mixed -/
def N1 : List Str := ["_law_script", "_law_k", "_law_many", "_law_drawn"]
def P1 : List Str := ["_law_script", "_law_k", "_law_many"]
def b1 : Ss := (.cons (.asg 3 (.o2 .mod (.o2 .add (.o2 .add (.o2 .mul (.call 0 (.cons (.var 0) (.cons (.var 1) .nil))) (.cst (.int 1103515245))) (.o2 .mul (.cst (.int 7919)) (.var 1))) (.cst (.int 12345))) (.cst (.int 2147483647)))) (.cons (.ret (.o2 .mod (.o2 .mod (.o2 .mod (.o2 .pow (.var 3) (.cst (.int 5))) (.cst (.int 2147483647))) (.cst (.int 999983))) (.var 2))) .nil))
/-- _law_draw -/
def N2 : List Str := ["_law_script", "_law_town", "_law_many"]
def P2 : List Str := ["_law_script", "_law_town", "_law_many"]
def b2 : Ss := (.cons (.app 1 (.cst (.int 0))) (.cons (.ret (.call 1 (.cons (.var 0) (.cons (.o1 .len (.var 1)) (.cons (.var 2) .nil))))) .nil))
/-- _law_sights -/
def N3 : List Str := ["_law_script", "_law_town", "_law_many", "_law_thick", "_law_some", "_law_one", "_law_other"]
def P3 : List Str := ["_law_script", "_law_town"]
def b3c0 : E := (.lc (.n 6) (.r2 (.o2 .add (.var 5) (.cst (.int 1))) (.var 2)) (.o2 .lt (.call 2 (.cons (.var 0) (.cons (.var 1) (.cons (.cst (.int 4)) .nil)))) (.var 3)) (.tup (.cons (.var 5) (.cons (.var 6) .nil))))
def b3l0 : Ss := (.cons (.ext 4 b3c0) .nil)
def b3 : Ss := (.cons (.asg 2 (.o2 .add (.cst (.int 2)) (.call 2 (.cons (.var 0) (.cons (.var 1) (.cons (.cst (.int 7)) .nil)))))) (.cons (.asg 3 (.o2 .add (.cst (.int 1)) (.call 2 (.cons (.var 0) (.cons (.var 1) (.cons (.cst (.int 3)) .nil)))))) (.cons (.asg 4 (.lst .nil)) (.cons (.fr (.n 5) (.r1 (.var 2)) b3l0) (.cons (.ret (.tup (.cons (.var 2) (.cons (.o1 .tuple (.var 4)) .nil)))) .nil)))))
/-- _law_near -/
def N4 : List Str := ["_law_some", "_law_hill", "_law_other"]
def P4 : List Str := ["_law_some", "_law_hill"]
def b4c0 : E := (.lc (.n 2) (.r1 (.cst (.int 8))) (.bop true (.cons (.o2 .inn (.tup (.cons (.o2 .min2 (.var 1) (.var 2)) (.cons (.o2 .max2 (.var 1) (.var 2)) .nil))) (.var 0)) (.cons (.o2 .ne (.var 2) (.var 1)) .nil))) (.var 2))
def b4 : Ss := (.cons (.ret b4c0) .nil)
/-- _law_away -/
def N5 : List Str := ["_law_some", "_law_barred", "_law_found", "_law_level", "_law_many", "_law_hill", "_law_later", "_law_other"]
def P5 : List Str := ["_law_some", "_law_barred"]
def b5c0 : E := (.lc (.n 7) (.ex (.call 4 (.cons (.var 0) (.cons (.var 5) .nil)))) (.bop true (.cons (.o2 .nin (.var 7) (.var 2)) (.cons (.o2 .nin (.var 7) (.var 1)) .nil))) (.var 7))
def b5l1 : Ss := (.cons (.ext 6 b5c0) .nil)
def b5l2 : Ss := (.cons (.six 2 (.var 5) (.var 4)) .nil)
def b5l0 : Ss := (.cons (.fr (.n 5) (.ex (.var 3)) b5l2) (.cons (.asg 6 (.lst .nil)) (.cons (.fr (.n 5) (.ex (.var 3)) b5l1) (.cons (.par [3, 4] (.cons (.o1 .sset (.var 6)) (.cons (.o2 .add (.var 4) (.cst (.int 1))) .nil))) .nil))))
def b5 : Ss := (.cons (.par [2, 3, 4] (.cons (.dic false) (.cons (.lst (.cons (.cst (.int 0)) .nil)) (.cons (.cst (.int 0)) .nil)))) (.cons (.whl (.o2 .ne (.var 3) (.lst .nil)) b5l0) (.cons (.ret (.var 2)) .nil)))
/-- is_whole -/
def N6 : List Str := ["thing", "low", "most"]
def P6 : List Str := ["thing", "low", "most"]
def b6 : Ss := (.cons (.ret (.bop true (.cons (.o1 (.isi .int) (.var 0)) (.cons (.o1 .not (.o1 (.isi .bool) (.var 0))) (.cons (.ch .le .le (.var 1) (.var 0) (.var 2)) .nil))))) .nil)
/-- is_sight -/
def N7 : List Str := ["many", "thing"]
def P7 : List Str := ["many", "thing"]
def b7 : Ss := (.cons (.ife (.bop false (.cons (.o1 .not (.o1 (.isi .tuple) (.var 1))) (.cons (.o2 .ne (.o1 .len (.var 1)) (.cst (.int 2))) .nil))) (.cons (.ret (.cst (.bool false))) .nil) .nil) (.cons (.ret (.bop true (.cons (.call 6 (.cons (.o2 .ix (.var 1) (.cst (.int 0))) (.cons (.cst (.int 0)) (.cons (.o2 .sub (.var 0) (.cst (.int 1))) .nil)))) (.cons (.call 6 (.cons (.o2 .ix (.var 1) (.cst (.int 1))) (.cons (.o2 .add (.o2 .ix (.var 1) (.cst (.int 0))) (.cst (.int 1))) (.cons (.o2 .sub (.var 0) (.cst (.int 1))) .nil)))) .nil)))) .nil))
/-- need_sights -/
def N8 : List Str := ["many", "thing", "sight", "one", "other"]
def P8 : List Str := ["many", "thing"]
def b8c0 : E := (.lc (.t (.cons (.n 3) (.cons (.n 4) .nil))) (.zp (.var 1) (.sl (.var 1) (.cst (.int 1)) (.cst .none))) (.cst (.bool true)) (.o2 .lt (.var 3) (.var 4)))
def b8c1 : E := (.lc (.n 2) (.ex (.var 1)) (.cst (.bool true)) (.call 7 (.cons (.var 0) (.cons (.var 2) .nil))))
def b8 : Ss := (.cons (.ife (.o1 .not (.call 6 (.cons (.var 0) (.cons (.cst (.int 2)) (.cons (.glo 0) .nil))))) (.cons (.rai 1) .nil) .nil) (.cons (.ife (.bop false (.cons (.o1 .not (.o1 (.isi .tuple) (.var 1))) (.cons (.o1 .not (.o1 .all b8c1)) .nil))) (.cons (.rai 2) .nil) .nil) (.cons (.ife (.o1 .not (.o1 .all b8c0)) (.cons (.rai 2) .nil) .nil) .nil)))
/-- seen_from -/
def N9 : List Str := ["some", "hill", "sight"]
def P9 : List Str := ["some", "hill"]
def b9c0 : E := (.lc (.n 2) (.ex (.var 0)) (.o2 .inn (.var 1) (.var 2)) (.o2 .sub (.o1 .sum (.var 2)) (.var 1)))
def b9 : Ss := (.cons (.ret (.o1 .sorted b9c0)) .nil)
/-- distances -/
def N10 : List Str := ["some", "start", "closed", "found", "row", "hill", "other"]
def P10 : List Str := ["some", "start", "closed"]
def b10l1 : Ss := (.cons (.ife (.bop true (.cons (.o2 .nin (.var 6) (.var 3)) (.cons (.o2 .nin (.var 6) (.var 2)) .nil))) (.cons (.six 3 (.var 6) (.o2 .add (.o2 .ix (.var 3) (.var 5)) (.cst (.int 1)))) (.cons (.app 4 (.var 6)) .nil)) .nil) .nil)
def b10l0 : Ss := (.cons (.asg 5 (.popL 4 (.cst (.int 0)))) (.cons (.fr (.n 6) (.ex (.call 9 (.cons (.var 0) (.cons (.var 5) .nil)))) b10l1) .nil))
def b10 : Ss := (.cons (.asg 3 (.dic1 1 0)) (.cons (.asg 4 (.lst (.cons (.var 1) .nil))) (.cons (.whl (.o2 .ne (.var 4) (.lst .nil)) b10l0) (.cons (.ret (.var 3)) .nil))))
/-- nearest_tree -/
def N11 : List Str := ["many", "some", "found", "made", "hill", "other"]
def P11 : List Str := ["many", "some"]
def b11c0 : E := (.lc (.n 5) (.ex (.call 9 (.cons (.var 1) (.cons (.var 4) .nil)))) (.o2 .eq (.o2 .ix (.var 2) (.var 5)) (.o2 .sub (.o2 .ix (.var 2) (.var 4)) (.cst (.int 1)))) (.var 5))
def b11l0 : Ss := (.cons (.app 3 (.o2 .ix b11c0 (.cst (.int 0)))) .nil)
def b11 : Ss := (.cons (.ex (.call 8 (.cons (.var 0) (.cons (.var 1) .nil)))) (.cons (.asg 2 (.call 10 (.cons (.var 1) (.cons (.cst (.int 0)) (.cons (.lst .nil) .nil))))) (.cons (.ife (.o2 .lt (.o1 .len (.var 2)) (.var 0)) (.cons (.ret (.cst .none)) .nil) .nil) (.cons (.asg 3 (.lst .nil)) (.cons (.fr (.n 4) (.r2 (.cst (.int 1)) (.var 0)) b11l0) (.cons (.ret (.o1 .tuple (.var 3))) .nil))))))
/-- far_of -/
def N12 : List Str := ["tree", "hill", "many"]
def P12 : List Str := ["tree", "hill"]
def b12l0 : Ss := (.cons (.asg 1 (.o2 .ix (.var 0) (.o2 .sub (.var 1) (.cst (.int 1))))) (.cons (.asg 2 (.o2 .add (.var 2) (.cst (.int 1)))) .nil))
def b12 : Ss := (.cons (.asg 2 (.cst (.int 0))) (.cons (.whl (.bop true (.cons (.o2 .ne (.var 1) (.cst (.int 0))) (.cons (.o2 .le (.var 2) (.o1 .len (.var 0))) .nil))) b12l0) (.cons (.ret (.ite (.o2 .eq (.var 1) (.cst (.int 0))) (.var 2) (.cst .none))) .nil)))
/-- is_tree -/
def N13 : List Str := ["thing", "hill"]
def P13 : List Str := ["thing"]
def b13c0 : E := (.lc (.n 1) (.r1 (.o2 .add (.o1 .len (.var 0)) (.cst (.int 1)))) (.cst (.bool true)) (.o1 .nnon (.call 12 (.cons (.var 0) (.cons (.var 1) .nil)))))
def b13c1 : E := (.lc (.n 1) (.ex (.var 0)) (.cst (.bool true)) (.call 6 (.cons (.var 1) (.cons (.cst (.int 0)) (.cons (.o1 .len (.var 0)) .nil)))))
def b13 : Ss := (.cons (.ife (.bop false (.cons (.o1 .not (.o1 (.isi .tuple) (.var 0))) (.cons (.o1 .not (.ch .le .lt (.cst (.int 1)) (.o1 .len (.var 0)) (.glo 0))) .nil))) (.cons (.ret (.cst (.bool false))) .nil) .nil) (.cons (.ife (.o1 .not (.o1 .all b13c1)) (.cons (.ret (.cst (.bool false))) .nil) .nil) (.cons (.ret (.o1 .all b13c0)) .nil)))
/-- unreached -/
def N14 : List Str := ["many", "some", "found", "hill"]
def P14 : List Str := ["many", "some"]
def b14c0 : E := (.lc (.n 3) (.r1 (.var 0)) (.o2 .nin (.var 3) (.var 2)) (.var 3))
def b14 : Ss := (.cons (.ex (.call 8 (.cons (.var 0) (.cons (.var 1) .nil)))) (.cons (.asg 2 (.call 10 (.cons (.var 1) (.cons (.cst (.int 0)) (.cons (.lst .nil) .nil))))) (.cons (.ret b14c0) .nil)))
/-- is_of -/
def N15 : List Str := ["many", "some", "tree", "hill", "first"]
def P15 : List Str := ["many", "some", "tree"]
def b15c0 : E := (.lc (.t (.cons (.n 3) (.cons (.n 4) .nil))) (.en (.var 2)) (.cst (.bool true)) (.o2 .inn (.tup (.cons (.o2 .min2 (.o2 .add (.var 3) (.cst (.int 1))) (.var 4)) (.cons (.o2 .max2 (.o2 .add (.var 3) (.cst (.int 1))) (.var 4)) .nil))) (.var 1)))
def b15 : Ss := (.cons (.ex (.call 8 (.cons (.var 0) (.cons (.var 1) .nil)))) (.cons (.ife (.bop false (.cons (.o1 .not (.call 13 (.cons (.var 2) .nil))) (.cons (.o2 .ne (.o1 .len (.var 2)) (.o2 .sub (.var 0) (.cst (.int 1)))) .nil))) (.cons (.ret (.cst (.bool false))) .nil) .nil) (.cons (.ret (.o1 .all b15c0)) .nil)))
/-- _law_pick -/
def N16 : List Str := ["_law_script", "_law_town", "_law_some"]
def P16 : List Str := ["_law_script", "_law_town", "_law_some"]
def b16 : Ss := (.cons (.ret (.o2 .ix (.var 2) (.call 2 (.cons (.var 0) (.cons (.var 1) (.cons (.o1 .len (.var 2)) .nil)))))) .nil)
/-- need_tree -/
def N17 : List Str := ["thing"]
def P17 : List Str := ["thing"]
def b17 : Ss := (.cons (.ife (.o1 .not (.call 13 (.cons (.var 0) .nil))) (.cons (.rai 0) .nil) .nil) .nil)
/-- need_hill -/
def N18 : List Str := ["tree", "thing"]
def P18 : List Str := ["tree", "thing"]
def b18 : Ss := (.cons (.ex (.call 17 (.cons (.var 0) .nil))) (.cons (.ife (.o1 .not (.call 6 (.cons (.var 1) (.cons (.cst (.int 0)) (.cons (.o1 .len (.var 0)) .nil))))) (.cons (.rai 1) .nil) .nil) .nil))
/-- far -/
def N19 : List Str := ["tree", "hill"]
def P19 : List Str := ["tree", "hill"]
def b19 : Ss := (.cons (.ex (.call 18 (.cons (.var 0) (.cons (.var 1) .nil)))) (.cons (.ret (.call 12 (.cons (.var 0) (.cons (.var 1) .nil)))) .nil))
/-- law -/
def N20 : List Str := ["_law_script", "_law_town", "_law_found", "_law_tree", "_law_due", "_law_hill", "_law_other", "_law_good", "_law_many", "_law_some"]
def P20 : List Str := ["_law_script"]
def b20l0 : Ss := (.cons (.asg 7 (.bop true (.cons (.var 7) (.cons (.o2 .inn (.o2 .ix (.var 6) (.o2 .sub (.var 5) (.cst (.int 1)))) (.call 4 (.cons (.var 9) (.cons (.var 5) .nil)))) .nil)))) .nil)
def b20c0 : E := (.lc (.n 5) (.r2 (.cst (.int 1)) (.var 8)) (.cst (.bool true)) (.call 2 (.cons (.var 0) (.cons (.var 1) (.cons (.var 8) .nil)))))
def b20c1 : E := (.lc (.n 5) (.r1 (.var 8)) (.o2 .ne (.call 19 (.cons (.var 3) (.cons (.var 5) .nil))) (.o2 .ix (.var 2) (.var 5))) (.var 5))
def b20c2 : E := (.lc (.n 6) (.ex (.call 4 (.cons (.var 9) (.cons (.var 5) .nil)))) (.o2 .eq (.o2 .ix (.var 2) (.var 6)) (.o2 .sub (.o2 .ix (.var 2) (.var 5)) (.cst (.int 1)))) (.var 6))
def b20l1 : Ss := (.cons (.app 4 (.o1 .min b20c2)) .nil)
def b20c3 : E := (.lc (.n 5) (.r1 (.var 8)) (.o2 .nin (.var 5) (.var 2)) (.var 5))
def b20 : Ss := (.cons (.asg 1 (.lst .nil)) (.cons (.asgT (.t (.cons (.n 8) (.cons (.n 9) .nil))) (.call 3 (.cons (.var 0) (.cons (.var 1) .nil)))) (.cons (.asg 2 (.call 5 (.cons (.var 9) (.cons (.lst .nil) .nil)))) (.cons (.ife (.o2 .ne (.call 14 (.cons (.var 8) (.cons (.var 9) .nil))) b20c3) (.cons (.ret (.cst (.bool false))) .nil) .nil) (.cons (.asg 3 (.call 11 (.cons (.var 8) (.cons (.var 9) .nil)))) (.cons (.ife (.o2 .lt (.o1 .len (.var 2)) (.var 8)) (.cons (.ret (.o1 .non (.var 3))) .nil) .nil) (.cons (.asg 4 (.lst .nil)) (.cons (.fr (.n 5) (.r2 (.cst (.int 1)) (.var 8)) b20l1) (.cons (.ife (.bop false (.cons (.o2 .ne (.var 3) (.o1 .tuple (.var 4))) (.cons (.o1 .not (.call 13 (.cons (.var 3) .nil))) (.cons (.o2 .isntB (.call 15 (.cons (.var 8) (.cons (.var 9) (.cons (.var 3) .nil)))) (.cst (.bool true))) .nil)))) (.cons (.ret (.cst (.bool false))) .nil) .nil) (.cons (.ife (.o2 .ne b20c1 (.lst .nil)) (.cons (.ret (.cst (.bool false))) .nil) .nil) (.cons (.asg 6 (.o1 .tuple b20c0)) (.cons (.asg 7 (.call 13 (.cons (.var 6) .nil))) (.cons (.fr (.n 5) (.r2 (.cst (.int 1)) (.var 8)) b20l0) (.cons (.ife (.bop false (.cons (.o2 .ne (.call 15 (.cons (.var 8) (.cons (.var 9) (.cons (.var 6) .nil)))) (.var 7)) (.cons (.o2 .isntB (.call 15 (.cons (.var 8) (.cons (.var 9) (.cons (.o1 .list (.var 3)) .nil)))) (.cst (.bool false))) .nil))) (.cons (.ret (.cst (.bool false))) .nil) .nil) (.cons (.ret (.o2 .isB (.call 15 (.cons (.var 8) (.cons (.var 9) (.cons (.call 16 (.cons (.var 0) (.cons (.var 1) (.cons (.lst (.cons (.cst .none) (.cons (.cst (.int 5)) (.cons (.tup .nil) (.cons (.o2 .add (.var 3) (.tup (.cons (.cst (.int 0)) .nil))) (.cons (.sl (.var 3) (.cst (.int 1)) (.cst .none)) (.cons (.cst (.str "0")) .nil))))))) .nil)))) .nil)))) (.cst (.bool false)))) .nil)))))))))))))))
def Γ0 : List Fn := []
noncomputable def f0 : Fn := sealed (mkFn Γ0 G fu "_law_cell_at" 2 2 none b0)
theorem e0f : f0 = mkFn Γ0 G fu "_law_cell_at" 2 2 none b0 := sealed_eq _
@[simp] theorem mu0 : f0.mu = none := by rw [e0f] <;> rfl
noncomputable def Γ1 : List Fn := Γ0 ++ [f0]
noncomputable def f1 : Fn := sealed (mkFn Γ1 G fu "_law_mixed" 3 4 none b1)
theorem e1f : f1 = mkFn Γ1 G fu "_law_mixed" 3 4 none b1 := sealed_eq _
@[simp] theorem mu1 : f1.mu = none := by rw [e1f] <;> rfl
noncomputable def Γ2 : List Fn := Γ1 ++ [f1]
noncomputable def f2 : Fn := sealed (mkFn Γ2 G fu "_law_draw" 3 3 (some 1) b2)
theorem e2f : f2 = mkFn Γ2 G fu "_law_draw" 3 3 (some 1) b2 := sealed_eq _
@[simp] theorem mu2 : f2.mu = some 1 := by rw [e2f] <;> rfl
noncomputable def Γ3 : List Fn := Γ2 ++ [f2]
noncomputable def f3 : Fn := sealed (mkFn Γ3 G fu "_law_sights" 2 7 (some 1) b3)
theorem e3f : f3 = mkFn Γ3 G fu "_law_sights" 2 7 (some 1) b3 := sealed_eq _
@[simp] theorem mu3 : f3.mu = some 1 := by rw [e3f] <;> rfl
noncomputable def Γ4 : List Fn := Γ3 ++ [f3]
noncomputable def f4 : Fn := sealed (mkFn Γ4 G fu "_law_near" 2 3 none b4)
theorem e4f : f4 = mkFn Γ4 G fu "_law_near" 2 3 none b4 := sealed_eq _
@[simp] theorem mu4 : f4.mu = none := by rw [e4f] <;> rfl
noncomputable def Γ5 : List Fn := Γ4 ++ [f4]
noncomputable def f5 : Fn := sealed (mkFn Γ5 G fu "_law_away" 2 8 none b5)
theorem e5f : f5 = mkFn Γ5 G fu "_law_away" 2 8 none b5 := sealed_eq _
@[simp] theorem mu5 : f5.mu = none := by rw [e5f] <;> rfl
noncomputable def Γ6 : List Fn := Γ5 ++ [f5]
noncomputable def f6 : Fn := sealed (mkFn Γ6 G fu "is_whole" 3 3 none b6)
theorem e6f : f6 = mkFn Γ6 G fu "is_whole" 3 3 none b6 := sealed_eq _
@[simp] theorem mu6 : f6.mu = none := by rw [e6f] <;> rfl
noncomputable def Γ7 : List Fn := Γ6 ++ [f6]
noncomputable def f7 : Fn := sealed (mkFn Γ7 G fu "is_sight" 2 2 none b7)
theorem e7f : f7 = mkFn Γ7 G fu "is_sight" 2 2 none b7 := sealed_eq _
@[simp] theorem mu7 : f7.mu = none := by rw [e7f] <;> rfl
noncomputable def Γ8 : List Fn := Γ7 ++ [f7]
noncomputable def f8 : Fn := sealed (mkFn Γ8 G fu "need_sights" 2 5 none b8)
theorem e8f : f8 = mkFn Γ8 G fu "need_sights" 2 5 none b8 := sealed_eq _
@[simp] theorem mu8 : f8.mu = none := by rw [e8f] <;> rfl
noncomputable def Γ9 : List Fn := Γ8 ++ [f8]
noncomputable def f9 : Fn := sealed (mkFn Γ9 G fu "seen_from" 2 3 none b9)
theorem e9f : f9 = mkFn Γ9 G fu "seen_from" 2 3 none b9 := sealed_eq _
@[simp] theorem mu9 : f9.mu = none := by rw [e9f] <;> rfl
noncomputable def Γ10 : List Fn := Γ9 ++ [f9]
noncomputable def f10 : Fn := sealed (mkFn Γ10 G fu "distances" 3 7 none b10)
theorem e10f : f10 = mkFn Γ10 G fu "distances" 3 7 none b10 := sealed_eq _
@[simp] theorem mu10 : f10.mu = none := by rw [e10f] <;> rfl
noncomputable def Γ11 : List Fn := Γ10 ++ [f10]
noncomputable def f11 : Fn := sealed (mkFn Γ11 G fu "nearest_tree" 2 6 none b11)
theorem e11f : f11 = mkFn Γ11 G fu "nearest_tree" 2 6 none b11 := sealed_eq _
@[simp] theorem mu11 : f11.mu = none := by rw [e11f] <;> rfl
noncomputable def Γ12 : List Fn := Γ11 ++ [f11]
noncomputable def f12 : Fn := sealed (mkFn Γ12 G fu "far_of" 2 3 none b12)
theorem e12f : f12 = mkFn Γ12 G fu "far_of" 2 3 none b12 := sealed_eq _
@[simp] theorem mu12 : f12.mu = none := by rw [e12f] <;> rfl
noncomputable def Γ13 : List Fn := Γ12 ++ [f12]
noncomputable def f13 : Fn := sealed (mkFn Γ13 G fu "is_tree" 1 2 none b13)
theorem e13f : f13 = mkFn Γ13 G fu "is_tree" 1 2 none b13 := sealed_eq _
@[simp] theorem mu13 : f13.mu = none := by rw [e13f] <;> rfl
noncomputable def Γ14 : List Fn := Γ13 ++ [f13]
noncomputable def f14 : Fn := sealed (mkFn Γ14 G fu "unreached" 2 4 none b14)
theorem e14f : f14 = mkFn Γ14 G fu "unreached" 2 4 none b14 := sealed_eq _
@[simp] theorem mu14 : f14.mu = none := by rw [e14f] <;> rfl
noncomputable def Γ15 : List Fn := Γ14 ++ [f14]
noncomputable def f15 : Fn := sealed (mkFn Γ15 G fu "is_of" 3 5 none b15)
theorem e15f : f15 = mkFn Γ15 G fu "is_of" 3 5 none b15 := sealed_eq _
@[simp] theorem mu15 : f15.mu = none := by rw [e15f] <;> rfl
noncomputable def Γ16 : List Fn := Γ15 ++ [f15]
noncomputable def f16 : Fn := sealed (mkFn Γ16 G fu "_law_pick" 3 3 (some 1) b16)
theorem e16f : f16 = mkFn Γ16 G fu "_law_pick" 3 3 (some 1) b16 := sealed_eq _
@[simp] theorem mu16 : f16.mu = some 1 := by rw [e16f] <;> rfl
noncomputable def Γ17 : List Fn := Γ16 ++ [f16]
noncomputable def f17 : Fn := sealed (mkFn Γ17 G fu "need_tree" 1 1 none b17)
theorem e17f : f17 = mkFn Γ17 G fu "need_tree" 1 1 none b17 := sealed_eq _
@[simp] theorem mu17 : f17.mu = none := by rw [e17f] <;> rfl
noncomputable def Γ18 : List Fn := Γ17 ++ [f17]
noncomputable def f18 : Fn := sealed (mkFn Γ18 G fu "need_hill" 2 2 none b18)
theorem e18f : f18 = mkFn Γ18 G fu "need_hill" 2 2 none b18 := sealed_eq _
@[simp] theorem mu18 : f18.mu = none := by rw [e18f] <;> rfl
noncomputable def Γ19 : List Fn := Γ18 ++ [f18]
noncomputable def f19 : Fn := sealed (mkFn Γ19 G fu "far" 2 2 none b19)
theorem e19f : f19 = mkFn Γ19 G fu "far" 2 2 none b19 := sealed_eq _
@[simp] theorem mu19 : f19.mu = none := by rw [e19f] <;> rfl
noncomputable def Γ20 : List Fn := Γ19 ++ [f19]
noncomputable def f20 : Fn := sealed (mkFn Γ20 G fu "law" 1 10 none b20)
theorem e20f : f20 = mkFn Γ20 G fu "law" 1 10 none b20 := sealed_eq _
@[simp] theorem mu20 : f20.mu = none := by rw [e20f] <;> rfl
noncomputable def Γ21 : List Fn := Γ20 ++ [f20]
/-! ### twins that can be reckoned -/
def Δ0 : List Fn := []
theorem gd0 : Γ0 = Δ0 := rfl
def g0 : Fn := mkFn Δ0 G fu "_law_cell_at" 2 2 none b0
theorem fg0 : f0 = g0 := by rw [e0f, gd0]; rfl
def Δ1 : List Fn := Δ0 ++ [g0]
theorem gd1 : Γ1 = Δ1 := by show Γ0 ++ [f0] = Δ0 ++ [g0]; rw [gd0, fg0]
def g1 : Fn := mkFn Δ1 G fu "_law_mixed" 3 4 none b1
theorem fg1 : f1 = g1 := by rw [e1f, gd1]; rfl
def Δ2 : List Fn := Δ1 ++ [g1]
theorem gd2 : Γ2 = Δ2 := by show Γ1 ++ [f1] = Δ1 ++ [g1]; rw [gd1, fg1]
def g2 : Fn := mkFn Δ2 G fu "_law_draw" 3 3 (some 1) b2
theorem fg2 : f2 = g2 := by rw [e2f, gd2]; rfl
def Δ3 : List Fn := Δ2 ++ [g2]
theorem gd3 : Γ3 = Δ3 := by show Γ2 ++ [f2] = Δ2 ++ [g2]; rw [gd2, fg2]
def g3 : Fn := mkFn Δ3 G fu "_law_sights" 2 7 (some 1) b3
theorem fg3 : f3 = g3 := by rw [e3f, gd3]; rfl
def Δ4 : List Fn := Δ3 ++ [g3]
theorem gd4 : Γ4 = Δ4 := by show Γ3 ++ [f3] = Δ3 ++ [g3]; rw [gd3, fg3]
def g4 : Fn := mkFn Δ4 G fu "_law_near" 2 3 none b4
theorem fg4 : f4 = g4 := by rw [e4f, gd4]; rfl
def Δ5 : List Fn := Δ4 ++ [g4]
theorem gd5 : Γ5 = Δ5 := by show Γ4 ++ [f4] = Δ4 ++ [g4]; rw [gd4, fg4]
def g5 : Fn := mkFn Δ5 G fu "_law_away" 2 8 none b5
theorem fg5 : f5 = g5 := by rw [e5f, gd5]; rfl
def Δ6 : List Fn := Δ5 ++ [g5]
theorem gd6 : Γ6 = Δ6 := by show Γ5 ++ [f5] = Δ5 ++ [g5]; rw [gd5, fg5]
def g6 : Fn := mkFn Δ6 G fu "is_whole" 3 3 none b6
theorem fg6 : f6 = g6 := by rw [e6f, gd6]; rfl
def Δ7 : List Fn := Δ6 ++ [g6]
theorem gd7 : Γ7 = Δ7 := by show Γ6 ++ [f6] = Δ6 ++ [g6]; rw [gd6, fg6]
def g7 : Fn := mkFn Δ7 G fu "is_sight" 2 2 none b7
theorem fg7 : f7 = g7 := by rw [e7f, gd7]; rfl
def Δ8 : List Fn := Δ7 ++ [g7]
theorem gd8 : Γ8 = Δ8 := by show Γ7 ++ [f7] = Δ7 ++ [g7]; rw [gd7, fg7]
def g8 : Fn := mkFn Δ8 G fu "need_sights" 2 5 none b8
theorem fg8 : f8 = g8 := by rw [e8f, gd8]; rfl
def Δ9 : List Fn := Δ8 ++ [g8]
theorem gd9 : Γ9 = Δ9 := by show Γ8 ++ [f8] = Δ8 ++ [g8]; rw [gd8, fg8]
def g9 : Fn := mkFn Δ9 G fu "seen_from" 2 3 none b9
theorem fg9 : f9 = g9 := by rw [e9f, gd9]; rfl
def Δ10 : List Fn := Δ9 ++ [g9]
theorem gd10 : Γ10 = Δ10 := by show Γ9 ++ [f9] = Δ9 ++ [g9]; rw [gd9, fg9]
def g10 : Fn := mkFn Δ10 G fu "distances" 3 7 none b10
theorem fg10 : f10 = g10 := by rw [e10f, gd10]; rfl
def Δ11 : List Fn := Δ10 ++ [g10]
theorem gd11 : Γ11 = Δ11 := by show Γ10 ++ [f10] = Δ10 ++ [g10]; rw [gd10, fg10]
def g11 : Fn := mkFn Δ11 G fu "nearest_tree" 2 6 none b11
theorem fg11 : f11 = g11 := by rw [e11f, gd11]; rfl
def Δ12 : List Fn := Δ11 ++ [g11]
theorem gd12 : Γ12 = Δ12 := by show Γ11 ++ [f11] = Δ11 ++ [g11]; rw [gd11, fg11]
def g12 : Fn := mkFn Δ12 G fu "far_of" 2 3 none b12
theorem fg12 : f12 = g12 := by rw [e12f, gd12]; rfl
def Δ13 : List Fn := Δ12 ++ [g12]
theorem gd13 : Γ13 = Δ13 := by show Γ12 ++ [f12] = Δ12 ++ [g12]; rw [gd12, fg12]
def g13 : Fn := mkFn Δ13 G fu "is_tree" 1 2 none b13
theorem fg13 : f13 = g13 := by rw [e13f, gd13]; rfl
def Δ14 : List Fn := Δ13 ++ [g13]
theorem gd14 : Γ14 = Δ14 := by show Γ13 ++ [f13] = Δ13 ++ [g13]; rw [gd13, fg13]
def g14 : Fn := mkFn Δ14 G fu "unreached" 2 4 none b14
theorem fg14 : f14 = g14 := by rw [e14f, gd14]; rfl
def Δ15 : List Fn := Δ14 ++ [g14]
theorem gd15 : Γ15 = Δ15 := by show Γ14 ++ [f14] = Δ14 ++ [g14]; rw [gd14, fg14]
def g15 : Fn := mkFn Δ15 G fu "is_of" 3 5 none b15
theorem fg15 : f15 = g15 := by rw [e15f, gd15]; rfl
def Δ16 : List Fn := Δ15 ++ [g15]
theorem gd16 : Γ16 = Δ16 := by show Γ15 ++ [f15] = Δ15 ++ [g15]; rw [gd15, fg15]
def g16 : Fn := mkFn Δ16 G fu "_law_pick" 3 3 (some 1) b16
theorem fg16 : f16 = g16 := by rw [e16f, gd16]; rfl
def Δ17 : List Fn := Δ16 ++ [g16]
theorem gd17 : Γ17 = Δ17 := by show Γ16 ++ [f16] = Δ16 ++ [g16]; rw [gd16, fg16]
def g17 : Fn := mkFn Δ17 G fu "need_tree" 1 1 none b17
theorem fg17 : f17 = g17 := by rw [e17f, gd17]; rfl
def Δ18 : List Fn := Δ17 ++ [g17]
theorem gd18 : Γ18 = Δ18 := by show Γ17 ++ [f17] = Δ17 ++ [g17]; rw [gd17, fg17]
def g18 : Fn := mkFn Δ18 G fu "need_hill" 2 2 none b18
theorem fg18 : f18 = g18 := by rw [e18f, gd18]; rfl
def Δ19 : List Fn := Δ18 ++ [g18]
theorem gd19 : Γ19 = Δ19 := by show Γ18 ++ [f18] = Δ18 ++ [g18]; rw [gd18, fg18]
def g19 : Fn := mkFn Δ19 G fu "far" 2 2 none b19
theorem fg19 : f19 = g19 := by rw [e19f, gd19]; rfl
def Δ20 : List Fn := Δ19 ++ [g19]
theorem gd20 : Γ20 = Δ20 := by show Γ19 ++ [f19] = Δ19 ++ [g19]; rw [gd19, fg19]
def g20 : Fn := mkFn Δ20 G fu "law" 1 10 none b20
theorem fg20 : f20 = g20 := by rw [e20f, gd20]; rfl
def Δ21 : List Fn := Δ20 ++ [g20]
theorem gd21 : Γ21 = Δ21 := by show Γ20 ++ [f20] = Δ20 ++ [g20]; rw [gd20, fg20]
/-! ### calls -/
@[simp] theorem k1_0 (es : Es) (ρ : Env') : evZ Γ1 G (.call 0 es) ρ = (evsZ Γ1 G none 0 es ρ).bind fun r ρ1 => goF f0 r.1 ρ1 := ev_call0 rfl mu0 es ρ
@[simp] theorem k2_1 (es : Es) (ρ : Env') : evZ Γ2 G (.call 1 es) ρ = (evsZ Γ2 G none 0 es ρ).bind fun r ρ1 => goF f1 r.1 ρ1 := ev_call0 rfl mu1 es ρ
@[simp] theorem k3_2 (es : Es) (ρ : Env') : evZ Γ3 G (.call 2 es) ρ = (evsZ Γ3 G (some 1) 0 es ρ).bind fun r ρ1 => goM f2 1 r.1 r.2 ρ1 := ev_callM rfl mu2 es ρ
@[simp] theorem k5_4 (es : Es) (ρ : Env') : evZ Γ5 G (.call 4 es) ρ = (evsZ Γ5 G none 0 es ρ).bind fun r ρ1 => goF f4 r.1 ρ1 := ev_call0 rfl mu4 es ρ
@[simp] theorem k7_6 (es : Es) (ρ : Env') : evZ Γ7 G (.call 6 es) ρ = (evsZ Γ7 G none 0 es ρ).bind fun r ρ1 => goF f6 r.1 ρ1 := ev_call0 rfl mu6 es ρ
@[simp] theorem k8_6 (es : Es) (ρ : Env') : evZ Γ8 G (.call 6 es) ρ = (evsZ Γ8 G none 0 es ρ).bind fun r ρ1 => goF f6 r.1 ρ1 := ev_call0 rfl mu6 es ρ
@[simp] theorem k8_7 (es : Es) (ρ : Env') : evZ Γ8 G (.call 7 es) ρ = (evsZ Γ8 G none 0 es ρ).bind fun r ρ1 => goF f7 r.1 ρ1 := ev_call0 rfl mu7 es ρ
@[simp] theorem k10_9 (es : Es) (ρ : Env') : evZ Γ10 G (.call 9 es) ρ = (evsZ Γ10 G none 0 es ρ).bind fun r ρ1 => goF f9 r.1 ρ1 := ev_call0 rfl mu9 es ρ
@[simp] theorem k11_8 (es : Es) (ρ : Env') : evZ Γ11 G (.call 8 es) ρ = (evsZ Γ11 G none 0 es ρ).bind fun r ρ1 => goF f8 r.1 ρ1 := ev_call0 rfl mu8 es ρ
@[simp] theorem k11_9 (es : Es) (ρ : Env') : evZ Γ11 G (.call 9 es) ρ = (evsZ Γ11 G none 0 es ρ).bind fun r ρ1 => goF f9 r.1 ρ1 := ev_call0 rfl mu9 es ρ
@[simp] theorem k11_10 (es : Es) (ρ : Env') : evZ Γ11 G (.call 10 es) ρ = (evsZ Γ11 G none 0 es ρ).bind fun r ρ1 => goF f10 r.1 ρ1 := ev_call0 rfl mu10 es ρ
@[simp] theorem k13_6 (es : Es) (ρ : Env') : evZ Γ13 G (.call 6 es) ρ = (evsZ Γ13 G none 0 es ρ).bind fun r ρ1 => goF f6 r.1 ρ1 := ev_call0 rfl mu6 es ρ
@[simp] theorem k13_12 (es : Es) (ρ : Env') : evZ Γ13 G (.call 12 es) ρ = (evsZ Γ13 G none 0 es ρ).bind fun r ρ1 => goF f12 r.1 ρ1 := ev_call0 rfl mu12 es ρ
@[simp] theorem k14_8 (es : Es) (ρ : Env') : evZ Γ14 G (.call 8 es) ρ = (evsZ Γ14 G none 0 es ρ).bind fun r ρ1 => goF f8 r.1 ρ1 := ev_call0 rfl mu8 es ρ
@[simp] theorem k14_10 (es : Es) (ρ : Env') : evZ Γ14 G (.call 10 es) ρ = (evsZ Γ14 G none 0 es ρ).bind fun r ρ1 => goF f10 r.1 ρ1 := ev_call0 rfl mu10 es ρ
@[simp] theorem k15_8 (es : Es) (ρ : Env') : evZ Γ15 G (.call 8 es) ρ = (evsZ Γ15 G none 0 es ρ).bind fun r ρ1 => goF f8 r.1 ρ1 := ev_call0 rfl mu8 es ρ
@[simp] theorem k15_13 (es : Es) (ρ : Env') : evZ Γ15 G (.call 13 es) ρ = (evsZ Γ15 G none 0 es ρ).bind fun r ρ1 => goF f13 r.1 ρ1 := ev_call0 rfl mu13 es ρ
@[simp] theorem k16_2 (es : Es) (ρ : Env') : evZ Γ16 G (.call 2 es) ρ = (evsZ Γ16 G (some 1) 0 es ρ).bind fun r ρ1 => goM f2 1 r.1 r.2 ρ1 := ev_callM rfl mu2 es ρ
@[simp] theorem k17_13 (es : Es) (ρ : Env') : evZ Γ17 G (.call 13 es) ρ = (evsZ Γ17 G none 0 es ρ).bind fun r ρ1 => goF f13 r.1 ρ1 := ev_call0 rfl mu13 es ρ
@[simp] theorem k18_6 (es : Es) (ρ : Env') : evZ Γ18 G (.call 6 es) ρ = (evsZ Γ18 G none 0 es ρ).bind fun r ρ1 => goF f6 r.1 ρ1 := ev_call0 rfl mu6 es ρ
@[simp] theorem k18_17 (es : Es) (ρ : Env') : evZ Γ18 G (.call 17 es) ρ = (evsZ Γ18 G none 0 es ρ).bind fun r ρ1 => goF f17 r.1 ρ1 := ev_call0 rfl mu17 es ρ
@[simp] theorem k19_12 (es : Es) (ρ : Env') : evZ Γ19 G (.call 12 es) ρ = (evsZ Γ19 G none 0 es ρ).bind fun r ρ1 => goF f12 r.1 ρ1 := ev_call0 rfl mu12 es ρ
@[simp] theorem k19_18 (es : Es) (ρ : Env') : evZ Γ19 G (.call 18 es) ρ = (evsZ Γ19 G none 0 es ρ).bind fun r ρ1 => goF f18 r.1 ρ1 := ev_call0 rfl mu18 es ρ
@[simp] theorem k20_2 (es : Es) (ρ : Env') : evZ Γ20 G (.call 2 es) ρ = (evsZ Γ20 G (some 1) 0 es ρ).bind fun r ρ1 => goM f2 1 r.1 r.2 ρ1 := ev_callM rfl mu2 es ρ
@[simp] theorem k20_3 (es : Es) (ρ : Env') : evZ Γ20 G (.call 3 es) ρ = (evsZ Γ20 G (some 1) 0 es ρ).bind fun r ρ1 => goM f3 1 r.1 r.2 ρ1 := ev_callM rfl mu3 es ρ
@[simp] theorem k20_4 (es : Es) (ρ : Env') : evZ Γ20 G (.call 4 es) ρ = (evsZ Γ20 G none 0 es ρ).bind fun r ρ1 => goF f4 r.1 ρ1 := ev_call0 rfl mu4 es ρ
@[simp] theorem k20_5 (es : Es) (ρ : Env') : evZ Γ20 G (.call 5 es) ρ = (evsZ Γ20 G none 0 es ρ).bind fun r ρ1 => goF f5 r.1 ρ1 := ev_call0 rfl mu5 es ρ
@[simp] theorem k20_11 (es : Es) (ρ : Env') : evZ Γ20 G (.call 11 es) ρ = (evsZ Γ20 G none 0 es ρ).bind fun r ρ1 => goF f11 r.1 ρ1 := ev_call0 rfl mu11 es ρ
@[simp] theorem k20_13 (es : Es) (ρ : Env') : evZ Γ20 G (.call 13 es) ρ = (evsZ Γ20 G none 0 es ρ).bind fun r ρ1 => goF f13 r.1 ρ1 := ev_call0 rfl mu13 es ρ
@[simp] theorem k20_14 (es : Es) (ρ : Env') : evZ Γ20 G (.call 14 es) ρ = (evsZ Γ20 G none 0 es ρ).bind fun r ρ1 => goF f14 r.1 ρ1 := ev_call0 rfl mu14 es ρ
@[simp] theorem k20_15 (es : Es) (ρ : Env') : evZ Γ20 G (.call 15 es) ρ = (evsZ Γ20 G none 0 es ρ).bind fun r ρ1 => goF f15 r.1 ρ1 := ev_call0 rfl mu15 es ρ
@[simp] theorem k20_16 (es : Es) (ρ : Env') : evZ Γ20 G (.call 16 es) ρ = (evsZ Γ20 G (some 1) 0 es ρ).bind fun r ρ1 => goM f16 1 r.1 r.2 ρ1 := ev_callM rfl mu16 es ρ
@[simp] theorem k20_19 (es : Es) (ρ : Env') : evZ Γ20 G (.call 19 es) ρ = (evsZ Γ20 G none 0 es ρ).bind fun r ρ1 => goF f19 r.1 ρ1 := ev_call0 rfl mu19 es ρ
theorem u0 (ws : List W) : f0.f ws = fnRun Γ0 G fu 2 none b0 ws := by rw [e0f] <;> rfl
@[simp] theorem fit0 : f0.fits 2 = true := by rw [e0f] <;> rfl
@[simp] theorem ar0 : f0.ar = 2 := by rw [e0f] <;> rfl
theorem u1 (ws : List W) : f1.f ws = fnRun Γ1 G fu 4 none b1 ws := by rw [e1f] <;> rfl
@[simp] theorem fit1 : f1.fits 3 = true := by rw [e1f] <;> rfl
@[simp] theorem ar1 : f1.ar = 3 := by rw [e1f] <;> rfl
theorem u2 (ws : List W) : f2.f ws = fnRun Γ2 G fu 3 (some 1) b2 ws := by rw [e2f] <;> rfl
@[simp] theorem fit2 : f2.fits 3 = true := by rw [e2f] <;> rfl
@[simp] theorem ar2 : f2.ar = 3 := by rw [e2f] <;> rfl
theorem u3 (ws : List W) : f3.f ws = fnRun Γ3 G fu 7 (some 1) b3 ws := by rw [e3f] <;> rfl
@[simp] theorem fit3 : f3.fits 2 = true := by rw [e3f] <;> rfl
@[simp] theorem ar3 : f3.ar = 2 := by rw [e3f] <;> rfl
theorem u4 (ws : List W) : f4.f ws = fnRun Γ4 G fu 3 none b4 ws := by rw [e4f] <;> rfl
@[simp] theorem fit4 : f4.fits 2 = true := by rw [e4f] <;> rfl
@[simp] theorem ar4 : f4.ar = 2 := by rw [e4f] <;> rfl
theorem u5 (ws : List W) : f5.f ws = fnRun Γ5 G fu 8 none b5 ws := by rw [e5f] <;> rfl
@[simp] theorem fit5 : f5.fits 2 = true := by rw [e5f] <;> rfl
@[simp] theorem ar5 : f5.ar = 2 := by rw [e5f] <;> rfl
theorem u6 (ws : List W) : f6.f ws = fnRun Γ6 G fu 3 none b6 ws := by rw [e6f] <;> rfl
@[simp] theorem fit6 : f6.fits 3 = true := by rw [e6f] <;> rfl
@[simp] theorem ar6 : f6.ar = 3 := by rw [e6f] <;> rfl
theorem u7 (ws : List W) : f7.f ws = fnRun Γ7 G fu 2 none b7 ws := by rw [e7f] <;> rfl
@[simp] theorem fit7 : f7.fits 2 = true := by rw [e7f] <;> rfl
@[simp] theorem ar7 : f7.ar = 2 := by rw [e7f] <;> rfl
theorem u8 (ws : List W) : f8.f ws = fnRun Γ8 G fu 5 none b8 ws := by rw [e8f] <;> rfl
@[simp] theorem fit8 : f8.fits 2 = true := by rw [e8f] <;> rfl
@[simp] theorem ar8 : f8.ar = 2 := by rw [e8f] <;> rfl
theorem u9 (ws : List W) : f9.f ws = fnRun Γ9 G fu 3 none b9 ws := by rw [e9f] <;> rfl
@[simp] theorem fit9 : f9.fits 2 = true := by rw [e9f] <;> rfl
@[simp] theorem ar9 : f9.ar = 2 := by rw [e9f] <;> rfl
theorem u10 (ws : List W) : f10.f ws = fnRun Γ10 G fu 7 none b10 ws := by rw [e10f] <;> rfl
@[simp] theorem fit10 : f10.fits 3 = true := by rw [e10f] <;> rfl
@[simp] theorem ar10 : f10.ar = 3 := by rw [e10f] <;> rfl
theorem u11 (ws : List W) : f11.f ws = fnRun Γ11 G fu 6 none b11 ws := by rw [e11f] <;> rfl
@[simp] theorem fit11 : f11.fits 2 = true := by rw [e11f] <;> rfl
@[simp] theorem ar11 : f11.ar = 2 := by rw [e11f] <;> rfl
theorem u12 (ws : List W) : f12.f ws = fnRun Γ12 G fu 3 none b12 ws := by rw [e12f] <;> rfl
@[simp] theorem fit12 : f12.fits 2 = true := by rw [e12f] <;> rfl
@[simp] theorem ar12 : f12.ar = 2 := by rw [e12f] <;> rfl
theorem u13 (ws : List W) : f13.f ws = fnRun Γ13 G fu 2 none b13 ws := by rw [e13f] <;> rfl
@[simp] theorem fit13 : f13.fits 1 = true := by rw [e13f] <;> rfl
@[simp] theorem ar13 : f13.ar = 1 := by rw [e13f] <;> rfl
theorem u14 (ws : List W) : f14.f ws = fnRun Γ14 G fu 4 none b14 ws := by rw [e14f] <;> rfl
@[simp] theorem fit14 : f14.fits 2 = true := by rw [e14f] <;> rfl
@[simp] theorem ar14 : f14.ar = 2 := by rw [e14f] <;> rfl
theorem u15 (ws : List W) : f15.f ws = fnRun Γ15 G fu 5 none b15 ws := by rw [e15f] <;> rfl
@[simp] theorem fit15 : f15.fits 3 = true := by rw [e15f] <;> rfl
@[simp] theorem ar15 : f15.ar = 3 := by rw [e15f] <;> rfl
theorem u16 (ws : List W) : f16.f ws = fnRun Γ16 G fu 3 (some 1) b16 ws := by rw [e16f] <;> rfl
@[simp] theorem fit16 : f16.fits 3 = true := by rw [e16f] <;> rfl
@[simp] theorem ar16 : f16.ar = 3 := by rw [e16f] <;> rfl
theorem u17 (ws : List W) : f17.f ws = fnRun Γ17 G fu 1 none b17 ws := by rw [e17f] <;> rfl
@[simp] theorem fit17 : f17.fits 1 = true := by rw [e17f] <;> rfl
@[simp] theorem ar17 : f17.ar = 1 := by rw [e17f] <;> rfl
theorem u18 (ws : List W) : f18.f ws = fnRun Γ18 G fu 2 none b18 ws := by rw [e18f] <;> rfl
@[simp] theorem fit18 : f18.fits 2 = true := by rw [e18f] <;> rfl
@[simp] theorem ar18 : f18.ar = 2 := by rw [e18f] <;> rfl
theorem u19 (ws : List W) : f19.f ws = fnRun Γ19 G fu 2 none b19 ws := by rw [e19f] <;> rfl
@[simp] theorem fit19 : f19.fits 2 = true := by rw [e19f] <;> rfl
@[simp] theorem ar19 : f19.ar = 2 := by rw [e19f] <;> rfl
theorem u20 (ws : List W) : f20.f ws = fnRun Γ20 G fu 10 none b20 ws := by rw [e20f] <;> rfl
@[simp] theorem fit20 : f20.fits 1 = true := by rw [e20f] <;> rfl
@[simp] theorem ar20 : f20.ar = 1 := by rw [e20f] <;> rfl
@[simp] theorem gm0 : Γ0.length = 0 := rfl
@[simp] theorem gm1 : Γ1.length = 1 := rfl
@[simp] theorem gm2 : Γ2.length = 2 := rfl
@[simp] theorem gm3 : Γ3.length = 3 := rfl
@[simp] theorem gm4 : Γ4.length = 4 := rfl
@[simp] theorem gm5 : Γ5.length = 5 := rfl
@[simp] theorem gm6 : Γ6.length = 6 := rfl
@[simp] theorem gm7 : Γ7.length = 7 := rfl
@[simp] theorem gm8 : Γ8.length = 8 := rfl
@[simp] theorem gm9 : Γ9.length = 9 := rfl
@[simp] theorem gm10 : Γ10.length = 10 := rfl
@[simp] theorem gm11 : Γ11.length = 11 := rfl
@[simp] theorem gm12 : Γ12.length = 12 := rfl
@[simp] theorem gm13 : Γ13.length = 13 := rfl
@[simp] theorem gm14 : Γ14.length = 14 := rfl
@[simp] theorem gm15 : Γ15.length = 15 := rfl
@[simp] theorem gm16 : Γ16.length = 16 := rfl
@[simp] theorem gm17 : Γ17.length = 17 := rfl
@[simp] theorem gm18 : Γ18.length = 18 := rfl
@[simp] theorem gm19 : Γ19.length = 19 := rfl
@[simp] theorem gm20 : Γ20.length = 20 := rfl
/-! ### the text says the terms -/
theorem s0 : C8.scC N0 P0 (defScope (top 23)) = true := by kernel_rfl
theorem c0 : chkSs (cxD N0 (defScope (top 23)) nms gls xcs) b0 (defBody (top 23)) = true := by kernel_rfl
theorem s1 : C8.scC N1 P1 (defScope (top 24)) = true := by kernel_rfl
theorem c1 : chkSs (cxD N1 (defScope (top 24)) nms gls xcs) b1 (defBody (top 24)) = true := by kernel_rfl
theorem s2 : C8.scC N2 P2 (defScope (top 25)) = true := by kernel_rfl
theorem c2 : chkSs (cxD N2 (defScope (top 25)) nms gls xcs) b2 (defBody (top 25)) = true := by kernel_rfl
theorem s3 : C8.scC N3 P3 (defScope (top 27)) = true := by kernel_rfl
theorem c3 : chkSs (cxD N3 (defScope (top 27)) nms gls xcs) b3 (defBody (top 27)) = true := by kernel_rfl
theorem s4 : C8.scC N4 P4 (defScope (top 28)) = true := by kernel_rfl
theorem c4 : chkSs (cxD N4 (defScope (top 28)) nms gls xcs) b4 (defBody (top 28)) = true := by kernel_rfl
theorem s5 : C8.scC N5 P5 (defScope (top 29)) = true := by kernel_rfl
theorem c5 : chkSs (cxD N5 (defScope (top 29)) nms gls xcs) b5 (defBody (top 29)) = true := by kernel_rfl
theorem s6 : C8.scC N6 P6 (defScope (top 6)) = true := by kernel_rfl
theorem c6 : chkSs (cxD N6 (defScope (top 6)) nms gls xcs) b6 (defBody (top 6)) = true := by kernel_rfl
theorem s7 : C8.scC N7 P7 (defScope (top 15)) = true := by kernel_rfl
theorem c7 : chkSs (cxD N7 (defScope (top 15)) nms gls xcs) b7 (defBody (top 15)) = true := by kernel_rfl
theorem s8 : C8.scC N8 P8 (defScope (top 16)) = true := by kernel_rfl
theorem c8 : chkSs (cxD N8 (defScope (top 16)) nms gls xcs) b8 (defBody (top 16)) = true := by kernel_rfl
theorem s9 : C8.scC N9 P9 (defScope (top 17)) = true := by kernel_rfl
theorem c9 : chkSs (cxD N9 (defScope (top 17)) nms gls xcs) b9 (defBody (top 17)) = true := by kernel_rfl
theorem s10 : C8.scC N10 P10 (defScope (top 18)) = true := by kernel_rfl
theorem c10 : chkSs (cxD N10 (defScope (top 18)) nms gls xcs) b10 (defBody (top 18)) = true := by kernel_rfl
theorem s11 : C8.scC N11 P11 (defScope (top 19)) = true := by kernel_rfl
theorem c11 : chkSs (cxD N11 (defScope (top 19)) nms gls xcs) b11 (defBody (top 19)) = true := by kernel_rfl
theorem s12 : C8.scC N12 P12 (defScope (top 10)) = true := by kernel_rfl
theorem c12 : chkSs (cxD N12 (defScope (top 10)) nms gls xcs) b12 (defBody (top 10)) = true := by kernel_rfl
theorem s13 : C8.scC N13 P13 (defScope (top 9)) = true := by kernel_rfl
theorem c13 : chkSs (cxD N13 (defScope (top 9)) nms gls xcs) b13 (defBody (top 9)) = true := by kernel_rfl
theorem s14 : C8.scC N14 P14 (defScope (top 20)) = true := by kernel_rfl
theorem c14 : chkSs (cxD N14 (defScope (top 20)) nms gls xcs) b14 (defBody (top 20)) = true := by kernel_rfl
theorem s15 : C8.scC N15 P15 (defScope (top 21)) = true := by kernel_rfl
theorem c15 : chkSs (cxD N15 (defScope (top 21)) nms gls xcs) b15 (defBody (top 21)) = true := by kernel_rfl
theorem s16 : C8.scC N16 P16 (defScope (top 26)) = true := by kernel_rfl
theorem c16 : chkSs (cxD N16 (defScope (top 26)) nms gls xcs) b16 (defBody (top 26)) = true := by kernel_rfl
theorem s17 : C8.scC N17 P17 (defScope (top 11)) = true := by kernel_rfl
theorem c17 : chkSs (cxD N17 (defScope (top 11)) nms gls xcs) b17 (defBody (top 11)) = true := by kernel_rfl
theorem s18 : C8.scC N18 P18 (defScope (top 12)) = true := by kernel_rfl
theorem c18 : chkSs (cxD N18 (defScope (top 12)) nms gls xcs) b18 (defBody (top 12)) = true := by kernel_rfl
theorem s19 : C8.scC N19 P19 (defScope (top 13)) = true := by kernel_rfl
theorem c19 : chkSs (cxD N19 (defScope (top 13)) nms gls xcs) b19 (defBody (top 13)) = true := by kernel_rfl
theorem s20 : C8.scC N20 P20 (defScope (top 30)) = true := by kernel_rfl
theorem c20 : chkSs (cxD N20 (defScope (top 30)) nms gls xcs) b20 (defBody (top 30)) = true := by kernel_rfl
/-! ### the head -/
def mkD (i : Nat) (x : Str) : He.DefD := ⟨(x, none), x, x, defArgs (top i), defBody (top i), defScope (top i), [], []⟩
def fn : List He.DefD := [mkD 23 "_law_cell_at", mkD 24 "_law_mixed", mkD 25 "_law_draw", mkD 27 "_law_sights", mkD 28 "_law_near", mkD 29 "_law_away", mkD 6 "is_whole", mkD 15 "is_sight", mkD 16 "need_sights", mkD 17 "seen_from", mkD 18 "distances", mkD 19 "nearest_tree", mkD 10 "far_of", mkD 9 "is_tree", mkD 20 "unreached", mkD 21 "is_of", mkD 26 "_law_pick", mkD 11 "need_tree", mkD 12 "need_hill", mkD 13 "far"] ++ [mkD 30 "law"]
def fa : List He.Fa := ([.glo "_law_cell_at", .glo "_law_mixed", .glo "_law_draw", .glo "_law_sights", .glo "_law_near", .glo "_law_away", .glo "is_whole", .glo "is_sight", .glo "need_sights", .glo "seen_from", .glo "distances", .glo "nearest_tree", .glo "far_of", .glo "is_tree", .glo "unreached", .glo "is_of", .glo "_law_pick", .glo "need_tree", .glo "need_hill", .glo "far"] : List He.Fa) ++ ([.glo "law"] : List He.Fa)
def ex (K : PySem.W.Frag) : Bool := bsOk K && (gsOk K gls G && (xsOk K xcs))
abbrev R : PySem.W.OpenRow := PySem.W.OpenLaw.row PySem.Challenge.rw_hillarms_k21_whole_nearest_tree
abbrev hk : PySem.W.Hook := Hil.hookX 4 fa fn ex
def ob (s : PySem.W.SharedT) : Bool × He.AlD := Hil.obG 4 fa fn ex (HandSHeadRun.getT s)
theorem ob_eq (s : PySem.W.SharedT) : ob s = hk.obs s.abs := Hil.obG_eq (HandSHeadRun.getT_eq s)
def loose0 : List Str := ["__name__", "HillError", "NoTree", "NoHill", "NoSights", "is_whole", "HILLS", "is_tree", "far_of", "need_tree", "need_hill", "far", "is_sight", "need_sights", "seen_from", "distances", "nearest_tree", "unreached", "is_of", "_law_cell_at", "_law_mixed", "_law_draw", "_law_pick", "_law_sights"]
def loose1 : List Str := ["_law_near", "_law_away"]
abbrev loose : List Str := loose0 ++ loose1
theorem run (w : World) : HandSHeadRun.RunEq R (PySem.W.view R.prog [30]) hk ob 20000 loose w := by
  intro os
  kernel_rfl
/-! ### the promises, one after another -/
theorem facts {P : Program} {w : World} {K : PySem.W.Frag} {h : Heap} {mg : Str → Option Value} {f : Ad} (X : K.In h) (Gm : h.Ns mainGlobals mg) (hfa : mg ("law" : Str) = some (.ref f)) (c : He.SaysD fa fn K) (hx : ex K = true) :
    ∃ fd : FuncData, (∀ (s : Shared) (v : Value), BindsTo s fd ⟨[v], []⟩ [("_law_script", v)]) ∧ ∀ base : Heap, K.In base → base.Ns mainGlobals mg → FnOk P w K mg base (L2.CX P w) 42 f fd ["_law_script"] (SpT K (xcOf K xcs) none 1 (fnRun Γ20 G fu 10 none b20)) := by
  simp only [ex, Bool.and_eq_true] at hx
  obtain ⟨h1, h2, h3⟩ := hx
  obtain ⟨fd0, F0⟩ := c.def_ 0 (d := mkD 23 "_law_cell_at") rfl
  have m0 := He.glo_ok X Gm (c.fact 0 (f := .glo "_law_cell_at") rfl)
  have B0 : Binds K fd0 P0 [] := F0.bindsN fun _ _ _ _ _ _ us hl => match us, hl with | [_, _], _ => rfl
  obtain ⟨fd1, F1⟩ := c.def_ 1 (d := mkD 24 "_law_mixed") rfl
  have m1 := He.glo_ok X Gm (c.fact 1 (f := .glo "_law_mixed") rfl)
  have B1 : Binds K fd1 P1 [] := F1.bindsN fun _ _ _ _ _ _ us hl => match us, hl with | [_, _, _], _ => rfl
  obtain ⟨fd2, F2⟩ := c.def_ 2 (d := mkD 25 "_law_draw") rfl
  have m2 := He.glo_ok X Gm (c.fact 2 (f := .glo "_law_draw") rfl)
  have B2 : Binds K fd2 P2 [] := F2.bindsN fun _ _ _ _ _ _ us hl => match us, hl with | [_, _, _], _ => rfl
  obtain ⟨fd3, F3⟩ := c.def_ 3 (d := mkD 27 "_law_sights") rfl
  have m3 := He.glo_ok X Gm (c.fact 3 (f := .glo "_law_sights") rfl)
  have B3 : Binds K fd3 P3 [] := F3.bindsN fun _ _ _ _ _ _ us hl => match us, hl with | [_, _], _ => rfl
  obtain ⟨fd4, F4⟩ := c.def_ 4 (d := mkD 28 "_law_near") rfl
  have m4 := He.glo_ok X Gm (c.fact 4 (f := .glo "_law_near") rfl)
  have B4 : Binds K fd4 P4 [] := F4.bindsN fun _ _ _ _ _ _ us hl => match us, hl with | [_, _], _ => rfl
  obtain ⟨fd5, F5⟩ := c.def_ 5 (d := mkD 29 "_law_away") rfl
  have m5 := He.glo_ok X Gm (c.fact 5 (f := .glo "_law_away") rfl)
  have B5 : Binds K fd5 P5 [] := F5.bindsN fun _ _ _ _ _ _ us hl => match us, hl with | [_, _], _ => rfl
  obtain ⟨fd6, F6⟩ := c.def_ 6 (d := mkD 6 "is_whole") rfl
  have m6 := He.glo_ok X Gm (c.fact 6 (f := .glo "is_whole") rfl)
  have B6 : Binds K fd6 P6 [] := F6.bindsN fun _ _ _ _ _ _ us hl => match us, hl with | [_, _, _], _ => rfl
  obtain ⟨fd7, F7⟩ := c.def_ 7 (d := mkD 15 "is_sight") rfl
  have m7 := He.glo_ok X Gm (c.fact 7 (f := .glo "is_sight") rfl)
  have B7 : Binds K fd7 P7 [] := F7.bindsN fun _ _ _ _ _ _ us hl => match us, hl with | [_, _], _ => rfl
  obtain ⟨fd8, F8⟩ := c.def_ 8 (d := mkD 16 "need_sights") rfl
  have m8 := He.glo_ok X Gm (c.fact 8 (f := .glo "need_sights") rfl)
  have B8 : Binds K fd8 P8 [] := F8.bindsN fun _ _ _ _ _ _ us hl => match us, hl with | [_, _], _ => rfl
  obtain ⟨fd9, F9⟩ := c.def_ 9 (d := mkD 17 "seen_from") rfl
  have m9 := He.glo_ok X Gm (c.fact 9 (f := .glo "seen_from") rfl)
  have B9 : Binds K fd9 P9 [] := F9.bindsN fun _ _ _ _ _ _ us hl => match us, hl with | [_, _], _ => rfl
  obtain ⟨fd10, F10⟩ := c.def_ 10 (d := mkD 18 "distances") rfl
  have m10 := He.glo_ok X Gm (c.fact 10 (f := .glo "distances") rfl)
  have B10 : Binds K fd10 P10 [] := F10.bindsN fun _ _ _ _ _ _ us hl => match us, hl with | [_, _, _], _ => rfl
  obtain ⟨fd11, F11⟩ := c.def_ 11 (d := mkD 19 "nearest_tree") rfl
  have m11 := He.glo_ok X Gm (c.fact 11 (f := .glo "nearest_tree") rfl)
  have B11 : Binds K fd11 P11 [] := F11.bindsN fun _ _ _ _ _ _ us hl => match us, hl with | [_, _], _ => rfl
  obtain ⟨fd12, F12⟩ := c.def_ 12 (d := mkD 10 "far_of") rfl
  have m12 := He.glo_ok X Gm (c.fact 12 (f := .glo "far_of") rfl)
  have B12 : Binds K fd12 P12 [] := F12.bindsN fun _ _ _ _ _ _ us hl => match us, hl with | [_, _], _ => rfl
  obtain ⟨fd13, F13⟩ := c.def_ 13 (d := mkD 9 "is_tree") rfl
  have m13 := He.glo_ok X Gm (c.fact 13 (f := .glo "is_tree") rfl)
  have B13 : Binds K fd13 P13 [] := F13.bindsN fun _ _ _ _ _ _ us hl => match us, hl with | [_], _ => rfl
  obtain ⟨fd14, F14⟩ := c.def_ 14 (d := mkD 20 "unreached") rfl
  have m14 := He.glo_ok X Gm (c.fact 14 (f := .glo "unreached") rfl)
  have B14 : Binds K fd14 P14 [] := F14.bindsN fun _ _ _ _ _ _ us hl => match us, hl with | [_, _], _ => rfl
  obtain ⟨fd15, F15⟩ := c.def_ 15 (d := mkD 21 "is_of") rfl
  have m15 := He.glo_ok X Gm (c.fact 15 (f := .glo "is_of") rfl)
  have B15 : Binds K fd15 P15 [] := F15.bindsN fun _ _ _ _ _ _ us hl => match us, hl with | [_, _, _], _ => rfl
  obtain ⟨fd16, F16⟩ := c.def_ 16 (d := mkD 26 "_law_pick") rfl
  have m16 := He.glo_ok X Gm (c.fact 16 (f := .glo "_law_pick") rfl)
  have B16 : Binds K fd16 P16 [] := F16.bindsN fun _ _ _ _ _ _ us hl => match us, hl with | [_, _, _], _ => rfl
  obtain ⟨fd17, F17⟩ := c.def_ 17 (d := mkD 11 "need_tree") rfl
  have m17 := He.glo_ok X Gm (c.fact 17 (f := .glo "need_tree") rfl)
  have B17 : Binds K fd17 P17 [] := F17.bindsN fun _ _ _ _ _ _ us hl => match us, hl with | [_], _ => rfl
  obtain ⟨fd18, F18⟩ := c.def_ 18 (d := mkD 12 "need_hill") rfl
  have m18 := He.glo_ok X Gm (c.fact 18 (f := .glo "need_hill") rfl)
  have B18 : Binds K fd18 P18 [] := F18.bindsN fun _ _ _ _ _ _ us hl => match us, hl with | [_, _], _ => rfl
  obtain ⟨fd19, F19⟩ := c.def_ 19 (d := mkD 13 "far") rfl
  have m19 := He.glo_ok X Gm (c.fact 19 (f := .glo "far") rfl)
  have B19 : Binds K fd19 P19 [] := F19.bindsN fun _ _ _ _ _ _ us hl => match us, hl with | [_, _], _ => rfl
  obtain ⟨fd20, F20⟩ := c.def_ 20 (d := mkD 30 "law") rfl
  have B20 : Binds K fd20 P20 [] := F20.bindsN fun _ _ _ _ _ _ us hl => match us, hl with | [_], _ => rfl
  have eL := hfa.symm.trans (He.glo_ok X Gm (c.fact 20 (f := .glo "law") rfl))
  cases eL
  have bL := FunD.bindsA (ps := ["_law_script"]) F20 fun _ _ _ _ _ _ us hl => match us, hl with | [_], _ => rfl
  refine ⟨fd20, fun s v => bL s [v] rfl, fun base hb hn => ?_⟩
  have e0 : Env1 P w K mg base nms gls xcs Γ0 G (xcOf K xcs) 0 := Env1.nil (bsOk_ok X Gm h1) (gsOk_ok X Gm h2) (xsOk_ok X Gm h3)
  have h10 : Env1 P w K mg base nms gls xcs (Γ0 ++ [mkFn Γ0 G fu "_law_cell_at" 2 2 none b0]) G (xcOf K xcs) 2 := e0.push (N := N0) (ps := P0) (nm := "_law_cell_at") (b := b0) (mu := none) F0 s0 c0 rfl m0 B0
  rw [← e0f] at h10
  have e1 : Env1 P w K mg base nms gls xcs Γ1 G (xcOf K xcs) 2 := h10
  have h11 : Env1 P w K mg base nms gls xcs (Γ1 ++ [mkFn Γ1 G fu "_law_mixed" 3 4 none b1]) G (xcOf K xcs) 4 := e1.push (N := N1) (ps := P1) (nm := "_law_mixed") (b := b1) (mu := none) F1 s1 c1 rfl m1 B1
  rw [← e1f] at h11
  have e2 : Env1 P w K mg base nms gls xcs Γ2 G (xcOf K xcs) 4 := h11
  have h12 : Env1 P w K mg base nms gls xcs (Γ2 ++ [mkFn Γ2 G fu "_law_draw" 3 3 (some 1) b2]) G (xcOf K xcs) 6 := e2.push (N := N2) (ps := P2) (nm := "_law_draw") (b := b2) (mu := (some 1)) F2 s2 c2 rfl m2 B2
  rw [← e2f] at h12
  have e3 : Env1 P w K mg base nms gls xcs Γ3 G (xcOf K xcs) 6 := h12
  have h13 : Env1 P w K mg base nms gls xcs (Γ3 ++ [mkFn Γ3 G fu "_law_sights" 2 7 (some 1) b3]) G (xcOf K xcs) 8 := e3.push (N := N3) (ps := P3) (nm := "_law_sights") (b := b3) (mu := (some 1)) F3 s3 c3 rfl m3 B3
  rw [← e3f] at h13
  have e4 : Env1 P w K mg base nms gls xcs Γ4 G (xcOf K xcs) 8 := h13
  have h14 : Env1 P w K mg base nms gls xcs (Γ4 ++ [mkFn Γ4 G fu "_law_near" 2 3 none b4]) G (xcOf K xcs) 10 := e4.push (N := N4) (ps := P4) (nm := "_law_near") (b := b4) (mu := none) F4 s4 c4 rfl m4 B4
  rw [← e4f] at h14
  have e5 : Env1 P w K mg base nms gls xcs Γ5 G (xcOf K xcs) 10 := h14
  have h15 : Env1 P w K mg base nms gls xcs (Γ5 ++ [mkFn Γ5 G fu "_law_away" 2 8 none b5]) G (xcOf K xcs) 12 := e5.push (N := N5) (ps := P5) (nm := "_law_away") (b := b5) (mu := none) F5 s5 c5 rfl m5 B5
  rw [← e5f] at h15
  have e6 : Env1 P w K mg base nms gls xcs Γ6 G (xcOf K xcs) 12 := h15
  have h16 : Env1 P w K mg base nms gls xcs (Γ6 ++ [mkFn Γ6 G fu "is_whole" 3 3 none b6]) G (xcOf K xcs) 14 := e6.push (N := N6) (ps := P6) (nm := "is_whole") (b := b6) (mu := none) F6 s6 c6 rfl m6 B6
  rw [← e6f] at h16
  have e7 : Env1 P w K mg base nms gls xcs Γ7 G (xcOf K xcs) 14 := h16
  have h17 : Env1 P w K mg base nms gls xcs (Γ7 ++ [mkFn Γ7 G fu "is_sight" 2 2 none b7]) G (xcOf K xcs) 16 := e7.push (N := N7) (ps := P7) (nm := "is_sight") (b := b7) (mu := none) F7 s7 c7 rfl m7 B7
  rw [← e7f] at h17
  have e8 : Env1 P w K mg base nms gls xcs Γ8 G (xcOf K xcs) 16 := h17
  have h18 : Env1 P w K mg base nms gls xcs (Γ8 ++ [mkFn Γ8 G fu "need_sights" 2 5 none b8]) G (xcOf K xcs) 18 := e8.push (N := N8) (ps := P8) (nm := "need_sights") (b := b8) (mu := none) F8 s8 c8 rfl m8 B8
  rw [← e8f] at h18
  have e9 : Env1 P w K mg base nms gls xcs Γ9 G (xcOf K xcs) 18 := h18
  have h19 : Env1 P w K mg base nms gls xcs (Γ9 ++ [mkFn Γ9 G fu "seen_from" 2 3 none b9]) G (xcOf K xcs) 20 := e9.push (N := N9) (ps := P9) (nm := "seen_from") (b := b9) (mu := none) F9 s9 c9 rfl m9 B9
  rw [← e9f] at h19
  have e10 : Env1 P w K mg base nms gls xcs Γ10 G (xcOf K xcs) 20 := h19
  have h20 : Env1 P w K mg base nms gls xcs (Γ10 ++ [mkFn Γ10 G fu "distances" 3 7 none b10]) G (xcOf K xcs) 22 := e10.push (N := N10) (ps := P10) (nm := "distances") (b := b10) (mu := none) F10 s10 c10 rfl m10 B10
  rw [← e10f] at h20
  have e11 : Env1 P w K mg base nms gls xcs Γ11 G (xcOf K xcs) 22 := h20
  have h21 : Env1 P w K mg base nms gls xcs (Γ11 ++ [mkFn Γ11 G fu "nearest_tree" 2 6 none b11]) G (xcOf K xcs) 24 := e11.push (N := N11) (ps := P11) (nm := "nearest_tree") (b := b11) (mu := none) F11 s11 c11 rfl m11 B11
  rw [← e11f] at h21
  have e12 : Env1 P w K mg base nms gls xcs Γ12 G (xcOf K xcs) 24 := h21
  have h22 : Env1 P w K mg base nms gls xcs (Γ12 ++ [mkFn Γ12 G fu "far_of" 2 3 none b12]) G (xcOf K xcs) 26 := e12.push (N := N12) (ps := P12) (nm := "far_of") (b := b12) (mu := none) F12 s12 c12 rfl m12 B12
  rw [← e12f] at h22
  have e13 : Env1 P w K mg base nms gls xcs Γ13 G (xcOf K xcs) 26 := h22
  have h23 : Env1 P w K mg base nms gls xcs (Γ13 ++ [mkFn Γ13 G fu "is_tree" 1 2 none b13]) G (xcOf K xcs) 28 := e13.push (N := N13) (ps := P13) (nm := "is_tree") (b := b13) (mu := none) F13 s13 c13 rfl m13 B13
  rw [← e13f] at h23
  have e14 : Env1 P w K mg base nms gls xcs Γ14 G (xcOf K xcs) 28 := h23
  have h24 : Env1 P w K mg base nms gls xcs (Γ14 ++ [mkFn Γ14 G fu "unreached" 2 4 none b14]) G (xcOf K xcs) 30 := e14.push (N := N14) (ps := P14) (nm := "unreached") (b := b14) (mu := none) F14 s14 c14 rfl m14 B14
  rw [← e14f] at h24
  have e15 : Env1 P w K mg base nms gls xcs Γ15 G (xcOf K xcs) 30 := h24
  have h25 : Env1 P w K mg base nms gls xcs (Γ15 ++ [mkFn Γ15 G fu "is_of" 3 5 none b15]) G (xcOf K xcs) 32 := e15.push (N := N15) (ps := P15) (nm := "is_of") (b := b15) (mu := none) F15 s15 c15 rfl m15 B15
  rw [← e15f] at h25
  have e16 : Env1 P w K mg base nms gls xcs Γ16 G (xcOf K xcs) 32 := h25
  have h26 : Env1 P w K mg base nms gls xcs (Γ16 ++ [mkFn Γ16 G fu "_law_pick" 3 3 (some 1) b16]) G (xcOf K xcs) 34 := e16.push (N := N16) (ps := P16) (nm := "_law_pick") (b := b16) (mu := (some 1)) F16 s16 c16 rfl m16 B16
  rw [← e16f] at h26
  have e17 : Env1 P w K mg base nms gls xcs Γ17 G (xcOf K xcs) 34 := h26
  have h27 : Env1 P w K mg base nms gls xcs (Γ17 ++ [mkFn Γ17 G fu "need_tree" 1 1 none b17]) G (xcOf K xcs) 36 := e17.push (N := N17) (ps := P17) (nm := "need_tree") (b := b17) (mu := none) F17 s17 c17 rfl m17 B17
  rw [← e17f] at h27
  have e18 : Env1 P w K mg base nms gls xcs Γ18 G (xcOf K xcs) 36 := h27
  have h28 : Env1 P w K mg base nms gls xcs (Γ18 ++ [mkFn Γ18 G fu "need_hill" 2 2 none b18]) G (xcOf K xcs) 38 := e18.push (N := N18) (ps := P18) (nm := "need_hill") (b := b18) (mu := none) F18 s18 c18 rfl m18 B18
  rw [← e18f] at h28
  have e19 : Env1 P w K mg base nms gls xcs Γ19 G (xcOf K xcs) 38 := h28
  have h29 : Env1 P w K mg base nms gls xcs (Γ19 ++ [mkFn Γ19 G fu "far" 2 2 none b19]) G (xcOf K xcs) 40 := e19.push (N := N19) (ps := P19) (nm := "far") (b := b19) (mu := none) F19 s19 c19 rfl m19 B19
  rw [← e19f] at h29
  have e20 : Env1 P w K mg base nms gls xcs Γ20 G (xcOf K xcs) 40 := h29
  exact def_ok (N := N20) (ps := ["_law_script"]) (b := b20) (fu := fu) e20 none F20 (C8.fnScope_by s20) c20
end HL
namespace HL
open PySem Hil L2 HT0
/-- the cell -/
theorem cell_f (ns : List Int) (k : Nat) : ∃ z : Int, f0.f [.scr ns, .d (.int k)] = some (.ret (.d (.int z)) false (.opq .non)) := by
  simp only [u0, fnRun_eq]
  have e : startE 2 none [W.scr ns, .d (.int k)] = [.sh (.scr ns), .sh (.d (.int k))] := rfl
  rw [e]
  by_cases h : k < ns.length
  · simp [b0, h, atI_of]
  · by_cases h2 : ns = []
    · subst h2
      have h' : ¬ ((k : Int) < 0) := by omega
      simp [b0, h', eqv_nil]
    · have h3 : 0 < ns.length := List.length_pos_iff.mpr h2
      have h' : ¬ ((k : Int) < ns.length) := by omega
      have h4 : (0 : Int) < ns.length := by omega
      obtain ⟨x, h5, _⟩ := atI_int ns _ (Int.emod_nonneg (k : Int) (show (ns.length : Int) ≠ 0 by omega)) (Int.emod_lt_of_pos (k : Int) h4)
      have h6 : ns.isEmpty = false := by simpa using h2
      simp [b0, h, h3, h5, h6, eqv_nil]
theorem mixed_f (ns : List Int) (k : Nat) (m : Int) (hm : 0 < m) : ∃ z : Int, (0 ≤ z ∧ z < m) ∧ f1.f [.scr ns, .d (.int k), .d (.int m)] = some (.ret (.d (.int z)) false (.opq .non)) := by
  obtain ⟨c, hc⟩ := cell_f ns k
  have hc := fun ρ => goF_ret (ρ := ρ) hc ar0.symm
  simp only [u1, fnRun_eq]
  have e : startE 4 none [W.scr ns, .d (.int k), .d (.int m)] = [.sh (.scr ns), .sh (.d (.int k)), .sh (.d (.int m)), .un] := rfl
  rw [e]
  generalize hd : ((c * 1103515245 + 7919 * k + 12345) % 2147483647 : Int) = d
  have d1 : 0 ≤ d ∧ d < 2147483647 := by omega
  have d2 : -18446744073709551616 < d ∧ d < 18446744073709551616 := by omega
  refine ⟨d ^ 5 % 2147483647 % 999983 % m, ⟨Int.emod_nonneg _ (by omega), Int.emod_lt_of_pos _ hm⟩, ?_⟩
  simp [b1, k1_0, hc, hd, d2, hm]
theorem draw_f (ns : List Int) (t : List PD) (m : Int) (hm : 0 < m) (ht : t.length < 1000000) : ∃ z : Int, (0 ≤ z ∧ z < m) ∧ f2.f [.scr ns, .d (.list t), .d (.int m)] = some (.ret (.d (.int z)) false (.d (.list (t ++ [.int 0])))) := by
  obtain ⟨z, hz, hc⟩ := mixed_f ns (t.length + 1) m hm
  simp only [Int.natCast_add, Int.cast_ofNat_Int, Int.natCast_one] at hc
  have hc := fun ρ => goF_ret (ρ := ρ) hc ar1.symm
  refine ⟨z, hz, ?_⟩
  rw [u2, fnRun_eq]
  have e : startE 3 (some 1) [W.scr ns, .d (.list t), .d (.int m)] = [.sh (.scr ns), .mu (.d (.list t)), .sh (.d (.int m))] := rfl
  rw [e]
  simp [b2, k2_1, ht]

  simp [hc]
theorem tw_succ (n : Nat) : List.replicate n (PyData.int 0) ++ [.int 0] = List.replicate (n + 1) (.int 0) := by rw [List.replicate_succ']
theorem drawN (ns : List Int) (n m : Nat) (hm : 0 < m) (hn : n < 1000000) : ∃ z : Nat, z < m ∧ f2.f [.scr ns, .d (tw n), .d (.int m)] = some (.ret (.d (.int z)) false (.d (tw (n + 1)))) := by
  obtain ⟨z, hz, h⟩ := draw_f ns (List.replicate n (.int 0)) m (by omega) (by simpa using hn)
  obtain ⟨k, rfl⟩ := Int.eq_ofNat_of_zero_le hz.1
  rw [tw_succ] at h
  exact ⟨k, by omega, h⟩
end HL
namespace HL
open PySem Hil L2 HT0
/-- pick -/
theorem pick_f (ns : List Int) (t xs : List PD) (hx : xs ≠ []) (ht : t.length < 1000000) : ∃ x ∈ xs, f16.f [.scr ns, .d (.list t), .d (.list xs)] = some (.ret (.d x) false (.d (.list (t ++ [.int 0])))) := by
  have hl : 0 < xs.length := List.length_pos_iff.mpr hx
  obtain ⟨z, hz, hc⟩ := draw_f ns t xs.length (by omega) ht
  obtain ⟨x, h1, h2⟩ := atI_int xs z hz.1 hz.2
  refine ⟨x, h2, ?_⟩
  have hc := goM_mu (ρ := [.sh (.scr ns), .mu (.d (.list t)), .sh (.d (.list xs))]) (fn := f2) (ws := [.scr ns, .opq .non, .d (.int xs.length)]) (k := 1) (j := 1) rfl hc fit2
  rw [u16, fnRun_eq]
  have e : startE 3 (some 1) [W.scr ns, .d (.list t), .d (.list xs)] = [.sh (.scr ns), .mu (.d (.list t)), .sh (.d (.list xs))] := rfl
  rw [e]
  simp [b16, k16_2, hc, h1]
theorem pickN (ns : List Int) (n : Nat) (xs : List PyData) (hx : xs ≠ []) (hn : n < 1000000) : ∃ x ∈ xs, f16.f [.scr ns, .d (tw n), .d (.list xs)] = some (.ret (.d x) false (.d (tw (n + 1)))) := by
  obtain ⟨x, hx, h⟩ := pick_f ns (List.replicate n (.int 0)) xs hx (by simpa using hn)
  rw [tw_succ] at h
  exact ⟨x, hx, h⟩

end HL
namespace HL
open PySem Hil L2 HT0
theorem whole_f (x : PD) (lo hi : Int) (h : okD x = true) : f6.f [.d x, .d (.int lo), .d (.int hi)] = some (.ret (.d (.bool (isWhole x lo hi))) false (.opq .non)) := by
  rw [u6, fnRun_eq]
  have e : startE 3 none [W.d x, .d (.int lo), .d (.int hi)] = [.sh (.d x), .sh (.d (.int lo)), .sh (.d (.int hi))] := rfl
  rw [e]
  cases x <;> first
    | (simp [okD] at h; done)
    | (simp [b6, isWhole]; done)
    | skip
  rename_i i
  by_cases h1 : lo ≤ i
  · simp [b6, isWhole, h1]
  · simp [b6, isWhole, h1]
end HL
namespace HL
open PySem Hil L2 HT0
theorem whole_nI (k : Nat) (n : Nat) : f6.f [.d (nI k), .d (.int 0), .d (.int n)] = some (.ret (.d (.bool (decide (k ≤ n)))) false (.opq .non)) := by
  rw [whole_f (nI k) 0 n rfl, isWhole_nI]
theorem farof_f (t : List Nat) (h : Nat) (hl : t.length ≤ 1000) (hh : h ≤ t.length) (hle : ∀ x ∈ t, x ≤ t.length) : f12.f [.d (nT t), .d (nI h)] = some (.ret (.d (optP (farL t (t.length + 1) h))) false (.opq .non)) := by
  rw [u12]
  apply fnRet
  simp only [List.map_cons, List.map_nil, List.length_cons, List.length_nil, List.replicate, List.cons_append, List.nil_append, Nat.reduceAdd, Nat.reduceSub]
  unfold b12
  refine st_nx (ρ1 := [.sh (.d (nT t)), .sh (.d (nI h)), .sh (.d (nI 0))]) (by simp [nI]) ?_
  refine st_whln (fun k ρ => ∃ h' m, h' ≤ t.length ∧ m + k = t.length + 1 ∧ ρ = [.sh (.d (nT t)), .sh (.d (nI h')), .sh (.d (nI m))] ∧ (farL t k h').map (· + m) = farL t (t.length + 1) h)
    (fun ρ => ∃ h' m, ρ = [.sh (.d (nT t)), .sh (.d (nI h')), .sh (.d (nI m))] ∧ (if h' = 0 then some m else none) = farL t (t.length + 1) h) (t.length + 1) ⟨h, 0, hh, by omega, rfl, by simp⟩ (by unfold fu; omega) ?_ ?_
  · rintro k ρ ⟨h', m, h1, h2, rfl, h3⟩
    cases h' with
    | zero =>
      right
      refine ⟨[.sh (.d (nT t)), .sh (.d (nI 0)), .sh (.d (nI m))], by simp [nI], 0, m, rfl, ?_⟩
      rw [← h3, farL_zero]; simp
    | succ h' =>
      have hn : ¬ ((h' : Int) + 1 = 0) := by omega
      cases k with
      | zero =>
        right
        have hm : ¬ ((m : Int) ≤ t.length) := by omega
        refine ⟨[.sh (.d (nT t)), .sh (.d (nI (h' + 1))), .sh (.d (nI m))], by simp [nI, nT, hn, hm], h' + 1, m, rfl, ?_⟩
        rw [← h3]; simp [farL]
      | succ k =>
        left
        have hm : (m : Int) ≤ t.length := by omega
        have h4 : h' < t.length := by omega
        have a := atI_nI t h' h4
        have e1 : ((h' : Int) + 1 - 1) = h' := by omega
        refine ⟨[.sh (.d (nT t)), .sh (.d (nI (h' + 1))), .sh (.d (nI m))], [.sh (.d (nT t)), .sh (.d (nI (t.getD h' 0))), .sh (.d (nI (m + 1)))], k, by simp [nI, nT, hn, hm], ?_, ⟨t.getD h' 0, m + 1, ?_, by omega, rfl, ?_⟩, by omega⟩
        · unfold b12l0
          have hn' : nI (h' + 1) = .int ((h' : Int) + 1) := rfl
          have hm' : nI m = .int m := rfl
          simp [hn', hm', nT, e1, a]
        · have : t.getD h' 0 = t[h'] := by simp [h4]
          rw [this]; exact hle _ (List.getElem_mem h4)
        · rw [← h3]
          simp only [farL, Option.map_map]
          congr 1
          funext x
          simp; omega
  · rintro ρ ⟨h', m, rfl, h3⟩
    rw [← h3]
    by_cases hz : h' = 0
    · subst hz
      exact st_rt (v := .val (.d (nI m))) (ρ1 := [.sh (.d (nT t)), .sh (.d (nI 0)), .sh (.d (nI m))]) (by simp [nI]) ⟨_, rfl⟩
    · rw [if_neg hz]
      exact st_rt (v := .val (.d .none)) (ρ1 := [.sh (.d (nT t)), .sh (.d (nI h')), .sh (.d (nI m))]) (by simp [nI, hz]) ⟨_, rfl⟩
end HL
namespace HL
open PySem Hil L2 HT0
theorem istree_f (x : PD) (h : okAll x = true) : f13.f [.d x] = some (.ret (.d (.bool (isTree x))) false (.opq .non)) := by
  rw [u13]
  apply fnR0
  simp only [List.map_cons, List.map_nil, List.length_cons, List.length_nil, List.replicate, List.cons_append, List.nil_append, Nat.reduceAdd, Nat.reduceSub]
  unfold b13
  cases x with
  | dict _ => simp [okAll] at h
  | tuple ds =>
    by_cases h1 : 1 ≤ ds.length ∧ ds.length < 8
    · obtain ⟨h1, h2⟩ := h1
      have h1' : (1 : Int) ≤ ds.length := by omega
      have h2' : (ds.length : Int) < 8 := by omega
      have ok : ∀ d ∈ ds, okD d = true := fun d hd => okAll_okD (okAlls_mem (by simpa [okAll] using h) d hd)
      refine st_no (ρ1 := ?rr2) ?hh2 ?kk2
      case hh2 => (simp [h1', h2', h1, h2] <;> rfl)
      have L1 : evZ Γ13 G b13c1 [.sh (.d (.tuple ds)), .un] = .ok (.fre (.d (.list (ds.map fun d => .bool (isWhole d 0 ds.length))))) [.sh (.d (.tuple ds)), .un] := by
        unfold b13c1
        have := ev_lc1 (Γ := Γ13) (G := G) (i := 1) (it := .ex (.var 0)) (ft := .cst (.bool true)) (elt := .call 6 (.cons (.var 1) (.cons (.cst (.int 0)) (.cons (.o1 .len (.var 0)) .nil)))) (ρ := [.sh (.d (.tuple ds)), .un]) (ρ1 := [.sh (.d (.tuple ds)), .un]) (ds := ds) (by simp) rfl .un (by omega) (fun _ => true) (fun d => .bool (isWhole d 0 ds.length)) (fun d hd => ⟨by simp, fun _ => ⟨.val (.d (.bool (isWhole d 0 ds.length))), by simp [(goF_at (whole_f d 0 ds.length (ok d hd)) ar6.symm)], rfl⟩⟩)
        rw [this, filter_true']
      by_cases h3 : (ds.all fun d => isWhole d 0 ds.length) = true
      · refine st_no (ρ1 := ?rr3) ?hh3 ?kk3
        case hh3 => (simp [L1, boolsOf_map2, h3] <;> rfl)
        have e : ds = (ds.map natOf).map nI := by
          rw [List.map_map]
          conv => lhs; rw [← List.map_id ds]
          apply List.map_congr_left
          intro d hd
          have := List.all_eq_true.mp h3 d hd
          cases d <;> first
            | (simp [isWhole] at this; done)
            | skip
          rename_i i
          simp [isWhole] at this
          simp [natOf, nI]
          omega
        generalize ht : ds.map natOf = t at e
        subst e
        have hle : ∀ x ∈ t, x ≤ t.length := by
          intro x hx
          have := List.all_eq_true.mp h3 (nI x) (List.mem_map_of_mem hx)
          simpa [isWhole_nI] using this
        have hl : t.length < 8 := by simpa using h2
        have L0 : evZ Γ13 G b13c0 [.sh (.d (.tuple (t.map nI))), .un] = .ok (.fre (.d (.list ((List.range (t.length + 1)).map fun h => .bool (farL t (t.length + 1) h).isSome)))) [.sh (.d (.tuple (t.map nI))), .un] := by
          unfold b13c0
          rw [ev_lcR (lo := 0) (n := t.length + 1) (ρ1 := [.sh (.d (.tuple (t.map nI))), .un]) (evi_rg (v := .val (.d (.int (t.length + 1)))) (ρ1 := [.sh (.d (.tuple (t.map nI))), .un]) (by simp) (by simp) (by omega)) rfl .un (by omega) (fun _ => true) (fun h => .bool (farL t (t.length + 1) h).isSome) (fun k hk => ⟨by simp, fun _ => ⟨.val (.d (.bool (farL t (t.length + 1) k).isSome)), ?_, rfl⟩⟩)]
          · rw [filter_true']
          · have := farof_f t k (by omega) (by omega) hle
            unfold nT at this
            rw [Nat.zero_add]
            cases q : farL t (t.length + 1) k with
            | none => simp [(goF_at this ar12.symm), q, optP]
            | some m => simp [(goF_at this ar12.symm), q, optP]
        refine st_rt (ρ1 := ?rr4) (v := ?vv4) ?hh4 ?kk4
        case hh4 => (simp [L0, boolsOf_map2] <;> (constructor <;> rfl))
        have e2 : isTree (.tuple (t.map nI)) = (List.range (t.length + 1)).all fun h => (farL t (t.length + 1) h).isSome := by
          have := isTree_nT t
          unfold nT at this
          rw [this]
          have h1 : 1 ≤ t.length := by simpa using h1
          simp only [isT, h1, hl, decide_true, Bool.true_and]
          have : (t.all fun h => decide (h ≤ t.length)) = true := by simpa using hle
          rw [this, Bool.true_and]
        rw [e2]
        simp [RetR]
      · simp only [Bool.not_eq_true] at h3
        refine st_yes (ρ1 := ?rr5) (ρ2 := ?rs5) (v := ?vv5) ?hh5 ?hi5 ?kk5
        case hh5 => (simp [L1, boolsOf_map2, h3] <;> rfl)
        case hi5 => (simp [L1, boolsOf_map2, h3] <;> (constructor <;> rfl))
        have : isTree (.tuple ds) = false := by simp only [isTree, h3, Bool.false_and, Bool.and_false]
        rw [this]
        rfl
    · refine st_yes (v := .val (.d (.bool false))) (ρ1 := [.sh (.d (.tuple ds)), .un]) (ρ2 := [.sh (.d (.tuple ds)), .un]) ?h1 (by simp) ?h3
      case h1 =>
        by_cases h2 : 1 ≤ ds.length
        · have h3 : ¬ ds.length < 8 := by omega
          have h2' : (1 : Int) ≤ ds.length := by omega
          have h3' : ¬ (ds.length : Int) < 8 := by omega
          simp [h2', h3', h2, h3]
        · have h2' : ¬ (1 : Int) ≤ ds.length := by omega
          simp [h2', h2]
      have : isTree (.tuple ds) = false := by
        simp only [isTree]
        rw [← Bool.decide_and, decide_eq_false h1, Bool.false_and]
      rw [this]
      rfl
  | none => exact st_yes (v := .val (.d (.bool false))) (ρ1 := [.sh (.d .none), .un]) (ρ2 := [.sh (.d .none), .un]) (by simp) (by simp) rfl
  | bool b => exact st_yes (v := .val (.d (.bool false))) (ρ1 := [.sh (.d (.bool b)), .un]) (ρ2 := [.sh (.d (.bool b)), .un]) (by simp) (by simp) rfl
  | int b => exact st_yes (v := .val (.d (.bool false))) (ρ1 := [.sh (.d (.int b)), .un]) (ρ2 := [.sh (.d (.int b)), .un]) (by simp) (by simp) rfl
  | str b => exact st_yes (v := .val (.d (.bool false))) (ρ1 := [.sh (.d (.str b)), .un]) (ρ2 := [.sh (.d (.str b)), .un]) (by simp) (by simp) rfl
  | list b => exact st_yes (v := .val (.d (.bool false))) (ρ1 := [.sh (.d (.list b)), .un]) (ρ2 := [.sh (.d (.list b)), .un]) (by simp) (by simp) rfl
theorem istree_nT (t : List Nat) : f13.f [.d (nT t)] = some (.ret (.d (.bool (isT t))) false (.opq .non)) := by
  rw [istree_f _ (okAll_nT t), isTree_nT]
end HL
namespace HL
open PySem Hil L2 HT0
theorem needtree_ok {x : PD} (h : okAll x = true) (ht : isTree x = true) : f17.f [.d x] = some (.ret (.d .none) false (.opq .non)) := by
  have := istree_f x h
  rw [u17]
  apply fnR0
  simp only [List.map_cons, List.map_nil, List.length_cons, List.length_nil, List.replicate, List.cons_append, List.nil_append, Nat.reduceAdd, Nat.reduceSub]
  unfold b17
  refine st_no (ρ1 := ?rr3) ?hh3 ?kk3
  case hh3 => (simp [(goF_at this ar13.symm), ht] <;> rfl)
  rw [runs_nil]; rfl
theorem needtree_no {x : PD} (h : okAll x = true) (ht : isTree x = false) : f17.f [.d x] = some (.exc 0) := by
  have := istree_f x h
  rw [u17]
  apply fnR0
  simp only [List.map_cons, List.map_nil, List.length_cons, List.length_nil, List.replicate, List.cons_append, List.nil_append, Nat.reduceAdd, Nat.reduceSub]
  unfold b17
  refine st_exc (c := 0) ?_ rfl
  simp [(goF_at this ar13.symm), ht]
end HL
namespace HL
open PySem Hil L2 HT0
theorem needhill_tree {x y : PD} (h : okAll x = true) (ht : isTree x = false) : f18.f [.d x, .d y] = some (.exc 0) := by
  have := needtree_no h ht
  rw [u18]
  apply fnR0
  simp only [List.map_cons, List.map_nil, List.length_cons, List.length_nil, List.replicate, List.cons_append, List.nil_append, Nat.reduceAdd, Nat.reduceSub]
  unfold b18
  exact st_exc (c := 0) (by simp [(goF_ex this ar17.symm)]) rfl
theorem needhill_no {t : List Nat} {y : PD} (ht : IsT t) (hy : okD y = true) (h : isWhole y 0 t.length = false) : f18.f [.d (nT t), .d y] = some (.exc 1) := by
  have h1 := needtree_ok (okAll_nT t) (by rw [isTree_nT]; exact isT_iff.mpr ht)
  have h2 := whole_f y 0 t.length hy
  have := ht.lt
  unfold nT at h1 ⊢
  rw [u18]
  apply fnR0
  simp only [List.map_cons, List.map_nil, List.length_cons, List.length_nil, List.replicate, List.cons_append, List.nil_append, Nat.reduceAdd, Nat.reduceSub]
  unfold b18
  refine st_nx (ρ1 := ?rr4) ?hh4 ?kk4
  case hh4 => (simp [(goF_at h1 ar17.symm)] <;> rfl)
  exact st_exc (c := 1) (by simp [(goF_at h2 ar6.symm), h]) rfl
theorem needhill_ok {t : List Nat} {k : Nat} (ht : IsT t) (hk : k ≤ t.length) : f18.f [.d (nT t), .d (nI k)] = some (.ret (.d .none) false (.opq .non)) := by
  have h1 := needtree_ok (okAll_nT t) (by rw [isTree_nT]; exact isT_iff.mpr ht)
  have h2 := whole_nI k t.length
  have := ht.lt
  unfold nT at h1 ⊢
  rw [u18]
  apply fnR0
  simp only [List.map_cons, List.map_nil, List.length_cons, List.length_nil, List.replicate, List.cons_append, List.nil_append, Nat.reduceAdd, Nat.reduceSub]
  unfold b18
  refine st_nx (ρ1 := ?rr5) ?hh5 ?kk5
  case hh5 => (simp [(goF_at h1 ar17.symm)] <;> rfl)
  refine st_no (ρ1 := ?rr6) ?hh6 ?kk6
  case hh6 => (simp [(goF_at h2 ar6.symm), hk] <;> rfl)
  rw [runs_nil]; rfl
end HL
namespace HL
open PySem Hil L2 HT0
theorem far_tree {x y : PD} (h : okAll x = true) (ht : isTree x = false) : f19.f [.d x, .d y] = some (.exc 0) := by
  have := needhill_tree (y := y) h ht
  rw [u19]
  apply fnR0
  simp only [List.map_cons, List.map_nil, List.length_cons, List.length_nil, List.replicate, List.cons_append, List.nil_append, Nat.reduceAdd, Nat.reduceSub]
  unfold b19
  exact st_exc (c := 0) (by simp [(goF_ex this ar18.symm)]) rfl
theorem far_no {t : List Nat} {y : PD} (ht : IsT t) (hy : okD y = true) (h : isWhole y 0 t.length = false) : f19.f [.d (nT t), .d y] = some (.exc 1) := by
  have := needhill_no ht hy h
  rw [u19]
  apply fnR0
  simp only [List.map_cons, List.map_nil, List.length_cons, List.length_nil, List.replicate, List.cons_append, List.nil_append, Nat.reduceAdd, Nat.reduceSub]
  unfold b19
  exact st_exc (c := 1) (by simp [(goF_ex this ar18.symm)]) rfl
theorem far_ok {t : List Nat} {k : Nat} (ht : IsT t) (hk : k ≤ t.length) : f19.f [.d (nT t), .d (nI k)] = some (.ret (.d (nI (rk t k))) false (.opq .non)) := by
  have h1 := needhill_ok ht hk
  have h2 := farof_f t k (by have := ht.lt; omega) hk ht.le
  rw [rk_eq ht hk] at h2
  simp only [optP] at h2
  rw [u19]
  apply fnR0
  simp only [List.map_cons, List.map_nil, List.length_cons, List.length_nil, List.replicate, List.cons_append, List.nil_append, Nat.reduceAdd, Nat.reduceSub]
  unfold b19
  refine st_nx (ρ1 := ?rr4) ?hh4 ?kk4
  case hh4 => (simp [(goF_at h1 ar18.symm)] <;> rfl)
  refine st_rt (ρ1 := ?rr5) (v := ?vv5) ?hh5 ?kk5
  case hh5 => (simp [(goF_at h2 ar12.symm)] <;> (constructor <;> rfl))
  rfl
end HL
namespace HL
open PySem Hil L2 HT0
section
variable (ns : List Int)
theorem gs_c0 (size thick one n : Nat) (L : PyData) (x : Sl) (hx : Fre x) (h1 : one < size) (h2 : size ≤ 8) (hn : n < 990000) : ∃ os : List Nat, os.Pairwise (· < ·) ∧ (∀ o ∈ os, one < o ∧ o < size) ∧
    evZ Γ3 G b3c0 [.sh (.scr ns), .mu (.d (tw n)), .sh (.d (nI size)), .sh (.d (nI thick)), .ow (.d L), .sh (.d (nI one)), x] = .ok (.fre (.d (.list (os.map fun o => .tuple [nI one, nI o])))) [.sh (.scr ns), .mu (.d (tw (n + (size - (one + 1))))), .sh (.d (nI size)), .sh (.d (nI thick)), .ow (.d L), .sh (.d (nI one)), x] := by
  unfold b3c0
  obtain ⟨ds, ρ2, hL, os, hp, hb, rfl, rfl⟩ := ev_lci (Γ := Γ3) (G := G) (j := 6) (it := .r2 (.o2 .add (.var 5) (.cst (.int 1))) (.var 2)) (ft := .o2 .lt (.call 2 (.cons (.var 0) (.cons (.var 1) (.cons (.cst (.int 4)) .nil)))) (.var 3)) (elt := .tup (.cons (.var 5) (.cons (.var 6) .nil))) (s0 := x) (ms := rgL (one + 1) (size - (one + 1))) (ρ := [.sh (.scr ns), .mu (.d (tw n)), .sh (.d (nI size)), .sh (.d (nI thick)), .ow (.d L), .sh (.d (nI one)), x]) (ρ1 := [.sh (.scr ns), .mu (.d (tw n)), .sh (.d (nI size)), .sh (.d (nI thick)), .ow (.d L), .sh (.d (nI one)), x]) (evi_rg2 (m := size) (v := .val (.d (.int ((one : Int) + 1)))) (u := .val (.d (.int size))) (ρ1 := [.sh (.scr ns), .mu (.d (tw n)), .sh (.d (nI size)), .sh (.d (nI thick)), .ow (.d L), .sh (.d (nI one)), x]) (by simp) (by simp) (by simp) (by simp) (by omega) (by omega) (by omega)) rfl hx (by rw [rgL_length]; omega)
    (fun i ρ acc => ∃ os : List Nat, os.Pairwise (· < ·) ∧ (∀ o ∈ os, one < o ∧ o < one + 1 + i) ∧ acc = os.map (fun o => .tuple [nI one, nI o]) ∧ ρ = [.sh (.scr ns), .mu (.d (tw (n + i))), .sh (.d (nI size)), .sh (.d (nI thick)), .ow (.d L), .sh (.d (nI one)), .un]) ⟨[], .nil, by simp, rfl, rfl⟩ (by
    rintro i m ρ acc hg ⟨os, hp, hb, rfl, rfl⟩
    obtain ⟨hi, rfl⟩ := rgL_get hg
    obtain ⟨c, hc, e1⟩ := drawN ns (n + i) 4 (by omega) (by omega)
    simp only [Int.cast_ofNat_Int] at e1
    refine ⟨[.sh (.scr ns), .mu (.d (tw (n + i))), .sh (.d (nI size)), .sh (.d (nI thick)), .ow (.d L), .sh (.d (nI one)), .sh (.d (nI (one + 1 + i)))], rfl, decide (c < thick), [.sh (.scr ns), .mu (.d (tw (n + i + 1))), .sh (.d (nI size)), .sh (.d (nI thick)), .ow (.d L), .sh (.d (nI one)), .sh (.d (nI (one + 1 + i)))], ?_, ?_⟩
    · simp [(goM_m1 e1 fit2)]
    · by_cases q : c < thick
      · refine .inl ⟨by simp [q], .val (.d (.tuple [nI one, nI (one + 1 + i)])), [.sh (.scr ns), .mu (.d (tw (n + i + 1))), .sh (.d (nI size)), .sh (.d (nI thick)), .ow (.d L), .sh (.d (nI one)), .sh (.d (nI (one + 1 + i)))], .tuple [nI one, nI (one + 1 + i)], _, by simp, rfl, os ++ [one + 1 + i], ?_, ?_, by simp, rfl⟩
        · rw [List.pairwise_append]
          refine ⟨hp, by simp, fun a ha b hb' => ?_⟩
          have := hb a ha
          simp at hb'
          omega
        · intro o ho
          rcases List.mem_append.mp ho with ho | ho
          · have := hb o ho; omega
          · simp at ho; omega
      · exact .inr ⟨by simp [q], os, hp, fun o ho => by have := hb o ho; omega, rfl, rfl⟩)
  rw [rgL_length] at hb hL
  exact ⟨os, hp, fun o ho => by have := hb o ho; omega, hL⟩
/-- sights drawn: pairs, rising -/
theorem gsights_f (n : Nat) (hn : n < 900000) : ∃ (size n' : Nat) (ps : List (Nat × Nat)), (2 ≤ size ∧ size ≤ 8) ∧ n' ≤ n + 100 ∧ ps.Pairwise (fun a b => a.1 < b.1 ∨ (a.1 = b.1 ∧ a.2 < b.2)) ∧ (∀ p ∈ ps, p.1 < p.2 ∧ p.2 < size) ∧ ps.length ≤ 64 ∧
    f3.f [.scr ns, .d (tw n)] = some (.ret (.d (.tuple [nI size, .tuple (ps.map fun p => .tuple [nI p.1, nI p.2])])) false (.d (tw n'))) := by
  obtain ⟨a, ha, e1⟩ := drawN ns n 7 (by omega) (by omega)
  obtain ⟨b, hb, e2⟩ := drawN ns (n + 1) 3 (by omega) (by omega)
  simp only [Int.cast_ofNat_Int] at e1 e2
  generalize hs : a + 2 = size
  generalize ht : b + 1 = thick
  have hs8 : size ≤ 8 := by omega
  obtain ⟨ρ', hF, ps, n', x, y, hp, hb', hl, hn', hx, hy, rfl⟩ := forS_inv (Γ := Γ3) (G := G) (fu := fu) (tg := .n 5) (b := b3l0) (ms := rgL 0 size) (ρ := [.sh (.scr ns), .mu (.d (tw (n + 1 + 1))), .sh (.d (nI size)), .sh (.d (nI thick)), .ow (.d (.list [])), .un, .un])
    (fun i ρ => ∃ (ps : List (Nat × Nat)) (n' : Nat) (x y : Sl), ps.Pairwise (fun a b => a.1 < b.1 ∨ (a.1 = b.1 ∧ a.2 < b.2)) ∧ (∀ p ∈ ps, p.1 < p.2 ∧ p.2 < size ∧ p.1 < i) ∧ ps.length ≤ i * 8 ∧ n' ≤ n + 2 + i * 8 ∧ Fre x ∧ Fre y ∧
      ρ = [.sh (.scr ns), .mu (.d (tw n')), .sh (.d (nI size)), .sh (.d (nI thick)), .ow (.d (.list (ps.map fun p => .tuple [nI p.1, nI p.2]))), x, y]) ⟨[], n + 1 + 1, .un, .un, .nil, by simp, by simp, by omega, .un, .un, rfl⟩ (by
    rintro i m ρ hg ⟨ps, n', x, y, hp, hb', hl, hn', hx, hy, rfl⟩
    obtain ⟨hi, rfl⟩ := rgL_get hg
    rw [Nat.zero_add]
    obtain ⟨os, ho, hob, hL⟩ := gs_c0 ns size thick i n' (.list (ps.map fun p => .tuple [nI p.1, nI p.2])) y hy hi hs8 (by omega)
    have hol : os.length ≤ 8 := by
      have := nodup_len os 8 (ho.imp fun h => Nat.ne_of_lt h) fun o h => by have := hob o h; omega
      exact this
    refine ⟨[.sh (.scr ns), .mu (.d (tw n')), .sh (.d (nI size)), .sh (.d (nI thick)), .ow (.d (.list (ps.map fun p => .tuple [nI p.1, nI p.2]))), .sh (.d (nI i)), y], [.sh (.scr ns), .mu (.d (tw (n' + (size - (i + 1))))), .sh (.d (nI size)), .sh (.d (nI thick)), .ow (.d (.list ((ps ++ os.map fun o => (i, o)).map fun p => .tuple [nI p.1, nI p.2]))), .sh (.d (nI i)), y], hx.asg rfl, ?_, ps ++ os.map (fun o => (i, o)), n' + (size - (i + 1)), .sh (.d (nI i)), y, ?_, ?_, ?_, by omega, .sh, hy, rfl⟩
    · unfold b3l0
      have hll : ps.length + os.length ≤ 1000000 := by omega
      simp [hL, hll]
    · rw [List.pairwise_append]
      refine ⟨hp, ?_, ?_⟩
      · rw [List.pairwise_map]
        exact ho.imp fun h => .inr ⟨rfl, h⟩
      · intro p hp' q hq
        simp only [List.mem_map] at hq
        obtain ⟨o, _, rfl⟩ := hq
        exact .inl (hb' p hp').2.2
    · intro p hp'
      rcases List.mem_append.mp hp' with hp' | hp'
      · have := hb' p hp'; omega
      · simp only [List.mem_map] at hp'
        obtain ⟨o, h, rfl⟩ := hp'
        have := hob o h
        simp only
        omega
    · simp only [List.length_append, List.length_map]
      omega)
  rw [rgL_length] at hb' hl hn'
  refine ⟨size, n', ps, by omega, by omega, hp, fun p h => ⟨(hb' p h).1, (hb' p h).2.1⟩, by omega, ?_⟩
  rw [u3]
  apply fnR1
  simp only [List.map_nil, List.length_nil, List.replicate, List.nil_append, Nat.reduceAdd, Nat.reduceSub]
  unfold b3
  refine st_nx (ρ1 := [.sh (.scr ns), .mu (.d (tw (n + 1))), .sh (.d (nI size)), .un, .un, .un, .un]) (by
    have : (2 : Int) + a = size := by omega
    simp [(goM_m1 e1 fit2), this]) ?_
  refine st_nx (ρ1 := [.sh (.scr ns), .mu (.d (tw (n + 1 + 1))), .sh (.d (nI size)), .sh (.d (nI thick)), .un, .un, .un]) (by
    have : (1 : Int) + b = thick := by omega
    simp [(goM_m1 e2 fit2), this]) ?_
  refine st_nx (ρ1 := [.sh (.scr ns), .mu (.d (tw (n + 1 + 1))), .sh (.d (nI size)), .sh (.d (nI thick)), .ow (.d (.list [])), .un, .un]) (by simp) ?_
  refine st_nx (ρ1 := [.sh (.scr ns), .mu (.d (tw n')), .sh (.d (nI size)), .sh (.d (nI thick)), .ow (.d (.list (ps.map fun p => .tuple [nI p.1, nI p.2]))), x, y]) (by
    rw [run_fr, evi_rg (n := size) (v := .val (.d (.int size))) (ρ1 := [.sh (.scr ns), .mu (.d (tw (n + 1 + 1))), .sh (.d (nI size)), .sh (.d (nI thick)), .ow (.d (.list [])), .un, .un]) (by simp) (by simp) (by omega), of_ok]
    exact hF) ?_
  refine st_rt (v := .val (.d (.tuple [nI size, .tuple (ps.map fun p => .tuple [nI p.1, nI p.2])]))) (ρ1 := [.sh (.scr ns), .mu (.d (tw n')), .sh (.d (nI size)), .sh (.d (nI thick)), .ow (.d (.list (ps.map fun p => .tuple [nI p.1, nI p.2]))), x, y]) (by simp) (by simp [RetR])
end
end HL
namespace HL
open PySem Hil L2 HT0
theorem seen_f {ps : List (Nat × Nat)} (S : Sights ps) {P : PyData} (hP : SightW P ps) (h : Nat) : f9.f [.d P, .d (nI h)] = some (.ret (.d (nL (nb ps h))) true (.opq .non)) := by
  have sp := sights_sorted S h
  have hf := S.few
  rw [u9]
  apply fnR0
  simp only [List.map_cons, List.map_nil, List.length_cons, List.length_nil, List.replicate, List.cons_append, List.nil_append, Nat.reduceAdd, Nat.reduceSub]
  unfold b9
  have C : evZ Γ9 G b9c0 [.sh (.d (P)), .sh (.d (nI h)), .un] = .ok (.fre (.d (.list ((ps.filter fun p => decide (p.1 = h) || decide (p.2 = h)).map fun p => PyData.int ((p.1 : Int) + p.2 - h))))) [.sh (.d (P)), .sh (.d (nI h)), .un] := by
    unfold b9c0
    refine ev_lcA (tg := .n 2) (ρ1 := [.sh (.d (P)), .sh (.d (nI h)), .un]) ps (fun p => .one (.tuple [nI p.1, nI p.2])) (fun p => [.sh (.d (P)), .sh (.d (nI h)), .sh (.d (.tuple [nI p.1, nI p.2]))]) (fun p => decide (p.1 = h) || decide (p.2 = h)) (fun p => .int ((p.1 : Int) + p.2 - h)) ?_ rfl rfl (by omega) fun p hp => ⟨rfl, ?_, fun _ => ⟨.val (.d (.int ((p.1 : Int) + p.2 - h))), ?_, rfl⟩, rfl⟩
    · rcases hP with rfl | rfl <;> simp [List.map_map, Function.comp_def]
    · have e : ∀ a b : Nat, ((a : Int) == (b : Int)) = decide (a = b) := fun a b => by
        by_cases q : a = b
        · simp [q]
        · have : (a : Int) ≠ b := by omega
          simp [q, this]
      have op : op2 .inn (.d (nI h)) (.d (.tuple [nI p.1, nI p.2])) = some (.d (.bool (decide (p.1 = h) || decide (p.2 = h))), false) := by
        have d0 : (nI h).depth ≤ 60 := Nat.zero_le _
        simp only [op2, gIn, gIn', d0, if_true, Option.map_some]
        simp [PyData.eqv, nI, e]
      exact ev_o2R (v := .val (.d (nI h))) (u := .val (.d (.tuple [nI p.1, nI p.2]))) (by simp) (by simp) rfl rfl op
    · simp [intsOf]
      try omega
  refine st_rt (v := .fre (.d (nL (nb ps h)))) (ρ1 := [.sh (.d (P)), .sh (.d (nI h)), .un]) ?_ rfl
  have e2 : ((ps.filter fun p => decide (p.1 = h) || decide (p.2 = h)).map fun p => PyData.int ((p.1 : Int) + p.2 - h)) = ((ps.filter fun p => decide (p.1 = h) || decide (p.2 = h)).map fun p => ((p.1 : Int) + p.2 - h)).map PyData.int := by
    rw [List.map_map]
    rfl
  rw [e2] at C
  have e3 : ((nb ps h).map fun o : Nat => (o : Int)).map PyData.int = (nb ps h).map nI := by
    rw [List.map_map]
    rfl
  generalize ((ps.filter fun p => decide (p.1 = h) || decide (p.2 = h)).map fun p => ((p.1 : Int) + p.2 - h)) = Z at *
  have gs : op1 .sorted (.d (.list (Z.map PyData.int))) = some (.d (nL (nb ps h)), true) := by
    have e0 : op1 .sorted = Hil.gSortedD := rfl
    rw [e0]
    unfold Hil.gSortedD
    simp only [intsOf_map]
    rw [sp, e3]
    rfl
  rw [run_ret, ev_o1, C, bind_ok]
  show Hil.SO.of (match op1 .sorted (.d (.list (Z.map PyData.int))) with | some r => _ | none => _) _ = _
  rw [gs]
  rfl
end HL
namespace HL
open PySem Hil L2 HT0
theorem near_f {ps : List (Nat × Nat)} (S : Sights ps) (h : Nat) (hh : h < 8) : f4.f [.d (sightP ps), .d (nI h)] = some (.ret (.d (nL (nb ps h))) true (.opq .non)) := by
  have hP : sightP ps = .tuple (ps.map fun p => PyData.tuple [nI p.1, nI p.2]) := rfl
  rw [u4]
  apply fnR0
  simp only [List.map_cons, List.map_nil, List.length_cons, List.length_nil, List.replicate, List.cons_append, List.nil_append, Nat.reduceAdd, Nat.reduceSub]
  unfold b4
  have C : evZ Γ4 G b4c0 [.sh (.d (sightP ps)), .sh (.d (nI h)), .un] = .ok (.fre (.d (nL (nb ps h)))) [.sh (.d (sightP ps)), .sh (.d (nI h)), .un] := by
    unfold b4c0
    rw [ev_lcR (lo := 0) (n := 8) (s0 := .un) (ρ1 := [.sh (.d (sightP ps)), .sh (.d (nI h)), .un]) (evi_rg (v := .val (.d (.int 8))) (by simp) rfl (by omega)) rfl .un (by omega) (adjB ps h) (fun o => nI o) fun o ho => ?_]
    · rfl
    · rw [Nat.zero_add]
      refine ⟨?_, fun _ => ⟨.val (.d (nI o)), by simp, rfl⟩⟩
      have ap := any_pair (min h o, max h o) ps
      have dp : (PyData.tuple [nI (min h o), nI (max h o)]).depth ≤ 60 := Nat.le_trans (tup_ok (min h o, max h o)).2 (by decide)
      have op : op2 .inn (.d (.tuple [nI (min h o), nI (max h o)])) (.d (sightP ps)) = some (.d (.bool (decide ((min h o, max h o) ∈ ps))), false) := by
        rw [hP, ← ap]
        simp only [op2, gIn, gIn', dp, if_true, Option.map_some]
      have hmin : min (h : Int) (o : Int) = ((min h o : Nat) : Int) := by omega
      have hmax : max (h : Int) (o : Int) = ((max h o : Nat) : Int) := by omega
      refine ev_and2 (p := decide ((min h o, max h o) ∈ ps)) (q := decide (o ≠ h)) ?_ fun _ => ?_
      · refine ev_o2R (v := .val (.d (.tuple [nI (min h o), nI (max h o)]))) (u := .val (.d (sightP ps))) ?_ (by simp) rfl rfl op
        simp [isSs, isStr, hmin, hmax]
      · simp [Int.natCast_inj]
  exact st_rt (v := .fre (.d (nL (nb ps h)))) (ρ1 := [.sh (.d (sightP ps)), .sh (.d (nI h)), .un]) (by rw [run_ret, C, of_ok]) rfl
end HL
namespace HL
open PySem Hil L2 HT0
section
variable {ps : List (Nat × Nat)} (S : Sights ps) (C : List Nat)
include S
theorem away_c0 (k h : Nat) (hh : h < 8) (L1 : List Nat) : evZ Γ5 G b5c0 [.sh (.d (sightP ps)), .sh (.d (nL C)), (.ow (.dk (dkF (foundL ps C (k + 1))))), (.sh (.d (nL (lvl ps C k)))), (.sh (.d (nI k))), (.sh (.d (nI h))), (.ow (.d (nL L1))), .un] = .ok (.fre (.d (nL ((nb ps h).filter fun o => !((seen ps C k).any fun x => decide (x = o)) && !(C.any fun x => decide (x = o)))))) [.sh (.d (sightP ps)), .sh (.d (nL C)), (.ow (.dk (dkF (foundL ps C (k + 1))))), (.sh (.d (nL (lvl ps C k)))), (.sh (.d (nI k))), (.sh (.d (nI h))), (.ow (.d (nL L1))), .un] := by
  have nf := near_f S h hh
  have hk := foundL_keys ps C k
  have ha := fun o => dkF_any (foundL ps C (k + 1)) o
  rw [hk] at ha
  unfold b5c0
  generalize dkF (foundL ps C (k + 1)) = D at *
  generalize seen ps C k = sk at *
  refine ev_lcA (tg := .n 7) (ρ1 := [.sh (.d (sightP ps)), .sh (.d (nL C)), (.ow (.dk D)), (.sh (.d (nL (lvl ps C k)))), (.sh (.d (nI k))), (.sh (.d (nI h))), (.ow (.d (nL L1))), .un]) (nb ps h) (fun o => .one (nI o)) (fun o => [.sh (.d (sightP ps)), .sh (.d (nL C)), (.ow (.dk D)), (.sh (.d (nL (lvl ps C k)))), (.sh (.d (nI k))), (.sh (.d (nI h))), (.ow (.d (nL L1))), (.sh (.d (nI o)))]) (fun o => !(sk.any fun x => decide (x = o)) && !(C.any fun x => decide (x = o))) nI ?_ rfl rfl ?_ fun o ho => ⟨rfl, ev_and2 ?_ fun _ => ?_, fun _ => ⟨.val (.d (nI o)), by simp, rfl⟩, rfl⟩
  · generalize sightP ps = P at *
    generalize nb ps h = N at *
    simp [(goF_at nf ar4.symm), nL, List.map_map, Function.comp_def]
  · have := nb_len (ps := ps) hh
    omega
  · have op : op2 .nin (.d (nI o)) (.dk D) = some (.d (.bool (!(sk.any fun x => decide (x = o)))), false) := by
      have e : nI o = .int (o : Int) := rfl
      rw [← ha o, e]
      rfl
    exact ev_o2R (v := .val (.d (nI o))) (u := .loc 2) (by simp) (by simp) rfl rfl op
  · exact ev_ninN (v := .val (.d (nI o))) (u := .val (.d (nL C))) (by simp) (by simp) rfl rfl
theorem away_body (k : Nat) (hk : k < 9) (x5 x6 : Sl) (h5 : Fre x5) (h6 : Nmu x6) :
    (fun o => ∃ y5 y6, Fre y5 ∧ Nmu y6 ∧ o = SO.nx [.sh (.d (sightP ps)), .sh (.d (nL C)), (.ow (.dk (dkF (foundL ps C (k + 1))))), (.ow (.d (nL (lvl ps C (k + 1))))), (.sh (.d (nI (k + 1)))), y5, y6, .un]) (runsZ Γ5 G fu b5l0 [.sh (.d (sightP ps)), .sh (.d (nL C)), (.ow (.dk (dkF (foundL ps C k)))), (.ow (.d (nL (lvl ps C k)))), (.sh (.d (nI k))), x5, x6, .un]) := by
  have ac := fun h hh L1 => away_c0 S C k h hh L1
  have ll := later_lvl ps C k
  have lt : ∀ h ∈ lvl ps C k, h < 8 := fun h hh => lvl_lt ps C hh
  have len := lvl_len ps C k
  have f0 := foundI_0 ps C k
  have fa := foundI_all ps C k
  have fs : ∀ (i h : Nat), (lvl ps C k)[i]? = some h → putD (dkF (foundI ps C k i)) (.inl (h : Int)) (nI k) = dkF (foundI ps C k (i + 1)) ∧ (dkF (foundI ps C k i)).length < 1000000 := fun i h hh => by
    obtain ⟨e1, e2⟩ := foundI_succ hh
    refine ⟨by rw [dkF_put e2, e1], ?_⟩
    rw [dkF_length]
    have := foundI_len ps C k i
    omega
  have lz := fun H hH => laterL_len ps C k (H := H) hH
  let P := fun o => ∃ y5 y6, Fre y5 ∧ Nmu y6 ∧ o = SO.nx [.sh (.d (sightP ps)), .sh (.d (nL C)), (.ow (.dk (dkF (foundL ps C (k + 1))))), (.ow (.d (nL (lvl ps C (k + 1))))), (.sh (.d (nI (k + 1)))), y5, y6, .un]
  show P _
  unfold b5l0
  rw [← f0]
  have hev : eviZ Γ5 G (.ex (.var 3)) [.sh (.d (sightP ps)), .sh (.d (nL C)), (.ow (.dk (dkF (foundI ps C k 0)))), (.ow (.d (nL (lvl ps C k)))), (.sh (.d (nI k))), x5, x6, .un] = .ok ((lvl ps C k).map fun h => .one (nI h)) [.sh (.d (sightP ps)), .sh (.d (nL C)), (.ow (.dk (dkF (foundI ps C k 0)))), (.sh (.d (nL (lvl ps C k)))), (.sh (.d (nI k))), x5, x6, .un] := by
    simp [nL, List.map_map, Function.comp_def]
  refine st_for (P := P) hev (fun i ρ => ∃ y5, Fre y5 ∧ ρ = [.sh (.d (sightP ps)), .sh (.d (nL C)), (.ow (.dk (dkF (foundI ps C k i)))), (.sh (.d (nL (lvl ps C k)))), (.sh (.d (nI k))), y5, x6, .un]) ⟨x5, h5, rfl⟩ ?_ ?_
  · rintro i m ρ hm ⟨y5, g5, rfl⟩
    rw [List.getElem?_map, Option.map_eq_some_iff] at hm
    obtain ⟨h, hh, rfl⟩ := hm
    obtain ⟨e1, e2⟩ := fs i h hh
    refine ⟨[.sh (.d (sightP ps)), .sh (.d (nL C)), (.ow (.dk (dkF (foundI ps C k i)))), (.sh (.d (nL (lvl ps C k)))), (.sh (.d (nI k))), (.sh (.d (nI h))), x6, .un], [.sh (.d (sightP ps)), .sh (.d (nL C)), (.ow (.dk (dkF (foundI ps C k (i + 1))))), (.sh (.d (nL (lvl ps C k)))), (.sh (.d (nI k))), (.sh (.d (nI h))), x6, .un], g5.asg rfl, ?_, _, .sh, rfl⟩
    unfold b5l2
    rw [← e1]
    generalize dkF (foundI ps C k i) = D at *
    have e9 : nI h = .int (h : Int) := rfl
    rw [e9]
    generalize nI k = nk at *
    simp [sixW, keyW, e2]
  · rintro ρ ⟨y5, g5, rfl⟩
    rw [List.length_map, fa]
    refine st_nx (P := P) (run_asgF (w := .d (.list [])) (ρ1 := [.sh (.d (sightP ps)), .sh (.d (nL C)), (.ow (.dk (dkF (foundL ps C (k + 1))))), (.sh (.d (nL (lvl ps C k)))), (.sh (.d (nI k))), y5, x6, .un]) (by simp) rfl h6) ?_
    show P (runsZ Γ5 G fu _ [.sh (.d (sightP ps)), .sh (.d (nL C)), (.ow (.dk (dkF (foundL ps C (k + 1))))), (.sh (.d (nL (lvl ps C k)))), (.sh (.d (nI k))), y5, (.ow (.d (nL (laterL ps C k ((lvl ps C k).take 0))))), .un])
    have hev2 : eviZ Γ5 G (.ex (.var 3)) [.sh (.d (sightP ps)), .sh (.d (nL C)), (.ow (.dk (dkF (foundL ps C (k + 1))))), (.sh (.d (nL (lvl ps C k)))), (.sh (.d (nI k))), y5, (.ow (.d (nL (laterL ps C k ((lvl ps C k).take 0))))), .un] = .ok ((lvl ps C k).map fun h => .one (nI h)) [.sh (.d (sightP ps)), .sh (.d (nL C)), (.ow (.dk (dkF (foundL ps C (k + 1))))), (.sh (.d (nL (lvl ps C k)))), (.sh (.d (nI k))), y5, (.ow (.d (nL (laterL ps C k ((lvl ps C k).take 0))))), .un] := by
      simp [nL, List.map_map, Function.comp_def]
    refine st_for (P := P) hev2 (fun i ρ => ∃ y5, Fre y5 ∧ ρ = [.sh (.d (sightP ps)), .sh (.d (nL C)), (.ow (.dk (dkF (foundL ps C (k + 1))))), (.sh (.d (nL (lvl ps C k)))), (.sh (.d (nI k))), y5, (.ow (.d (nL (laterL ps C k ((lvl ps C k).take i))))), .un]) ⟨y5, g5, rfl⟩ ?_ ?_
    · rintro i m ρ hm ⟨y5, g5, rfl⟩
      rw [List.getElem?_map, Option.map_eq_some_iff] at hm
      obtain ⟨h, hh, rfl⟩ := hm
      have hm := List.mem_of_getElem? hh
      have c0 := ac h (lt h hm) (laterL ps C k ((lvl ps C k).take i))
      have e : laterL ps C k ((lvl ps C k).take (i + 1)) = laterL ps C k ((lvl ps C k).take i) ++ (nb ps h).filter fun o => !((seen ps C k).any fun x => decide (x = o)) && !(C.any fun x => decide (x = o)) := by
        unfold laterL
        rw [List.take_add_one, hh, List.flatMap_append]
        simp
      have l1 := lz ((lvl ps C k).take (i + 1)) fun h hh => lt h (List.mem_of_mem_take hh)
      have l2 : ((lvl ps C k).take (i + 1)).length ≤ 8 := by rw [List.length_take]; omega
      rw [e, List.length_append] at l1
      refine ⟨[.sh (.d (sightP ps)), .sh (.d (nL C)), (.ow (.dk (dkF (foundL ps C (k + 1))))), (.sh (.d (nL (lvl ps C k)))), (.sh (.d (nI k))), (.sh (.d (nI h))), (.ow (.d (nL (laterL ps C k ((lvl ps C k).take i))))), .un], [.sh (.d (sightP ps)), .sh (.d (nL C)), (.ow (.dk (dkF (foundL ps C (k + 1))))), (.sh (.d (nL (lvl ps C k)))), (.sh (.d (nI k))), (.sh (.d (nI h))), (.ow (.d (nL (laterL ps C k ((lvl ps C k).take (i + 1)))))), .un], g5.asg rfl, ?_, _, .sh, rfl⟩
      unfold b5l1
      rw [e]
      generalize (nb ps h).filter (fun o => !((seen ps C k).any fun x => decide (x = o)) && !(C.any fun x => decide (x = o))) = N at *
      generalize laterL ps C k ((lvl ps C k).take i) = Lt at *
      generalize dkF (foundL ps C (k + 1)) = D at *
      have hl : Lt.length + N.length ≤ 1000000 := by omega
      have e7 : nL (Lt ++ N) = .list (Lt.map nI ++ N.map nI) := by unfold nL; rw [List.map_append]
      rw [e7]
      unfold nL at c0 ⊢
      simp [c0, hl]
    · rintro ρ ⟨y5, g5, rfl⟩
      rw [List.length_map, List.take_length]
      refine ⟨y5, .ow (.d (nL (laterL ps C k (lvl ps C k)))), g5, fun w e => (by cases e), ?_⟩
      generalize dkF (foundL ps C (k + 1)) = D at *
      generalize laterL ps C k (lvl ps C k) = Lt at *
      have E1 : evZ Γ5 G (.o1 .sset (.var 6)) [.sh (.d (sightP ps)), .sh (.d (nL C)), (.ow (.dk D)), (.sh (.d (nL (lvl ps C k)))), (.sh (.d (nI k))), y5, (.ow (.d (nL Lt))), .un] = .ok (.fre (.d (nL (lvl ps C (k + 1))))) [.sh (.d (sightP ps)), .sh (.d (nL C)), (.ow (.dk D)), (.sh (.d (nL (lvl ps C k)))), (.sh (.d (nI k))), y5, (.ow (.d (nL Lt))), .un] := by
        rw [ev_o1, ev_var]
        show (match op1 .sset (.d (nL Lt)) with | some r => _ | none => _) = _
        rw [ll]
        rfl
      generalize nL (lvl ps C (k + 1)) = Z at *
      generalize nL (lvl ps C k) = Z0 at *
      generalize nL Lt = Z1 at *
      have e1 : ((k : Int) + 1) = ((k + 1 : Nat) : Int) := by omega
      refine st_nx (P := fun o => o = .nx _) (ρ1 := [.sh (.d (sightP ps)), .sh (.d (nL C)), (.ow (.dk D)), (.ow (.d (Z))), (.sh (.d (nI (k + 1)))), y5, (.ow (.d (Z1))), .un]) (by simp [E1]) ?_
      rw [runs_nil]
theorem away_f : ∃ F, Found ps C F ∧ f5.f [.d (sightP ps), .d (nL C)] = some (.ret (.dk (dkF F)) true (.opq .non)) := by
  obtain ⟨K, k1, k2, k3, k4⟩ := lvl_end ps C
  refine ⟨foundL ps C K, foundL_found ps C k3 k2, ?_⟩
  have ab := fun k hk x5 x6 h5 h6 => away_body S C k hk x5 x6 h5 h6
  rw [u5]
  apply fnR0
  simp only [List.map_cons, List.map_nil, List.length_cons, List.length_nil, List.replicate, List.cons_append, List.nil_append, Nat.reduceAdd, Nat.reduceSub]
  unfold b5
  refine st_nx (ρ1 := [.sh (.d (sightP ps)), .sh (.d (nL C)), (.ow (.dk (dkF (foundL ps C 0)))), (.ow (.d (nL (lvl ps C 0)))), (.sh (.d (nI 0))), .un, .un, .un]) (by simp [foundL, dkF, lvl_0, nL]) ?_
  refine st_whln (fun n ρ => ∃ k x5 x6, k ≤ K ∧ n + k = K ∧ Fre x5 ∧ Nmu x6 ∧ ρ = [.sh (.d (sightP ps)), .sh (.d (nL C)), (.ow (.dk (dkF (foundL ps C k)))), (.ow (.d (nL (lvl ps C k)))), (.sh (.d (nI k))), x5, x6, .un])
    (fun ρ => ∃ x5 x6 x3 x4, ρ = [.sh (.d (sightP ps)), .sh (.d (nL C)), (.ow (.dk (dkF (foundL ps C K)))), x3, x4, x5, x6, .un]) K ⟨0, .un, .un, by omega, by omega, Fre.un, Fre.un.nmu, rfl⟩ (by unfold fu; omega) ?_ ?_
  · rintro n ρ ⟨k, x5, x6, hk, hn, h5, h6, rfl⟩
    have cond : evZ Γ5 G (.o2 .ne (.var 3) (.lst .nil)) [.sh (.d (sightP ps)), .sh (.d (nL C)), (.ow (.dk (dkF (foundL ps C k)))), (.ow (.d (nL (lvl ps C k)))), (.sh (.d (nI k))), x5, x6, .un] = .ok (.val (.d (.bool (!(lvl ps C k).isEmpty)))) [.sh (.d (sightP ps)), .sh (.d (nL C)), (.ow (.dk (dkF (foundL ps C k)))), (.ow (.d (nL (lvl ps C k)))), (.sh (.d (nI k))), x5, x6, .un] := by
      have op := op_ne (x := nL (lvl ps C k)) (y := .list []) (okDep.nL _) (by decide)
      have e : PyData.eqv (nL (lvl ps C k)) (.list []) = (lvl ps C k).isEmpty := by
        cases lvl ps C k <;> rfl
      rw [e] at op
      exact ev_o2R (v := .loc 3) (u := .fre (.d (.list []))) (by simp) (by simp) rfl rfl op
    rcases Nat.lt_or_ge k K with q | q
    · left
      have ne := k4 k q
      have e : (!(lvl ps C k).isEmpty) = true := by
        cases h : lvl ps C k with
        | nil => exact absurd h ne
        | cons a r => rfl
      rw [e] at cond
      obtain ⟨y5, y6, g5, g6, e2⟩ := ab k (by omega) x5 x6 h5 h6
      exact ⟨_, _, n - 1, cond, e2, ⟨k + 1, y5, y6, by omega, by omega, g5, g6, rfl⟩, by omega⟩
    · right
      have : k = K := by omega
      subst this
      have e : (!(lvl ps C k).isEmpty) = false := by rw [k3]; rfl
      rw [e] at cond
      exact ⟨_, cond, _, _, _, _, rfl⟩
  · rintro ρ ⟨x5, x6, x3, x4, rfl⟩
    generalize dkF (foundL ps C K) = D
    exact st_rt (v := .loc 2) (ρ1 := [.sh (.d (sightP ps)), .sh (.d (nL C)), (.ow (.dk D)), x3, x4, x5, x6, .un]) (by simp) rfl
end
end HL
namespace HL
open PySem Hil L2 HT0
section
variable {ps : List (Nat × Nat)} (S : Sights ps) (C : List Nat) {P : PyData} (hP : SightW P ps)
include S hP
theorem dist_inner (d h i o : Nat) (F : List (Nat × Nat)) (R : List Nat) (Qb Qa : List Nat) (I : QI ps C d (h :: Qa) Qb F) (ho : (nb ps h)[i]? = some o) (hR : R.length ≤ 100) (x : Sl) (hx : Fre x) :
    runsZ Γ10 G fu b10l1 [.sh (.d (P)), .sh (.d (nI 0)), .sh (.d (nL C)), (.ow (.dk (dkF (FI ps C F h d i)))), (.ow (.d (nL (R ++ newI ps C F h i)))), (.sh (.d (nI h))), (.sh (.d (nI o)))] = .nx [.sh (.d (P)), .sh (.d (nI 0)), .sh (.d (nL C)), (.ow (.dk (dkF (FI ps C F h d (i + 1))))), (.ow (.d (nL (R ++ newI ps C F h (i + 1))))), (.sh (.d (nI h))), (.sh (.d (nI o)))] := by
  have nin := FI_keys (d := d) ps C (F := F) ho
  have da := dkF_any (FI ps C F h d i) o
  have fs := FI_succ (d := d) ps C (F := F) ho
  have ns := newI_succ ps C (F := F) ho
  have st := I.step ps C
  have sub := FI_sub ps C (F := F) (h := h) (d := d) (i := i)
  have hh : (h, d) ∈ FI ps C F h d i := List.mem_append_left _ (I.all d (Nat.le_refl _) h (I.qa h List.mem_cons_self))
  have nd : ((FI ps C F h d i).map (·.1)).Nodup := st.nod.sublist (sub.map _)
  have fd := dkF_find nd hh
  have fl : (FI ps C F h d i).length ≤ 8 := Nat.le_trans sub.length_le st.len
  have dl := dkF_length (FI ps C F h d i)
  have nl : (newI ps C F h i).length ≤ 8 := by
    have h1 : (newI ps C F h i).length ≤ (nb ps h).length := by
      unfold newI
      exact Nat.le_trans (List.length_filter_le _ _) (by rw [List.length_take]; omega)
    have h2 : (nb ps h).length ≤ 8 := by
      unfold nb
      have := List.length_filter_le (adjB ps h) (List.range 8)
      rwa [List.length_range] at this
    omega
  have pt : newC C F o = true → putD (dkF (FI ps C F h d i)) (.inl (o : Int)) (nI (d + 1)) = dkF (FI ps C F h d i ++ [(o, d + 1)]) := fun q => by
    refine dkF_put ?_
    unfold newC at q
    rw [Bool.and_eq_true] at q
    rw [← nin] at q
    exact any_nin.mp q.1
  have hc : newC C F o = (!((F.map (·.1)).any fun x => decide (x = o)) && !(C.any fun x => decide (x = o))) := rfl
  rw [fs, ns, ← List.append_assoc]
  rw [← nin, ← da] at hc
  generalize hFF : FI ps C F h d i = FF at *
  generalize hD : dkF FF = D at *
  have e7 : nL (R ++ newI ps C F h i) = .list (R.map nI ++ (newI ps C F h i).map nI) := by unfold nL; rw [List.map_append]
  have cond : evZ Γ10 G (.bop true (.cons (.o2 .nin (.var 6) (.var 3)) (.cons (.o2 .nin (.var 6) (.var 2)) .nil))) [.sh (.d (P)), .sh (.d (nI 0)), .sh (.d (nL C)), (.ow (.dk D)), (.ow (.d (nL (R ++ newI ps C F h i)))), (.sh (.d (nI h))), (.sh (.d (nI o)))] = .ok (.val (.d (.bool (newC C F o)))) [.sh (.d (P)), .sh (.d (nI 0)), .sh (.d (nL C)), (.ow (.dk D)), (.ow (.d (nL (R ++ newI ps C F h i)))), (.sh (.d (nI h))), (.sh (.d (nI o)))] := by
    rw [hc]
    refine ev_and2 ?_ fun _ => ?_
    · have op : op2 .nin (.d (nI o)) (.dk D) = some (.d (.bool (!(D.any fun kv => decide (kv.1 = .inl (o : Int))))), false) := rfl
      exact ev_o2R (v := .val (.d (nI o))) (u := .loc 3) (by simp) (by simp) rfl rfl op
    · exact ev_ninN (v := .val (.d (nI o))) (u := .val (.d (nL C))) (by simp) (by simp) rfl rfl
  unfold b10l1
  by_cases q : newC C F o = true
  · have pt := pt q
    rw [q] at cond
    rw [if_pos q, if_pos q, runs_cons, run_ife, cond, of_ok]
    show (runsZ Γ10 G fu _ _).seq _ = _
    rw [← pt]
    have e9 : nI h = .int (h : Int) := rfl
    have e8 : nI o = .int (o : Int) := rfl
    have e6 : nI (d + 1) = .int ((d : Int) + 1) := by simp
    have hDl : D.length < 1000000 := by omega
    have S1 : runZ Γ10 G fu (.six 3 (.var 6) (.o2 .add (.o2 .ix (.var 3) (.var 5)) (.cst (.int 1)))) [.sh (.d (P)), .sh (.d (nI 0)), .sh (.d (nL C)), (.ow (.dk D)), (.ow (.d (nL (R ++ newI ps C F h i)))), (.sh (.d (nI h))), (.sh (.d (nI o)))] = .nx [.sh (.d (P)), .sh (.d (nI 0)), .sh (.d (nL C)), (.ow (.dk (putD D (.inl (o : Int)) (nI (d + 1))))), (.ow (.d (nL (R ++ newI ps C F h i)))), (.sh (.d (nI h))), (.sh (.d (nI o)))] := by
      rw [e9, e8, e6]
      generalize nL (R ++ newI ps C F h i) = Z at *
      simp [sixW, keyW, hDl, fd]
    have hz : R.length + (newI ps C F h i).length < 1000000 := by omega
    have S2 : runZ Γ10 G fu (.app 4 (.var 6)) [.sh (.d (P)), .sh (.d (nI 0)), .sh (.d (nL C)), (.ow (.dk (putD D (.inl (o : Int)) (nI (d + 1))))), (.ow (.d (nL (R ++ newI ps C F h i)))), (.sh (.d (nI h))), (.sh (.d (nI o)))] = .nx [.sh (.d (P)), .sh (.d (nI 0)), .sh (.d (nL C)), (.ow (.dk (putD D (.inl (o : Int)) (nI (d + 1))))), (.ow (.d (nL (R ++ newI ps C F h i ++ [o])))), (.sh (.d (nI h))), (.sh (.d (nI o)))] := by
      generalize putD D (.inl (o : Int)) (nI (d + 1)) = D2 at *
      have e5 : nL (R ++ newI ps C F h i ++ [o]) = .list (R.map nI ++ ((newI ps C F h i).map nI ++ [nI o])) := by unfold nL; simp
      rw [e7, e5]
      generalize (newI ps C F h i) = N at *
      simp [hz]
    rw [runs_cons, S1, seq_nx, runs_cons, S2, seq_nx, runs_nil, seq_nx, runs_nil]
  · simp only [Bool.not_eq_true] at q
    rw [q] at cond
    rw [if_neg (by rw [q]; decide), if_neg (by rw [q]; decide), List.append_nil, List.append_nil, hD]
    refine st_no (P := fun o => o = .nx _) cond ?_
    rw [runs_nil]
theorem dist_body (d h : Nat) (Qa Qb : List Nat) (F : List (Nat × Nat)) (I : QI ps C d (h :: Qa) Qb F) (hq : (Qa ++ Qb).length ≤ 50) (x5 x6 : Sl) (h5 : Fre x5) (h6 : Fre x6) :
    (fun o => ∃ y5 y6, Fre y5 ∧ Fre y6 ∧ o = SO.nx [.sh (.d (P)), .sh (.d (nI 0)), .sh (.d (nL C)), (.ow (.dk (dkF (F ++ (newO ps C F h).map fun o => (o, d + 1))))), (.ow (.d (nL (Qa ++ Qb ++ newO ps C F h)))), y5, y6]) (runsZ Γ10 G fu b10l0 [.sh (.d (P)), .sh (.d (nI 0)), .sh (.d (nL C)), (.ow (.dk (dkF F))), (.ow (.d (nL (h :: (Qa ++ Qb))))), x5, x6]) := by
  have sf := seen_f S hP h
  have di := fun i o ho => dist_inner S C hP d h i o F (Qa ++ Qb) Qb Qa I ho (by omega)
  have f0 : FI ps C F h d 0 = F := by unfold FI newI; simp
  have fN : FI ps C F h d (nb ps h).length = F ++ (newO ps C F h).map fun o => (o, d + 1) := by
    unfold FI
    rw [newI_all]
  have n0 : newI ps C F h 0 = [] := by unfold newI; simp
  have nN := newI_all ps C F h
  let Pp := fun o => ∃ y5 y6, Fre y5 ∧ Fre y6 ∧ o = SO.nx [.sh (.d (P)), .sh (.d (nI 0)), .sh (.d (nL C)), (.ow (.dk (dkF (F ++ (newO ps C F h).map fun o => (o, d + 1))))), (.ow (.d (nL (Qa ++ Qb ++ newO ps C F h)))), y5, y6]
  show Pp _
  unfold b10l0
  refine st_nx (P := Pp) (ρ1 := [.sh (.d (P)), .sh (.d (nI 0)), .sh (.d (nL C)), (.ow (.dk (dkF (FI ps C F h d 0)))), (.ow (.d (nL (Qa ++ Qb ++ newI ps C F h 0)))), (.sh (.d (nI h))), x6]) (by
    rw [f0, n0, List.append_nil]
    have e1 : nL (h :: (Qa ++ Qb)) = .list (nI h :: (Qa ++ Qb).map nI) := rfl
    have e2 : nL (Qa ++ Qb) = .list ((Qa ++ Qb).map nI) := rfl
    have hz : ((Qa ++ Qb).map nI).length + 1 ≤ 1000000 := by rw [List.length_map]; omega
    rw [e1, e2]
    generalize (Qa ++ Qb).map nI = Z at *
    generalize dkF F = D at *
    cases x5 <;> first
      | exact h5.elim
      | simp [ixN, hz]) ?_
  have hev : eviZ Γ10 G (.ex (.call 9 (.cons (.var 0) (.cons (.var 5) .nil)))) [.sh (.d (P)), .sh (.d (nI 0)), .sh (.d (nL C)), (.ow (.dk (dkF (FI ps C F h d 0)))), (.ow (.d (nL (Qa ++ Qb ++ newI ps C F h 0)))), (.sh (.d (nI h))), x6] = .ok ((nb ps h).map fun o => .one (nI o)) [.sh (.d (P)), .sh (.d (nI 0)), .sh (.d (nL C)), (.ow (.dk (dkF (FI ps C F h d 0)))), (.ow (.d (nL (Qa ++ Qb ++ newI ps C F h 0)))), (.sh (.d (nI h))), x6] := by
    generalize nL (Qa ++ Qb ++ newI ps C F h 0) = Z at *
    generalize dkF (FI ps C F h d 0) = D at *
    simp [(goF_at sf ar9.symm), nL, List.map_map, Function.comp_def]
  refine st_for (P := Pp) hev (fun i ρ => ∃ y6, Fre y6 ∧ ρ = [.sh (.d (P)), .sh (.d (nI 0)), .sh (.d (nL C)), (.ow (.dk (dkF (FI ps C F h d i)))), (.ow (.d (nL (Qa ++ Qb ++ newI ps C F h i)))), (.sh (.d (nI h))), y6]) ⟨x6, h6, rfl⟩ ?_ ?_
  · rintro i m ρ hm ⟨y6, g6, rfl⟩
    rw [List.getElem?_map, Option.map_eq_some_iff] at hm
    obtain ⟨o, ho, rfl⟩ := hm
    exact ⟨[.sh (.d (P)), .sh (.d (nI 0)), .sh (.d (nL C)), (.ow (.dk (dkF (FI ps C F h d i)))), (.ow (.d (nL (Qa ++ Qb ++ newI ps C F h i)))), (.sh (.d (nI h))), (.sh (.d (nI o)))], _, g6.asg rfl, di i o ho .un Fre.un, _, .sh, rfl⟩
  · rintro ρ ⟨y6, g6, rfl⟩
    rw [List.length_map, fN, nN]
    exact ⟨.sh (.d (nI h)), y6, .sh, g6, by rw [runs_nil]⟩
theorem dist_f : ∃ F, Found ps C F ∧ f10.f [.d P, .d (nI 0), .d (nL C)] = some (.ret (.dk (dkF F)) true (.opq .non)) := by
  have db := fun d h Qa Qb F I hq x5 x6 h5 h6 => dist_body S C hP d h Qa Qb F I hq x5 x6 h5 h6
  suffices H : ∃ o, (∃ F, Found ps C F ∧ RetR none (.ret (.dk (dkF F)) true (.opq .non)) o) ∧ runsZ Γ10 G fu b10 [.sh (.d (P)), .sh (.d (nI 0)), .sh (.d (nL C)), .un, .un, .un, .un] = o by
    obtain ⟨o, ⟨F, h1, h2⟩, e⟩ := H
    refine ⟨F, h1, ?_⟩
    rw [u10]
    apply fnR0
    simp only [List.map_cons, List.map_nil, List.length_cons, List.length_nil, List.replicate, List.cons_append, List.nil_append, Nat.reduceAdd, Nat.reduceSub]
    unfold b10
    unfold b10 at e
    show RetR none _ (runsZ Γ10 G fu _ [.sh (.d (P)), .sh (.d (nI 0)), .sh (.d (nL C)), .un, .un, .un, .un])
    rw [e]
    exact h2
  refine ⟨_, ?_, rfl⟩
  unfold b10
  let Pp := fun o => ∃ F, Found ps C F ∧ RetR none (.ret (.dk (dkF F)) true (.opq .non)) o
  show Pp _
  refine st_nx (P := Pp) (ρ1 := [.sh (.d (P)), .sh (.d (nI 0)), .sh (.d (nL C)), (.ow (.dk (dkF [(0, 0)]))), .un, .un, .un]) (by simp [dkF]) ?_
  refine st_nx (P := Pp) (ρ1 := [.sh (.d (P)), .sh (.d (nI 0)), .sh (.d (nL C)), (.ow (.dk (dkF [(0, 0)]))), (.ow (.d (nL ([0] ++ [])))), .un, .un]) (by simp [nL]) ?_
  refine st_whln (P := Pp) (fun n ρ => ∃ d Qa Qb F x5 x6, QI ps C d Qa Qb F ∧ n ≤ 15 ∧ n + 2 * F.length = 16 + (Qa ++ Qb).length ∧ Fre x5 ∧ Fre x6 ∧ ρ = [.sh (.d (P)), .sh (.d (nI 0)), .sh (.d (nL C)), (.ow (.dk (dkF F))), (.ow (.d (nL (Qa ++ Qb)))), x5, x6])
    (fun ρ => ∃ F x5 x6, Found ps C F ∧ ρ = [.sh (.d (P)), .sh (.d (nI 0)), .sh (.d (nL C)), (.ow (.dk (dkF F))), (.ow (.d (nL []))), x5, x6]) 15 ⟨0, [0], [], [(0, 0)], .un, .un, QI_0 ps C, Nat.le_refl _, rfl, Fre.un, Fre.un, rfl⟩ (by unfold fu; omega) ?_ ?_
  · have key : ∀ (n d h : Nat) (Qa Qb : List Nat) (F : List (Nat × Nat)) (x5 x6 : Sl), QI ps C d (h :: Qa) Qb F → n ≤ 15 → n + 2 * F.length = 16 + (h :: Qa ++ Qb).length → Fre x5 → Fre x6 → ∃ ρ1 ρ2 n', evZ Γ10 G (.o2 .ne (.var 4) (.lst .nil)) [.sh (.d (P)), .sh (.d (nI 0)), .sh (.d (nL C)), (.ow (.dk (dkF F))), (.ow (.d (nL (h :: Qa ++ Qb)))), x5, x6] = .ok (.val (.d (.bool true))) ρ1 ∧ runsZ Γ10 G fu b10l0 ρ1 = .nx ρ2 ∧ (∃ d Qa Qb F x5 x6, QI ps C d Qa Qb F ∧ n' ≤ 15 ∧ n' + 2 * F.length = 16 + (Qa ++ Qb).length ∧ Fre x5 ∧ Fre x6 ∧ ρ2 = [.sh (.d (P)), .sh (.d (nI 0)), .sh (.d (nL C)), (.ow (.dk (dkF F))), (.ow (.d (nL (Qa ++ Qb)))), x5, x6]) ∧ n' < n := by
      intro n d h Qa Qb F x5 x6 I hn he h5 h6
      have I2 := I.step ps C
      have fl := I2.len ps C
      have fl0 := I.len ps C
      rw [List.length_append, List.length_map] at fl
      rw [List.cons_append, List.length_cons, List.length_append] at he
      obtain ⟨y5, y6, g5, g6, e⟩ := db d h Qa Qb F I (by rw [List.length_append]; omega) x5 x6 h5 h6
      have op := op_ne (x := nL (h :: Qa ++ Qb)) (y := .list []) (okDep.nL _) (by decide)
      have e0 : PyData.eqv (nL (h :: Qa ++ Qb)) (.list []) = false := rfl
      rw [e0] at op
      refine ⟨_, _, n - 1 - (newO ps C F h).length, ev_o2R (v := .loc 4) (u := .fre (.d (.list []))) (by simp) (by simp) rfl rfl op, e, ⟨d, Qa, Qb ++ newO ps C F h, _, y5, y6, I2, by omega, ?_, g5, g6, by rw [List.append_assoc]⟩, by omega⟩
      simp only [List.length_append, List.length_map]
      omega
    rintro n ρ ⟨d, Qa, Qb, F, x5, x6, I, hn, he, h5, h6, rfl⟩
    cases Qa with
    | cons h Qa =>
      left
      exact key n d h Qa Qb F x5 x6 I hn he h5 h6
    | nil =>
      cases Qb with
      | cons h Qb =>
        left
        have I1 := I.next ps C
        have := key n (d + 1) h Qb [] F x5 x6 I1 hn (by simpa using he) h5 h6
        rw [List.append_nil] at this
        exact this
      | nil =>
        right
        refine ⟨_, ?_, F, x5, x6, ⟨I.nod, I.done ps C⟩, rfl⟩
        have op := op_ne (x := .list []) (y := .list []) (n := 1) (okDep.list (n := 0) (by simp)) (by decide)
        exact ev_o2R (v := .loc 4) (u := .fre (.d (.list []))) (by simp [nL]) (by simp) rfl rfl op
  · rintro ρ ⟨F, x5, x6, hF, rfl⟩
    refine ⟨F, hF, ?_⟩
    generalize dkF F = D
    exact st_rt (v := .loc 3) (ρ1 := [.sh (.d (P)), .sh (.d (nI 0)), .sh (.d (nL C)), (.ow (.dk D)), (.ow (.d (nL []))), x5, x6]) (by simp) rfl
end
end HL
namespace HL
open PySem Hil L2 HT0
theorem sight_ok {m : Nat} {p : Nat × Nat} (h1 : p.1 < p.2) (h2 : p.2 < m) : f7.f [.d (nI m), .d (.tuple [nI p.1, nI p.2])] = some (.ret (.d (.bool true)) false (.opq .non)) := by
  have w1 := whole_f (nI p.1) 0 ((m : Int) - 1) rfl
  have w2 := whole_f (nI p.2) ((p.1 : Int) + 1) ((m : Int) - 1) rfl
  have e1 : isWhole (nI p.1) 0 ((m : Int) - 1) = true := by
    simp [isWhole, nI]
    omega
  have e2 : isWhole (nI p.2) ((p.1 : Int) + 1) ((m : Int) - 1) = true := by
    simp [isWhole, nI]
    omega
  rw [e1] at w1
  rw [e2] at w2
  rw [u7]
  apply fnR0
  simp only [List.map_cons, List.map_nil, List.length_cons, List.length_nil, List.replicate, List.cons_append, List.nil_append, Nat.reduceAdd, Nat.reduceSub]
  unfold b7
  refine st_no (ρ1 := [.sh (.d (nI m)), .sh (.d (.tuple [nI p.1, nI p.2]))]) (by simp) ?_
  exact st_rt (v := .val (.d (.bool true))) (ρ1 := [.sh (.d (nI m)), .sh (.d (.tuple [nI p.1, nI p.2]))]) (by simp [atI_c0, atI_c1, (goF_at w1 ar6.symm), (goF_at w2 ar6.symm)]) rfl
theorem need_ok {m : Nat} {ps : List (Nat × Nat)} (hm : 2 ≤ m ∧ m ≤ 8) (hr : ps.Pairwise risP) (hp : ∀ p ∈ ps, p.1 < p.2 ∧ p.2 < m) (hl : ps.length ≤ 64) : f8.f [.d (nI m), .d (sightP ps)] = some (.ret (.d .none) false (.opq .non)) := by
  have w := whole_f (nI m) 2 8 rfl
  have e : isWhole (nI m) 2 8 = true := by
    simp [isWhole, nI]
    omega
  rw [e] at w
  have hP : sightP ps = .tuple (ps.map fun p => PyData.tuple [nI p.1, nI p.2]) := rfl
  have rz := rise_zip hr
  have sk := isSs_tups
  have so := fun p (h : p ∈ ps) => sight_ok (hp p h).1 (hp p h).2
  rw [u8]
  apply fnR0
  simp only [List.map_cons, List.map_nil, List.length_cons, List.length_nil, List.replicate, List.cons_append, List.nil_append, Nat.reduceAdd, Nat.reduceSub]
  unfold b8
  refine st_no (ρ1 := [.sh (.d (nI m)), .sh (.d (sightP ps)), .un, .un, .un]) (by simp [(goF_at w ar6.symm)]) ?_
  have L1 : evZ Γ8 G b8c1 [.sh (.d (nI m)), .sh (.d (sightP ps)), .un, .un, .un] = .ok (.fre (.d (.list (ps.map fun _ => .bool true)))) [.sh (.d (nI m)), .sh (.d (sightP ps)), .un, .un, .un] := by
    unfold b8c1
    refine ev_lcB (tg := .n 2) (ρ1 := [.sh (.d (nI m)), .sh (.d (sightP ps)), .un, .un, .un]) ps (fun p => .one (.tuple [nI p.1, nI p.2])) (fun p => [.sh (.d (nI m)), .sh (.d (sightP ps)), .sh (.d (.tuple [nI p.1, nI p.2])), .un, .un]) (fun _ => .bool true) ?_ rfl rfl (by omega) fun p h => ⟨rfl, ⟨.val (.d (.bool true)), ?_, rfl⟩, rfl⟩
    · rw [hP]
      simp [List.map_map, Function.comp_def]
    · have a := so p h
      generalize PyData.tuple [nI p.1, nI p.2] = d at *
      simp [(goF_at a ar7.symm)]
  have b1 : boolsOf (ps.map fun _ => PyData.bool true) = some (ps.map fun _ => true) := boolsOf_map2 (fun _ => true) ps
  have t1 : (ps.map fun _ => true).all id = true := by simp
  refine st_no (ρ1 := [.sh (.d (nI m)), .sh (.d (sightP ps)), .un, .un, .un]) (by
    rw [hP] at *
    generalize (ps.map fun _ => PyData.bool true) = Z at *
    generalize (ps.map fun _ => true) = Y at *
    generalize (ps.map fun p => PyData.tuple [nI p.1, nI p.2]) = D at *
    simp [L1, b1, t1]) ?_
  have L0 : evZ Γ8 G b8c0 [.sh (.d (nI m)), .sh (.d (sightP ps)), .un, .un, .un] = .ok (.fre (.d (.list ((List.zipWith Im.two (ps.map fun p => PyData.tuple [nI p.1, nI p.2]) (ps.map fun p => PyData.tuple [nI p.1, nI p.2]).tail).map fun m => .bool (ltPr m.d m.d2))))) [.sh (.d (nI m)), .sh (.d (sightP ps)), .un, .un, .un] := by
    unfold b8c0
    rw [ev_lcP (by omega) (i := 3) (j := 4) (s0 := .un) (s1 := .un) (ms := List.zipWith Im.two (ps.map fun p => PyData.tuple [nI p.1, nI p.2]) (ps.map fun p => PyData.tuple [nI p.1, nI p.2]).tail) (ρ1 := [.sh (.d (nI m)), .sh (.d (sightP ps)), .un, .un, .un]) ?_ ?_ rfl .un rfl .un (by simp; omega) (fun _ => true) (fun m => .bool (ltPr m.d m.d2)) (fun a b hm => ⟨by simp, fun _ => ⟨.val (.d (.bool (ltPr a b))), ?_, rfl⟩⟩), filter_true']
    · intro m hm
      exact zip_two hm
    · have hss : isSs ((ps.map fun p => PyData.tuple [nI p.1, nI p.2]).drop 1) = false := by rw [← List.map_drop]; exact sk _
      have := cutD_tail (ps.map fun p => PyData.tuple [nI p.1, nI p.2])
      rw [List.drop_one] at hss
      rw [evi_zp, hP]
      generalize (ps.map fun p => PyData.tuple [nI p.1, nI p.2]) = D at *
      simp [this, hss]
    · obtain ⟨ha, hb⟩ := zip_mem2 hm
      obtain ⟨p, -, rfl⟩ := List.mem_map.mp ha
      obtain ⟨q, -, rfl⟩ := List.mem_map.mp hb
      simp [intsOf, ltPr]
  generalize hms : List.zipWith Im.two (ps.map fun p => PyData.tuple [nI p.1, nI p.2]) (ps.map fun p => PyData.tuple [nI p.1, nI p.2]).tail = ms at *
  have b0 : boolsOf (ms.map fun m => PyData.bool (ltPr m.d m.d2)) = some (ms.map fun m => ltPr m.d m.d2) := boolsOf_map2 _ ms
  have t0 : (ms.map fun m => ltPr m.d m.d2).all id = true := by
    rw [List.all_map]
    exact rz
  refine st_no (ρ1 := [.sh (.d (nI m)), .sh (.d (sightP ps)), .un, .un, .un]) (by
    generalize (ms.map fun m => PyData.bool (ltPr m.d m.d2)) = Z at *
    generalize (ms.map fun m => ltPr m.d m.d2) = Y at *
    generalize sightP ps = P at *
    simp [L0, b0, t0]) ?_
  rw [runs_nil]
  exact rfl
end HL
namespace HL
open PySem Hil L2 HT0
theorem unreached_f {m : Nat} {ps : List (Nat × Nat)} (hm : 2 ≤ m ∧ m ≤ 8) (hr : ps.Pairwise risP) (hp : ∀ p ∈ ps, p.1 < p.2 ∧ p.2 < m) (hl : ps.length ≤ 64) : f14.f [.d (nI m), .d (sightP ps)] = some (.ret (.d (nL ((List.range m).filter fun h => !ledB ps [] h))) true (.opq .non)) := by
  have S : Sights ps := ⟨fun p h => by have := hp p h; omega, ris_nodup hr, hl⟩
  have n1 := need_ok hm hr hp hl
  obtain ⟨F, hF, d1⟩ := dist_f S [] (P := sightP ps) (.inl rfl)
  have fa := fun o => dkF_any F o
  simp only [found_any hF] at fa
  generalize dkF F = D at *
  have q0 : nL [] = .list [] := rfl
  have q1 : nI 0 = .int 0 := rfl
  rw [q0, q1] at d1
  generalize hP : sightP ps = P at *
  rw [u14]
  apply fnR0
  simp only [List.map_cons, List.map_nil, List.length_cons, List.length_nil, List.replicate, List.cons_append, List.nil_append, Nat.reduceAdd, Nat.reduceSub]
  unfold b14
  refine st_nx (ρ1 := ?rr2) ?hh2 ?kk2
  case hh2 => (simp [(goF_at n1 ar8.symm)] <;> rfl)
  refine st_nx (ρ1 := [.sh (.d (nI m)), .sh (.d (P)), .ow (.dk D), .un]) (by simp [(goF_at d1 ar10.symm)]) ?_
  have C : evZ Γ14 G b14c0 [.sh (.d (nI m)), .sh (.d (P)), .ow (.dk D), .un] = .ok (.fre (.d (nL ((List.range m).filter fun h => !ledB ps [] h)))) [.sh (.d (nI m)), .sh (.d (P)), .ow (.dk D), .un] := by
    unfold b14c0
    rw [ev_lcR (lo := 0) (n := m) (s0 := .un) (ρ1 := [.sh (.d (nI m)), .sh (.d (P)), .ow (.dk D), .un]) (evi_rg (v := .val (.d (.int (m : Int)))) (by simp) rfl (by omega)) rfl .un (by omega) (fun h => !ledB ps [] h) (fun h => nI h) fun o ho => ?_]
    · rfl
    · rw [Nat.zero_add]
      refine ⟨?_, fun _ => ⟨.val (.d (nI o)), by simp, rfl⟩⟩
      have op : op2 .nin (.d (nI o)) (.dk D) = some (.d (.bool (!ledB ps [] o)), false) := by
        have e : nI o = .int (o : Int) := rfl
        rw [← fa o, e]
        rfl
      exact ev_o2R (v := .val (.d (nI o))) (u := .loc 2) (by simp) (by simp) rfl rfl op
  exact st_rt (v := .fre (.d (nL ((List.range m).filter fun h => !ledB ps [] h)))) (ρ1 := [.sh (.d (nI m)), .sh (.d (P)), .ow (.dk D), .un]) (by rw [run_ret, C, of_ok]) rfl
end HL
namespace HL
open PySem Hil L2 HT0
theorem nearest_f {m : Nat} {ps : List (Nat × Nat)} (hm : 2 ≤ m ∧ m ≤ 8) (hr : ps.Pairwise risP) (hp : ∀ p ∈ ps, p.1 < p.2 ∧ p.2 < m) (hl : ps.length ≤ 64) : f11.f [.d (nI m), .d (sightP ps)] = some (.ret (.d (if ledN ps [] < m then .none else nT (nearT ps (m - 1)))) false (.opq .non)) := by
  have S : Sights ps := ⟨fun p h => by have := hp p h; omega, ris_nodup hr, hl⟩
  have n1 := need_ok hm hr hp hl
  obtain ⟨F, hF, d1⟩ := dist_f S [] (P := sightP ps) (.inl rfl)
  have sf := fun h => seen_f S (P := sightP ps) (.inl rfl) h
  have fl := dkF_length F
  rw [found_len hF] at fl
  have ff := fun o (h : Led ps [] o) => dkF_find hF.nod (found_at hF h)
  generalize dkF F = D at *
  have q0 : nL [] = .list [] := rfl
  have q1 : nI 0 = .int 0 := rfl
  rw [q0, q1] at d1
  generalize hP : sightP ps = P at *
  rw [u11]
  apply fnR0
  simp only [List.map_cons, List.map_nil, List.length_cons, List.length_nil, List.replicate, List.cons_append, List.nil_append, Nat.reduceAdd, Nat.reduceSub]
  unfold b11
  refine st_nx (ρ1 := ?rr2) ?hh2 ?kk2
  case hh2 => (simp [(goF_at n1 ar8.symm)] <;> rfl)
  refine st_nx (ρ1 := [.sh (.d (nI m)), .sh (.d (P)), .ow (.dk D), .un, .un, .un]) (by simp [(goF_at d1 ar10.symm)]) ?_
  by_cases hN : ledN ps [] < m
  · rw [if_pos hN]
    exact st_yes (v := .val (.d .none)) (ρ1 := [.sh (.d (nI m)), .sh (.d (P)), .ow (.dk D), .un, .un, .un]) (ρ2 := [.sh (.d (nI m)), .sh (.d (P)), .ow (.dk D), .un, .un, .un]) (by simp [fl, hN]) (by simp) rfl
  · rw [if_neg hN]
    refine st_no (ρ1 := [.sh (.d (nI m)), .sh (.d (P)), .ow (.dk D), .un, .un, .un]) (by simp [fl]; omega) ?_
    have la := led_all (ps := ps) (m := m) (by omega) hp hN
    refine st_nx (ρ1 := [.sh (.d (nI m)), .sh (.d (P)), .ow (.dk D), .ow (.d ((nL (nearT ps 0)))), .un, .un]) (by simp [nearT, nL]) ?_
    have hev : eviZ Γ11 G (.r2 (.cst (.int 1)) (.var 0)) [.sh (.d (nI m)), .sh (.d (P)), .ow (.dk D), .ow (.d ((nL (nearT ps 0)))), .un, .un] = .ok (rgL 1 (m - 1)) [.sh (.d (nI m)), .sh (.d (P)), .ow (.dk D), .ow (.d ((nL (nearT ps 0)))), .un, .un] :=
      evi_rg2 (m := (m : Int)) (v := .val (.d (.int 1))) (u := .val (.d (.int (m : Int)))) (ρ1 := [.sh (.d (nI m)), .sh (.d (P)), .ow (.dk D), .ow (.d ((nL (nearT ps 0)))), .un, .un]) (by simp) (by simp) (by simp) (by simp) (by omega) (by omega) (by omega)
    refine st_for hev (fun i ρ => ∃ x4, Fre x4 ∧ ρ = [.sh (.d (nI m)), .sh (.d (P)), .ow (.dk D), .ow (.d ((nL (nearT ps i)))), x4, .un]) ⟨.un, Fre.un, rfl⟩ ?_ ?_
    · rintro i im ρ him ⟨x4, h4, rfl⟩
      obtain ⟨hi, rfl⟩ := rgL_get him
      rw [Nat.add_comm 1 i]
      have sf := sf (i + 1)
      have hl := la (i + 1) (by omega)
      have fh := ff (i + 1) hl
      obtain ⟨o, r, eo⟩ := nearer_some (ps := ps) (h := i + 1) (by omega) hl
      have tl := nearT_length ps i
      have ts := nearT_succ ps i
      rw [eo, List.headD_cons] at ts
      have C0 : evZ Γ11 G b11c0 [.sh (.d (nI m)), .sh (.d (P)), .ow (.dk D), .ow (.d ((nL (nearT ps i)))), (.sh (.d (nI (i + 1)))), .un] = .ok (.fre (.d (.list ((nearer ps (i + 1)).map nI)))) [.sh (.d (nI m)), .sh (.d (P)), .ow (.dk D), .ow (.d ((nL (nearT ps i)))), (.sh (.d (nI (i + 1)))), .un] := by
        unfold b11c0
        refine ev_lcA (tg := .n 5) (ρ1 := [.sh (.d (nI m)), .sh (.d (P)), .ow (.dk D), .ow (.d ((nL (nearT ps i)))), (.sh (.d (nI (i + 1)))), .un]) (nb ps (i + 1)) (fun o => .one (nI o)) (fun o => [.sh (.d (nI m)), .sh (.d (P)), .ow (.dk D), .ow (.d ((nL (nearT ps i)))), (.sh (.d (nI (i + 1)))), (.sh (.d (nI o)))]) (fun o => decide (levelOf ps o + 1 = levelOf ps (i + 1))) nI ?_ rfl rfl ?_ fun q hq => ⟨rfl, ?_, fun _ => ⟨.val (.d (nI q)), by simp, rfl⟩, rfl⟩
        · generalize nb ps (i + 1) = N at *
          generalize nL (nearT ps i) = Z at *
          generalize i + 1 = h at *
          simp [(goF_at sf ar9.symm), nL, List.map_map, Function.comp_def]
        · have := nb_len (ps := ps) (h := i + 1) (by omega)
          omega
        · obtain ⟨q1', q2⟩ := (nb_mem ps).mp hq
          have lq : Led ps [] q := led_next ps [] hl q1' q2 (by simp)
          have fq := ff q lq
          have e9 : nI q = .int (q : Int) := rfl
          have e8 : nI (i + 1) = .int ((i + 1 : Nat) : Int) := rfl
          rw [e9, e8]
          generalize nL (nearT ps i) = Z at *
          generalize levelOf ps q = a at *
          generalize levelOf ps (i + 1) = b at *
          generalize i + 1 = h at *
          simp [fh, fq]
          omega
      refine ⟨[.sh (.d (nI m)), .sh (.d (P)), .ow (.dk D), .ow (.d ((nL (nearT ps i)))), (.sh (.d (nI (i + 1)))), .un], [.sh (.d (nI m)), .sh (.d (P)), .ow (.dk D), .ow (.d ((nL (nearT ps (i + 1))))), (.sh (.d (nI (i + 1)))), .un], h4.asg rfl, ?_, _, .sh, rfl⟩
      unfold b11l0
      rw [ts]
      rw [eo] at C0
      have e7 : nL (nearT ps i ++ [o]) = .list ((nearT ps i).map nI ++ [nI o]) := by unfold nL; simp
      rw [e7]
      unfold nL at C0 ⊢
      generalize nearT ps i = Z at *
      have hz : Z.length < 1000000 := by omega
      rw [List.map_cons] at C0
      generalize r.map nI = rr at *
      simp [C0, atI_c0, hz]
    · rintro ρ ⟨x4, h4, rfl⟩
      rw [rgL_length]
      have tl := nearT_length ps (m - 1)
      generalize nearT ps (m - 1) = Z at *
      have hss : isSs (Z.map nI) = false := by
        cases Z with
        | nil => rfl
        | cons a r => rfl
      have hz : (Z.map nI).length ≤ 1000000 := by rw [List.length_map]; omega
      refine st_rt (v := .val (.d (nT Z))) (ρ1 := [.sh (.d (nI m)), .sh (.d (P)), .ow (.dk D), .ow (.d ((nL Z))), x4, .un]) ?_ rfl
      unfold nL nT
      generalize Z.map nI = Y at *
      simp [hss, hz]
end HL
namespace HL
open PySem Hil L2 HT0
section
variable {m : Nat} {ps : List (Nat × Nat)} (hm : 2 ≤ m ∧ m ≤ 8) (hr : ps.Pairwise risP) (hp : ∀ p ∈ ps, p.1 < p.2 ∧ p.2 < m) (hl : ps.length ≤ 64)
include hm hr hp hl
theorem isof_no {x : PyData} (h : okAll x = true) (ht : isTree x = false) : f15.f [.d (nI m), .d (sightP ps), .d x] = some (.ret (.d (.bool false)) false (.opq .non)) := by
  have n1 := need_ok hm hr hp hl
  have it := istree_f x h
  rw [ht] at it
  generalize sightP ps = P at *
  rw [u15]
  apply fnR0
  simp only [List.map_cons, List.map_nil, List.length_cons, List.length_nil, List.replicate, List.cons_append, List.nil_append, Nat.reduceAdd, Nat.reduceSub]
  unfold b15
  refine st_nx (ρ1 := ?rr3) ?hh3 ?kk3
  case hh3 => (simp [(goF_at n1 ar8.symm)] <;> rfl)
  refine st_yes (v := .val (.d (.bool false))) (ρ1 := [.sh (.d (nI m)), .sh (.d (P)), .sh (.d (x)), .un, .un]) (ρ2 := [.sh (.d (nI m)), .sh (.d (P)), .sh (.d (x)), .un, .un]) ?_ (by simp) rfl
  rw [ev_bop, evb_cons]
  have C : evZ Γ15 G (.o1 .not (.call 13 (.cons (.var 2) .nil))) [.sh (.d (nI m)), .sh (.d (P)), .sh (.d (x)), .un, .un] = .ok (.val (.d (.bool true))) [.sh (.d (nI m)), .sh (.d (P)), .sh (.d (x)), .un, .un] := by simp [(goF_at it ar13.symm)]
  rw [C]
  rfl
theorem isof_f (us : List Nat) : f15.f [.d (nI m), .d (sightP ps), .d (nT us)] = some (.ret (.d (.bool (isT us && (decide (us.length = m - 1) && ofB ps us)))) false (.opq .non)) := by
  by_cases ht : isT us = true
  · rw [ht, Bool.true_and]
    have n1 := need_ok hm hr hp hl
    have it := istree_nT us
    rw [ht] at it
    have hP : sightP ps = .tuple (ps.map fun p => PyData.tuple [nI p.1, nI p.2]) := rfl
    rw [u15]
    apply fnR0
    simp only [List.map_cons, List.map_nil, List.length_cons, List.length_nil, List.replicate, List.cons_append, List.nil_append, Nat.reduceAdd, Nat.reduceSub]
    unfold b15
    refine st_nx (ρ1 := [.sh (.d (nI m)), .sh (.d (sightP ps)), .sh (.d (nT us)), .un, .un]) (by
      generalize sightP ps = P at *
      simp [(goF_at n1 ar8.symm)]) ?_
    have cond : evZ Γ15 G (.bop false (.cons (.o1 .not (.call 13 (.cons (.var 2) .nil))) (.cons (.o2 .ne (.o1 .len (.var 2)) (.o2 .sub (.var 0) (.cst (.int 1)))) .nil))) [.sh (.d (nI m)), .sh (.d (sightP ps)), .sh (.d (nT us)), .un, .un] = .ok (.val (.d (.bool (!decide (us.length = m - 1))))) [.sh (.d (nI m)), .sh (.d (sightP ps)), .sh (.d (nT us)), .un, .un] := by
      generalize sightP ps = P at *
      refine ev_orF (ρ1 := [.sh (.d (nI m)), .sh (.d (P)), .sh (.d (nT us)), .un, .un]) (by simp [(goF_at it ar13.symm)]) ?_
      have e : (us.length : Int) = (m : Int) - 1 ↔ us.length = m - 1 := by omega
      simp [nT, e]
    by_cases hlen : us.length = m - 1
    · rw [decide_eq_true hlen, Bool.true_and]
      rw [decide_eq_true hlen] at cond
      refine st_no (ρ1 := [.sh (.d (nI m)), .sh (.d (sightP ps)), .sh (.d (nT us)), .un, .un]) cond ?_
      have L0 : evZ Γ15 G b15c0 [.sh (.d (nI m)), .sh (.d (sightP ps)), .sh (.d (nT us)), .un, .un] = .ok (.fre (.d (.list ((List.range us.length).map fun k => .bool (decide ((min (k + 1) (us.getD k 0), max (k + 1) (us.getD k 0)) ∈ ps)))))) [.sh (.d (nI m)), .sh (.d (sightP ps)), .sh (.d (nT us)), .un, .un] := by
        unfold b15c0
        refine ev_lcB (tg := .t (.cons (.n 3) (.cons (.n 4) .nil))) (ρ1 := [.sh (.d (nI m)), .sh (.d (sightP ps)), .sh (.d (nT us)), .un, .un]) (List.range us.length) (fun k => .two (nI k) (nI (us.getD k 0))) (fun k => [.sh (.d (nI m)), .sh (.d (sightP ps)), .sh (.d (nT us)), .sh (.d (nI k)), .sh (.d (nI (us.getD k 0)))]) (fun k => .bool (decide ((min (k + 1) (us.getD k 0), max (k + 1) (us.getD k 0)) ∈ ps))) ?_ rfl rfl (by rw [List.length_range]; omega) fun k hk => ⟨rfl, ⟨.val (.d (.bool (decide ((min (k + 1) (us.getD k 0), max (k + 1) (us.getD k 0)) ∈ ps)))), ?_, rfl⟩, rfl⟩
        · have e : us.map nI = (List.range us.length).map fun i => nI (us.getD i 0) := by
            apply List.ext_getElem
            · simp
            · intro i h1 h2
              have : i < us.length := by simpa using h1
              simp [List.getD_eq_getElem?_getD, this]
          have en := enumI_range (fun i => nI (us.getD i 0)) us.length 0
          simp only [Nat.zero_add] at en
          rw [← e] at en
          generalize sightP ps = P at *
          simp [nT, en]
        · generalize us.getD k 0 = o at *
          have ap := any_pair (min (k + 1) o, max (k + 1) o) ps
          have dp : (PyData.tuple [nI (min (k + 1) o), nI (max (k + 1) o)]).depth ≤ 60 := Nat.le_trans (tup_ok (min (k + 1) o, max (k + 1) o)).2 (by decide)
          have op : op2 .inn (.d (.tuple [nI (min (k + 1) o), nI (max (k + 1) o)])) (.d (sightP ps)) = some (.d (.bool (decide ((min (k + 1) o, max (k + 1) o) ∈ ps))), false) := by
            rw [hP, ← ap]
            simp only [op2, gIn, gIn', dp, if_true, Option.map_some]
          have hmin : min ((k : Int) + 1) (o : Int) = ((min (k + 1) o : Nat) : Int) := by omega
          have hmax : max ((k : Int) + 1) (o : Int) = ((max (k + 1) o : Nat) : Int) := by omega
          refine ev_o2R (v := .val (.d (.tuple [nI (min (k + 1) o), nI (max (k + 1) o)]))) (u := .val (.d (sightP ps))) ?_ (by simp) rfl rfl op
          simp [isSs, isStr, hmin, hmax]
      have b0 : boolsOf ((List.range us.length).map fun k => PyData.bool (decide ((min (k + 1) (us.getD k 0), max (k + 1) (us.getD k 0)) ∈ ps))) = some ((List.range us.length).map fun k => decide ((min (k + 1) (us.getD k 0), max (k + 1) (us.getD k 0)) ∈ ps)) := boolsOf_map2 _ _
      have t0 : ((List.range us.length).map fun k => decide ((min (k + 1) (us.getD k 0), max (k + 1) (us.getD k 0)) ∈ ps)).all id = ofB ps us := by
        rw [List.all_map]
        rfl
      generalize ((List.range us.length).map fun k => PyData.bool (decide ((min (k + 1) (us.getD k 0), max (k + 1) (us.getD k 0)) ∈ ps))) = Z at *
      generalize ((List.range us.length).map fun k => decide ((min (k + 1) (us.getD k 0), max (k + 1) (us.getD k 0)) ∈ ps)) = Y at *
      rw [← t0]
      refine st_rt (v := .val (.d (.bool (Y.all id)))) (ρ1 := [.sh (.d (nI m)), .sh (.d (sightP ps)), .sh (.d (nT us)), .un, .un]) ?_ rfl
      generalize sightP ps = P at *
      simp [L0, b0]
    · rw [decide_eq_false hlen, Bool.false_and]
      rw [decide_eq_false hlen] at cond
      exact st_yes (v := .val (.d (.bool false))) (ρ1 := [.sh (.d (nI m)), .sh (.d (sightP ps)), .sh (.d (nT us)), .un, .un]) (ρ2 := [.sh (.d (nI m)), .sh (.d (sightP ps)), .sh (.d (nT us)), .un, .un]) cond (by simp) rfl
  · simp only [Bool.not_eq_true] at ht
    rw [ht, Bool.false_and]
    exact isof_no hm hr hp hl (okAll_nT us) (by rw [isTree_nT]; exact ht)
end
end HL
namespace HL
open PySem Hil L2 HT0
theorem min_rise {l : List Nat} (h : l.Pairwise (· < ·)) {o : Nat} {r : List Nat} (e : l = o :: r) : op1 .min (.d (.list (l.map nI))) = some (.d (nI o), false) := by
  have e0 : op1 .min = Hil.gMinD := rfl
  rw [e0]
  unfold Hil.gMinD
  have ei : intsOf (l.map nI) = some (l.map fun x : Nat => (x : Int)) := by
    have := intsOf_map (l.map fun x : Nat => (x : Int))
    rw [List.map_map] at this
    exact this
  subst e
  simp only [List.map_cons] at ei ⊢
  rw [ei]
  have hm : minI ((o : Int) :: r.map fun x : Nat => (x : Int)) = (o : Int) := by
    refine Int.le_antisymm (minI_le _ List.mem_cons_self) ?_
    have := minI_mem (ns := (o : Int) :: r.map fun x : Nat => (x : Int)) (by simp)
    rcases List.mem_cons.mp this with q | q
    · omega
    · obtain ⟨x, hx, e⟩ := List.mem_map.mp q
      have := (List.pairwise_cons.mp h).1 x hx
      omega
  simp only [hm]
section
variable (ns : List Int) {m : Nat} {ps : List (Nat × Nat)} (hm : 2 ≤ m ∧ m ≤ 8) (hr : ps.Pairwise risP) (hp : ∀ p ∈ ps, p.1 < p.2 ∧ p.2 < m) (hl : ps.length ≤ 64) (hN : ¬ ledN ps [] < m) {D : List (Key × PyData)}
  (fl : D.length = ledN ps []) (ff : ∀ o, Led ps [] o → (D.find? fun kv => decide (kv.1 = .inl (o : Int))) = some (.inl (o : Int), nI (levelOf ps o)))
include hm hr hp hl hN fl ff
theorem law_c2 (n i : Nat) (P : PyData) (hP : P = sightP ps) (T Z : PyData) (hi : i + 1 < m) : evZ Γ20 G b20c2 [.sh (.scr ns), .ow (.d (tw n)), .ow (.dk D), (.sh (.d (T))), (.ow (.d (Z))), (.sh (.d (nI (i + 1)))), .un, .un, .sh (.d (nI m)), .sh (.d (P))] = .ok (.fre (.d (.list ((nearer ps (i + 1)).map nI)))) [.sh (.scr ns), .ow (.d (tw n)), .ow (.dk D), (.sh (.d (T))), (.ow (.d (Z))), (.sh (.d (nI (i + 1)))), .un, .un, .sh (.d (nI m)), .sh (.d (P))] := by
  have S : Sights ps := ⟨fun p h => by have := hp p h; omega, ris_nodup hr, hl⟩
  have nf := near_f S (i + 1) (by omega)
  rw [← hP] at nf
  have la := led_all (ps := ps) (m := m) (by omega) hp hN
  have hl1 := la (i + 1) hi
  have fh := ff (i + 1) hl1
  unfold b20c2
  refine ev_lcA (tg := .n 6) (ρ1 := [.sh (.scr ns), .ow (.d (tw n)), .ow (.dk D), (.sh (.d (T))), (.ow (.d (Z))), (.sh (.d (nI (i + 1)))), .un, .un, .sh (.d (nI m)), .sh (.d (P))]) (nb ps (i + 1)) (fun o => .one (nI o)) (fun o => [.sh (.scr ns), .ow (.d (tw n)), .ow (.dk D), .sh (.d (T)), .ow (.d (Z)), .sh (.d (nI (i + 1))), .sh (.d (nI o)), .un, .sh (.d (nI m)), .sh (.d (P))]) (fun o => decide (levelOf ps o + 1 = levelOf ps (i + 1))) nI ?_ rfl rfl ?_ fun q hq => ⟨rfl, ?_, fun _ => ⟨.val (.d (nI q)), by simp, rfl⟩, rfl⟩
  · generalize nb ps (i + 1) = N at *
    generalize i + 1 = h at *
    simp [(goF_at nf ar4.symm), nL, List.map_map, Function.comp_def]
  · have := nb_len (ps := ps) (h := i + 1) (by omega)
    omega
  · obtain ⟨q1', q2⟩ := (nb_mem ps).mp hq
    have fq := ff q (led_next ps [] hl1 q1' q2 (by simp))
    have e9 : nI q = .int (q : Int) := rfl
    have e8 : nI (i + 1) = .int ((i + 1 : Nat) : Int) := rfl
    rw [e9, e8]
    generalize levelOf ps q = a at *
    generalize levelOf ps (i + 1) = b at *
    generalize i + 1 = h at *
    simp [fh, fq]
    omega
theorem law_rest (n : Nat) (hn : n < 900000) (P : PyData) (hP : P = sightP ps) (x5 : Sl) (h5 : Fre x5) (T : List Nat) (hT : T = nearT ps (m - 1)) : RetR none (.ret (.d (.bool true)) false (.opq .non)) (runsZ Γ20 G fu (.cons (.ife (.o2 .ne b20c1 (.lst .nil)) (.cons (.ret (.cst (.bool false))) .nil) .nil) (.cons (.asg 6 (.o1 .tuple b20c0)) (.cons (.asg 7 (.call 13 (.cons (.var 6) .nil))) (.cons (.fr (.n 5) (.r2 (.cst (.int 1)) (.var 8)) b20l0) (.cons (.ife (.bop false (.cons (.o2 .ne (.call 15 (.cons (.var 8) (.cons (.var 9) (.cons (.var 6) .nil)))) (.var 7)) (.cons (.o2 .isntB (.call 15 (.cons (.var 8) (.cons (.var 9) (.cons (.o1 .list (.var 3)) .nil)))) (.cst (.bool false))) .nil))) (.cons (.ret (.cst (.bool false))) .nil) .nil) (.cons (.ret (.o2 .isB (.call 15 (.cons (.var 8) (.cons (.var 9) (.cons (.call 16 (.cons (.var 0) (.cons (.var 1) (.cons (.lst (.cons (.cst .none) (.cons (.cst (.int 5)) (.cons (.tup .nil) (.cons (.o2 .add (.var 3) (.tup (.cons (.cst (.int 0)) .nil))) (.cons (.sl (.var 3) (.cst (.int 1)) (.cst .none)) (.cons (.cst (.str "0")) .nil))))))) .nil)))) .nil)))) (.cst (.bool false)))) .nil)))))) [.sh (.scr ns), .ow (.d (tw n)), .ow (.dk D), (.sh (.d (nT T))), (.ow (.d (.list (T.map nI)))), x5, .un, .un, .sh (.d (nI m)), .sh (.d (P))]) := by
  have tl := nearT_length ps (m - 1)
  rw [← hT] at tl
  have la := led_all (ps := ps) (m := m) (by omega) hp hN
  have TI := near_isT hm hp hN
  have rkl := fun h (hh : h < m) => near_rk hm hp hN hh
  rw [← hT] at TI rkl
  have S : Sights ps := ⟨fun p h => by have := hp p h; omega, ris_nodup hr, hl⟩
  have nf := fun h (hh : h < 8) => near_f S h hh
  have hof := fun us => isof_f hm hr hp hl us
  have hno := fun x h1 h2 => isof_no hm hr hp hl (x := x) h1 h2
  rw [← hP] at hof
  simp only [← hP] at nf hno
  have fo := fun h (hh : h < m) => far_ok TI (k := h) (by omega)
  have hTT : nT T = .tuple (T.map nI) := rfl
  have C1 : evZ Γ20 G b20c1 [.sh (.scr ns), .ow (.d (tw n)), .ow (.dk D), (.sh (.d (nT T))), (.ow (.d (.list (T.map nI)))), x5, .un, .un, .sh (.d (nI m)), .sh (.d (P))] = .ok (.fre (.d (.list []))) [.sh (.scr ns), .ow (.d (tw n)), .ow (.dk D), (.sh (.d (nT T))), (.ow (.d (.list (T.map nI)))), x5, .un, .un, .sh (.d (nI m)), .sh (.d (P))] := by
    unfold b20c1
    rw [ev_lcR (lo := 0) (n := m) (s0 := x5) (ρ1 := [.sh (.scr ns), .ow (.d (tw n)), .ow (.dk D), (.sh (.d (nT T))), (.ow (.d (.list (T.map nI)))), x5, .un, .un, .sh (.d (nI m)), .sh (.d (P))]) (evi_rg (v := .val (.d (.int (m : Int)))) (by simp) rfl (by omega)) rfl h5 (by omega) (fun k => false) (fun k => nI k) fun k hk => ?_]
    · have : ((List.range m).filter fun _ => false) = [] := by simp
      rw [this]
      rfl
    · rw [Nat.zero_add]
      have f1 := fo k hk
      have f2 := ff k (la k hk)
      rw [rkl k hk] at f1
      have e9 : nI k = .int (k : Int) := rfl
      refine ⟨?_, fun q => by cases q⟩
      generalize nT T = X at *
      generalize T.map nI = Y at *
      generalize levelOf ps k = l at *
      exact ev_neR (v := .val (.d (nI l))) (u := .val (.d (nI l))) (by simp [(goF_at f1 ar19.symm)]) (by simp [f2]) rfl rfl (okDep.int 0 _) (by decide)
  refine st_no (ev_neR (v := .fre (.d (.list []))) (u := .fre (.d (.list []))) (ρ := [.sh (.scr ns), .ow (.d (tw n)), .ow (.dk D), (.sh (.d (nT T))), (.ow (.d (.list (T.map nI)))), x5, .un, .un, .sh (.d (nI m)), .sh (.d (P))]) C1 (by simp) rfl rfl (okDep.list (n := 0) (by simp)) (by decide)) ?_
  -- the other
  have C0 : ∃ us : List Nat, us.length = m - 1 ∧ evZ Γ20 G b20c0 [.sh (.scr ns), .ow (.d (tw n)), .ow (.dk D), (.sh (.d (nT T))), (.ow (.d (.list (T.map nI)))), x5, .un, .un, .sh (.d (nI m)), .sh (.d (P))] = .ok (.fre (.d (.list (us.map nI)))) [.sh (.scr ns), .ow (.d (tw ((n + (m - 1))))), .ow (.dk D), .sh (.d (nT T)), .ow (.d (.list (T.map nI))), x5, .un, .un, .sh (.d (nI m)), .sh (.d (P))] := by
    unfold b20c0
    obtain ⟨es, ρ2, hL, us, hu, he, rfl⟩ := ev_lci (Γ := Γ20) (G := G) (j := 5) (it := .r2 (.cst (.int 1)) (.var 8)) (ft := .cst (.bool true)) (elt := .call 2 (.cons (.var 0) (.cons (.var 1) (.cons (.var 8) .nil)))) (s0 := x5) (ms := rgL 1 (m - 1)) (ρ := [.sh (.scr ns), .ow (.d (tw n)), .ow (.dk D), (.sh (.d (nT T))), (.ow (.d (.list (T.map nI)))), x5, .un, .un, .sh (.d (nI m)), .sh (.d (P))]) (ρ1 := [.sh (.scr ns), .ow (.d (tw n)), .ow (.dk D), (.sh (.d (nT T))), (.ow (.d (.list (T.map nI)))), x5, .un, .un, .sh (.d (nI m)), .sh (.d (P))]) (evi_rg2 (m := (m : Int)) (v := .val (.d (.int 1))) (u := .val (.d (.int (m : Int)))) (ρ1 := [.sh (.scr ns), .ow (.d (tw n)), .ow (.dk D), (.sh (.d (nT T))), (.ow (.d (.list (T.map nI)))), x5, .un, .un, .sh (.d (nI m)), .sh (.d (P))]) (by simp) (by simp) (by simp) (by simp) (by omega) (by omega) (by omega)) rfl h5 (by rw [rgL_length]; omega)
      (fun i ρ acc => ∃ us : List Nat, us.length = i ∧ acc = us.map nI ∧ ρ = [.sh (.scr ns), .ow (.d (tw ((n + i)))), .ow (.dk D), .sh (.d (nT T)), .ow (.d (.list (T.map nI))), .un, .un, .un, .sh (.d (nI m)), .sh (.d (P))]) ⟨[], rfl, rfl, rfl⟩ (by
      rintro i im ρ acc hg ⟨us, hu, rfl, rfl⟩
      obtain ⟨hi, rfl⟩ := rgL_get hg
      obtain ⟨c, hc, e1⟩ := drawN ns (n + i) m (by omega) (by omega)
      refine ⟨[.sh (.scr ns), .ow (.d (tw ((n + i)))), .ow (.dk D), .sh (.d (nT T)), .ow (.d (.list (T.map nI))), (.sh (.d (nI (1 + i)))), .un, .un, .sh (.d (nI m)), .sh (.d (P))], rfl, true, [.sh (.scr ns), .ow (.d (tw ((n + i)))), .ow (.dk D), .sh (.d (nT T)), .ow (.d (.list (T.map nI))), (.sh (.d (nI (1 + i)))), .un, .un, .sh (.d (nI m)), .sh (.d (P))], by simp, .inl ⟨rfl, .val (.d (nI c)), [.sh (.scr ns), .ow (.d (tw ((n + i + 1)))), .ow (.dk D), .sh (.d (nT T)), .ow (.d (.list (T.map nI))), (.sh (.d (nI (1 + i)))), .un, .un, .sh (.d (nI m)), .sh (.d (P))], nI c, _, ?_, rfl, us ++ [c], by simp [hu], by simp, rfl⟩⟩
      generalize nT T = X at *
      generalize T.map nI = Y at *
      generalize nI (1 + i) = Z at *
      simp [(goM_m1 e1 fit2), (goM_o1 e1 fit2)])
    rw [rgL_length] at hu hL
    subst he
    exact ⟨us, hu, hL⟩
  obtain ⟨us, hu, C0⟩ := C0
  have n7 : n + (m - 1) < 1000000 := by omega
  generalize n + (m - 1) = nn at *
  have hssU : isSs (us.map nI) = false := by
    cases us with
    | nil => rfl
    | cons a r => rfl
  have hzU : (us.map nI).length ≤ 1000000 := by rw [List.length_map]; omega
  have hTU : nT us = .tuple (us.map nI) := rfl
  have itU := istree_nT us
  refine st_nx (ρ1 := [.sh (.scr ns), .ow (.d (tw nn)), .ow (.dk D), .sh (.d (nT T)), .ow (.d (.list (T.map nI))), x5, (.sh (.d (nT us))), .un, .sh (.d (nI m)), .sh (.d (P))]) (by
    rw [run_asg, ev_o1, C0, bind_ok, hTU]
    generalize us.map nI = Y at *
    simp [hssU, hzU]) ?_
  refine st_nx (ρ1 := [.sh (.scr ns), .ow (.d (tw nn)), .ow (.dk D), .sh (.d (nT T)), .ow (.d (.list (T.map nI))), x5, (.sh (.d (nT us))), (.sh (.d (.bool (isT us && (List.range 0).all fun k => (nb ps (k + 1)).any fun x => decide (x = us.getD k 0))))), .sh (.d (nI m)), .sh (.d (P))]) (by
    generalize nT us = X at *
    simp [(goF_at itU ar13.symm)]) ?_
  have hev : eviZ Γ20 G (.r2 (.cst (.int 1)) (.var 8)) [.sh (.scr ns), .ow (.d (tw nn)), .ow (.dk D), .sh (.d (nT T)), .ow (.d (.list (T.map nI))), x5, (.sh (.d (nT us))), (.sh (.d (.bool (isT us && (List.range 0).all fun k => (nb ps (k + 1)).any fun x => decide (x = us.getD k 0))))), .sh (.d (nI m)), .sh (.d (P))] = .ok (rgL 1 (m - 1)) [.sh (.scr ns), .ow (.d (tw nn)), .ow (.dk D), .sh (.d (nT T)), .ow (.d (.list (T.map nI))), x5, (.sh (.d (nT us))), (.sh (.d (.bool (isT us && (List.range 0).all fun k => (nb ps (k + 1)).any fun x => decide (x = us.getD k 0))))), .sh (.d (nI m)), .sh (.d (P))] :=
    evi_rg2 (m := (m : Int)) (v := .val (.d (.int 1))) (u := .val (.d (.int (m : Int)))) (ρ1 := [.sh (.scr ns), .ow (.d (tw nn)), .ow (.dk D), .sh (.d (nT T)), .ow (.d (.list (T.map nI))), x5, (.sh (.d (nT us))), (.sh (.d (.bool (isT us && (List.range 0).all fun k => (nb ps (k + 1)).any fun x => decide (x = us.getD k 0))))), .sh (.d (nI m)), .sh (.d (P))]) (by simp) (by simp) (by simp) (by simp) (by omega) (by omega) (by omega)
  refine st_for hev (fun i ρ => ∃ x5, Fre x5 ∧ ρ = [.sh (.scr ns), .ow (.d (tw nn)), .ow (.dk D), .sh (.d (nT T)), .ow (.d (.list (T.map nI))), x5, (.sh (.d (nT us))), (.sh (.d (.bool (isT us && (List.range i).all fun k => (nb ps (k + 1)).any fun x => decide (x = us.getD k 0))))), .sh (.d (nI m)), .sh (.d (P))]) ⟨x5, h5, rfl⟩ ?_ ?_
  · rintro i im ρ him ⟨x5, h5, rfl⟩
    obtain ⟨hi, rfl⟩ := rgL_get him
    rw [Nat.add_comm 1 i]
    have nfi := nf (i + 1) (by omega)
    have eg : (isT us && (List.range (i + 1)).all fun k => (nb ps (k + 1)).any fun x => decide (x = us.getD k 0)) = ((isT us && (List.range i).all fun k => (nb ps (k + 1)).any fun x => decide (x = us.getD k 0)) && (nb ps (i + 1)).any fun x => decide (x = us.getD i 0)) := by
      rw [List.range_succ, List.all_append, ← Bool.and_assoc]
      simp
    have au := atI_nI us i (by omega)
    rw [eg]
    generalize (isT us && (List.range i).all fun k => (nb ps (k + 1)).any fun x => decide (x = us.getD k 0)) = g at *
    refine ⟨[.sh (.scr ns), .ow (.d (tw nn)), .ow (.dk D), .sh (.d (nT T)), .ow (.d (.list (T.map nI))), (.sh (.d (nI (i + 1)))), (.sh (.d (nT us))), (.sh (.d (.bool g))), .sh (.d (nI m)), .sh (.d (P))], [.sh (.scr ns), .ow (.d (tw nn)), .ow (.dk D), .sh (.d (nT T)), .ow (.d (.list (T.map nI))), (.sh (.d (nI (i + 1)))), (.sh (.d (nT us))), (.sh (.d (.bool (g && (nb ps (i + 1)).any fun x => decide (x = us.getD i 0))))), .sh (.d (nI m)), .sh (.d (P))], h5.asg rfl, ?_, _, .sh, rfl⟩
    unfold b20l0
    have E : evZ Γ20 G (.bop true (.cons (.var 7) (.cons (.o2 .inn (.o2 .ix (.var 6) (.o2 .sub (.var 5) (.cst (.int 1)))) (.call 4 (.cons (.var 9) (.cons (.var 5) .nil)))) .nil))) [.sh (.scr ns), .ow (.d (tw nn)), .ow (.dk D), .sh (.d (nT T)), .ow (.d (.list (T.map nI))), (.sh (.d (nI (i + 1)))), (.sh (.d (nT us))), (.sh (.d (.bool g))), .sh (.d (nI m)), .sh (.d (P))] = .ok (.val (.d (.bool (g && (nb ps (i + 1)).any fun x => decide (x = us.getD i 0))))) [.sh (.scr ns), .ow (.d (tw nn)), .ow (.dk D), .sh (.d (nT T)), .ow (.d (.list (T.map nI))), (.sh (.d (nI (i + 1)))), (.sh (.d (nT us))), (.sh (.d (.bool g))), .sh (.d (nI m)), .sh (.d (P))] := by
      refine ev_and2 (by simp) fun _ => ?_
      refine ev_innN (v := .val (.d (nI (us.getD i 0)))) (u := .fre (.d (nL (nb ps (i + 1))))) ?_ ?_ rfl rfl
      · have e1 : ((i + 1 : Nat) : Int) - 1 = (i : Int) := by omega
        have e8 : nI (i + 1) = .int ((i + 1 : Nat) : Int) := rfl
        rw [hTU, e8]
        generalize us.map nI = Y at *
        generalize us.getD i 0 = o at *
        generalize i + 1 = h at *
        simp [e1, au]
      · generalize nL (nb ps (i + 1)) = Y at *
        generalize nT us = X at *
        generalize i + 1 = h at *
        simp [(goF_at nfi ar4.symm)]
    generalize (g && (nb ps (i + 1)).any fun x => decide (x = us.getD i 0)) = g2 at *
    generalize nT us = X at *
    generalize nI (i + 1) = h at *
    refine st_nx (P := fun o => o = .nx _) (run_asgV E rfl Fre.sh.nmu) ?_
    rw [runs_nil]
    rfl
  · rintro ρ ⟨x5, h5, rfl⟩
    rw [rgL_length]
    have hofU := hof us
    have eG : (isT us && (List.range (m - 1)).all fun k => (nb ps (k + 1)).any fun x => decide (x = us.getD k 0)) = (isT us && (decide (us.length = m - 1) && ofB ps us)) := by
      congr 1
      rw [decide_eq_true hu, Bool.true_and]
      unfold ofB
      rw [hu]
      have pw : ∀ k, k < m - 1 → ((nb ps (k + 1)).any fun x => decide (x = us.getD k 0)) = decide ((min (k + 1) (us.getD k 0), max (k + 1) (us.getD k 0)) ∈ ps) := fun k hk => by
        generalize us.getD k 0 = o
        by_cases q : (min (k + 1) o, max (k + 1) o) ∈ ps
        · have := hp _ q
          simp only at this
          rw [decide_eq_true q, any_in, nb_mem]
          unfold adjB
          rw [decide_eq_true q, Bool.true_and, decide_eq_true_eq]
          omega
        · rw [decide_eq_false q, ← Bool.not_eq_true, any_in, nb_mem]
          unfold adjB
          rw [decide_eq_false q]
          simp
      have : ∀ l : List Nat, (∀ k ∈ l, k < m - 1) → (l.all fun k => (nb ps (k + 1)).any fun x => decide (x = us.getD k 0)) = l.all fun k => decide ((min (k + 1) (us.getD k 0), max (k + 1) (us.getD k 0)) ∈ ps) := by
        intro l hl2
        induction l with
        | nil => rfl
        | cons a r ih =>
          rw [List.all_cons, List.all_cons, pw a (hl2 a List.mem_cons_self), ih fun k hk => hl2 k (List.mem_cons_of_mem _ hk)]
      exact this _ fun k hk => List.mem_range.mp hk
    rw [eG]
    generalize (isT us && (decide (us.length = m - 1) && ofB ps us)) = g at *
    have okl : okAll (.list (T.map nI)) = true := (okDep.nL T).1
    have nol := hno (.list (T.map nI)) okl rfl
    have hssT : isSs (T.map nI) = false := by
      cases T with
      | nil => rfl
      | cons a r => rfl
    have hzT : (T.map nI).length ≤ 1000 := by rw [List.length_map]; omega
    refine st_no (ρ1 := [.sh (.scr ns), .ow (.d (tw nn)), .ow (.dk D), .sh (.d (nT T)), .ow (.d (.list (T.map nI))), x5, (.sh (.d (nT us))), (.sh (.d (.bool g))), .sh (.d (nI m)), .sh (.d (P))]) ?_ ?_
    · refine ev_or (p := false) (q := false) ?_ ?_
      · generalize nT us = X at *
        generalize nT T = Y at *
        exact ev_neR (v := .val (.d (.bool g))) (u := .val (.d (.bool g))) (x := .bool g) (n := 0) (by simp [(goF_at hofU ar15.symm)]) (by simp) rfl rfl ⟨rfl, Nat.zero_le _⟩ (by decide)
      · rw [hTT]
        generalize nT us = X at *
        have hz9 : (T.map nI).length ≤ 1000000 := by omega
        generalize T.map nI = Y at *
        simp [hz9, (goF_at nol ar15.symm)]
    have a1 := hof (T ++ [0])
    have a2 := hof (T.drop 1)
    have l1 : decide ((T ++ [0]).length = m - 1) = false := decide_eq_false (by rw [List.length_append, tl]; simp)
    have l2 : decide ((T.drop 1).length = m - 1) = false := decide_eq_false (by rw [List.length_drop, tl]; omega)
    rw [l1, Bool.false_and, Bool.and_false] at a1
    rw [l2, Bool.false_and, Bool.and_false] at a2
    obtain ⟨x, hx, e1⟩ := pickN ns nn [.none, .int 5, .tuple [], nT (T ++ [0]), nT (T.drop 1), .str "0"] (by simp) n7
    have ax : f15.f [.d (nI m), .d P, .d x] = some (.ret (.d (.bool false)) false (.opq .non)) := by
      simp only [List.mem_cons, List.not_mem_nil, or_false] at hx
      rcases hx with rfl | rfl | rfl | rfl | rfl | rfl
      · exact hno _ rfl rfl
      · exact hno _ rfl rfl
      · exact hno _ rfl (by decide +kernel)
      · exact a1
      · exact a2
      · exact hno _ (by decide +kernel) rfl
    have t1 : nT (T ++ [0]) = .tuple (T.map nI ++ [.int 0]) := by unfold nT; simp
    have t2 : nT (T.drop 1) = .tuple ((T.map nI).drop 1) := by unfold nT; rw [List.map_drop]
    have hss2 : isSs ((T.map nI).drop 1) = false := by
      rw [← List.map_drop]
      cases T.drop 1 with
      | nil => rfl
      | cons a r => rfl
    have ct := cutD_tail (T.map nI)
    have z0 : isSs [PyData.int 0] = false := rfl
    have z1 : isSs ([] : List PyData) = false := rfl
    have z2 : isSs (T.map nI ++ [PyData.int 0]) = false := by
      cases T with
      | nil => rfl
      | cons a r => rfl
    rw [t1, t2] at e1
    have hz8 : (T.map nI).length + 1 ≤ 1000000 := by omega
    refine st_rt (v := .val (.d (.bool true))) (ρ1 := [.sh (.scr ns), .ow (.d (tw (nn + 1))), .ow (.dk D), .sh (.d (nT T)), .ow (.d (.list (T.map nI))), x5, (.sh (.d (nT us))), (.sh (.d (.bool g))), .sh (.d (nI m)), .sh (.d (P))]) ?_ rfl
    rw [hTT]
    generalize nT us = X at *
    generalize T.map nI = Y at *
    generalize Y.drop 1 = Y1 at *
    simp [z0, z1, z2, hssT, hss2, ct, hz8, (goM_o1 e1 fit16), (goF_at ax ar15.symm)]
end
theorem law_ret (ns : List Int) : RetR none (.ret (.d (.bool true)) false (.opq .non)) (runsZ Γ20 G fu b20 [.sh (.scr ns), .un, .un, .un, .un, .un, .un, .un, .un, .un]) := by
  unfold b20
  refine st_nx (ρ1 := [.sh (.scr ns), .ow (.d (tw 0)), .un, .un, .un, .un, .un, .un, .un, .un]) (by simp [tw]) ?_
  obtain ⟨m, n, ps, hm, hn, hr, hp, hl, e1⟩ := gsights_f ns 0 (by omega)
  have hr : ps.Pairwise risP := hr
  have S : Sights ps := ⟨fun p h => by have := hp p h; omega, ris_nodup hr, hl⟩
  have un := unreached_f hm hr hp hl
  have ne := nearest_f hm hr hp hl
  obtain ⟨F, hF, e2⟩ := away_f S []
  have fa := fun o => dkF_any F o
  simp only [found_any hF] at fa
  have fl := dkF_length F
  rw [found_len hF] at fl
  have ff := fun o (h : Led ps [] o) => dkF_find hF.nod (found_at hF h)
  have hof := fun us => isof_f hm hr hp hl us
  have hit := istree_nT (nearT ps (m - 1))
  have q0 : nL [] = .list [] := rfl
  rw [q0] at e2
  generalize dkF F = D at *
  have hPe : sightP ps = .tuple (ps.map fun p => PyData.tuple [nI p.1, nI p.2]) := rfl
  rw [← hPe] at e1
  have rest := fun hN P hP x5 h5 T hT => law_rest ns hm hr hp hl hN fl ff n (by omega) P hP x5 h5 T hT
  have c2' := fun hN i P hP T Z hi => law_c2 ns hm hr hp hl hN fl ff n i P hP T Z hi
  generalize hP : sightP ps = P at *
  refine st_nx (ρ1 := [.sh (.scr ns), .ow (.d (tw n)), .un, .un, .un, .un, .un, .un, .sh (.d (nI m)), .sh (.d (P))]) (by
    have e0 : evZ Γ20 G (.call 3 (.cons (.var 0) (.cons (.var 1) .nil))) [.sh (.scr ns), .ow (.d (tw 0)), .un, .un, .un, .un, .un, .un, .un, .un] = .ok (.val (.d (.tuple [nI m, P]))) [.sh (.scr ns), .ow (.d (tw n)), .un, .un, .un, .un, .un, .un, .un, .un] := by simp [(goM_o1 e1 fit3)]
    rw [run_asgT, e0, of_ok]
    rfl) ?_
  refine st_nx (ρ1 := [.sh (.scr ns), .ow (.d (tw n)), .ow (.dk D), .un, .un, .un, .un, .un, .sh (.d (nI m)), .sh (.d (P))]) (by simp [(goF_at e2 ar5.symm)]) ?_
  refine st_no (ρ1 := [.sh (.scr ns), .ow (.d (tw n)), .ow (.dk D), .un, .un, .un, .un, .un, .sh (.d (nI m)), .sh (.d (P))]) ?_ ?_
  · refine ev_neR (v := .fre (.d (nL ((List.range m).filter fun h => !ledB ps [] h)))) (u := .fre (.d (nL ((List.range m).filter fun h => !ledB ps [] h)))) ?_ ?_ rfl rfl (okDep.nL _) (by decide)
    · generalize nL ((List.range m).filter fun h => !ledB ps [] h) = X at *
      simp [(goF_at un ar14.symm)]
    · unfold b20c3
      rw [ev_lcR (lo := 0) (n := m) (s0 := .un) (ρ1 := [.sh (.scr ns), .ow (.d (tw n)), .ow (.dk D), .un, .un, .un, .un, .un, .sh (.d (nI m)), .sh (.d (P))]) (evi_rg (v := .val (.d (.int (m : Int)))) (by simp) rfl (by omega)) rfl .un (by omega) (fun h => !ledB ps [] h) (fun h => nI h) fun o ho => ?_]
      · rfl
      · rw [Nat.zero_add]
        refine ⟨?_, fun _ => ⟨.val (.d (nI o)), by simp, rfl⟩⟩
        have op : op2 .nin (.d (nI o)) (.dk D) = some (.d (.bool (!ledB ps [] o)), false) := by
          have e : nI o = .int (o : Int) := rfl
          rw [← fa o, e]
          rfl
        exact ev_o2R (v := .val (.d (nI o))) (u := .loc 2) (by simp) (by simp) rfl rfl op
  by_cases hN : ledN ps [] < m
  · rw [if_pos hN] at ne
    refine st_nx (ρ1 := [.sh (.scr ns), .ow (.d (tw n)), .ow (.dk D), (.sh (.d (.none))), .un, .un, .un, .un, .sh (.d (nI m)), .sh (.d (P))]) (by simp [(goF_at ne ar11.symm)]) ?_
    exact st_yes (v := .val (.d (.bool true))) (ρ1 := [.sh (.scr ns), .ow (.d (tw n)), .ow (.dk D), (.sh (.d (.none))), .un, .un, .un, .un, .sh (.d (nI m)), .sh (.d (P))]) (ρ2 := [.sh (.scr ns), .ow (.d (tw n)), .ow (.dk D), (.sh (.d (.none))), .un, .un, .un, .un, .sh (.d (nI m)), .sh (.d (P))]) (by simp [fl, hN]) (by simp) rfl
  · rw [if_neg hN] at ne
    refine st_nx (ρ1 := [.sh (.scr ns), .ow (.d (tw n)), .ow (.dk D), (.sh (.d (nT (nearT ps (m - 1))))), .un, .un, .un, .un, .sh (.d (nI m)), .sh (.d (P))]) (by
      generalize nT (nearT ps (m - 1)) = X at *
      simp [(goF_at ne ar11.symm)]) ?_
    refine st_no (ρ1 := [.sh (.scr ns), .ow (.d (tw n)), .ow (.dk D), (.sh (.d (nT (nearT ps (m - 1))))), .un, .un, .un, .un, .sh (.d (nI m)), .sh (.d (P))]) (by simp [fl]; omega) ?_
    refine st_nx (ρ1 := [.sh (.scr ns), .ow (.d (tw n)), .ow (.dk D), (.sh (.d (nT (nearT ps (m - 1))))), (.ow (.d (.list ((nearT ps 0).map nI)))), .un, .un, .un, .sh (.d (nI m)), .sh (.d (P))]) (by simp [nearT]) ?_
    have la := led_all (ps := ps) (m := m) (by omega) hp hN
    have hev : eviZ Γ20 G (.r2 (.cst (.int 1)) (.var 8)) [.sh (.scr ns), .ow (.d (tw n)), .ow (.dk D), (.sh (.d (nT (nearT ps (m - 1))))), (.ow (.d (.list ((nearT ps 0).map nI)))), .un, .un, .un, .sh (.d (nI m)), .sh (.d (P))] = .ok (rgL 1 (m - 1)) [.sh (.scr ns), .ow (.d (tw n)), .ow (.dk D), (.sh (.d (nT (nearT ps (m - 1))))), (.ow (.d (.list ((nearT ps 0).map nI)))), .un, .un, .un, .sh (.d (nI m)), .sh (.d (P))] :=
      evi_rg2 (m := (m : Int)) (v := .val (.d (.int 1))) (u := .val (.d (.int (m : Int)))) (ρ1 := [.sh (.scr ns), .ow (.d (tw n)), .ow (.dk D), (.sh (.d (nT (nearT ps (m - 1))))), (.ow (.d (.list ((nearT ps 0).map nI)))), .un, .un, .un, .sh (.d (nI m)), .sh (.d (P))]) (by simp) (by simp) (by simp) (by simp) (by omega) (by omega) (by omega)
    refine st_for hev (fun i ρ => ∃ x5, Fre x5 ∧ ρ = [.sh (.scr ns), .ow (.d (tw n)), .ow (.dk D), (.sh (.d (nT (nearT ps (m - 1))))), (.ow (.d (.list ((nearT ps i).map nI)))), x5, .un, .un, .sh (.d (nI m)), .sh (.d (P))]) ⟨.un, Fre.un, rfl⟩ ?_ ?_
    · rintro i im ρ him ⟨x5, h5, rfl⟩
      obtain ⟨hi, rfl⟩ := rgL_get him
      rw [Nat.add_comm 1 i]
      have cc := c2' hN i P rfl (nT (nearT ps (m - 1))) (.list ((nearT ps i).map nI)) (by omega)
      obtain ⟨o, r, eo⟩ := nearer_some (ps := ps) (h := i + 1) (by omega) (la (i + 1) (by omega))
      have mr := min_rise (l := nearer ps (i + 1)) ((List.pairwise_lt_range.filter _).filter _) eo
      have ts := nearT_succ ps i
      rw [eo, List.headD_cons] at ts
      have tl := nearT_length ps i
      refine ⟨[.sh (.scr ns), .ow (.d (tw n)), .ow (.dk D), (.sh (.d (nT (nearT ps (m - 1))))), (.ow (.d (.list ((nearT ps i).map nI)))), (.sh (.d (nI (i + 1)))), .un, .un, .sh (.d (nI m)), .sh (.d (P))], [.sh (.scr ns), .ow (.d (tw n)), .ow (.dk D), (.sh (.d (nT (nearT ps (m - 1))))), (.ow (.d (.list ((nearT ps (i + 1)).map nI)))), (.sh (.d (nI (i + 1)))), .un, .un, .sh (.d (nI m)), .sh (.d (P))], h5.asg rfl, ?_, _, .sh, rfl⟩
      unfold b20l1
      have E1 : evZ Γ20 G (.o1 .min b20c2) [.sh (.scr ns), .ow (.d (tw n)), .ow (.dk D), (.sh (.d (nT (nearT ps (m - 1))))), (.ow (.d (.list ((nearT ps i).map nI)))), (.sh (.d (nI (i + 1)))), .un, .un, .sh (.d (nI m)), .sh (.d (P))] = .ok (.val (.d (nI o))) [.sh (.scr ns), .ow (.d (tw n)), .ow (.dk D), (.sh (.d (nT (nearT ps (m - 1))))), (.ow (.d (.list ((nearT ps i).map nI)))), (.sh (.d (nI (i + 1)))), .un, .un, .sh (.d (nI m)), .sh (.d (P))] := by
        rw [ev_o1, cc, bind_ok]
        show (match op1 .min (.d (.list ((nearer ps (i + 1)).map nI))) with | some r => _ | none => _) = _
        rw [mr]
        rfl
      rw [ts, List.map_append]
      have hz : ((nearT ps i).map nI).length < 1000000 := by rw [List.length_map]; omega
      generalize (nearT ps i).map nI = Z at *
      generalize nT (nearT ps (m - 1)) = X at *
      simp [E1, hz]
    · rintro ρ ⟨x5, h5, rfl⟩
      rw [rgL_length]
      have isT := near_isT hm hp hN
      have ok : okDep 1 (nT (nearT ps (m - 1))) := okDep.nT _
      have hof := hof (nearT ps (m - 1))
      have hofB : ofB ps (nearT ps (m - 1)) = true := by
        unfold ofB
        rw [List.all_eq_true]
        intro k hk
        have hk := List.mem_range.mp hk
        rw [nearT_length] at hk
        obtain ⟨u1, -⟩ := near_up hm hp hN (h := k + 1) (by omega) (by omega)
        have ha := ((nb_mem ps).mp u1).2
        unfold adjB at ha
        rw [Bool.and_eq_true] at ha
        exact ha.1
      rw [isT_iff.mpr isT, nearT_length, hofB, decide_eq_true rfl] at hof
      rw [isT_iff.mpr isT] at hit
      have rest := rest hN P rfl x5 h5 (nearT ps (m - 1)) rfl
      have hss : isSs ((nearT ps (m - 1)).map nI) = false := by
        cases nearT ps (m - 1) with
        | nil => rfl
        | cons a r => rfl
      have hz : ((nearT ps (m - 1)).map nI).length ≤ 1000000 := by rw [List.length_map, nearT_length]; omega
      have hTT : nT (nearT ps (m - 1)) = .tuple ((nearT ps (m - 1)).map nI) := rfl
      refine st_no (ρ1 := [.sh (.scr ns), .ow (.d (tw n)), .ow (.dk D), (.sh (.d (nT (nearT ps (m - 1))))), (.ow (.d (.list ((nearT ps (m - 1)).map nI)))), x5, .un, .un, .sh (.d (nI m)), .sh (.d (P))]) ?_ rest
      rw [hTT] at ok hit hof ⊢
      generalize (nearT ps (m - 1)).map nI = X at *
      refine (ev_or3 (p := false) (q := false) (r := false) ?_ (fun _ => ?_) fun _ _ => ?_)
      · exact ev_neR (v := .val (.d (.tuple X))) (u := .val (.d (.tuple X))) (by simp) (by simp [hss, hz]) rfl rfl ok (by decide)
      · simp [(goF_at hit ar13.symm)]
      · simp [(goF_at hof ar15.symm)]
theorem law_true (ns : List Int) (h : ns.length ≤ 63) : ∃ out, fnRun Γ20 G fu 10 none b20 [.scr ns] = some (.ret (.d (.bool true)) false out) := ⟨_, by
  apply fnR0
  exact law_ret ns⟩
end HL

open PySem PySem.W PySem.Calls PyProof.Rows in
theorem PySem.Challenge.cw_hillarms_k21_whole_nearest_tree_holds : PySem.Challenge.rw_hillarms_k21_whole_nearest_tree.Holds := by
  w_on; o_law
  refine HandSHeadRun.head_any (r := OpenLaw.row PySem.Challenge.rw_hillarms_k21_whole_nearest_tree) (q := view (OpenLaw.row PySem.Challenge.rw_hillarms_k21_whole_nearest_tree).prog [30]) (H := HL.hk) (ob := HL.ob) (M := 20000) (loose := HL.loose) (d := HandSHeadRun.topDef (OpenLaw.row PySem.Challenge.rw_hillarms_k21_whole_nearest_tree).prog 30) (kwd := []) HL.ob_eq
    (by kernel_rfl) (fun s => by kernel_rfl) HL.run (by kernel_rfl) (by kernel_rfl) (by kernel_rfl) (by rfl) (by first | assumption | decide +kernel) (by decide +kernel) ⟨rfl, rfl, rfl, rfl, rfl, by decide +kernel⟩ ?hw ?hc
  case hw => w_witness2
  case hc =>
    refine L2.walk_ofE (l := PySem.Challenge.rw_hillarms_k21_whole_nearest_tree) (n := 63) (k := 42) (x := "_law_script") (CX := L2.CX0) rfl (by decide) (by kernel_rfl) ⟨rfl, by decide, by decide⟩ ?F (fun _ _ _ _ z => z)
    intro w mg fa h Y G hmg0
    obtain ⟨K, KX, cx, c⟩ := Y
    have hmg : mg ("law" : PySem.Str) = some (.ref fa) := by
      have e : (HandSHeadRun.topDef (OpenLaw.row PySem.Challenge.rw_hillarms_k21_whole_nearest_tree).prog 30).name = ("law" : PySem.Str) := by kernel_rfl
      rw [← e]
      exact hmg0
    obtain ⟨fd, hb, hF⟩ := HL.facts (P := (PySem.Challenge.rw_hillarms_k21_whole_nearest_tree).prog) (w := w) KX G hmg c cx
    exact ⟨K, fd, fun vs H Q _ => Hil.SpT K (Hil.xcOf K HL.xcs) none 1 (Hil.fnRun HL.Γ20 HL.G HL.fu 10 none HL.b20) vs H Q fun _ _ _ => False, KX, hb, fun H a ns hl hO hS => Hil.law_sp (n := 63) HL.law_true H a ns hl hO hS, fun base h1 h2 => Hil.noexc (hF base h1 h2)⟩
